import PyProof.Rows.All
import Wide.All
import OpenK.AllK
import Wide.FinOn
import PyProof.DictRoadsH
import Lean
import PySem.Challenge.RW_no0008_01
open PySem PySem.W PyProof.Rows PySem.Calls
set_option Elab.async false
set_option maxRecDepth 100000
set_option maxHeartbeats 8000000
set_option linter.all false
set_option compiler.extract_closed false
noncomputable section
namespace Mine
section
noncomputable abbrev PW : Program := PySem.Challenge.pw_no0008_01
noncomputable def bodyOf : Stmt → List Stmt
 | .FunctionDef _ _ b _ _ _ _ _ _ _ => b
 | .ClassDef _ _ _ b _ _ _ _ _ _ _ => b
 | _ => []
noncomputable def paramsOf : Stmt → Arguments
 | .FunctionDef _ a _ _ _ _ _ _ _ _ => a
 | _ => ⟨[], [], none, [], [], none, []⟩
noncomputable def scopeOf : Stmt → Scope
 | .FunctionDef _ _ _ _ _ _ s _ _ _ => s
 | _ => { kind := .function, names := [], isGenerator := false, isCoroutine := false }
noncomputable def dAt (i : Nat) : Stmt := PW.main.body.getD i (.Pass ⟨0, 0, 0, 0⟩)
noncomputable def mAt (i j : Nat) : Stmt := (bodyOf (dAt i)).getD j (.Pass ⟨0, 0, 0, 0⟩)
noncomputable abbrev sv (x : String) (t : Nat) : Value := .str (Str.ofString x) t
noncomputable abbrev kh (P : Params) (x : String) : Int := PyData.keyHash P (Str.ofString x)
noncomputable def o11 (P : Params) : Obj := { cls := .type "tuple", data := .seq #[] }
noncomputable def o12 (P : Params) : Obj := { cls := .none, data := .fields #[] }
noncomputable def o13 (P : Params) : Obj := { cls := .type "code", data := .fields #[sv "<module>" 182, sv "<module>" 183, sv "/claim/cut.py" 184, .int 1 0, .int 0 0, .int 0 0, .int 0 0, .int 0 0, .ref 11, .bool Bool.false, .int 181 0, .ref 12, .none, .none, .none, .none, .int 185 0, .int 1 0, sv "/claim/cut.py" 186] }
noncomputable def o14 (P : Params) : Obj := { cls := .type "frame", slots := #[some (.ref 13), some (.ref 3), some (.ref 3), none, some (sv "__main__" 164), none, some (.ref 0)] }
noncomputable def o84 (P : Params) : Obj := { cls := .none, data := .dict #[{ hash := kh P "type.__subclasses__.Exception.0", key := sv "type.__subclasses__.Exception.0" 323, val := .int 102 0 }, { hash := kh P "type.__subclasses__.Exception.n", key := sv "type.__subclasses__.Exception.n" 324, val := .int 1 0 }] 2 }
noncomputable def o140 (P : Params) : Obj := { cls := .type "dict", data := .dict #[{ hash := kh P "__name__", key := sv "__name__" 165, val := sv "minismt.terms" 350 }, { hash := kh P "__doc__", key := sv "__doc__" 166, val := .none }, { hash := kh P "__package__", key := sv "__package__" 167, val := .none }, { hash := kh P "__loader__", key := sv "__loader__" 168, val := .builtin "__main__.__loader__#opaque" }, { hash := kh P "__spec__", key := sv "__spec__" 169, val := .none }, { hash := kh P "__annotations__", key := sv "__annotations__" 170, val := .ref 6 }, { hash := kh P "__builtins__", key := sv "__builtins__" 171, val := .ref 4 }, { hash := kh P "__file__", key := sv "__file__" 173, val := sv "/claim/cut.py" 172 }, { hash := kh P "__cached__", key := sv "__cached__" 174, val := .none }, { hash := kh P "_wall", key := sv "_wall" 193, val := .ref 21 }, { hash := kh P "VALUES", key := sv "VALUES" 198, val := .ref 22 }, { hash := kh P "PlainClosing", key := sv "PlainClosing" 286, val := .ref 72 }, { hash := kh P "SmtError", key := sv "SmtError" 326, val := .ref 102 }, { hash := kh P "SortFault", key := sv "SortFault" 349, val := .ref 122 }, { hash := kh P "BOOL", key := sv "BOOL" 353, val := .int 0 352 }, { hash := kh P "INT", key := sv "INT" 355, val := .int 1 354 }] 16 }
noncomputable def o117 (P : Params) : Obj := { cls := .none, data := .fields #[.int 1 0, .int 0 0, .ref 20, .int 6 0, .int 0 0, .ref 28, .int 75 0, .int 0 0, .ref 83, .int 83 0, .int 0 0, .ref 111] }
noncomputable def o17 (P : Params) : Obj := { cls := .type "tuple", data := .seq #[] }
noncomputable def o18 (P : Params) : Obj := { cls := .none, data := .fields #[] }
noncomputable def o19 (P : Params) : Obj := { cls := .type "tuple", data := .seq #[sv "k" 190] }
noncomputable def o20 (P : Params) : Obj := { cls := .type "tuple", data := .seq #[] }
noncomputable def o21 (P : Params) : Obj := { cls := .none, data := .func { name := Str.ofString "_wall", qualname := Str.ofString "_wall", params := paramsOf (dAt 0), body := .stmts (bodyOf (dAt 0)), scope := scopeOf (dAt 0), globals := 0, closure := [], defaults := .none, kwdefaults := .none } }
noncomputable def o22 (P : Params) : Obj := { cls := .type "code", data := .fields #[sv "_wall" 187, sv "_wall" 188, sv "/claim/cut.py" 189, .int 1 0, .int 1 0, .int 0 0, .int 0 0, .int 3 0, .ref 15, .bool Bool.true, .int 181 0, .ref 16, .none, .ref 17, .ref 18, .ref 19, .int 191 0, .int 1 0, sv "/claim/cut.py" 192] }
noncomputable def o23 (P : Params) : Obj := { cls := .type "function", data := .func { name := Str.ofString "_wall", qualname := Str.ofString "_wall", params := paramsOf (dAt 0), body := .stmts (bodyOf (dAt 0)), scope := scopeOf (dAt 0), globals := 3, closure := [], defaults := .none, kwdefaults := .none, pyModule := sv "__main__" 164, code := .ref 20 } }
noncomputable def o26 (P : Params) : Obj := { cls := .type "tuple", data := .seq #[sv "num" 196, sv "bvnum" 197] }
noncomputable def o29 (P : Params) : Obj := { cls := .type "tuple", data := .seq #[] }
noncomputable def o30 (P : Params) : Obj := { cls := .type "builtin_function_or_method", data := .fields #[.builtin "type.__prepare__", .type "type"] }
noncomputable def o31 (P : Params) : Obj := { cls := .type "dict", data := .dict #[{ hash := kh P "__module__", key := sv "__module__" 206, val := sv "minismt.judges" 194 }, { hash := kh P "__qualname__", key := sv "__qualname__" 208, val := sv "PlainClosing" 207 }, { hash := kh P "__firstlineno__", key := sv "__firstlineno__" 210, val := .int 6 209 }, { hash := kh P "__init__", key := sv "__init__" 220, val := .ref 36 }, { hash := kh P "join", key := sv "join" 234, val := .ref 43 }, { hash := kh P "are_one", key := sv "are_one" 243, val := .ref 50 }, { hash := kh P "close", key := sv "close" 249, val := .ref 55 }, { hash := kh P "join_truth", key := sv "join_truth" 263, val := .ref 62 }, { hash := kh P "has_clash", key := sv "has_clash" 275, val := .ref 69 }, { hash := kh P "__static_attributes__", key := sv "__static_attributes__" 279, val := .ref 70 }] 10 }
noncomputable def o32 (P : Params) : Obj := { cls := .type "tuple", data := .seq #[] }
noncomputable def o33 (P : Params) : Obj := { cls := .none, data := .fields #[.int 8 0, .int 4 0, .ref 35, .int 15 0, .int 4 0, .ref 42, .int 25 0, .int 4 0, .ref 49, .int 28 0, .int 4 0, .ref 54, .int 48 0, .int 4 0, .ref 61, .int 61 0, .int 4 0, .ref 68] }
noncomputable def o34 (P : Params) : Obj := { cls := .type "code", data := .fields #[sv "PlainClosing" 201, sv "PlainClosing" 202, sv "/claim/cut.py" 203, .int 6 0, .int 0 0, .int 0 0, .int 0 0, .int 0 0, .ref 26, .bool Bool.false, .int 181 0, .ref 27, .none, .none, .none, .none, .int 204 0, .int 6 0, sv "/claim/cut.py" 205] }
noncomputable def o35 (P : Params) : Obj := { cls := .type "frame", slots := #[some (.ref 28), some (.ref 3), some (.ref 25), none, some (sv "minismt.judges" 194), none, some (.ref 0)] }
noncomputable def o36 (P : Params) : Obj := { cls := .type "tuple", data := .seq #[] }
noncomputable def o37 (P : Params) : Obj := { cls := .none, data := .fields #[] }
noncomputable def o38 (P : Params) : Obj := { cls := .type "tuple", data := .seq #[sv "self" 214, sv "bank" 215, sv "terms" 216, sv "t" 217] }
noncomputable def o39 (P : Params) : Obj := { cls := .type "tuple", data := .seq #[] }
noncomputable def o40 (P : Params) : Obj := { cls := .none, data := .func { name := Str.ofString "__init__", qualname := Str.ofString "PlainClosing.__init__", params := paramsOf (mAt 3 0), body := .stmts (bodyOf (mAt 3 0)), scope := scopeOf (mAt 3 0), globals := 0, closure := [], defaults := .none, kwdefaults := .none } }
noncomputable def o41 (P : Params) : Obj := { cls := .type "code", data := .fields #[sv "__init__" 211, sv "PlainClosing.__init__" 212, sv "/claim/cut.py" 213, .int 8 0, .int 3 0, .int 0 0, .int 0 0, .int 3 0, .ref 30, .bool Bool.true, .int 181 0, .ref 31, .none, .ref 32, .ref 33, .ref 34, .int 218 0, .int 8 0, sv "/claim/cut.py" 219] }
noncomputable def o42 (P : Params) : Obj := { cls := .type "function", data := .func { name := Str.ofString "__init__", qualname := Str.ofString "PlainClosing.__init__", params := paramsOf (mAt 3 0), body := .stmts (bodyOf (mAt 3 0)), scope := scopeOf (mAt 3 0), globals := 3, closure := [], defaults := .none, kwdefaults := .none, pyModule := sv "minismt.judges" 194, code := .ref 35 } }
noncomputable def o43 (P : Params) : Obj := { cls := .type "tuple", data := .seq #[] }
noncomputable def o44 (P : Params) : Obj := { cls := .none, data := .fields #[] }
noncomputable def o45 (P : Params) : Obj := { cls := .type "tuple", data := .seq #[sv "self" 224, sv "a" 225, sv "b" 226, sv "one" 227, sv "other" 228, sv "low" 229, sv "high" 230, sv "t" 231] }
noncomputable def o46 (P : Params) : Obj := { cls := .type "tuple", data := .seq #[] }
noncomputable def o47 (P : Params) : Obj := { cls := .none, data := .func { name := Str.ofString "join", qualname := Str.ofString "PlainClosing.join", params := paramsOf (mAt 3 1), body := .stmts (bodyOf (mAt 3 1)), scope := scopeOf (mAt 3 1), globals := 0, closure := [], defaults := .none, kwdefaults := .none } }
noncomputable def o48 (P : Params) : Obj := { cls := .type "code", data := .fields #[sv "join" 221, sv "PlainClosing.join" 222, sv "/claim/cut.py" 223, .int 15 0, .int 3 0, .int 0 0, .int 0 0, .int 3 0, .ref 37, .bool Bool.true, .int 181 0, .ref 38, .none, .ref 39, .ref 40, .ref 41, .int 232 0, .int 15 0, sv "/claim/cut.py" 233] }
noncomputable def o49 (P : Params) : Obj := { cls := .type "function", data := .func { name := Str.ofString "join", qualname := Str.ofString "PlainClosing.join", params := paramsOf (mAt 3 1), body := .stmts (bodyOf (mAt 3 1)), scope := scopeOf (mAt 3 1), globals := 3, closure := [], defaults := .none, kwdefaults := .none, pyModule := sv "minismt.judges" 194, code := .ref 42 } }
noncomputable def o50 (P : Params) : Obj := { cls := .type "tuple", data := .seq #[] }
noncomputable def o51 (P : Params) : Obj := { cls := .none, data := .fields #[] }
noncomputable def o52 (P : Params) : Obj := { cls := .type "tuple", data := .seq #[sv "self" 238, sv "a" 239, sv "b" 240] }
noncomputable def o53 (P : Params) : Obj := { cls := .type "tuple", data := .seq #[] }
noncomputable def o54 (P : Params) : Obj := { cls := .none, data := .func { name := Str.ofString "are_one", qualname := Str.ofString "PlainClosing.are_one", params := paramsOf (mAt 3 2), body := .stmts (bodyOf (mAt 3 2)), scope := scopeOf (mAt 3 2), globals := 0, closure := [], defaults := .none, kwdefaults := .none } }
noncomputable def o55 (P : Params) : Obj := { cls := .type "code", data := .fields #[sv "are_one" 235, sv "PlainClosing.are_one" 236, sv "/claim/cut.py" 237, .int 25 0, .int 3 0, .int 0 0, .int 0 0, .int 3 0, .ref 44, .bool Bool.true, .int 181 0, .ref 45, .none, .ref 46, .ref 47, .ref 48, .int 241 0, .int 25 0, sv "/claim/cut.py" 242] }
noncomputable def o56 (P : Params) : Obj := { cls := .type "function", data := .func { name := Str.ofString "are_one", qualname := Str.ofString "PlainClosing.are_one", params := paramsOf (mAt 3 2), body := .stmts (bodyOf (mAt 3 2)), scope := scopeOf (mAt 3 2), globals := 3, closure := [], defaults := .none, kwdefaults := .none, pyModule := sv "minismt.judges" 194, code := .ref 49 } }
noncomputable def o57 (P : Params) : Obj := { cls := .type "tuple", data := .seq #[] }
noncomputable def o58 (P : Params) : Obj := { cls := .none, data := .fields #[] }
noncomputable def o59 (P : Params) : Obj := { cls := .none, data := .func { name := Str.ofString "close", qualname := Str.ofString "PlainClosing.close", params := paramsOf (mAt 3 3), body := .stmts (bodyOf (mAt 3 3)), scope := scopeOf (mAt 3 3), globals := 0, closure := [], defaults := .none, kwdefaults := .none } }
noncomputable def o60 (P : Params) : Obj := { cls := .type "code", data := .fields #[sv "close" 244, sv "PlainClosing.close" 245, sv "/claim/cut.py" 246, .int 28 0, .int 1 0, .int 0 0, .int 0 0, .int 3 0, .ref 51, .bool Bool.true, .int 181 0, .ref 52, .none, .none, .none, .ref 53, .int 247 0, .int 28 0, sv "/claim/cut.py" 248] }
noncomputable def o61 (P : Params) : Obj := { cls := .type "function", data := .func { name := Str.ofString "close", qualname := Str.ofString "PlainClosing.close", params := paramsOf (mAt 3 3), body := .stmts (bodyOf (mAt 3 3)), scope := scopeOf (mAt 3 3), globals := 3, closure := [], defaults := .none, kwdefaults := .none, pyModule := sv "minismt.judges" 194, code := .ref 54 } }
noncomputable def o62 (P : Params) : Obj := { cls := .type "tuple", data := .seq #[] }
noncomputable def o63 (P : Params) : Obj := { cls := .none, data := .fields #[] }
noncomputable def o64 (P : Params) : Obj := { cls := .type "tuple", data := .seq #[sv "self" 253, sv "t" 254, sv "ends" 255, sv "yes" 256, sv "no" 257, sv "part" 258, sv "one" 259, sv "other" 260] }
noncomputable def o65 (P : Params) : Obj := { cls := .type "tuple", data := .seq #[] }
noncomputable def o66 (P : Params) : Obj := { cls := .none, data := .func { name := Str.ofString "join_truth", qualname := Str.ofString "PlainClosing.join_truth", params := paramsOf (mAt 3 4), body := .stmts (bodyOf (mAt 3 4)), scope := scopeOf (mAt 3 4), globals := 0, closure := [], defaults := .none, kwdefaults := .none } }
noncomputable def o67 (P : Params) : Obj := { cls := .type "code", data := .fields #[sv "join_truth" 250, sv "PlainClosing.join_truth" 251, sv "/claim/cut.py" 252, .int 48 0, .int 3 0, .int 0 0, .int 0 0, .int 3 0, .ref 56, .bool Bool.true, .int 181 0, .ref 57, .none, .ref 58, .ref 59, .ref 60, .int 261 0, .int 48 0, sv "/claim/cut.py" 262] }
noncomputable def o68 (P : Params) : Obj := { cls := .type "function", data := .func { name := Str.ofString "join_truth", qualname := Str.ofString "PlainClosing.join_truth", params := paramsOf (mAt 3 4), body := .stmts (bodyOf (mAt 3 4)), scope := scopeOf (mAt 3 4), globals := 3, closure := [], defaults := .none, kwdefaults := .none, pyModule := sv "minismt.judges" 194, code := .ref 61 } }
noncomputable def o69 (P : Params) : Obj := { cls := .type "tuple", data := .seq #[] }
noncomputable def o70 (P : Params) : Obj := { cls := .none, data := .fields #[] }
noncomputable def o71 (P : Params) : Obj := { cls := .type "tuple", data := .seq #[sv "self" 267, sv "apart" 268, sv "a" 269, sv "b" 270, sv "value_of" 271, sv "t" 272] }
noncomputable def o72 (P : Params) : Obj := { cls := .type "tuple", data := .seq #[] }
noncomputable def o73 (P : Params) : Obj := { cls := .none, data := .func { name := Str.ofString "has_clash", qualname := Str.ofString "PlainClosing.has_clash", params := paramsOf (mAt 3 5), body := .stmts (bodyOf (mAt 3 5)), scope := scopeOf (mAt 3 5), globals := 0, closure := [], defaults := .none, kwdefaults := .none } }
noncomputable def o74 (P : Params) : Obj := { cls := .type "code", data := .fields #[sv "has_clash" 264, sv "PlainClosing.has_clash" 265, sv "/claim/cut.py" 266, .int 61 0, .int 2 0, .int 0 0, .int 0 0, .int 3 0, .ref 63, .bool Bool.true, .int 181 0, .ref 64, .none, .ref 65, .ref 66, .ref 67, .int 273 0, .int 61 0, sv "/claim/cut.py" 274] }
noncomputable def o75 (P : Params) : Obj := { cls := .type "function", data := .func { name := Str.ofString "has_clash", qualname := Str.ofString "PlainClosing.has_clash", params := paramsOf (mAt 3 5), body := .stmts (bodyOf (mAt 3 5)), scope := scopeOf (mAt 3 5), globals := 3, closure := [], defaults := .none, kwdefaults := .none, pyModule := sv "minismt.judges" 194, code := .ref 68 } }
noncomputable def o76 (P : Params) : Obj := { cls := .type "tuple", data := .seq #[sv "bank" 276, sv "least" 277, sv "terms" 278] }
noncomputable def o77 (P : Params) : Obj := { cls := .type "dict", data := .dict #[{ hash := kh P "__module__", key := sv "__module__" 206, val := sv "minismt.judges" 194 }, { hash := kh P "__firstlineno__", key := sv "__firstlineno__" 210, val := .int 6 209 }, { hash := kh P "__init__", key := sv "__init__" 220, val := .ref 36 }, { hash := kh P "join", key := sv "join" 234, val := .ref 43 }, { hash := kh P "are_one", key := sv "are_one" 243, val := .ref 50 }, { hash := kh P "close", key := sv "close" 249, val := .ref 55 }, { hash := kh P "join_truth", key := sv "join_truth" 263, val := .ref 62 }, { hash := kh P "has_clash", key := sv "has_clash" 275, val := .ref 69 }, { hash := kh P "__static_attributes__", key := sv "__static_attributes__" 279, val := .ref 70 }, { hash := kh P "__dict__", key := sv "__dict__" 281, val := .ref 73 }, { hash := kh P "__weakref__", key := sv "__weakref__" 283, val := .ref 74 }, { hash := kh P "__doc__", key := sv "__doc__" 284, val := .none }] 4 }
noncomputable def o78 (P : Params) : Obj := { cls := .type "type", data := .cls { name := Str.ofString "PlainClosing", bases := [.type "object"], mro := [.ref 72, .type "object"], ns := 71, qualname := Str.ofString "PlainClosing" }, slots := #[none, none, some (sv "PlainClosing" 199), some (sv "PlainClosing" 207), some (.builtin "object.__new__"), some (.bool Bool.true)] }
noncomputable def o79 (P : Params) : Obj := { cls := .type "getset_descriptor", data := .fields #[sv "__dict__" 280, .ref 72, .builtin "function.__dict__", .builtin "function.__dict__#set"] }
noncomputable def o80 (P : Params) : Obj := { cls := .type "getset_descriptor", data := .fields #[sv "__weakref__" 282, .ref 72, .builtin "ExceptionGroup.__weakref__", .none] }
noncomputable def o81 (P : Params) : Obj := { cls := .type "super", data := .fields #[.ref 72, .ref 72, .ref 72] }
noncomputable def o82 (P : Params) : Obj := { cls := .type "builtin_function_or_method", data := .fields #[.builtin "object.__init_subclass__", .ref 72] }
noncomputable def o87 (P : Params) : Obj := { cls := .type "tuple", data := .seq #[.type "Exception"] }
noncomputable def o88 (P : Params) : Obj := { cls := .type "builtin_function_or_method", data := .fields #[.builtin "type.__prepare__", .type "type"] }
noncomputable def o89 (P : Params) : Obj := { cls := .type "dict", data := .dict #[{ hash := kh P "__module__", key := sv "__module__" 296, val := sv "minismt.errors" 287 }, { hash := kh P "__qualname__", key := sv "__qualname__" 298, val := sv "SmtError" 297 }, { hash := kh P "__firstlineno__", key := sv "__firstlineno__" 300, val := .int 75 299 }, { hash := kh P "__init__", key := sv "__init__" 309, val := .ref 92 }, { hash := kh P "told", key := sv "told" 316, val := .ref 99 }, { hash := kh P "__static_attributes__", key := sv "__static_attributes__" 318, val := .ref 100 }, { hash := kh P "__classcell__", key := sv "__classcell__" 319, val := .ref 80 }] 7 }
noncomputable def o90 (P : Params) : Obj := { cls := .type "cell", data := .cell (some (.ref 102)) }
noncomputable def o91 (P : Params) : Obj := { cls := .type "tuple", data := .seq #[] }
noncomputable def o92 (P : Params) : Obj := { cls := .none, data := .fields #[.int 77 0, .int 4 0, .ref 91, .int 81 0, .int 4 0, .ref 98] }
noncomputable def o93 (P : Params) : Obj := { cls := .type "code", data := .fields #[sv "SmtError" 291, sv "SmtError" 292, sv "/claim/cut.py" 293, .int 75 0, .int 0 0, .int 0 0, .int 0 0, .int 0 0, .ref 81, .bool Bool.false, .int 181 0, .ref 82, .none, .none, .none, .none, .int 294 0, .int 75 0, sv "/claim/cut.py" 295] }
noncomputable def o94 (P : Params) : Obj := { cls := .type "frame", slots := #[some (.ref 83), some (.ref 3), some (.ref 79), none, some (sv "minismt.errors" 287), none, some (.ref 0)] }
noncomputable def o95 (P : Params) : Obj := { cls := .type "tuple", data := .seq #[.ref 80] }
noncomputable def o96 (P : Params) : Obj := { cls := .type "tuple", data := .seq #[sv "__class__" 304] }
noncomputable def o97 (P : Params) : Obj := { cls := .none, data := .fields #[] }
noncomputable def o98 (P : Params) : Obj := { cls := .type "tuple", data := .seq #[sv "self" 305, sv "what" 306] }
noncomputable def o99 (P : Params) : Obj := { cls := .type "tuple", data := .seq #[] }
noncomputable def o100 (P : Params) : Obj := { cls := .none, data := .func { name := Str.ofString "__init__", qualname := Str.ofString "SmtError.__init__", params := paramsOf (mAt 5 0), body := .stmts (bodyOf (mAt 5 0)), scope := scopeOf (mAt 5 0), globals := 0, closure := [], defaults := .none, kwdefaults := .none } }
noncomputable def o101 (P : Params) : Obj := { cls := .type "code", data := .fields #[sv "__init__" 301, sv "SmtError.__init__" 302, sv "/claim/cut.py" 303, .int 77 0, .int 2 0, .int 0 0, .int 0 0, .int 3 0, .ref 86, .bool Bool.true, .int 181 0, .ref 87, .none, .ref 88, .ref 89, .ref 90, .int 307 0, .int 77 0, sv "/claim/cut.py" 308] }
noncomputable def o102 (P : Params) : Obj := { cls := .type "function", data := .func { name := Str.ofString "__init__", qualname := Str.ofString "SmtError.__init__", params := paramsOf (mAt 5 0), body := .stmts (bodyOf (mAt 5 0)), scope := scopeOf (mAt 5 0), globals := 3, closure := [(Str.ofString "__class__", 80)], defaults := .none, kwdefaults := .none, pyModule := sv "minismt.errors" 287, code := .ref 91, closureTuple := .ref 85 } }
noncomputable def o103 (P : Params) : Obj := { cls := .type "tuple", data := .seq #[] }
noncomputable def o104 (P : Params) : Obj := { cls := .none, data := .fields #[] }
noncomputable def o105 (P : Params) : Obj := { cls := .type "tuple", data := .seq #[sv "self" 313] }
noncomputable def o106 (P : Params) : Obj := { cls := .type "tuple", data := .seq #[] }
noncomputable def o107 (P : Params) : Obj := { cls := .none, data := .func { name := Str.ofString "told", qualname := Str.ofString "SmtError.told", params := paramsOf (mAt 5 1), body := .stmts (bodyOf (mAt 5 1)), scope := scopeOf (mAt 5 1), globals := 0, closure := [], defaults := .none, kwdefaults := .none } }
noncomputable def o108 (P : Params) : Obj := { cls := .type "code", data := .fields #[sv "told" 310, sv "SmtError.told" 311, sv "/claim/cut.py" 312, .int 81 0, .int 1 0, .int 0 0, .int 0 0, .int 3 0, .ref 93, .bool Bool.true, .int 181 0, .ref 94, .none, .ref 95, .ref 96, .ref 97, .int 314 0, .int 81 0, sv "/claim/cut.py" 315] }
noncomputable def o109 (P : Params) : Obj := { cls := .type "function", data := .func { name := Str.ofString "told", qualname := Str.ofString "SmtError.told", params := paramsOf (mAt 5 1), body := .stmts (bodyOf (mAt 5 1)), scope := scopeOf (mAt 5 1), globals := 3, closure := [], defaults := .none, kwdefaults := .none, pyModule := sv "minismt.errors" 287, code := .ref 98 } }
noncomputable def o110 (P : Params) : Obj := { cls := .type "tuple", data := .seq #[sv "what" 317] }
noncomputable def o111 (P : Params) : Obj := { cls := .type "dict", data := .dict #[{ hash := kh P "__module__", key := sv "__module__" 296, val := sv "minismt.errors" 287 }, { hash := kh P "__firstlineno__", key := sv "__firstlineno__" 300, val := .int 75 299 }, { hash := kh P "__init__", key := sv "__init__" 309, val := .ref 92 }, { hash := kh P "told", key := sv "told" 316, val := .ref 99 }, { hash := kh P "__static_attributes__", key := sv "__static_attributes__" 318, val := .ref 100 }, { hash := kh P "__weakref__", key := sv "__weakref__" 321, val := .ref 103 }, { hash := kh P "__doc__", key := sv "__doc__" 322, val := .none }] 4 }
noncomputable def o118 (P : Params) : Obj := { cls := .type "type", data := .cls { name := Str.ofString "SmtError", bases := [.type "Exception"], mro := [.ref 102, .type "Exception", .type "BaseException", .type "object"], ns := 101, qualname := Str.ofString "SmtError", subclasses := [.ref 122] }, slots := #[some (.ref 77), none, some (sv "SmtError" 289), some (sv "SmtError" 297), some (.builtin "Exception.__new__"), some (.bool Bool.true)] }
noncomputable def o113 (P : Params) : Obj := { cls := .type "getset_descriptor", data := .fields #[sv "__weakref__" 320, .ref 102, .builtin "ExceptionGroup.__weakref__", .none] }
noncomputable def o114 (P : Params) : Obj := { cls := .type "super", data := .fields #[.ref 102, .ref 102, .ref 102] }
noncomputable def o115 (P : Params) : Obj := { cls := .type "builtin_function_or_method", data := .fields #[.builtin "object.__init_subclass__", .ref 102] }
noncomputable def o119 (P : Params) : Obj := { cls := .type "tuple", data := .seq #[.ref 102] }
noncomputable def o120 (P : Params) : Obj := { cls := .type "builtin_function_or_method", data := .fields #[.builtin "type.__prepare__", .type "type"] }
noncomputable def o121 (P : Params) : Obj := { cls := .type "dict", data := .dict #[{ hash := kh P "__module__", key := sv "__module__" 334, val := sv "minismt.errors" 287 }, { hash := kh P "__qualname__", key := sv "__qualname__" 336, val := sv "SortFault" 335 }, { hash := kh P "__firstlineno__", key := sv "__firstlineno__" 338, val := .int 83 337 }, { hash := kh P "told", key := sv "told" 345, val := .ref 119 }, { hash := kh P "__static_attributes__", key := sv "__static_attributes__" 346, val := .ref 120 }] 5 }
noncomputable def o122 (P : Params) : Obj := { cls := .type "tuple", data := .seq #[] }
noncomputable def o123 (P : Params) : Obj := { cls := .none, data := .fields #[.int 85 0, .int 4 0, .ref 118] }
noncomputable def o124 (P : Params) : Obj := { cls := .type "code", data := .fields #[sv "SortFault" 329, sv "SortFault" 330, sv "/claim/cut.py" 331, .int 83 0, .int 0 0, .int 0 0, .int 0 0, .int 0 0, .ref 109, .bool Bool.false, .int 181 0, .ref 110, .none, .none, .none, .none, .int 332 0, .int 83 0, sv "/claim/cut.py" 333] }
noncomputable def o125 (P : Params) : Obj := { cls := .type "frame", slots := #[some (.ref 111), some (.ref 3), some (.ref 108), none, some (sv "minismt.errors" 287), none, some (.ref 0)] }
noncomputable def o126 (P : Params) : Obj := { cls := .type "tuple", data := .seq #[] }
noncomputable def o127 (P : Params) : Obj := { cls := .none, data := .fields #[] }
noncomputable def o128 (P : Params) : Obj := { cls := .type "tuple", data := .seq #[sv "self" 342] }
noncomputable def o129 (P : Params) : Obj := { cls := .type "tuple", data := .seq #[] }
noncomputable def o130 (P : Params) : Obj := { cls := .none, data := .func { name := Str.ofString "told", qualname := Str.ofString "SortFault.told", params := paramsOf (mAt 6 0), body := .stmts (bodyOf (mAt 6 0)), scope := scopeOf (mAt 6 0), globals := 0, closure := [], defaults := .none, kwdefaults := .none } }
noncomputable def o131 (P : Params) : Obj := { cls := .type "code", data := .fields #[sv "told" 339, sv "SortFault.told" 340, sv "/claim/cut.py" 341, .int 85 0, .int 1 0, .int 0 0, .int 0 0, .int 3 0, .ref 113, .bool Bool.true, .int 181 0, .ref 114, .none, .ref 115, .ref 116, .ref 117, .int 343 0, .int 85 0, sv "/claim/cut.py" 344] }
noncomputable def o132 (P : Params) : Obj := { cls := .type "function", data := .func { name := Str.ofString "told", qualname := Str.ofString "SortFault.told", params := paramsOf (mAt 6 0), body := .stmts (bodyOf (mAt 6 0)), scope := scopeOf (mAt 6 0), globals := 3, closure := [], defaults := .none, kwdefaults := .none, pyModule := sv "minismt.errors" 287, code := .ref 118 } }
noncomputable def o133 (P : Params) : Obj := { cls := .type "tuple", data := .seq #[] }
noncomputable def o134 (P : Params) : Obj := { cls := .type "dict", data := .dict #[{ hash := kh P "__module__", key := sv "__module__" 334, val := sv "minismt.errors" 287 }, { hash := kh P "__firstlineno__", key := sv "__firstlineno__" 338, val := .int 83 337 }, { hash := kh P "told", key := sv "told" 345, val := .ref 119 }, { hash := kh P "__static_attributes__", key := sv "__static_attributes__" 346, val := .ref 120 }, { hash := kh P "__doc__", key := sv "__doc__" 347, val := .none }] 2 }
noncomputable def o135 (P : Params) : Obj := { cls := .type "type", data := .cls { name := Str.ofString "SortFault", bases := [.ref 102], mro := [.ref 122, .ref 102, .type "Exception", .type "BaseException", .type "object"], ns := 121, qualname := Str.ofString "SortFault" }, slots := #[some (.ref 106), none, some (sv "SortFault" 327), some (sv "SortFault" 335), some (.builtin "Exception.__new__"), some (.bool Bool.true)] }
noncomputable def o136 (P : Params) : Obj := { cls := .type "super", data := .fields #[.ref 122, .ref 122, .ref 122] }
noncomputable def o137 (P : Params) : Obj := { cls := .type "builtin_function_or_method", data := .fields #[.builtin "object.__init_subclass__", .ref 122] }
noncomputable def o141 (P : Params) : Obj := { cls := .type "dict", data := .dict #[{ hash := kh P "__name__", key := sv "__name__" 165, val := sv "minismt.terms" 350 }, { hash := kh P "__doc__", key := sv "__doc__" 166, val := .none }, { hash := kh P "__package__", key := sv "__package__" 167, val := .none }, { hash := kh P "__loader__", key := sv "__loader__" 168, val := .builtin "__main__.__loader__#opaque" }, { hash := kh P "__spec__", key := sv "__spec__" 169, val := .none }, { hash := kh P "__annotations__", key := sv "__annotations__" 170, val := .ref 6 }, { hash := kh P "__builtins__", key := sv "__builtins__" 171, val := .ref 4 }, { hash := kh P "__file__", key := sv "__file__" 173, val := sv "/claim/cut.py" 172 }, { hash := kh P "__cached__", key := sv "__cached__" 174, val := .none }, { hash := kh P "_wall", key := sv "_wall" 193, val := .ref 21 }, { hash := kh P "VALUES", key := sv "VALUES" 198, val := .ref 22 }, { hash := kh P "PlainClosing", key := sv "PlainClosing" 286, val := .ref 72 }, { hash := kh P "SmtError", key := sv "SmtError" 326, val := .ref 102 }, { hash := kh P "SortFault", key := sv "SortFault" 349, val := .ref 122 }, { hash := kh P "BOOL", key := sv "BOOL" 353, val := .int 0 352 }, { hash := kh P "INT", key := sv "INT" 355, val := .int 1 354 }, { hash := kh P "Bank", key := sv "Bank" 640, val := .ref 337 }] 17 }
noncomputable def o142 (P : Params) : Obj := { cls := .none, data := .fields #[.int 1 0, .int 0 0, .ref 20, .int 6 0, .int 0 0, .ref 28, .int 75 0, .int 0 0, .ref 83, .int 83 0, .int 0 0, .ref 111, .int 90 0, .int 0 0, .ref 130] }
noncomputable def o143 (P : Params) : Obj := { cls := .type "tuple", data := .seq #[] }
noncomputable def o144 (P : Params) : Obj := { cls := .type "builtin_function_or_method", data := .fields #[.builtin "type.__prepare__", .type "type"] }
noncomputable def o145 (P : Params) : Obj := { cls := .type "dict", data := .dict #[{ hash := kh P "__module__", key := sv "__module__" 363, val := sv "minismt.terms" 350 }, { hash := kh P "__qualname__", key := sv "__qualname__" 365, val := sv "Bank" 364 }, { hash := kh P "__firstlineno__", key := sv "__firstlineno__" 367, val := .int 90 366 }, { hash := kh P "__init__", key := sv "__init__" 374, val := .ref 138 }, { hash := kh P "sort_name", key := sv "sort_name" 382, val := .ref 145 }, { hash := kh P "declare_sort", key := sv "declare_sort" 390, val := .ref 152 }, { hash := kh P "width_of", key := sv "width_of" 398, val := .ref 159 }, { hash := kh P "is_number_sort", key := sv "is_number_sort" 406, val := .ref 166 }, { hash := kh P "is_free_sort", key := sv "is_free_sort" 414, val := .ref 173 }, { hash := kh P "declare_fun", key := sv "declare_fun" 424, val := .ref 180 }, { hash := kh P "fresh_fun", key := sv "fresh_fun" 434, val := .ref 187 }, { hash := kh P "fresh_const", key := sv "fresh_const" 443, val := .ref 194 }, { hash := kh P "fun_name", key := sv "fun_name" 451, val := .ref 201 }, { hash := kh P "fun_arg_sorts", key := sv "fun_arg_sorts" 459, val := .ref 208 }, { hash := kh P "fun_result", key := sv "fun_result" 467, val := .ref 215 }, { hash := kh P "fun_count", key := sv "fun_count" 474, val := .ref 222 }, { hash := kh P "op", key := sv "op" 482, val := .ref 229 }, { hash := kh P "args", key := sv "args" 490, val := .ref 236 }, { hash := kh P "sort", key := sv "sort" 498, val := .ref 243 }, { hash := kh P "data", key := sv "data" 506, val := .ref 250 }, { hash := kh P "width", key := sv "width" 514, val := .ref 257 }, { hash := kh P "size", key := sv "size" 521, val := .ref 264 }, { hash := kh P "make", key := sv "make" 534, val := .ref 271 }, { hash := kh P "find_made", key := sv "find_made" 545, val := .ref 278 }, { hash := kh P "is_value", key := sv "is_value" 553, val := .ref 285 }, { hash := kh P "want", key := sv "want" 563, val := .ref 292 }, { hash := kh P "want_all", key := sv "want_all" 574, val := .ref 299 }, { hash := kh P "true_term", key := sv "true_term" 581, val := .ref 306 }, { hash := kh P "false_term", key := sv "false_term" 588, val := .ref 313 }, { hash := kh P "bool_term", key := sv "bool_term" 596, val := .ref 320 }, { hash := kh P "parts", key := sv "parts" 604, val := .ref 327 }, { hash := kh P "parts_of_all", key := sv "parts_of_all" 619, val := .ref 334 }, { hash := kh P "__static_attributes__", key := sv "__static_attributes__" 633, val := .ref 335 }] 33 }
noncomputable def o146 (P : Params) : Obj := { cls := .type "tuple", data := .seq #[] }
noncomputable def o147 (P : Params) : Obj := { cls := .none, data := .fields #[.int 92 0, .int 4 0, .ref 137, .int 107 0, .int 4 0, .ref 144, .int 110 0, .int 4 0, .ref 151, .int 113 0, .int 4 0, .ref 158, .int 116 0, .int 4 0, .ref 165, .int 119 0, .int 4 0, .ref 172, .int 122 0, .int 4 0, .ref 179, .int 128 0, .int 4 0, .ref 186, .int 131 0, .int 4 0, .ref 193, .int 134 0, .int 4 0, .ref 200, .int 137 0, .int 4 0, .ref 207, .int 140 0, .int 4 0, .ref 214, .int 143 0, .int 4 0, .ref 221, .int 146 0, .int 4 0, .ref 228, .int 149 0, .int 4 0, .ref 235, .int 152 0, .int 4 0, .ref 242, .int 155 0, .int 4 0, .ref 249, .int 158 0, .int 4 0, .ref 256, .int 161 0, .int 4 0, .ref 263, .int 164 0, .int 4 0, .ref 270, .int 176 0, .int 4 0, .ref 277, .int 179 0, .int 4 0, .ref 284, .int 182 0, .int 4 0, .ref 291, .int 186 0, .int 4 0, .ref 298, .int 190 0, .int 4 0, .ref 305, .int 193 0, .int 4 0, .ref 312, .int 196 0, .int 4 0, .ref 319, .int 199 0, .int 4 0, .ref 326, .int 202 0, .int 4 0, .ref 333] }
noncomputable def o148 (P : Params) : Obj := { cls := .type "code", data := .fields #[sv "Bank" 358, sv "Bank" 359, sv "/claim/cut.py" 360, .int 90 0, .int 0 0, .int 0 0, .int 0 0, .int 0 0, .ref 128, .bool Bool.false, .int 181 0, .ref 129, .none, .none, .none, .none, .int 361 0, .int 90 0, sv "/claim/cut.py" 362] }
noncomputable def o149 (P : Params) : Obj := { cls := .type "frame", slots := #[some (.ref 130), some (.ref 3), some (.ref 127), none, some (sv "minismt.terms" 350), none, some (.ref 0)] }
noncomputable def o150 (P : Params) : Obj := { cls := .type "tuple", data := .seq #[] }
noncomputable def o151 (P : Params) : Obj := { cls := .none, data := .fields #[] }
noncomputable def o152 (P : Params) : Obj := { cls := .type "tuple", data := .seq #[sv "self" 371] }
noncomputable def o153 (P : Params) : Obj := { cls := .type "tuple", data := .seq #[] }
noncomputable def o154 (P : Params) : Obj := { cls := .none, data := .func { name := Str.ofString "__init__", qualname := Str.ofString "Bank.__init__", params := paramsOf (mAt 10 0), body := .stmts (bodyOf (mAt 10 0)), scope := scopeOf (mAt 10 0), globals := 0, closure := [], defaults := .none, kwdefaults := .none } }
noncomputable def o155 (P : Params) : Obj := { cls := .type "code", data := .fields #[sv "__init__" 368, sv "Bank.__init__" 369, sv "/claim/cut.py" 370, .int 92 0, .int 1 0, .int 0 0, .int 0 0, .int 3 0, .ref 132, .bool Bool.true, .int 181 0, .ref 133, .none, .ref 134, .ref 135, .ref 136, .int 372 0, .int 92 0, sv "/claim/cut.py" 373] }
noncomputable def o156 (P : Params) : Obj := { cls := .type "function", data := .func { name := Str.ofString "__init__", qualname := Str.ofString "Bank.__init__", params := paramsOf (mAt 10 0), body := .stmts (bodyOf (mAt 10 0)), scope := scopeOf (mAt 10 0), globals := 3, closure := [], defaults := .none, kwdefaults := .none, pyModule := sv "minismt.terms" 350, code := .ref 137 } }
noncomputable def o157 (P : Params) : Obj := { cls := .type "tuple", data := .seq #[] }
noncomputable def o158 (P : Params) : Obj := { cls := .none, data := .fields #[] }
noncomputable def o159 (P : Params) : Obj := { cls := .type "tuple", data := .seq #[sv "self" 378, sv "s" 379] }
noncomputable def o160 (P : Params) : Obj := { cls := .type "tuple", data := .seq #[] }
noncomputable def o161 (P : Params) : Obj := { cls := .none, data := .func { name := Str.ofString "sort_name", qualname := Str.ofString "Bank.sort_name", params := paramsOf (mAt 10 1), body := .stmts (bodyOf (mAt 10 1)), scope := scopeOf (mAt 10 1), globals := 0, closure := [], defaults := .none, kwdefaults := .none } }
noncomputable def o162 (P : Params) : Obj := { cls := .type "code", data := .fields #[sv "sort_name" 375, sv "Bank.sort_name" 376, sv "/claim/cut.py" 377, .int 107 0, .int 2 0, .int 0 0, .int 0 0, .int 3 0, .ref 139, .bool Bool.true, .int 181 0, .ref 140, .none, .ref 141, .ref 142, .ref 143, .int 380 0, .int 107 0, sv "/claim/cut.py" 381] }
noncomputable def o163 (P : Params) : Obj := { cls := .type "function", data := .func { name := Str.ofString "sort_name", qualname := Str.ofString "Bank.sort_name", params := paramsOf (mAt 10 1), body := .stmts (bodyOf (mAt 10 1)), scope := scopeOf (mAt 10 1), globals := 3, closure := [], defaults := .none, kwdefaults := .none, pyModule := sv "minismt.terms" 350, code := .ref 144 } }
noncomputable def o164 (P : Params) : Obj := { cls := .type "tuple", data := .seq #[] }
noncomputable def o165 (P : Params) : Obj := { cls := .none, data := .fields #[] }
noncomputable def o166 (P : Params) : Obj := { cls := .type "tuple", data := .seq #[sv "self" 386, sv "name" 387] }
noncomputable def o167 (P : Params) : Obj := { cls := .type "tuple", data := .seq #[] }
noncomputable def o168 (P : Params) : Obj := { cls := .none, data := .func { name := Str.ofString "declare_sort", qualname := Str.ofString "Bank.declare_sort", params := paramsOf (mAt 10 2), body := .stmts (bodyOf (mAt 10 2)), scope := scopeOf (mAt 10 2), globals := 0, closure := [], defaults := .none, kwdefaults := .none } }
noncomputable def o169 (P : Params) : Obj := { cls := .type "code", data := .fields #[sv "declare_sort" 383, sv "Bank.declare_sort" 384, sv "/claim/cut.py" 385, .int 110 0, .int 2 0, .int 0 0, .int 0 0, .int 3 0, .ref 146, .bool Bool.true, .int 181 0, .ref 147, .none, .ref 148, .ref 149, .ref 150, .int 388 0, .int 110 0, sv "/claim/cut.py" 389] }
noncomputable def o170 (P : Params) : Obj := { cls := .type "function", data := .func { name := Str.ofString "declare_sort", qualname := Str.ofString "Bank.declare_sort", params := paramsOf (mAt 10 2), body := .stmts (bodyOf (mAt 10 2)), scope := scopeOf (mAt 10 2), globals := 3, closure := [], defaults := .none, kwdefaults := .none, pyModule := sv "minismt.terms" 350, code := .ref 151 } }
noncomputable def o171 (P : Params) : Obj := { cls := .type "tuple", data := .seq #[] }
noncomputable def o172 (P : Params) : Obj := { cls := .none, data := .fields #[] }
noncomputable def o173 (P : Params) : Obj := { cls := .type "tuple", data := .seq #[sv "self" 394, sv "s" 395] }
noncomputable def o174 (P : Params) : Obj := { cls := .type "tuple", data := .seq #[] }
noncomputable def o175 (P : Params) : Obj := { cls := .none, data := .func { name := Str.ofString "width_of", qualname := Str.ofString "Bank.width_of", params := paramsOf (mAt 10 3), body := .stmts (bodyOf (mAt 10 3)), scope := scopeOf (mAt 10 3), globals := 0, closure := [], defaults := .none, kwdefaults := .none } }
noncomputable def o176 (P : Params) : Obj := { cls := .type "code", data := .fields #[sv "width_of" 391, sv "Bank.width_of" 392, sv "/claim/cut.py" 393, .int 113 0, .int 2 0, .int 0 0, .int 0 0, .int 3 0, .ref 153, .bool Bool.true, .int 181 0, .ref 154, .none, .ref 155, .ref 156, .ref 157, .int 396 0, .int 113 0, sv "/claim/cut.py" 397] }
noncomputable def o177 (P : Params) : Obj := { cls := .type "function", data := .func { name := Str.ofString "width_of", qualname := Str.ofString "Bank.width_of", params := paramsOf (mAt 10 3), body := .stmts (bodyOf (mAt 10 3)), scope := scopeOf (mAt 10 3), globals := 3, closure := [], defaults := .none, kwdefaults := .none, pyModule := sv "minismt.terms" 350, code := .ref 158 } }
noncomputable def o178 (P : Params) : Obj := { cls := .type "tuple", data := .seq #[] }
noncomputable def o179 (P : Params) : Obj := { cls := .none, data := .fields #[] }
noncomputable def o180 (P : Params) : Obj := { cls := .type "tuple", data := .seq #[sv "self" 402, sv "s" 403] }
noncomputable def o181 (P : Params) : Obj := { cls := .type "tuple", data := .seq #[] }
noncomputable def o182 (P : Params) : Obj := { cls := .none, data := .func { name := Str.ofString "is_number_sort", qualname := Str.ofString "Bank.is_number_sort", params := paramsOf (mAt 10 4), body := .stmts (bodyOf (mAt 10 4)), scope := scopeOf (mAt 10 4), globals := 0, closure := [], defaults := .none, kwdefaults := .none } }
noncomputable def o183 (P : Params) : Obj := { cls := .type "code", data := .fields #[sv "is_number_sort" 399, sv "Bank.is_number_sort" 400, sv "/claim/cut.py" 401, .int 116 0, .int 2 0, .int 0 0, .int 0 0, .int 3 0, .ref 160, .bool Bool.true, .int 181 0, .ref 161, .none, .ref 162, .ref 163, .ref 164, .int 404 0, .int 116 0, sv "/claim/cut.py" 405] }
noncomputable def o184 (P : Params) : Obj := { cls := .type "function", data := .func { name := Str.ofString "is_number_sort", qualname := Str.ofString "Bank.is_number_sort", params := paramsOf (mAt 10 4), body := .stmts (bodyOf (mAt 10 4)), scope := scopeOf (mAt 10 4), globals := 3, closure := [], defaults := .none, kwdefaults := .none, pyModule := sv "minismt.terms" 350, code := .ref 165 } }
noncomputable def o185 (P : Params) : Obj := { cls := .type "tuple", data := .seq #[] }
noncomputable def o186 (P : Params) : Obj := { cls := .none, data := .fields #[] }
noncomputable def o187 (P : Params) : Obj := { cls := .type "tuple", data := .seq #[sv "self" 410, sv "s" 411] }
noncomputable def o188 (P : Params) : Obj := { cls := .type "tuple", data := .seq #[] }
noncomputable def o189 (P : Params) : Obj := { cls := .none, data := .func { name := Str.ofString "is_free_sort", qualname := Str.ofString "Bank.is_free_sort", params := paramsOf (mAt 10 5), body := .stmts (bodyOf (mAt 10 5)), scope := scopeOf (mAt 10 5), globals := 0, closure := [], defaults := .none, kwdefaults := .none } }
noncomputable def o190 (P : Params) : Obj := { cls := .type "code", data := .fields #[sv "is_free_sort" 407, sv "Bank.is_free_sort" 408, sv "/claim/cut.py" 409, .int 119 0, .int 2 0, .int 0 0, .int 0 0, .int 3 0, .ref 167, .bool Bool.true, .int 181 0, .ref 168, .none, .ref 169, .ref 170, .ref 171, .int 412 0, .int 119 0, sv "/claim/cut.py" 413] }
noncomputable def o191 (P : Params) : Obj := { cls := .type "function", data := .func { name := Str.ofString "is_free_sort", qualname := Str.ofString "Bank.is_free_sort", params := paramsOf (mAt 10 5), body := .stmts (bodyOf (mAt 10 5)), scope := scopeOf (mAt 10 5), globals := 3, closure := [], defaults := .none, kwdefaults := .none, pyModule := sv "minismt.terms" 350, code := .ref 172 } }
noncomputable def o192 (P : Params) : Obj := { cls := .type "tuple", data := .seq #[] }
noncomputable def o193 (P : Params) : Obj := { cls := .none, data := .fields #[] }
noncomputable def o194 (P : Params) : Obj := { cls := .type "tuple", data := .seq #[sv "self" 418, sv "name" 419, sv "arg_sorts" 420, sv "result" 421] }
noncomputable def o195 (P : Params) : Obj := { cls := .type "tuple", data := .seq #[] }
noncomputable def o196 (P : Params) : Obj := { cls := .none, data := .func { name := Str.ofString "declare_fun", qualname := Str.ofString "Bank.declare_fun", params := paramsOf (mAt 10 6), body := .stmts (bodyOf (mAt 10 6)), scope := scopeOf (mAt 10 6), globals := 0, closure := [], defaults := .none, kwdefaults := .none } }
noncomputable def o197 (P : Params) : Obj := { cls := .type "code", data := .fields #[sv "declare_fun" 415, sv "Bank.declare_fun" 416, sv "/claim/cut.py" 417, .int 122 0, .int 4 0, .int 0 0, .int 0 0, .int 3 0, .ref 174, .bool Bool.true, .int 181 0, .ref 175, .none, .ref 176, .ref 177, .ref 178, .int 422 0, .int 122 0, sv "/claim/cut.py" 423] }
noncomputable def o198 (P : Params) : Obj := { cls := .type "function", data := .func { name := Str.ofString "declare_fun", qualname := Str.ofString "Bank.declare_fun", params := paramsOf (mAt 10 6), body := .stmts (bodyOf (mAt 10 6)), scope := scopeOf (mAt 10 6), globals := 3, closure := [], defaults := .none, kwdefaults := .none, pyModule := sv "minismt.terms" 350, code := .ref 179 } }
noncomputable def o199 (P : Params) : Obj := { cls := .type "tuple", data := .seq #[] }
noncomputable def o200 (P : Params) : Obj := { cls := .none, data := .fields #[] }
noncomputable def o201 (P : Params) : Obj := { cls := .type "tuple", data := .seq #[sv "self" 428, sv "stem" 429, sv "arg_sorts" 430, sv "result" 431] }
noncomputable def o202 (P : Params) : Obj := { cls := .type "tuple", data := .seq #[] }
noncomputable def o203 (P : Params) : Obj := { cls := .none, data := .func { name := Str.ofString "fresh_fun", qualname := Str.ofString "Bank.fresh_fun", params := paramsOf (mAt 10 7), body := .stmts (bodyOf (mAt 10 7)), scope := scopeOf (mAt 10 7), globals := 0, closure := [], defaults := .none, kwdefaults := .none } }
noncomputable def o204 (P : Params) : Obj := { cls := .type "code", data := .fields #[sv "fresh_fun" 425, sv "Bank.fresh_fun" 426, sv "/claim/cut.py" 427, .int 128 0, .int 4 0, .int 0 0, .int 0 0, .int 3 0, .ref 181, .bool Bool.true, .int 181 0, .ref 182, .none, .ref 183, .ref 184, .ref 185, .int 432 0, .int 128 0, sv "/claim/cut.py" 433] }
noncomputable def o205 (P : Params) : Obj := { cls := .type "function", data := .func { name := Str.ofString "fresh_fun", qualname := Str.ofString "Bank.fresh_fun", params := paramsOf (mAt 10 7), body := .stmts (bodyOf (mAt 10 7)), scope := scopeOf (mAt 10 7), globals := 3, closure := [], defaults := .none, kwdefaults := .none, pyModule := sv "minismt.terms" 350, code := .ref 186 } }
noncomputable def o206 (P : Params) : Obj := { cls := .type "tuple", data := .seq #[] }
noncomputable def o207 (P : Params) : Obj := { cls := .none, data := .fields #[] }
noncomputable def o208 (P : Params) : Obj := { cls := .type "tuple", data := .seq #[sv "self" 438, sv "name" 439, sv "s" 440] }
noncomputable def o209 (P : Params) : Obj := { cls := .type "tuple", data := .seq #[] }
noncomputable def o210 (P : Params) : Obj := { cls := .none, data := .func { name := Str.ofString "fresh_const", qualname := Str.ofString "Bank.fresh_const", params := paramsOf (mAt 10 8), body := .stmts (bodyOf (mAt 10 8)), scope := scopeOf (mAt 10 8), globals := 0, closure := [], defaults := .none, kwdefaults := .none } }
noncomputable def o211 (P : Params) : Obj := { cls := .type "code", data := .fields #[sv "fresh_const" 435, sv "Bank.fresh_const" 436, sv "/claim/cut.py" 437, .int 131 0, .int 3 0, .int 0 0, .int 0 0, .int 3 0, .ref 188, .bool Bool.true, .int 181 0, .ref 189, .none, .ref 190, .ref 191, .ref 192, .int 441 0, .int 131 0, sv "/claim/cut.py" 442] }
noncomputable def o212 (P : Params) : Obj := { cls := .type "function", data := .func { name := Str.ofString "fresh_const", qualname := Str.ofString "Bank.fresh_const", params := paramsOf (mAt 10 8), body := .stmts (bodyOf (mAt 10 8)), scope := scopeOf (mAt 10 8), globals := 3, closure := [], defaults := .none, kwdefaults := .none, pyModule := sv "minismt.terms" 350, code := .ref 193 } }
noncomputable def o213 (P : Params) : Obj := { cls := .type "tuple", data := .seq #[] }
noncomputable def o214 (P : Params) : Obj := { cls := .none, data := .fields #[] }
noncomputable def o215 (P : Params) : Obj := { cls := .type "tuple", data := .seq #[sv "self" 447, sv "f" 448] }
noncomputable def o216 (P : Params) : Obj := { cls := .type "tuple", data := .seq #[] }
noncomputable def o217 (P : Params) : Obj := { cls := .none, data := .func { name := Str.ofString "fun_name", qualname := Str.ofString "Bank.fun_name", params := paramsOf (mAt 10 9), body := .stmts (bodyOf (mAt 10 9)), scope := scopeOf (mAt 10 9), globals := 0, closure := [], defaults := .none, kwdefaults := .none } }
noncomputable def o218 (P : Params) : Obj := { cls := .type "code", data := .fields #[sv "fun_name" 444, sv "Bank.fun_name" 445, sv "/claim/cut.py" 446, .int 134 0, .int 2 0, .int 0 0, .int 0 0, .int 3 0, .ref 195, .bool Bool.true, .int 181 0, .ref 196, .none, .ref 197, .ref 198, .ref 199, .int 449 0, .int 134 0, sv "/claim/cut.py" 450] }
noncomputable def o219 (P : Params) : Obj := { cls := .type "function", data := .func { name := Str.ofString "fun_name", qualname := Str.ofString "Bank.fun_name", params := paramsOf (mAt 10 9), body := .stmts (bodyOf (mAt 10 9)), scope := scopeOf (mAt 10 9), globals := 3, closure := [], defaults := .none, kwdefaults := .none, pyModule := sv "minismt.terms" 350, code := .ref 200 } }
noncomputable def o220 (P : Params) : Obj := { cls := .type "tuple", data := .seq #[] }
noncomputable def o221 (P : Params) : Obj := { cls := .none, data := .fields #[] }
noncomputable def o222 (P : Params) : Obj := { cls := .type "tuple", data := .seq #[sv "self" 455, sv "f" 456] }
noncomputable def o223 (P : Params) : Obj := { cls := .type "tuple", data := .seq #[] }
noncomputable def o224 (P : Params) : Obj := { cls := .none, data := .func { name := Str.ofString "fun_arg_sorts", qualname := Str.ofString "Bank.fun_arg_sorts", params := paramsOf (mAt 10 10), body := .stmts (bodyOf (mAt 10 10)), scope := scopeOf (mAt 10 10), globals := 0, closure := [], defaults := .none, kwdefaults := .none } }
noncomputable def o225 (P : Params) : Obj := { cls := .type "code", data := .fields #[sv "fun_arg_sorts" 452, sv "Bank.fun_arg_sorts" 453, sv "/claim/cut.py" 454, .int 137 0, .int 2 0, .int 0 0, .int 0 0, .int 3 0, .ref 202, .bool Bool.true, .int 181 0, .ref 203, .none, .ref 204, .ref 205, .ref 206, .int 457 0, .int 137 0, sv "/claim/cut.py" 458] }
noncomputable def o226 (P : Params) : Obj := { cls := .type "function", data := .func { name := Str.ofString "fun_arg_sorts", qualname := Str.ofString "Bank.fun_arg_sorts", params := paramsOf (mAt 10 10), body := .stmts (bodyOf (mAt 10 10)), scope := scopeOf (mAt 10 10), globals := 3, closure := [], defaults := .none, kwdefaults := .none, pyModule := sv "minismt.terms" 350, code := .ref 207 } }
noncomputable def o227 (P : Params) : Obj := { cls := .type "tuple", data := .seq #[] }
noncomputable def o228 (P : Params) : Obj := { cls := .none, data := .fields #[] }
noncomputable def o229 (P : Params) : Obj := { cls := .type "tuple", data := .seq #[sv "self" 463, sv "f" 464] }
noncomputable def o230 (P : Params) : Obj := { cls := .type "tuple", data := .seq #[] }
noncomputable def o231 (P : Params) : Obj := { cls := .none, data := .func { name := Str.ofString "fun_result", qualname := Str.ofString "Bank.fun_result", params := paramsOf (mAt 10 11), body := .stmts (bodyOf (mAt 10 11)), scope := scopeOf (mAt 10 11), globals := 0, closure := [], defaults := .none, kwdefaults := .none } }
noncomputable def o232 (P : Params) : Obj := { cls := .type "code", data := .fields #[sv "fun_result" 460, sv "Bank.fun_result" 461, sv "/claim/cut.py" 462, .int 140 0, .int 2 0, .int 0 0, .int 0 0, .int 3 0, .ref 209, .bool Bool.true, .int 181 0, .ref 210, .none, .ref 211, .ref 212, .ref 213, .int 465 0, .int 140 0, sv "/claim/cut.py" 466] }
noncomputable def o233 (P : Params) : Obj := { cls := .type "function", data := .func { name := Str.ofString "fun_result", qualname := Str.ofString "Bank.fun_result", params := paramsOf (mAt 10 11), body := .stmts (bodyOf (mAt 10 11)), scope := scopeOf (mAt 10 11), globals := 3, closure := [], defaults := .none, kwdefaults := .none, pyModule := sv "minismt.terms" 350, code := .ref 214 } }
noncomputable def o234 (P : Params) : Obj := { cls := .type "tuple", data := .seq #[] }
noncomputable def o235 (P : Params) : Obj := { cls := .none, data := .fields #[] }
noncomputable def o236 (P : Params) : Obj := { cls := .type "tuple", data := .seq #[sv "self" 471] }
noncomputable def o237 (P : Params) : Obj := { cls := .type "tuple", data := .seq #[] }
noncomputable def o238 (P : Params) : Obj := { cls := .none, data := .func { name := Str.ofString "fun_count", qualname := Str.ofString "Bank.fun_count", params := paramsOf (mAt 10 12), body := .stmts (bodyOf (mAt 10 12)), scope := scopeOf (mAt 10 12), globals := 0, closure := [], defaults := .none, kwdefaults := .none } }
noncomputable def o239 (P : Params) : Obj := { cls := .type "code", data := .fields #[sv "fun_count" 468, sv "Bank.fun_count" 469, sv "/claim/cut.py" 470, .int 143 0, .int 1 0, .int 0 0, .int 0 0, .int 3 0, .ref 216, .bool Bool.true, .int 181 0, .ref 217, .none, .ref 218, .ref 219, .ref 220, .int 472 0, .int 143 0, sv "/claim/cut.py" 473] }
noncomputable def o240 (P : Params) : Obj := { cls := .type "function", data := .func { name := Str.ofString "fun_count", qualname := Str.ofString "Bank.fun_count", params := paramsOf (mAt 10 12), body := .stmts (bodyOf (mAt 10 12)), scope := scopeOf (mAt 10 12), globals := 3, closure := [], defaults := .none, kwdefaults := .none, pyModule := sv "minismt.terms" 350, code := .ref 221 } }
noncomputable def o241 (P : Params) : Obj := { cls := .type "tuple", data := .seq #[] }
noncomputable def o242 (P : Params) : Obj := { cls := .none, data := .fields #[] }
noncomputable def o243 (P : Params) : Obj := { cls := .type "tuple", data := .seq #[sv "self" 478, sv "t" 479] }
noncomputable def o244 (P : Params) : Obj := { cls := .type "tuple", data := .seq #[] }
noncomputable def o245 (P : Params) : Obj := { cls := .none, data := .func { name := Str.ofString "op", qualname := Str.ofString "Bank.op", params := paramsOf (mAt 10 13), body := .stmts (bodyOf (mAt 10 13)), scope := scopeOf (mAt 10 13), globals := 0, closure := [], defaults := .none, kwdefaults := .none } }
noncomputable def o246 (P : Params) : Obj := { cls := .type "code", data := .fields #[sv "op" 475, sv "Bank.op" 476, sv "/claim/cut.py" 477, .int 146 0, .int 2 0, .int 0 0, .int 0 0, .int 3 0, .ref 223, .bool Bool.true, .int 181 0, .ref 224, .none, .ref 225, .ref 226, .ref 227, .int 480 0, .int 146 0, sv "/claim/cut.py" 481] }
noncomputable def o247 (P : Params) : Obj := { cls := .type "function", data := .func { name := Str.ofString "op", qualname := Str.ofString "Bank.op", params := paramsOf (mAt 10 13), body := .stmts (bodyOf (mAt 10 13)), scope := scopeOf (mAt 10 13), globals := 3, closure := [], defaults := .none, kwdefaults := .none, pyModule := sv "minismt.terms" 350, code := .ref 228 } }
noncomputable def o248 (P : Params) : Obj := { cls := .type "tuple", data := .seq #[] }
noncomputable def o249 (P : Params) : Obj := { cls := .none, data := .fields #[] }
noncomputable def o250 (P : Params) : Obj := { cls := .type "tuple", data := .seq #[sv "self" 486, sv "t" 487] }
noncomputable def o251 (P : Params) : Obj := { cls := .type "tuple", data := .seq #[] }
noncomputable def o252 (P : Params) : Obj := { cls := .none, data := .func { name := Str.ofString "args", qualname := Str.ofString "Bank.args", params := paramsOf (mAt 10 14), body := .stmts (bodyOf (mAt 10 14)), scope := scopeOf (mAt 10 14), globals := 0, closure := [], defaults := .none, kwdefaults := .none } }
noncomputable def o253 (P : Params) : Obj := { cls := .type "code", data := .fields #[sv "args" 483, sv "Bank.args" 484, sv "/claim/cut.py" 485, .int 149 0, .int 2 0, .int 0 0, .int 0 0, .int 3 0, .ref 230, .bool Bool.true, .int 181 0, .ref 231, .none, .ref 232, .ref 233, .ref 234, .int 488 0, .int 149 0, sv "/claim/cut.py" 489] }
noncomputable def o254 (P : Params) : Obj := { cls := .type "function", data := .func { name := Str.ofString "args", qualname := Str.ofString "Bank.args", params := paramsOf (mAt 10 14), body := .stmts (bodyOf (mAt 10 14)), scope := scopeOf (mAt 10 14), globals := 3, closure := [], defaults := .none, kwdefaults := .none, pyModule := sv "minismt.terms" 350, code := .ref 235 } }
noncomputable def o255 (P : Params) : Obj := { cls := .type "tuple", data := .seq #[] }
noncomputable def o256 (P : Params) : Obj := { cls := .none, data := .fields #[] }
noncomputable def o257 (P : Params) : Obj := { cls := .type "tuple", data := .seq #[sv "self" 494, sv "t" 495] }
noncomputable def o258 (P : Params) : Obj := { cls := .type "tuple", data := .seq #[] }
noncomputable def o259 (P : Params) : Obj := { cls := .none, data := .func { name := Str.ofString "sort", qualname := Str.ofString "Bank.sort", params := paramsOf (mAt 10 15), body := .stmts (bodyOf (mAt 10 15)), scope := scopeOf (mAt 10 15), globals := 0, closure := [], defaults := .none, kwdefaults := .none } }
noncomputable def o260 (P : Params) : Obj := { cls := .type "code", data := .fields #[sv "sort" 491, sv "Bank.sort" 492, sv "/claim/cut.py" 493, .int 152 0, .int 2 0, .int 0 0, .int 0 0, .int 3 0, .ref 237, .bool Bool.true, .int 181 0, .ref 238, .none, .ref 239, .ref 240, .ref 241, .int 496 0, .int 152 0, sv "/claim/cut.py" 497] }
noncomputable def o261 (P : Params) : Obj := { cls := .type "function", data := .func { name := Str.ofString "sort", qualname := Str.ofString "Bank.sort", params := paramsOf (mAt 10 15), body := .stmts (bodyOf (mAt 10 15)), scope := scopeOf (mAt 10 15), globals := 3, closure := [], defaults := .none, kwdefaults := .none, pyModule := sv "minismt.terms" 350, code := .ref 242 } }
noncomputable def o262 (P : Params) : Obj := { cls := .type "tuple", data := .seq #[] }
noncomputable def o263 (P : Params) : Obj := { cls := .none, data := .fields #[] }
noncomputable def o264 (P : Params) : Obj := { cls := .type "tuple", data := .seq #[sv "self" 502, sv "t" 503] }
noncomputable def o265 (P : Params) : Obj := { cls := .type "tuple", data := .seq #[] }
noncomputable def o266 (P : Params) : Obj := { cls := .none, data := .func { name := Str.ofString "data", qualname := Str.ofString "Bank.data", params := paramsOf (mAt 10 16), body := .stmts (bodyOf (mAt 10 16)), scope := scopeOf (mAt 10 16), globals := 0, closure := [], defaults := .none, kwdefaults := .none } }
noncomputable def o267 (P : Params) : Obj := { cls := .type "code", data := .fields #[sv "data" 499, sv "Bank.data" 500, sv "/claim/cut.py" 501, .int 155 0, .int 2 0, .int 0 0, .int 0 0, .int 3 0, .ref 244, .bool Bool.true, .int 181 0, .ref 245, .none, .ref 246, .ref 247, .ref 248, .int 504 0, .int 155 0, sv "/claim/cut.py" 505] }
noncomputable def o268 (P : Params) : Obj := { cls := .type "function", data := .func { name := Str.ofString "data", qualname := Str.ofString "Bank.data", params := paramsOf (mAt 10 16), body := .stmts (bodyOf (mAt 10 16)), scope := scopeOf (mAt 10 16), globals := 3, closure := [], defaults := .none, kwdefaults := .none, pyModule := sv "minismt.terms" 350, code := .ref 249 } }
noncomputable def o269 (P : Params) : Obj := { cls := .type "tuple", data := .seq #[] }
noncomputable def o270 (P : Params) : Obj := { cls := .none, data := .fields #[] }
noncomputable def o271 (P : Params) : Obj := { cls := .type "tuple", data := .seq #[sv "self" 510, sv "t" 511] }
noncomputable def o272 (P : Params) : Obj := { cls := .type "tuple", data := .seq #[] }
noncomputable def o273 (P : Params) : Obj := { cls := .none, data := .func { name := Str.ofString "width", qualname := Str.ofString "Bank.width", params := paramsOf (mAt 10 17), body := .stmts (bodyOf (mAt 10 17)), scope := scopeOf (mAt 10 17), globals := 0, closure := [], defaults := .none, kwdefaults := .none } }
noncomputable def o274 (P : Params) : Obj := { cls := .type "code", data := .fields #[sv "width" 507, sv "Bank.width" 508, sv "/claim/cut.py" 509, .int 158 0, .int 2 0, .int 0 0, .int 0 0, .int 3 0, .ref 251, .bool Bool.true, .int 181 0, .ref 252, .none, .ref 253, .ref 254, .ref 255, .int 512 0, .int 158 0, sv "/claim/cut.py" 513] }
noncomputable def o275 (P : Params) : Obj := { cls := .type "function", data := .func { name := Str.ofString "width", qualname := Str.ofString "Bank.width", params := paramsOf (mAt 10 17), body := .stmts (bodyOf (mAt 10 17)), scope := scopeOf (mAt 10 17), globals := 3, closure := [], defaults := .none, kwdefaults := .none, pyModule := sv "minismt.terms" 350, code := .ref 256 } }
noncomputable def o276 (P : Params) : Obj := { cls := .type "tuple", data := .seq #[] }
noncomputable def o277 (P : Params) : Obj := { cls := .none, data := .fields #[] }
noncomputable def o278 (P : Params) : Obj := { cls := .type "tuple", data := .seq #[sv "self" 518] }
noncomputable def o279 (P : Params) : Obj := { cls := .type "tuple", data := .seq #[] }
noncomputable def o280 (P : Params) : Obj := { cls := .none, data := .func { name := Str.ofString "size", qualname := Str.ofString "Bank.size", params := paramsOf (mAt 10 18), body := .stmts (bodyOf (mAt 10 18)), scope := scopeOf (mAt 10 18), globals := 0, closure := [], defaults := .none, kwdefaults := .none } }
noncomputable def o281 (P : Params) : Obj := { cls := .type "code", data := .fields #[sv "size" 515, sv "Bank.size" 516, sv "/claim/cut.py" 517, .int 161 0, .int 1 0, .int 0 0, .int 0 0, .int 3 0, .ref 258, .bool Bool.true, .int 181 0, .ref 259, .none, .ref 260, .ref 261, .ref 262, .int 519 0, .int 161 0, sv "/claim/cut.py" 520] }
noncomputable def o282 (P : Params) : Obj := { cls := .type "function", data := .func { name := Str.ofString "size", qualname := Str.ofString "Bank.size", params := paramsOf (mAt 10 18), body := .stmts (bodyOf (mAt 10 18)), scope := scopeOf (mAt 10 18), globals := 3, closure := [], defaults := .none, kwdefaults := .none, pyModule := sv "minismt.terms" 350, code := .ref 263 } }
noncomputable def o283 (P : Params) : Obj := { cls := .type "tuple", data := .seq #[] }
noncomputable def o284 (P : Params) : Obj := { cls := .none, data := .fields #[] }
noncomputable def o285 (P : Params) : Obj := { cls := .type "tuple", data := .seq #[sv "self" 525, sv "op" 526, sv "args" 527, sv "sort" 528, sv "data" 529, sv "key" 530, sv "found" 531] }
noncomputable def o286 (P : Params) : Obj := { cls := .type "tuple", data := .seq #[] }
noncomputable def o287 (P : Params) : Obj := { cls := .none, data := .func { name := Str.ofString "make", qualname := Str.ofString "Bank.make", params := paramsOf (mAt 10 19), body := .stmts (bodyOf (mAt 10 19)), scope := scopeOf (mAt 10 19), globals := 0, closure := [], defaults := .none, kwdefaults := .none } }
noncomputable def o288 (P : Params) : Obj := { cls := .type "code", data := .fields #[sv "make" 522, sv "Bank.make" 523, sv "/claim/cut.py" 524, .int 164 0, .int 5 0, .int 0 0, .int 0 0, .int 3 0, .ref 265, .bool Bool.true, .int 181 0, .ref 266, .none, .ref 267, .ref 268, .ref 269, .int 532 0, .int 164 0, sv "/claim/cut.py" 533] }
noncomputable def o289 (P : Params) : Obj := { cls := .type "function", data := .func { name := Str.ofString "make", qualname := Str.ofString "Bank.make", params := paramsOf (mAt 10 19), body := .stmts (bodyOf (mAt 10 19)), scope := scopeOf (mAt 10 19), globals := 3, closure := [], defaults := .none, kwdefaults := .none, pyModule := sv "minismt.terms" 350, code := .ref 270 } }
noncomputable def o290 (P : Params) : Obj := { cls := .type "tuple", data := .seq #[] }
noncomputable def o291 (P : Params) : Obj := { cls := .none, data := .fields #[] }
noncomputable def o292 (P : Params) : Obj := { cls := .type "tuple", data := .seq #[sv "self" 538, sv "op" 539, sv "args" 540, sv "sort" 541, sv "data" 542] }
noncomputable def o293 (P : Params) : Obj := { cls := .type "tuple", data := .seq #[] }
noncomputable def o294 (P : Params) : Obj := { cls := .none, data := .func { name := Str.ofString "find_made", qualname := Str.ofString "Bank.find_made", params := paramsOf (mAt 10 20), body := .stmts (bodyOf (mAt 10 20)), scope := scopeOf (mAt 10 20), globals := 0, closure := [], defaults := .none, kwdefaults := .none } }
noncomputable def o295 (P : Params) : Obj := { cls := .type "code", data := .fields #[sv "find_made" 535, sv "Bank.find_made" 536, sv "/claim/cut.py" 537, .int 176 0, .int 5 0, .int 0 0, .int 0 0, .int 3 0, .ref 272, .bool Bool.true, .int 181 0, .ref 273, .none, .ref 274, .ref 275, .ref 276, .int 543 0, .int 176 0, sv "/claim/cut.py" 544] }
noncomputable def o296 (P : Params) : Obj := { cls := .type "function", data := .func { name := Str.ofString "find_made", qualname := Str.ofString "Bank.find_made", params := paramsOf (mAt 10 20), body := .stmts (bodyOf (mAt 10 20)), scope := scopeOf (mAt 10 20), globals := 3, closure := [], defaults := .none, kwdefaults := .none, pyModule := sv "minismt.terms" 350, code := .ref 277 } }
noncomputable def o297 (P : Params) : Obj := { cls := .type "tuple", data := .seq #[] }
noncomputable def o298 (P : Params) : Obj := { cls := .none, data := .fields #[] }
noncomputable def o299 (P : Params) : Obj := { cls := .type "tuple", data := .seq #[sv "self" 549, sv "t" 550] }
noncomputable def o300 (P : Params) : Obj := { cls := .type "tuple", data := .seq #[] }
noncomputable def o301 (P : Params) : Obj := { cls := .none, data := .func { name := Str.ofString "is_value", qualname := Str.ofString "Bank.is_value", params := paramsOf (mAt 10 21), body := .stmts (bodyOf (mAt 10 21)), scope := scopeOf (mAt 10 21), globals := 0, closure := [], defaults := .none, kwdefaults := .none } }
noncomputable def o302 (P : Params) : Obj := { cls := .type "code", data := .fields #[sv "is_value" 546, sv "Bank.is_value" 547, sv "/claim/cut.py" 548, .int 179 0, .int 2 0, .int 0 0, .int 0 0, .int 3 0, .ref 279, .bool Bool.true, .int 181 0, .ref 280, .none, .ref 281, .ref 282, .ref 283, .int 551 0, .int 179 0, sv "/claim/cut.py" 552] }
noncomputable def o303 (P : Params) : Obj := { cls := .type "function", data := .func { name := Str.ofString "is_value", qualname := Str.ofString "Bank.is_value", params := paramsOf (mAt 10 21), body := .stmts (bodyOf (mAt 10 21)), scope := scopeOf (mAt 10 21), globals := 3, closure := [], defaults := .none, kwdefaults := .none, pyModule := sv "minismt.terms" 350, code := .ref 284 } }
noncomputable def o304 (P : Params) : Obj := { cls := .type "tuple", data := .seq #[] }
noncomputable def o305 (P : Params) : Obj := { cls := .none, data := .fields #[] }
noncomputable def o306 (P : Params) : Obj := { cls := .type "tuple", data := .seq #[sv "self" 557, sv "t" 558, sv "s" 559, sv "where" 560] }
noncomputable def o307 (P : Params) : Obj := { cls := .type "tuple", data := .seq #[] }
noncomputable def o308 (P : Params) : Obj := { cls := .none, data := .func { name := Str.ofString "want", qualname := Str.ofString "Bank.want", params := paramsOf (mAt 10 22), body := .stmts (bodyOf (mAt 10 22)), scope := scopeOf (mAt 10 22), globals := 0, closure := [], defaults := .none, kwdefaults := .none } }
noncomputable def o309 (P : Params) : Obj := { cls := .type "code", data := .fields #[sv "want" 554, sv "Bank.want" 555, sv "/claim/cut.py" 556, .int 182 0, .int 4 0, .int 0 0, .int 0 0, .int 3 0, .ref 286, .bool Bool.true, .int 181 0, .ref 287, .none, .ref 288, .ref 289, .ref 290, .int 561 0, .int 182 0, sv "/claim/cut.py" 562] }
noncomputable def o310 (P : Params) : Obj := { cls := .type "function", data := .func { name := Str.ofString "want", qualname := Str.ofString "Bank.want", params := paramsOf (mAt 10 22), body := .stmts (bodyOf (mAt 10 22)), scope := scopeOf (mAt 10 22), globals := 3, closure := [], defaults := .none, kwdefaults := .none, pyModule := sv "minismt.terms" 350, code := .ref 291 } }
noncomputable def o311 (P : Params) : Obj := { cls := .type "tuple", data := .seq #[] }
noncomputable def o312 (P : Params) : Obj := { cls := .none, data := .fields #[] }
noncomputable def o313 (P : Params) : Obj := { cls := .type "tuple", data := .seq #[sv "self" 567, sv "some" 568, sv "s" 569, sv "where" 570, sv "t" 571] }
noncomputable def o314 (P : Params) : Obj := { cls := .type "tuple", data := .seq #[] }
noncomputable def o315 (P : Params) : Obj := { cls := .none, data := .func { name := Str.ofString "want_all", qualname := Str.ofString "Bank.want_all", params := paramsOf (mAt 10 23), body := .stmts (bodyOf (mAt 10 23)), scope := scopeOf (mAt 10 23), globals := 0, closure := [], defaults := .none, kwdefaults := .none } }
noncomputable def o316 (P : Params) : Obj := { cls := .type "code", data := .fields #[sv "want_all" 564, sv "Bank.want_all" 565, sv "/claim/cut.py" 566, .int 186 0, .int 4 0, .int 0 0, .int 0 0, .int 3 0, .ref 293, .bool Bool.true, .int 181 0, .ref 294, .none, .ref 295, .ref 296, .ref 297, .int 572 0, .int 186 0, sv "/claim/cut.py" 573] }
noncomputable def o317 (P : Params) : Obj := { cls := .type "function", data := .func { name := Str.ofString "want_all", qualname := Str.ofString "Bank.want_all", params := paramsOf (mAt 10 23), body := .stmts (bodyOf (mAt 10 23)), scope := scopeOf (mAt 10 23), globals := 3, closure := [], defaults := .none, kwdefaults := .none, pyModule := sv "minismt.terms" 350, code := .ref 298 } }
noncomputable def o318 (P : Params) : Obj := { cls := .type "tuple", data := .seq #[] }
noncomputable def o319 (P : Params) : Obj := { cls := .none, data := .fields #[] }
noncomputable def o320 (P : Params) : Obj := { cls := .type "tuple", data := .seq #[sv "self" 578] }
noncomputable def o321 (P : Params) : Obj := { cls := .type "tuple", data := .seq #[] }
noncomputable def o322 (P : Params) : Obj := { cls := .none, data := .func { name := Str.ofString "true_term", qualname := Str.ofString "Bank.true_term", params := paramsOf (mAt 10 24), body := .stmts (bodyOf (mAt 10 24)), scope := scopeOf (mAt 10 24), globals := 0, closure := [], defaults := .none, kwdefaults := .none } }
noncomputable def o323 (P : Params) : Obj := { cls := .type "code", data := .fields #[sv "true_term" 575, sv "Bank.true_term" 576, sv "/claim/cut.py" 577, .int 190 0, .int 1 0, .int 0 0, .int 0 0, .int 3 0, .ref 300, .bool Bool.true, .int 181 0, .ref 301, .none, .ref 302, .ref 303, .ref 304, .int 579 0, .int 190 0, sv "/claim/cut.py" 580] }
noncomputable def o324 (P : Params) : Obj := { cls := .type "function", data := .func { name := Str.ofString "true_term", qualname := Str.ofString "Bank.true_term", params := paramsOf (mAt 10 24), body := .stmts (bodyOf (mAt 10 24)), scope := scopeOf (mAt 10 24), globals := 3, closure := [], defaults := .none, kwdefaults := .none, pyModule := sv "minismt.terms" 350, code := .ref 305 } }
noncomputable def o325 (P : Params) : Obj := { cls := .type "tuple", data := .seq #[] }
noncomputable def o326 (P : Params) : Obj := { cls := .none, data := .fields #[] }
noncomputable def o327 (P : Params) : Obj := { cls := .type "tuple", data := .seq #[sv "self" 585] }
noncomputable def o328 (P : Params) : Obj := { cls := .type "tuple", data := .seq #[] }
noncomputable def o329 (P : Params) : Obj := { cls := .none, data := .func { name := Str.ofString "false_term", qualname := Str.ofString "Bank.false_term", params := paramsOf (mAt 10 25), body := .stmts (bodyOf (mAt 10 25)), scope := scopeOf (mAt 10 25), globals := 0, closure := [], defaults := .none, kwdefaults := .none } }
noncomputable def o330 (P : Params) : Obj := { cls := .type "code", data := .fields #[sv "false_term" 582, sv "Bank.false_term" 583, sv "/claim/cut.py" 584, .int 193 0, .int 1 0, .int 0 0, .int 0 0, .int 3 0, .ref 307, .bool Bool.true, .int 181 0, .ref 308, .none, .ref 309, .ref 310, .ref 311, .int 586 0, .int 193 0, sv "/claim/cut.py" 587] }
noncomputable def o331 (P : Params) : Obj := { cls := .type "function", data := .func { name := Str.ofString "false_term", qualname := Str.ofString "Bank.false_term", params := paramsOf (mAt 10 25), body := .stmts (bodyOf (mAt 10 25)), scope := scopeOf (mAt 10 25), globals := 3, closure := [], defaults := .none, kwdefaults := .none, pyModule := sv "minismt.terms" 350, code := .ref 312 } }
noncomputable def o332 (P : Params) : Obj := { cls := .type "tuple", data := .seq #[] }
noncomputable def o333 (P : Params) : Obj := { cls := .none, data := .fields #[] }
noncomputable def o334 (P : Params) : Obj := { cls := .type "tuple", data := .seq #[sv "self" 592, sv "holds" 593] }
noncomputable def o335 (P : Params) : Obj := { cls := .type "tuple", data := .seq #[] }
noncomputable def o336 (P : Params) : Obj := { cls := .none, data := .func { name := Str.ofString "bool_term", qualname := Str.ofString "Bank.bool_term", params := paramsOf (mAt 10 26), body := .stmts (bodyOf (mAt 10 26)), scope := scopeOf (mAt 10 26), globals := 0, closure := [], defaults := .none, kwdefaults := .none } }
noncomputable def o337 (P : Params) : Obj := { cls := .type "code", data := .fields #[sv "bool_term" 589, sv "Bank.bool_term" 590, sv "/claim/cut.py" 591, .int 196 0, .int 2 0, .int 0 0, .int 0 0, .int 3 0, .ref 314, .bool Bool.true, .int 181 0, .ref 315, .none, .ref 316, .ref 317, .ref 318, .int 594 0, .int 196 0, sv "/claim/cut.py" 595] }
noncomputable def o338 (P : Params) : Obj := { cls := .type "function", data := .func { name := Str.ofString "bool_term", qualname := Str.ofString "Bank.bool_term", params := paramsOf (mAt 10 26), body := .stmts (bodyOf (mAt 10 26)), scope := scopeOf (mAt 10 26), globals := 3, closure := [], defaults := .none, kwdefaults := .none, pyModule := sv "minismt.terms" 350, code := .ref 319 } }
noncomputable def o339 (P : Params) : Obj := { cls := .type "tuple", data := .seq #[] }
noncomputable def o340 (P : Params) : Obj := { cls := .none, data := .fields #[] }
noncomputable def o341 (P : Params) : Obj := { cls := .type "tuple", data := .seq #[sv "self" 600, sv "t" 601] }
noncomputable def o342 (P : Params) : Obj := { cls := .type "tuple", data := .seq #[] }
noncomputable def o343 (P : Params) : Obj := { cls := .none, data := .func { name := Str.ofString "parts", qualname := Str.ofString "Bank.parts", params := paramsOf (mAt 10 27), body := .stmts (bodyOf (mAt 10 27)), scope := scopeOf (mAt 10 27), globals := 0, closure := [], defaults := .none, kwdefaults := .none } }
noncomputable def o344 (P : Params) : Obj := { cls := .type "code", data := .fields #[sv "parts" 597, sv "Bank.parts" 598, sv "/claim/cut.py" 599, .int 199 0, .int 2 0, .int 0 0, .int 0 0, .int 3 0, .ref 321, .bool Bool.true, .int 181 0, .ref 322, .none, .ref 323, .ref 324, .ref 325, .int 602 0, .int 199 0, sv "/claim/cut.py" 603] }
noncomputable def o345 (P : Params) : Obj := { cls := .type "function", data := .func { name := Str.ofString "parts", qualname := Str.ofString "Bank.parts", params := paramsOf (mAt 10 27), body := .stmts (bodyOf (mAt 10 27)), scope := scopeOf (mAt 10 27), globals := 3, closure := [], defaults := .none, kwdefaults := .none, pyModule := sv "minismt.terms" 350, code := .ref 326 } }
noncomputable def o346 (P : Params) : Obj := { cls := .type "tuple", data := .seq #[] }
noncomputable def o347 (P : Params) : Obj := { cls := .none, data := .fields #[] }
noncomputable def o348 (P : Params) : Obj := { cls := .type "tuple", data := .seq #[sv "self" 608, sv "some" 609, sv "found" 610, sv "done" 611, sv "root" 612, sv "stack" 613, sv "t" 614, sv "is_open" 615, sv "part" 616] }
noncomputable def o349 (P : Params) : Obj := { cls := .type "tuple", data := .seq #[] }
noncomputable def o350 (P : Params) : Obj := { cls := .none, data := .func { name := Str.ofString "parts_of_all", qualname := Str.ofString "Bank.parts_of_all", params := paramsOf (mAt 10 28), body := .stmts (bodyOf (mAt 10 28)), scope := scopeOf (mAt 10 28), globals := 0, closure := [], defaults := .none, kwdefaults := .none } }
noncomputable def o351 (P : Params) : Obj := { cls := .type "code", data := .fields #[sv "parts_of_all" 605, sv "Bank.parts_of_all" 606, sv "/claim/cut.py" 607, .int 202 0, .int 2 0, .int 0 0, .int 0 0, .int 3 0, .ref 328, .bool Bool.true, .int 181 0, .ref 329, .none, .ref 330, .ref 331, .ref 332, .int 617 0, .int 202 0, sv "/claim/cut.py" 618] }
noncomputable def o352 (P : Params) : Obj := { cls := .type "function", data := .func { name := Str.ofString "parts_of_all", qualname := Str.ofString "Bank.parts_of_all", params := paramsOf (mAt 10 28), body := .stmts (bodyOf (mAt 10 28)), scope := scopeOf (mAt 10 28), globals := 3, closure := [], defaults := .none, kwdefaults := .none, pyModule := sv "minismt.terms" 350, code := .ref 333 } }
noncomputable def o353 (P : Params) : Obj := { cls := .type "tuple", data := .seq #[sv "false_number" 620, sv "fresh_count" 621, sv "fun_args" 622, sv "fun_names" 623, sv "fun_results" 624, sv "numbers" 625, sv "sort_names" 626, sv "sort_widths" 627, sv "term_args" 628, sv "term_datas" 629, sv "term_ops" 630, sv "term_sorts" 631, sv "true_number" 632] }
noncomputable def o354 (P : Params) : Obj := { cls := .type "dict", data := .dict #[{ hash := kh P "__module__", key := sv "__module__" 363, val := sv "minismt.terms" 350 }, { hash := kh P "__firstlineno__", key := sv "__firstlineno__" 367, val := .int 90 366 }, { hash := kh P "__init__", key := sv "__init__" 374, val := .ref 138 }, { hash := kh P "sort_name", key := sv "sort_name" 382, val := .ref 145 }, { hash := kh P "declare_sort", key := sv "declare_sort" 390, val := .ref 152 }, { hash := kh P "width_of", key := sv "width_of" 398, val := .ref 159 }, { hash := kh P "is_number_sort", key := sv "is_number_sort" 406, val := .ref 166 }, { hash := kh P "is_free_sort", key := sv "is_free_sort" 414, val := .ref 173 }, { hash := kh P "declare_fun", key := sv "declare_fun" 424, val := .ref 180 }, { hash := kh P "fresh_fun", key := sv "fresh_fun" 434, val := .ref 187 }, { hash := kh P "fresh_const", key := sv "fresh_const" 443, val := .ref 194 }, { hash := kh P "fun_name", key := sv "fun_name" 451, val := .ref 201 }, { hash := kh P "fun_arg_sorts", key := sv "fun_arg_sorts" 459, val := .ref 208 }, { hash := kh P "fun_result", key := sv "fun_result" 467, val := .ref 215 }, { hash := kh P "fun_count", key := sv "fun_count" 474, val := .ref 222 }, { hash := kh P "op", key := sv "op" 482, val := .ref 229 }, { hash := kh P "args", key := sv "args" 490, val := .ref 236 }, { hash := kh P "sort", key := sv "sort" 498, val := .ref 243 }, { hash := kh P "data", key := sv "data" 506, val := .ref 250 }, { hash := kh P "width", key := sv "width" 514, val := .ref 257 }, { hash := kh P "size", key := sv "size" 521, val := .ref 264 }, { hash := kh P "make", key := sv "make" 534, val := .ref 271 }, { hash := kh P "find_made", key := sv "find_made" 545, val := .ref 278 }, { hash := kh P "is_value", key := sv "is_value" 553, val := .ref 285 }, { hash := kh P "want", key := sv "want" 563, val := .ref 292 }, { hash := kh P "want_all", key := sv "want_all" 574, val := .ref 299 }, { hash := kh P "true_term", key := sv "true_term" 581, val := .ref 306 }, { hash := kh P "false_term", key := sv "false_term" 588, val := .ref 313 }, { hash := kh P "bool_term", key := sv "bool_term" 596, val := .ref 320 }, { hash := kh P "parts", key := sv "parts" 604, val := .ref 327 }, { hash := kh P "parts_of_all", key := sv "parts_of_all" 619, val := .ref 334 }, { hash := kh P "__static_attributes__", key := sv "__static_attributes__" 633, val := .ref 335 }, { hash := kh P "__dict__", key := sv "__dict__" 635, val := .ref 338 }, { hash := kh P "__weakref__", key := sv "__weakref__" 637, val := .ref 339 }, { hash := kh P "__doc__", key := sv "__doc__" 638, val := .none }] 4 }
noncomputable def o355 (P : Params) : Obj := { cls := .type "type", data := .cls { name := Str.ofString "Bank", bases := [.type "object"], mro := [.ref 337, .type "object"], ns := 336, qualname := Str.ofString "Bank" }, slots := #[none, none, some (sv "Bank" 356), some (sv "Bank" 364), some (.builtin "object.__new__"), some (.bool Bool.true)] }
noncomputable def o356 (P : Params) : Obj := { cls := .type "getset_descriptor", data := .fields #[sv "__dict__" 634, .ref 337, .builtin "function.__dict__", .builtin "function.__dict__#set"] }
noncomputable def o357 (P : Params) : Obj := { cls := .type "getset_descriptor", data := .fields #[sv "__weakref__" 636, .ref 337, .builtin "ExceptionGroup.__weakref__", .none] }
noncomputable def o358 (P : Params) : Obj := { cls := .type "super", data := .fields #[.ref 337, .ref 337, .ref 337] }
noncomputable def o359 (P : Params) : Obj := { cls := .type "builtin_function_or_method", data := .fields #[.builtin "object.__init_subclass__", .ref 337] }
noncomputable def o526 (P : Params) : Obj := { cls := .type "dict", data := .dict #[{ hash := kh P "__name__", key := sv "__name__" 165, val := sv "law_no0008_01" 774 }, { hash := kh P "__doc__", key := sv "__doc__" 166, val := .none }, { hash := kh P "__package__", key := sv "__package__" 167, val := .none }, { hash := kh P "__loader__", key := sv "__loader__" 168, val := .builtin "__main__.__loader__#opaque" }, { hash := kh P "__spec__", key := sv "__spec__" 169, val := .none }, { hash := kh P "__annotations__", key := sv "__annotations__" 170, val := .ref 6 }, { hash := kh P "__builtins__", key := sv "__builtins__" 171, val := .ref 4 }, { hash := kh P "__file__", key := sv "__file__" 173, val := sv "/claim/cut.py" 172 }, { hash := kh P "__cached__", key := sv "__cached__" 174, val := .none }, { hash := kh P "_wall", key := sv "_wall" 193, val := .ref 21 }, { hash := kh P "VALUES", key := sv "VALUES" 198, val := .ref 22 }, { hash := kh P "PlainClosing", key := sv "PlainClosing" 286, val := .ref 72 }, { hash := kh P "SmtError", key := sv "SmtError" 326, val := .ref 102 }, { hash := kh P "SortFault", key := sv "SortFault" 349, val := .ref 122 }, { hash := kh P "BOOL", key := sv "BOOL" 353, val := .int 0 352 }, { hash := kh P "INT", key := sv "INT" 355, val := .int 1 354 }, { hash := kh P "Bank", key := sv "Bank" 640, val := .ref 337 }, { hash := kh P "BoolBank", key := sv "BoolBank" 773, val := .ref 442 }, { hash := kh P "_law_draw", key := sv "_law_draw" 785, val := .ref 451 }, { hash := kh P "_law_pick", key := sv "_law_pick" 793, val := .ref 458 }, { hash := kh P "_law_pools", key := sv "_law_pools" 799, val := .ref 463 }, { hash := kh P "_law_tied", key := sv "_law_tied" 812, val := .ref 470 }, { hash := kh P "_law_truths_tied", key := sv "_law_truths_tied" 828, val := .ref 477 }, { hash := kh P "_law_closed", key := sv "_law_closed" 834, val := .ref 482 }, { hash := kh P "_law_are_alike", key := sv "_law_are_alike" 845, val := .ref 489 }, { hash := kh P "law", key := sv "law" 851, val := .ref 494 }] 26 }
noncomputable def o527 (P : Params) : Obj := { cls := .none, data := .fields #[.int 1 0, .int 0 0, .ref 20, .int 6 0, .int 0 0, .ref 28, .int 75 0, .int 0 0, .ref 83, .int 83 0, .int 0 0, .ref 111, .int 90 0, .int 0 0, .ref 130, .int 219 0, .int 0 0, .ref 347, .int 280 0, .int 0 0, .ref 450, .int 286 0, .int 0 0, .ref 457, .int 288 0, .int 0 0, .ref 462, .int 309 0, .int 0 0, .ref 469, .int 318 0, .int 0 0, .ref 476, .int 329 0, .int 0 0, .ref 481, .int 343 0, .int 0 0, .ref 488, .int 349 0, .int 0 0, .ref 493] }
noncomputable def o362 (P : Params) : Obj := { cls := .type "type", data := .cls { name := Str.ofString "Bank", bases := [.type "object"], mro := [.ref 337, .type "object"], ns := 336, qualname := Str.ofString "Bank", subclasses := [.ref 442] }, slots := #[none, none, some (sv "Bank" 356), some (sv "Bank" 364), some (.builtin "object.__new__"), some (.bool Bool.true)] }
noncomputable def o363 (P : Params) : Obj := { cls := .type "tuple", data := .seq #[.ref 337] }
noncomputable def o364 (P : Params) : Obj := { cls := .type "builtin_function_or_method", data := .fields #[.builtin "type.__prepare__", .type "type"] }
noncomputable def o365 (P : Params) : Obj := { cls := .type "dict", data := .dict #[{ hash := kh P "__module__", key := sv "__module__" 648, val := sv "minismt.terms" 350 }, { hash := kh P "__qualname__", key := sv "__qualname__" 650, val := sv "BoolBank" 649 }, { hash := kh P "__firstlineno__", key := sv "__firstlineno__" 652, val := .int 219 651 }, { hash := kh P "not_of", key := sv "not_of" 660, val := .ref 355 }, { hash := kh P "and_of", key := sv "and_of" 668, val := .ref 362 }, { hash := kh P "or_of", key := sv "or_of" 676, val := .ref 369 }, { hash := kh P "xor_of", key := sv "xor_of" 685, val := .ref 376 }, { hash := kh P "implies_of", key := sv "implies_of" 694, val := .ref 383 }, { hash := kh P "iff", key := sv "iff" 703, val := .ref 390 }, { hash := kh P "eq", key := sv "eq" 712, val := .ref 397 }, { hash := kh P "distinct", key := sv "distinct" 720, val := .ref 404 }, { hash := kh P "ite", key := sv "ite" 730, val := .ref 411 }, { hash := kh P "app", key := sv "app" 742, val := .ref 418 }, { hash := kh P "folded", key := sv "folded" 751, val := .ref 425 }, { hash := kh P "with_args", key := sv "with_args" 760, val := .ref 432 }, { hash := kh P "replaced", key := sv "replaced" 769, val := .ref 439 }, { hash := kh P "__static_attributes__", key := sv "__static_attributes__" 770, val := .ref 440 }] 17 }
noncomputable def o366 (P : Params) : Obj := { cls := .type "tuple", data := .seq #[] }
noncomputable def o367 (P : Params) : Obj := { cls := .none, data := .fields #[.int 221 0, .int 4 0, .ref 354, .int 231 0, .int 4 0, .ref 361, .int 237 0, .int 4 0, .ref 368, .int 240 0, .int 4 0, .ref 375, .int 243 0, .int 4 0, .ref 382, .int 246 0, .int 4 0, .ref 389, .int 249 0, .int 4 0, .ref 396, .int 255 0, .int 4 0, .ref 403, .int 258 0, .int 4 0, .ref 410, .int 263 0, .int 4 0, .ref 417, .int 271 0, .int 4 0, .ref 424, .int 274 0, .int 4 0, .ref 431, .int 277 0, .int 4 0, .ref 438] }
noncomputable def o368 (P : Params) : Obj := { cls := .type "code", data := .fields #[sv "BoolBank" 643, sv "BoolBank" 644, sv "/claim/cut.py" 645, .int 219 0, .int 0 0, .int 0 0, .int 0 0, .int 0 0, .ref 345, .bool Bool.false, .int 181 0, .ref 346, .none, .none, .none, .none, .int 646 0, .int 219 0, sv "/claim/cut.py" 647] }
noncomputable def o369 (P : Params) : Obj := { cls := .type "frame", slots := #[some (.ref 347), some (.ref 3), some (.ref 344), none, some (sv "minismt.terms" 350), none, some (.ref 0)] }
noncomputable def o370 (P : Params) : Obj := { cls := .type "tuple", data := .seq #[] }
noncomputable def o371 (P : Params) : Obj := { cls := .none, data := .fields #[] }
noncomputable def o372 (P : Params) : Obj := { cls := .type "tuple", data := .seq #[sv "self" 656, sv "t" 657] }
noncomputable def o373 (P : Params) : Obj := { cls := .type "tuple", data := .seq #[] }
noncomputable def o374 (P : Params) : Obj := { cls := .none, data := .func { name := Str.ofString "not_of", qualname := Str.ofString "BoolBank.not_of", params := paramsOf (mAt 11 0), body := .stmts (bodyOf (mAt 11 0)), scope := scopeOf (mAt 11 0), globals := 0, closure := [], defaults := .none, kwdefaults := .none } }
noncomputable def o375 (P : Params) : Obj := { cls := .type "code", data := .fields #[sv "not_of" 653, sv "BoolBank.not_of" 654, sv "/claim/cut.py" 655, .int 221 0, .int 2 0, .int 0 0, .int 0 0, .int 3 0, .ref 349, .bool Bool.true, .int 181 0, .ref 350, .none, .ref 351, .ref 352, .ref 353, .int 658 0, .int 221 0, sv "/claim/cut.py" 659] }
noncomputable def o376 (P : Params) : Obj := { cls := .type "function", data := .func { name := Str.ofString "not_of", qualname := Str.ofString "BoolBank.not_of", params := paramsOf (mAt 11 0), body := .stmts (bodyOf (mAt 11 0)), scope := scopeOf (mAt 11 0), globals := 3, closure := [], defaults := .none, kwdefaults := .none, pyModule := sv "minismt.terms" 350, code := .ref 354 } }
noncomputable def o377 (P : Params) : Obj := { cls := .type "tuple", data := .seq #[] }
noncomputable def o378 (P : Params) : Obj := { cls := .none, data := .fields #[] }
noncomputable def o379 (P : Params) : Obj := { cls := .type "tuple", data := .seq #[sv "self" 664, sv "some" 665] }
noncomputable def o380 (P : Params) : Obj := { cls := .type "tuple", data := .seq #[] }
noncomputable def o381 (P : Params) : Obj := { cls := .none, data := .func { name := Str.ofString "and_of", qualname := Str.ofString "BoolBank.and_of", params := paramsOf (mAt 11 1), body := .stmts (bodyOf (mAt 11 1)), scope := scopeOf (mAt 11 1), globals := 0, closure := [], defaults := .none, kwdefaults := .none } }
noncomputable def o382 (P : Params) : Obj := { cls := .type "code", data := .fields #[sv "and_of" 661, sv "BoolBank.and_of" 662, sv "/claim/cut.py" 663, .int 231 0, .int 2 0, .int 0 0, .int 0 0, .int 3 0, .ref 356, .bool Bool.true, .int 181 0, .ref 357, .none, .ref 358, .ref 359, .ref 360, .int 666 0, .int 231 0, sv "/claim/cut.py" 667] }
noncomputable def o383 (P : Params) : Obj := { cls := .type "function", data := .func { name := Str.ofString "and_of", qualname := Str.ofString "BoolBank.and_of", params := paramsOf (mAt 11 1), body := .stmts (bodyOf (mAt 11 1)), scope := scopeOf (mAt 11 1), globals := 3, closure := [], defaults := .none, kwdefaults := .none, pyModule := sv "minismt.terms" 350, code := .ref 361 } }
noncomputable def o384 (P : Params) : Obj := { cls := .type "tuple", data := .seq #[] }
noncomputable def o385 (P : Params) : Obj := { cls := .none, data := .fields #[] }
noncomputable def o386 (P : Params) : Obj := { cls := .type "tuple", data := .seq #[sv "self" 672, sv "some" 673] }
noncomputable def o387 (P : Params) : Obj := { cls := .type "tuple", data := .seq #[] }
noncomputable def o388 (P : Params) : Obj := { cls := .none, data := .func { name := Str.ofString "or_of", qualname := Str.ofString "BoolBank.or_of", params := paramsOf (mAt 11 2), body := .stmts (bodyOf (mAt 11 2)), scope := scopeOf (mAt 11 2), globals := 0, closure := [], defaults := .none, kwdefaults := .none } }
noncomputable def o389 (P : Params) : Obj := { cls := .type "code", data := .fields #[sv "or_of" 669, sv "BoolBank.or_of" 670, sv "/claim/cut.py" 671, .int 237 0, .int 2 0, .int 0 0, .int 0 0, .int 3 0, .ref 363, .bool Bool.true, .int 181 0, .ref 364, .none, .ref 365, .ref 366, .ref 367, .int 674 0, .int 237 0, sv "/claim/cut.py" 675] }
noncomputable def o390 (P : Params) : Obj := { cls := .type "function", data := .func { name := Str.ofString "or_of", qualname := Str.ofString "BoolBank.or_of", params := paramsOf (mAt 11 2), body := .stmts (bodyOf (mAt 11 2)), scope := scopeOf (mAt 11 2), globals := 3, closure := [], defaults := .none, kwdefaults := .none, pyModule := sv "minismt.terms" 350, code := .ref 368 } }
noncomputable def o391 (P : Params) : Obj := { cls := .type "tuple", data := .seq #[] }
noncomputable def o392 (P : Params) : Obj := { cls := .none, data := .fields #[] }
noncomputable def o393 (P : Params) : Obj := { cls := .type "tuple", data := .seq #[sv "self" 680, sv "a" 681, sv "b" 682] }
noncomputable def o394 (P : Params) : Obj := { cls := .type "tuple", data := .seq #[] }
noncomputable def o395 (P : Params) : Obj := { cls := .none, data := .func { name := Str.ofString "xor_of", qualname := Str.ofString "BoolBank.xor_of", params := paramsOf (mAt 11 3), body := .stmts (bodyOf (mAt 11 3)), scope := scopeOf (mAt 11 3), globals := 0, closure := [], defaults := .none, kwdefaults := .none } }
noncomputable def o396 (P : Params) : Obj := { cls := .type "code", data := .fields #[sv "xor_of" 677, sv "BoolBank.xor_of" 678, sv "/claim/cut.py" 679, .int 240 0, .int 3 0, .int 0 0, .int 0 0, .int 3 0, .ref 370, .bool Bool.true, .int 181 0, .ref 371, .none, .ref 372, .ref 373, .ref 374, .int 683 0, .int 240 0, sv "/claim/cut.py" 684] }
noncomputable def o397 (P : Params) : Obj := { cls := .type "function", data := .func { name := Str.ofString "xor_of", qualname := Str.ofString "BoolBank.xor_of", params := paramsOf (mAt 11 3), body := .stmts (bodyOf (mAt 11 3)), scope := scopeOf (mAt 11 3), globals := 3, closure := [], defaults := .none, kwdefaults := .none, pyModule := sv "minismt.terms" 350, code := .ref 375 } }
noncomputable def o398 (P : Params) : Obj := { cls := .type "tuple", data := .seq #[] }
noncomputable def o399 (P : Params) : Obj := { cls := .none, data := .fields #[] }
noncomputable def o400 (P : Params) : Obj := { cls := .type "tuple", data := .seq #[sv "self" 689, sv "a" 690, sv "b" 691] }
noncomputable def o401 (P : Params) : Obj := { cls := .type "tuple", data := .seq #[] }
noncomputable def o402 (P : Params) : Obj := { cls := .none, data := .func { name := Str.ofString "implies_of", qualname := Str.ofString "BoolBank.implies_of", params := paramsOf (mAt 11 4), body := .stmts (bodyOf (mAt 11 4)), scope := scopeOf (mAt 11 4), globals := 0, closure := [], defaults := .none, kwdefaults := .none } }
noncomputable def o403 (P : Params) : Obj := { cls := .type "code", data := .fields #[sv "implies_of" 686, sv "BoolBank.implies_of" 687, sv "/claim/cut.py" 688, .int 243 0, .int 3 0, .int 0 0, .int 0 0, .int 3 0, .ref 377, .bool Bool.true, .int 181 0, .ref 378, .none, .ref 379, .ref 380, .ref 381, .int 692 0, .int 243 0, sv "/claim/cut.py" 693] }
noncomputable def o404 (P : Params) : Obj := { cls := .type "function", data := .func { name := Str.ofString "implies_of", qualname := Str.ofString "BoolBank.implies_of", params := paramsOf (mAt 11 4), body := .stmts (bodyOf (mAt 11 4)), scope := scopeOf (mAt 11 4), globals := 3, closure := [], defaults := .none, kwdefaults := .none, pyModule := sv "minismt.terms" 350, code := .ref 382 } }
noncomputable def o405 (P : Params) : Obj := { cls := .type "tuple", data := .seq #[] }
noncomputable def o406 (P : Params) : Obj := { cls := .none, data := .fields #[] }
noncomputable def o407 (P : Params) : Obj := { cls := .type "tuple", data := .seq #[sv "self" 698, sv "a" 699, sv "b" 700] }
noncomputable def o408 (P : Params) : Obj := { cls := .type "tuple", data := .seq #[] }
noncomputable def o409 (P : Params) : Obj := { cls := .none, data := .func { name := Str.ofString "iff", qualname := Str.ofString "BoolBank.iff", params := paramsOf (mAt 11 5), body := .stmts (bodyOf (mAt 11 5)), scope := scopeOf (mAt 11 5), globals := 0, closure := [], defaults := .none, kwdefaults := .none } }
noncomputable def o410 (P : Params) : Obj := { cls := .type "code", data := .fields #[sv "iff" 695, sv "BoolBank.iff" 696, sv "/claim/cut.py" 697, .int 246 0, .int 3 0, .int 0 0, .int 0 0, .int 3 0, .ref 384, .bool Bool.true, .int 181 0, .ref 385, .none, .ref 386, .ref 387, .ref 388, .int 701 0, .int 246 0, sv "/claim/cut.py" 702] }
noncomputable def o411 (P : Params) : Obj := { cls := .type "function", data := .func { name := Str.ofString "iff", qualname := Str.ofString "BoolBank.iff", params := paramsOf (mAt 11 5), body := .stmts (bodyOf (mAt 11 5)), scope := scopeOf (mAt 11 5), globals := 3, closure := [], defaults := .none, kwdefaults := .none, pyModule := sv "minismt.terms" 350, code := .ref 389 } }
noncomputable def o412 (P : Params) : Obj := { cls := .type "tuple", data := .seq #[] }
noncomputable def o413 (P : Params) : Obj := { cls := .none, data := .fields #[] }
noncomputable def o414 (P : Params) : Obj := { cls := .type "tuple", data := .seq #[sv "self" 707, sv "a" 708, sv "b" 709] }
noncomputable def o415 (P : Params) : Obj := { cls := .type "tuple", data := .seq #[] }
noncomputable def o416 (P : Params) : Obj := { cls := .none, data := .func { name := Str.ofString "eq", qualname := Str.ofString "BoolBank.eq", params := paramsOf (mAt 11 6), body := .stmts (bodyOf (mAt 11 6)), scope := scopeOf (mAt 11 6), globals := 0, closure := [], defaults := .none, kwdefaults := .none } }
noncomputable def o417 (P : Params) : Obj := { cls := .type "code", data := .fields #[sv "eq" 704, sv "BoolBank.eq" 705, sv "/claim/cut.py" 706, .int 249 0, .int 3 0, .int 0 0, .int 0 0, .int 3 0, .ref 391, .bool Bool.true, .int 181 0, .ref 392, .none, .ref 393, .ref 394, .ref 395, .int 710 0, .int 249 0, sv "/claim/cut.py" 711] }
noncomputable def o418 (P : Params) : Obj := { cls := .type "function", data := .func { name := Str.ofString "eq", qualname := Str.ofString "BoolBank.eq", params := paramsOf (mAt 11 6), body := .stmts (bodyOf (mAt 11 6)), scope := scopeOf (mAt 11 6), globals := 3, closure := [], defaults := .none, kwdefaults := .none, pyModule := sv "minismt.terms" 350, code := .ref 396 } }
noncomputable def o419 (P : Params) : Obj := { cls := .type "tuple", data := .seq #[] }
noncomputable def o420 (P : Params) : Obj := { cls := .none, data := .fields #[] }
noncomputable def o421 (P : Params) : Obj := { cls := .type "tuple", data := .seq #[sv "self" 716, sv "some" 717] }
noncomputable def o422 (P : Params) : Obj := { cls := .type "tuple", data := .seq #[] }
noncomputable def o423 (P : Params) : Obj := { cls := .none, data := .func { name := Str.ofString "distinct", qualname := Str.ofString "BoolBank.distinct", params := paramsOf (mAt 11 7), body := .stmts (bodyOf (mAt 11 7)), scope := scopeOf (mAt 11 7), globals := 0, closure := [], defaults := .none, kwdefaults := .none } }
noncomputable def o424 (P : Params) : Obj := { cls := .type "code", data := .fields #[sv "distinct" 713, sv "BoolBank.distinct" 714, sv "/claim/cut.py" 715, .int 255 0, .int 2 0, .int 0 0, .int 0 0, .int 3 0, .ref 398, .bool Bool.true, .int 181 0, .ref 399, .none, .ref 400, .ref 401, .ref 402, .int 718 0, .int 255 0, sv "/claim/cut.py" 719] }
noncomputable def o425 (P : Params) : Obj := { cls := .type "function", data := .func { name := Str.ofString "distinct", qualname := Str.ofString "BoolBank.distinct", params := paramsOf (mAt 11 7), body := .stmts (bodyOf (mAt 11 7)), scope := scopeOf (mAt 11 7), globals := 3, closure := [], defaults := .none, kwdefaults := .none, pyModule := sv "minismt.terms" 350, code := .ref 403 } }
noncomputable def o426 (P : Params) : Obj := { cls := .type "tuple", data := .seq #[] }
noncomputable def o427 (P : Params) : Obj := { cls := .none, data := .fields #[] }
noncomputable def o428 (P : Params) : Obj := { cls := .type "tuple", data := .seq #[sv "self" 724, sv "c" 725, sv "a" 726, sv "b" 727] }
noncomputable def o429 (P : Params) : Obj := { cls := .type "tuple", data := .seq #[] }
noncomputable def o430 (P : Params) : Obj := { cls := .none, data := .func { name := Str.ofString "ite", qualname := Str.ofString "BoolBank.ite", params := paramsOf (mAt 11 8), body := .stmts (bodyOf (mAt 11 8)), scope := scopeOf (mAt 11 8), globals := 0, closure := [], defaults := .none, kwdefaults := .none } }
noncomputable def o431 (P : Params) : Obj := { cls := .type "code", data := .fields #[sv "ite" 721, sv "BoolBank.ite" 722, sv "/claim/cut.py" 723, .int 258 0, .int 4 0, .int 0 0, .int 0 0, .int 3 0, .ref 405, .bool Bool.true, .int 181 0, .ref 406, .none, .ref 407, .ref 408, .ref 409, .int 728 0, .int 258 0, sv "/claim/cut.py" 729] }
noncomputable def o432 (P : Params) : Obj := { cls := .type "function", data := .func { name := Str.ofString "ite", qualname := Str.ofString "BoolBank.ite", params := paramsOf (mAt 11 8), body := .stmts (bodyOf (mAt 11 8)), scope := scopeOf (mAt 11 8), globals := 3, closure := [], defaults := .none, kwdefaults := .none, pyModule := sv "minismt.terms" 350, code := .ref 410 } }
noncomputable def o433 (P : Params) : Obj := { cls := .type "tuple", data := .seq #[] }
noncomputable def o434 (P : Params) : Obj := { cls := .none, data := .fields #[] }
noncomputable def o435 (P : Params) : Obj := { cls := .type "tuple", data := .seq #[sv "self" 734, sv "f" 735, sv "some" 736, sv "sorts" 737, sv "t" 738, sv "s" 739] }
noncomputable def o436 (P : Params) : Obj := { cls := .type "tuple", data := .seq #[] }
noncomputable def o437 (P : Params) : Obj := { cls := .none, data := .func { name := Str.ofString "app", qualname := Str.ofString "BoolBank.app", params := paramsOf (mAt 11 9), body := .stmts (bodyOf (mAt 11 9)), scope := scopeOf (mAt 11 9), globals := 0, closure := [], defaults := .none, kwdefaults := .none } }
noncomputable def o438 (P : Params) : Obj := { cls := .type "code", data := .fields #[sv "app" 731, sv "BoolBank.app" 732, sv "/claim/cut.py" 733, .int 263 0, .int 3 0, .int 0 0, .int 0 0, .int 3 0, .ref 412, .bool Bool.true, .int 181 0, .ref 413, .none, .ref 414, .ref 415, .ref 416, .int 740 0, .int 263 0, sv "/claim/cut.py" 741] }
noncomputable def o439 (P : Params) : Obj := { cls := .type "function", data := .func { name := Str.ofString "app", qualname := Str.ofString "BoolBank.app", params := paramsOf (mAt 11 9), body := .stmts (bodyOf (mAt 11 9)), scope := scopeOf (mAt 11 9), globals := 3, closure := [], defaults := .none, kwdefaults := .none, pyModule := sv "minismt.terms" 350, code := .ref 417 } }
noncomputable def o440 (P : Params) : Obj := { cls := .type "tuple", data := .seq #[] }
noncomputable def o441 (P : Params) : Obj := { cls := .none, data := .fields #[] }
noncomputable def o442 (P : Params) : Obj := { cls := .type "tuple", data := .seq #[sv "self" 746, sv "t" 747, sv "args" 748] }
noncomputable def o443 (P : Params) : Obj := { cls := .type "tuple", data := .seq #[] }
noncomputable def o444 (P : Params) : Obj := { cls := .none, data := .func { name := Str.ofString "folded", qualname := Str.ofString "BoolBank.folded", params := paramsOf (mAt 11 10), body := .stmts (bodyOf (mAt 11 10)), scope := scopeOf (mAt 11 10), globals := 0, closure := [], defaults := .none, kwdefaults := .none } }
noncomputable def o445 (P : Params) : Obj := { cls := .type "code", data := .fields #[sv "folded" 743, sv "BoolBank.folded" 744, sv "/claim/cut.py" 745, .int 271 0, .int 3 0, .int 0 0, .int 0 0, .int 3 0, .ref 419, .bool Bool.true, .int 181 0, .ref 420, .none, .ref 421, .ref 422, .ref 423, .int 749 0, .int 271 0, sv "/claim/cut.py" 750] }
noncomputable def o446 (P : Params) : Obj := { cls := .type "function", data := .func { name := Str.ofString "folded", qualname := Str.ofString "BoolBank.folded", params := paramsOf (mAt 11 10), body := .stmts (bodyOf (mAt 11 10)), scope := scopeOf (mAt 11 10), globals := 3, closure := [], defaults := .none, kwdefaults := .none, pyModule := sv "minismt.terms" 350, code := .ref 424 } }
noncomputable def o447 (P : Params) : Obj := { cls := .type "tuple", data := .seq #[] }
noncomputable def o448 (P : Params) : Obj := { cls := .none, data := .fields #[] }
noncomputable def o449 (P : Params) : Obj := { cls := .type "tuple", data := .seq #[sv "self" 755, sv "t" 756, sv "args" 757] }
noncomputable def o450 (P : Params) : Obj := { cls := .type "tuple", data := .seq #[] }
noncomputable def o451 (P : Params) : Obj := { cls := .none, data := .func { name := Str.ofString "with_args", qualname := Str.ofString "BoolBank.with_args", params := paramsOf (mAt 11 11), body := .stmts (bodyOf (mAt 11 11)), scope := scopeOf (mAt 11 11), globals := 0, closure := [], defaults := .none, kwdefaults := .none } }
noncomputable def o452 (P : Params) : Obj := { cls := .type "code", data := .fields #[sv "with_args" 752, sv "BoolBank.with_args" 753, sv "/claim/cut.py" 754, .int 274 0, .int 3 0, .int 0 0, .int 0 0, .int 3 0, .ref 426, .bool Bool.true, .int 181 0, .ref 427, .none, .ref 428, .ref 429, .ref 430, .int 758 0, .int 274 0, sv "/claim/cut.py" 759] }
noncomputable def o453 (P : Params) : Obj := { cls := .type "function", data := .func { name := Str.ofString "with_args", qualname := Str.ofString "BoolBank.with_args", params := paramsOf (mAt 11 11), body := .stmts (bodyOf (mAt 11 11)), scope := scopeOf (mAt 11 11), globals := 3, closure := [], defaults := .none, kwdefaults := .none, pyModule := sv "minismt.terms" 350, code := .ref 431 } }
noncomputable def o454 (P : Params) : Obj := { cls := .type "tuple", data := .seq #[] }
noncomputable def o455 (P : Params) : Obj := { cls := .none, data := .fields #[] }
noncomputable def o456 (P : Params) : Obj := { cls := .type "tuple", data := .seq #[sv "self" 764, sv "t" 765, sv "table" 766] }
noncomputable def o457 (P : Params) : Obj := { cls := .type "tuple", data := .seq #[] }
noncomputable def o458 (P : Params) : Obj := { cls := .none, data := .func { name := Str.ofString "replaced", qualname := Str.ofString "BoolBank.replaced", params := paramsOf (mAt 11 12), body := .stmts (bodyOf (mAt 11 12)), scope := scopeOf (mAt 11 12), globals := 0, closure := [], defaults := .none, kwdefaults := .none } }
noncomputable def o459 (P : Params) : Obj := { cls := .type "code", data := .fields #[sv "replaced" 761, sv "BoolBank.replaced" 762, sv "/claim/cut.py" 763, .int 277 0, .int 3 0, .int 0 0, .int 0 0, .int 3 0, .ref 433, .bool Bool.true, .int 181 0, .ref 434, .none, .ref 435, .ref 436, .ref 437, .int 767 0, .int 277 0, sv "/claim/cut.py" 768] }
noncomputable def o460 (P : Params) : Obj := { cls := .type "function", data := .func { name := Str.ofString "replaced", qualname := Str.ofString "BoolBank.replaced", params := paramsOf (mAt 11 12), body := .stmts (bodyOf (mAt 11 12)), scope := scopeOf (mAt 11 12), globals := 3, closure := [], defaults := .none, kwdefaults := .none, pyModule := sv "minismt.terms" 350, code := .ref 438 } }
noncomputable def o461 (P : Params) : Obj := { cls := .type "tuple", data := .seq #[] }
noncomputable def o462 (P : Params) : Obj := { cls := .type "dict", data := .dict #[{ hash := kh P "__module__", key := sv "__module__" 648, val := sv "minismt.terms" 350 }, { hash := kh P "__firstlineno__", key := sv "__firstlineno__" 652, val := .int 219 651 }, { hash := kh P "not_of", key := sv "not_of" 660, val := .ref 355 }, { hash := kh P "and_of", key := sv "and_of" 668, val := .ref 362 }, { hash := kh P "or_of", key := sv "or_of" 676, val := .ref 369 }, { hash := kh P "xor_of", key := sv "xor_of" 685, val := .ref 376 }, { hash := kh P "implies_of", key := sv "implies_of" 694, val := .ref 383 }, { hash := kh P "iff", key := sv "iff" 703, val := .ref 390 }, { hash := kh P "eq", key := sv "eq" 712, val := .ref 397 }, { hash := kh P "distinct", key := sv "distinct" 720, val := .ref 404 }, { hash := kh P "ite", key := sv "ite" 730, val := .ref 411 }, { hash := kh P "app", key := sv "app" 742, val := .ref 418 }, { hash := kh P "folded", key := sv "folded" 751, val := .ref 425 }, { hash := kh P "with_args", key := sv "with_args" 760, val := .ref 432 }, { hash := kh P "replaced", key := sv "replaced" 769, val := .ref 439 }, { hash := kh P "__static_attributes__", key := sv "__static_attributes__" 770, val := .ref 440 }, { hash := kh P "__doc__", key := sv "__doc__" 771, val := .none }] 2 }
noncomputable def o463 (P : Params) : Obj := { cls := .type "type", data := .cls { name := Str.ofString "BoolBank", bases := [.ref 337], mro := [.ref 442, .ref 337, .type "object"], ns := 441, qualname := Str.ofString "BoolBank" }, slots := #[some (.ref 342), none, some (sv "BoolBank" 641), some (sv "BoolBank" 649), some (.builtin "object.__new__"), some (.bool Bool.true)] }
noncomputable def o464 (P : Params) : Obj := { cls := .type "super", data := .fields #[.ref 442, .ref 442, .ref 442] }
noncomputable def o465 (P : Params) : Obj := { cls := .type "builtin_function_or_method", data := .fields #[.builtin "object.__init_subclass__", .ref 442] }
noncomputable def o469 (P : Params) : Obj := { cls := .type "tuple", data := .seq #[] }
noncomputable def o470 (P : Params) : Obj := { cls := .none, data := .fields #[] }
noncomputable def o471 (P : Params) : Obj := { cls := .type "tuple", data := .seq #[sv "feed" 779, sv "wide" 780, sv "cells" 781, sv "spot" 782] }
noncomputable def o472 (P : Params) : Obj := { cls := .type "tuple", data := .seq #[] }
noncomputable def o473 (P : Params) : Obj := { cls := .none, data := .func { name := Str.ofString "_law_draw", qualname := Str.ofString "_law_draw", params := paramsOf (dAt 13), body := .stmts (bodyOf (dAt 13)), scope := scopeOf (dAt 13), globals := 0, closure := [], defaults := .none, kwdefaults := .none } }
noncomputable def o474 (P : Params) : Obj := { cls := .type "code", data := .fields #[sv "_law_draw" 776, sv "_law_draw" 777, sv "/claim/cut.py" 778, .int 280 0, .int 2 0, .int 0 0, .int 0 0, .int 3 0, .ref 445, .bool Bool.true, .int 181 0, .ref 446, .none, .ref 447, .ref 448, .ref 449, .int 783 0, .int 280 0, sv "/claim/cut.py" 784] }
noncomputable def o475 (P : Params) : Obj := { cls := .type "function", data := .func { name := Str.ofString "_law_draw", qualname := Str.ofString "_law_draw", params := paramsOf (dAt 13), body := .stmts (bodyOf (dAt 13)), scope := scopeOf (dAt 13), globals := 3, closure := [], defaults := .none, kwdefaults := .none, pyModule := sv "law_no0008_01" 774, code := .ref 450 } }
noncomputable def o478 (P : Params) : Obj := { cls := .type "tuple", data := .seq #[] }
noncomputable def o479 (P : Params) : Obj := { cls := .none, data := .fields #[] }
noncomputable def o480 (P : Params) : Obj := { cls := .type "tuple", data := .seq #[sv "feed" 789, sv "some" 790] }
noncomputable def o481 (P : Params) : Obj := { cls := .type "tuple", data := .seq #[] }
noncomputable def o482 (P : Params) : Obj := { cls := .none, data := .func { name := Str.ofString "_law_pick", qualname := Str.ofString "_law_pick", params := paramsOf (dAt 14), body := .stmts (bodyOf (dAt 14)), scope := scopeOf (dAt 14), globals := 0, closure := [], defaults := .none, kwdefaults := .none } }
noncomputable def o483 (P : Params) : Obj := { cls := .type "code", data := .fields #[sv "_law_pick" 786, sv "_law_pick" 787, sv "/claim/cut.py" 788, .int 286 0, .int 2 0, .int 0 0, .int 0 0, .int 3 0, .ref 452, .bool Bool.true, .int 181 0, .ref 453, .none, .ref 454, .ref 455, .ref 456, .int 791 0, .int 286 0, sv "/claim/cut.py" 792] }
noncomputable def o484 (P : Params) : Obj := { cls := .type "function", data := .func { name := Str.ofString "_law_pick", qualname := Str.ofString "_law_pick", params := paramsOf (dAt 14), body := .stmts (bodyOf (dAt 14)), scope := scopeOf (dAt 14), globals := 3, closure := [], defaults := .none, kwdefaults := .none, pyModule := sv "law_no0008_01" 774, code := .ref 457 } }
noncomputable def o487 (P : Params) : Obj := { cls := .type "tuple", data := .seq #[] }
noncomputable def o488 (P : Params) : Obj := { cls := .none, data := .fields #[] }
noncomputable def o489 (P : Params) : Obj := { cls := .none, data := .func { name := Str.ofString "_law_pools", qualname := Str.ofString "_law_pools", params := paramsOf (dAt 15), body := .stmts (bodyOf (dAt 15)), scope := scopeOf (dAt 15), globals := 0, closure := [], defaults := .none, kwdefaults := .none } }
noncomputable def o490 (P : Params) : Obj := { cls := .type "code", data := .fields #[sv "_law_pools" 794, sv "_law_pools" 795, sv "/claim/cut.py" 796, .int 288 0, .int 2 0, .int 0 0, .int 0 0, .int 3 0, .ref 459, .bool Bool.true, .int 181 0, .ref 460, .none, .none, .none, .ref 461, .int 797 0, .int 288 0, sv "/claim/cut.py" 798] }
noncomputable def o491 (P : Params) : Obj := { cls := .type "function", data := .func { name := Str.ofString "_law_pools", qualname := Str.ofString "_law_pools", params := paramsOf (dAt 15), body := .stmts (bodyOf (dAt 15)), scope := scopeOf (dAt 15), globals := 3, closure := [], defaults := .none, kwdefaults := .none, pyModule := sv "law_no0008_01" 774, code := .ref 462 } }
noncomputable def o494 (P : Params) : Obj := { cls := .type "tuple", data := .seq #[] }
noncomputable def o495 (P : Params) : Obj := { cls := .none, data := .fields #[] }
noncomputable def o496 (P : Params) : Obj := { cls := .type "tuple", data := .seq #[sv "groups" 803, sv "home" 804, sv "x" 805, sv "y" 806, sv "one" 807, sv "two" 808, sv "t" 809] }
noncomputable def o497 (P : Params) : Obj := { cls := .type "tuple", data := .seq #[] }
noncomputable def o498 (P : Params) : Obj := { cls := .none, data := .func { name := Str.ofString "_law_tied", qualname := Str.ofString "_law_tied", params := paramsOf (dAt 16), body := .stmts (bodyOf (dAt 16)), scope := scopeOf (dAt 16), globals := 0, closure := [], defaults := .none, kwdefaults := .none } }
noncomputable def o499 (P : Params) : Obj := { cls := .type "code", data := .fields #[sv "_law_tied" 800, sv "_law_tied" 801, sv "/claim/cut.py" 802, .int 309 0, .int 4 0, .int 0 0, .int 0 0, .int 3 0, .ref 464, .bool Bool.true, .int 181 0, .ref 465, .none, .ref 466, .ref 467, .ref 468, .int 810 0, .int 309 0, sv "/claim/cut.py" 811] }
noncomputable def o500 (P : Params) : Obj := { cls := .type "function", data := .func { name := Str.ofString "_law_tied", qualname := Str.ofString "_law_tied", params := paramsOf (dAt 16), body := .stmts (bodyOf (dAt 16)), scope := scopeOf (dAt 16), globals := 3, closure := [], defaults := .none, kwdefaults := .none, pyModule := sv "law_no0008_01" 774, code := .ref 469 } }
noncomputable def o503 (P : Params) : Obj := { cls := .type "tuple", data := .seq #[] }
noncomputable def o504 (P : Params) : Obj := { cls := .none, data := .fields #[] }
noncomputable def o505 (P : Params) : Obj := { cls := .type "tuple", data := .seq #[sv "bank" 816, sv "groups" 817, sv "home" 818, sv "t" 819, sv "yes" 820, sv "no" 821, sv "part" 822, sv "new" 823, sv "one" 824, sv "other" 825] }
noncomputable def o506 (P : Params) : Obj := { cls := .type "tuple", data := .seq #[] }
noncomputable def o507 (P : Params) : Obj := { cls := .none, data := .func { name := Str.ofString "_law_truths_tied", qualname := Str.ofString "_law_truths_tied", params := paramsOf (dAt 17), body := .stmts (bodyOf (dAt 17)), scope := scopeOf (dAt 17), globals := 0, closure := [], defaults := .none, kwdefaults := .none } }
noncomputable def o508 (P : Params) : Obj := { cls := .type "code", data := .fields #[sv "_law_truths_tied" 813, sv "_law_truths_tied" 814, sv "/claim/cut.py" 815, .int 318 0, .int 4 0, .int 0 0, .int 0 0, .int 3 0, .ref 471, .bool Bool.true, .int 181 0, .ref 472, .none, .ref 473, .ref 474, .ref 475, .int 826 0, .int 318 0, sv "/claim/cut.py" 827] }
noncomputable def o509 (P : Params) : Obj := { cls := .type "function", data := .func { name := Str.ofString "_law_truths_tied", qualname := Str.ofString "_law_truths_tied", params := paramsOf (dAt 17), body := .stmts (bodyOf (dAt 17)), scope := scopeOf (dAt 17), globals := 3, closure := [], defaults := .none, kwdefaults := .none, pyModule := sv "law_no0008_01" 774, code := .ref 476 } }
noncomputable def o512 (P : Params) : Obj := { cls := .type "tuple", data := .seq #[] }
noncomputable def o513 (P : Params) : Obj := { cls := .none, data := .fields #[] }
noncomputable def o514 (P : Params) : Obj := { cls := .none, data := .func { name := Str.ofString "_law_closed", qualname := Str.ofString "_law_closed", params := paramsOf (dAt 18), body := .stmts (bodyOf (dAt 18)), scope := scopeOf (dAt 18), globals := 0, closure := [], defaults := .none, kwdefaults := .none } }
noncomputable def o515 (P : Params) : Obj := { cls := .type "code", data := .fields #[sv "_law_closed" 829, sv "_law_closed" 830, sv "/claim/cut.py" 831, .int 329 0, .int 4 0, .int 0 0, .int 0 0, .int 3 0, .ref 478, .bool Bool.true, .int 181 0, .ref 479, .none, .none, .none, .ref 480, .int 832 0, .int 329 0, sv "/claim/cut.py" 833] }
noncomputable def o516 (P : Params) : Obj := { cls := .type "function", data := .func { name := Str.ofString "_law_closed", qualname := Str.ofString "_law_closed", params := paramsOf (dAt 18), body := .stmts (bodyOf (dAt 18)), scope := scopeOf (dAt 18), globals := 3, closure := [], defaults := .none, kwdefaults := .none, pyModule := sv "law_no0008_01" 774, code := .ref 481 } }
noncomputable def o519 (P : Params) : Obj := { cls := .type "tuple", data := .seq #[] }
noncomputable def o520 (P : Params) : Obj := { cls := .none, data := .fields #[] }
noncomputable def o521 (P : Params) : Obj := { cls := .type "tuple", data := .seq #[sv "closing" 838, sv "home" 839, sv "terms" 840, sv "k" 841, sv "j" 842] }
noncomputable def o522 (P : Params) : Obj := { cls := .type "tuple", data := .seq #[] }
noncomputable def o523 (P : Params) : Obj := { cls := .none, data := .func { name := Str.ofString "_law_are_alike", qualname := Str.ofString "_law_are_alike", params := paramsOf (dAt 19), body := .stmts (bodyOf (dAt 19)), scope := scopeOf (dAt 19), globals := 0, closure := [], defaults := .none, kwdefaults := .none } }
noncomputable def o524 (P : Params) : Obj := { cls := .type "code", data := .fields #[sv "_law_are_alike" 835, sv "_law_are_alike" 836, sv "/claim/cut.py" 837, .int 343 0, .int 3 0, .int 0 0, .int 0 0, .int 3 0, .ref 483, .bool Bool.true, .int 181 0, .ref 484, .none, .ref 485, .ref 486, .ref 487, .int 843 0, .int 343 0, sv "/claim/cut.py" 844] }
noncomputable def o525 (P : Params) : Obj := { cls := .type "function", data := .func { name := Str.ofString "_law_are_alike", qualname := Str.ofString "_law_are_alike", params := paramsOf (dAt 19), body := .stmts (bodyOf (dAt 19)), scope := scopeOf (dAt 19), globals := 3, closure := [], defaults := .none, kwdefaults := .none, pyModule := sv "law_no0008_01" 774, code := .ref 488 } }
noncomputable def o528 (P : Params) : Obj := { cls := .type "tuple", data := .seq #[] }
noncomputable def o529 (P : Params) : Obj := { cls := .none, data := .fields #[] }
noncomputable def o530 (P : Params) : Obj := { cls := .none, data := .func { name := Str.ofString "law", qualname := Str.ofString "law", params := paramsOf (dAt 20), body := .stmts (bodyOf (dAt 20)), scope := scopeOf (dAt 20), globals := 0, closure := [], defaults := .none, kwdefaults := .none } }
noncomputable def o531 (P : Params) : Obj := { cls := .type "code", data := .fields #[sv "law" 846, sv "law" 847, sv "/claim/cut.py" 848, .int 349 0, .int 1 0, .int 0 0, .int 0 0, .int 3 0, .ref 490, .bool Bool.true, .int 181 0, .ref 491, .none, .none, .none, .ref 492, .int 849 0, .int 349 0, sv "/claim/cut.py" 850] }
noncomputable def o532 (P : Params) : Obj := { cls := .type "function", data := .func { name := Str.ofString "law", qualname := Str.ofString "law", params := paramsOf (dAt 20), body := .stmts (bodyOf (dAt 20)), scope := scopeOf (dAt 20), globals := 3, closure := [], defaults := .none, kwdefaults := .none, pyModule := sv "law_no0008_01" 774, code := .ref 493 } }
noncomputable def HP (P : Params) : Heap := ⟨⟨[boot_o_0 P, boot_o_1 P, boot_o_2 P, boot_o_3 P, boot_o_4 P, boot_o_5 P, boot_o_6 P, boot_o_7 P, boot_o_8 P, boot_o_9 P, boot_o_10 P, o11 P, o12 P, o13 P, o14 P]⟩, {}⟩
noncomputable def HA (P : Params) : Heap := ⟨⟨[boot_o_0 P, boot_o_1 P, o84 P, o140 P, boot_o_4 P, boot_o_5 P, boot_o_6 P, boot_o_7 P, boot_o_8 P, boot_o_9 P, boot_o_10 P, o11 P, o117 P, o13 P, o14 P, o17 P, o18 P, o19 P, o20 P, o21 P, o22 P, o23 P, o26 P, o29 P, o30 P, o31 P, o32 P, o33 P, o34 P, o35 P, o36 P, o37 P, o38 P, o39 P, o40 P, o41 P, o42 P, o43 P, o44 P, o45 P, o46 P, o47 P, o48 P, o49 P, o50 P, o51 P, o52 P, o53 P, o54 P, o55 P, o56 P, o57 P, o58 P, o59 P, o60 P, o61 P, o62 P, o63 P, o64 P, o65 P, o66 P, o67 P, o68 P, o69 P, o70 P, o71 P, o72 P, o73 P, o74 P, o75 P, o76 P, o77 P, o78 P, o79 P, o80 P, o81 P, o82 P, o87 P, o88 P, o89 P, o90 P, o91 P, o92 P, o93 P, o94 P, o95 P, o96 P, o97 P, o98 P, o99 P, o100 P, o101 P, o102 P, o103 P, o104 P, o105 P, o106 P, o107 P, o108 P, o109 P, o110 P, o111 P, o118 P, o113 P, o114 P, o115 P, o119 P, o120 P, o121 P, o122 P, o123 P, o124 P, o125 P, o126 P, o127 P, o128 P, o129 P, o130 P, o131 P, o132 P, o133 P, o134 P, o135 P, o136 P, o137 P]⟩, {}⟩
noncomputable def HB (P : Params) : Heap := ⟨⟨[boot_o_0 P, boot_o_1 P, o84 P, o141 P, boot_o_4 P, boot_o_5 P, boot_o_6 P, boot_o_7 P, boot_o_8 P, boot_o_9 P, boot_o_10 P, o11 P, o142 P, o13 P, o14 P, o17 P, o18 P, o19 P, o20 P, o21 P, o22 P, o23 P, o26 P, o29 P, o30 P, o31 P, o32 P, o33 P, o34 P, o35 P, o36 P, o37 P, o38 P, o39 P, o40 P, o41 P, o42 P, o43 P, o44 P, o45 P, o46 P, o47 P, o48 P, o49 P, o50 P, o51 P, o52 P, o53 P, o54 P, o55 P, o56 P, o57 P, o58 P, o59 P, o60 P, o61 P, o62 P, o63 P, o64 P, o65 P, o66 P, o67 P, o68 P, o69 P, o70 P, o71 P, o72 P, o73 P, o74 P, o75 P, o76 P, o77 P, o78 P, o79 P, o80 P, o81 P, o82 P, o87 P, o88 P, o89 P, o90 P, o91 P, o92 P, o93 P, o94 P, o95 P, o96 P, o97 P, o98 P, o99 P, o100 P, o101 P, o102 P, o103 P, o104 P, o105 P, o106 P, o107 P, o108 P, o109 P, o110 P, o111 P, o118 P, o113 P, o114 P, o115 P, o119 P, o120 P, o121 P, o122 P, o123 P, o124 P, o125 P, o126 P, o127 P, o128 P, o129 P, o130 P, o131 P, o132 P, o133 P, o134 P, o135 P, o136 P, o137 P, o143 P, o144 P, o145 P, o146 P, o147 P, o148 P, o149 P, o150 P, o151 P, o152 P, o153 P, o154 P, o155 P, o156 P, o157 P, o158 P, o159 P, o160 P, o161 P, o162 P, o163 P, o164 P, o165 P, o166 P, o167 P, o168 P, o169 P, o170 P, o171 P, o172 P, o173 P, o174 P, o175 P, o176 P, o177 P, o178 P, o179 P, o180 P, o181 P, o182 P, o183 P, o184 P, o185 P, o186 P, o187 P, o188 P, o189 P, o190 P, o191 P, o192 P, o193 P, o194 P, o195 P, o196 P, o197 P, o198 P, o199 P, o200 P, o201 P, o202 P, o203 P, o204 P, o205 P, o206 P, o207 P, o208 P, o209 P, o210 P, o211 P, o212 P, o213 P, o214 P, o215 P, o216 P, o217 P, o218 P, o219 P, o220 P, o221 P, o222 P, o223 P, o224 P, o225 P, o226 P, o227 P, o228 P, o229 P, o230 P, o231 P, o232 P, o233 P, o234 P, o235 P, o236 P, o237 P, o238 P, o239 P, o240 P, o241 P, o242 P, o243 P, o244 P, o245 P, o246 P, o247 P, o248 P, o249 P, o250 P, o251 P, o252 P, o253 P, o254 P, o255 P, o256 P, o257 P, o258 P, o259 P, o260 P, o261 P, o262 P, o263 P, o264 P, o265 P, o266 P, o267 P, o268 P, o269 P, o270 P, o271 P, o272 P, o273 P, o274 P, o275 P, o276 P, o277 P, o278 P, o279 P, o280 P, o281 P, o282 P, o283 P, o284 P, o285 P, o286 P, o287 P, o288 P, o289 P, o290 P, o291 P, o292 P, o293 P, o294 P, o295 P, o296 P, o297 P, o298 P, o299 P, o300 P, o301 P, o302 P, o303 P, o304 P, o305 P, o306 P, o307 P, o308 P, o309 P, o310 P, o311 P, o312 P, o313 P, o314 P, o315 P, o316 P, o317 P, o318 P, o319 P, o320 P, o321 P, o322 P, o323 P, o324 P, o325 P, o326 P, o327 P, o328 P, o329 P, o330 P, o331 P, o332 P, o333 P, o334 P, o335 P, o336 P, o337 P, o338 P, o339 P, o340 P, o341 P, o342 P, o343 P, o344 P, o345 P, o346 P, o347 P, o348 P, o349 P, o350 P, o351 P, o352 P, o353 P, o354 P, o355 P, o356 P, o357 P, o358 P, o359 P]⟩, {}⟩
noncomputable def HC (P : Params) : Heap := ⟨⟨[boot_o_0 P, boot_o_1 P, o84 P, o526 P, boot_o_4 P, boot_o_5 P, boot_o_6 P, boot_o_7 P, boot_o_8 P, boot_o_9 P, boot_o_10 P, o11 P, o527 P, o13 P, o14 P, o17 P, o18 P, o19 P, o20 P, o21 P, o22 P, o23 P, o26 P, o29 P, o30 P, o31 P, o32 P, o33 P, o34 P, o35 P, o36 P, o37 P, o38 P, o39 P, o40 P, o41 P, o42 P, o43 P, o44 P, o45 P, o46 P, o47 P, o48 P, o49 P, o50 P, o51 P, o52 P, o53 P, o54 P, o55 P, o56 P, o57 P, o58 P, o59 P, o60 P, o61 P, o62 P, o63 P, o64 P, o65 P, o66 P, o67 P, o68 P, o69 P, o70 P, o71 P, o72 P, o73 P, o74 P, o75 P, o76 P, o77 P, o78 P, o79 P, o80 P, o81 P, o82 P, o87 P, o88 P, o89 P, o90 P, o91 P, o92 P, o93 P, o94 P, o95 P, o96 P, o97 P, o98 P, o99 P, o100 P, o101 P, o102 P, o103 P, o104 P, o105 P, o106 P, o107 P, o108 P, o109 P, o110 P, o111 P, o118 P, o113 P, o114 P, o115 P, o119 P, o120 P, o121 P, o122 P, o123 P, o124 P, o125 P, o126 P, o127 P, o128 P, o129 P, o130 P, o131 P, o132 P, o133 P, o134 P, o135 P, o136 P, o137 P, o143 P, o144 P, o145 P, o146 P, o147 P, o148 P, o149 P, o150 P, o151 P, o152 P, o153 P, o154 P, o155 P, o156 P, o157 P, o158 P, o159 P, o160 P, o161 P, o162 P, o163 P, o164 P, o165 P, o166 P, o167 P, o168 P, o169 P, o170 P, o171 P, o172 P, o173 P, o174 P, o175 P, o176 P, o177 P, o178 P, o179 P, o180 P, o181 P, o182 P, o183 P, o184 P, o185 P, o186 P, o187 P, o188 P, o189 P, o190 P, o191 P, o192 P, o193 P, o194 P, o195 P, o196 P, o197 P, o198 P, o199 P, o200 P, o201 P, o202 P, o203 P, o204 P, o205 P, o206 P, o207 P, o208 P, o209 P, o210 P, o211 P, o212 P, o213 P, o214 P, o215 P, o216 P, o217 P, o218 P, o219 P, o220 P, o221 P, o222 P, o223 P, o224 P, o225 P, o226 P, o227 P, o228 P, o229 P, o230 P, o231 P, o232 P, o233 P, o234 P, o235 P, o236 P, o237 P, o238 P, o239 P, o240 P, o241 P, o242 P, o243 P, o244 P, o245 P, o246 P, o247 P, o248 P, o249 P, o250 P, o251 P, o252 P, o253 P, o254 P, o255 P, o256 P, o257 P, o258 P, o259 P, o260 P, o261 P, o262 P, o263 P, o264 P, o265 P, o266 P, o267 P, o268 P, o269 P, o270 P, o271 P, o272 P, o273 P, o274 P, o275 P, o276 P, o277 P, o278 P, o279 P, o280 P, o281 P, o282 P, o283 P, o284 P, o285 P, o286 P, o287 P, o288 P, o289 P, o290 P, o291 P, o292 P, o293 P, o294 P, o295 P, o296 P, o297 P, o298 P, o299 P, o300 P, o301 P, o302 P, o303 P, o304 P, o305 P, o306 P, o307 P, o308 P, o309 P, o310 P, o311 P, o312 P, o313 P, o314 P, o315 P, o316 P, o317 P, o318 P, o319 P, o320 P, o321 P, o322 P, o323 P, o324 P, o325 P, o326 P, o327 P, o328 P, o329 P, o330 P, o331 P, o332 P, o333 P, o334 P, o335 P, o336 P, o337 P, o338 P, o339 P, o340 P, o341 P, o342 P, o343 P, o344 P, o345 P, o346 P, o347 P, o348 P, o349 P, o350 P, o351 P, o352 P, o353 P, o354 P, o362 P, o356 P, o357 P, o358 P, o359 P, o363 P, o364 P, o365 P, o366 P, o367 P, o368 P, o369 P, o370 P, o371 P, o372 P, o373 P, o374 P, o375 P, o376 P, o377 P, o378 P, o379 P, o380 P, o381 P, o382 P, o383 P, o384 P, o385 P, o386 P, o387 P, o388 P, o389 P, o390 P, o391 P, o392 P, o393 P, o394 P, o395 P, o396 P, o397 P, o398 P, o399 P, o400 P, o401 P, o402 P, o403 P, o404 P, o405 P, o406 P, o407 P, o408 P, o409 P, o410 P, o411 P, o412 P, o413 P, o414 P, o415 P, o416 P, o417 P, o418 P, o419 P, o420 P, o421 P, o422 P, o423 P, o424 P, o425 P, o426 P, o427 P, o428 P, o429 P, o430 P, o431 P, o432 P, o433 P, o434 P, o435 P, o436 P, o437 P, o438 P, o439 P, o440 P, o441 P, o442 P, o443 P, o444 P, o445 P, o446 P, o447 P, o448 P, o449 P, o450 P, o451 P, o452 P, o453 P, o454 P, o455 P, o456 P, o457 P, o458 P, o459 P, o460 P, o461 P, o462 P, o463 P, o464 P, o465 P, o469 P, o470 P, o471 P, o472 P, o473 P, o474 P, o475 P, o478 P, o479 P, o480 P, o481 P, o482 P, o483 P, o484 P, o487 P, o488 P, o489 P, o490 P, o491 P, o494 P, o495 P, o496 P, o497 P, o498 P, o499 P, o500 P, o503 P, o504 P, o505 P, o506 P, o507 P, o508 P, o509 P, o512 P, o513 P, o514 P, o515 P, o516 P, o519 P, o520 P, o521 P, o522 P, o523 P, o524 P, o525 P, o528 P, o529 P, o530 P, o531 P, o532 P]⟩, {}⟩
noncomputable def frag (P : Params) : Frag := [(2, o84 P), (3, o526 P), (15, o17 P), (17, o19 P), (18, o20 P), (20, o22 P), (21, o23 P), (22, o26 P), (30, o36 P), (32, o38 P), (33, o39 P), (35, o41 P), (36, o42 P), (37, o43 P), (39, o45 P), (40, o46 P), (42, o48 P), (43, o49 P), (44, o50 P), (46, o52 P), (47, o53 P), (49, o55 P), (50, o56 P), (51, o57 P), (54, o60 P), (55, o61 P), (56, o62 P), (58, o64 P), (59, o65 P), (61, o67 P), (62, o68 P), (63, o69 P), (65, o71 P), (66, o72 P), (68, o74 P), (69, o75 P), (70, o76 P), (71, o77 P), (72, o78 P), (73, o79 P), (74, o80 P), (77, o87 P), (80, o90 P), (85, o95 P), (86, o96 P), (88, o98 P), (89, o99 P), (91, o101 P), (92, o102 P), (93, o103 P), (95, o105 P), (96, o106 P), (98, o108 P), (99, o109 P), (100, o110 P), (101, o111 P), (102, o118 P), (103, o113 P), (106, o119 P), (113, o126 P), (115, o128 P), (116, o129 P), (118, o131 P), (119, o132 P), (120, o133 P), (121, o134 P), (122, o135 P), (132, o150 P), (134, o152 P), (135, o153 P), (137, o155 P), (138, o156 P), (139, o157 P), (141, o159 P), (142, o160 P), (144, o162 P), (145, o163 P), (146, o164 P), (148, o166 P), (149, o167 P), (151, o169 P), (152, o170 P), (153, o171 P), (155, o173 P), (156, o174 P), (158, o176 P), (159, o177 P), (160, o178 P), (162, o180 P), (163, o181 P), (165, o183 P), (166, o184 P), (167, o185 P), (169, o187 P), (170, o188 P), (172, o190 P), (173, o191 P), (174, o192 P), (176, o194 P), (177, o195 P), (179, o197 P), (180, o198 P), (181, o199 P), (183, o201 P), (184, o202 P), (186, o204 P), (187, o205 P), (188, o206 P), (190, o208 P), (191, o209 P), (193, o211 P), (194, o212 P), (195, o213 P), (197, o215 P), (198, o216 P), (200, o218 P), (201, o219 P), (202, o220 P), (204, o222 P), (205, o223 P), (207, o225 P), (208, o226 P), (209, o227 P), (211, o229 P), (212, o230 P), (214, o232 P), (215, o233 P), (216, o234 P), (218, o236 P), (219, o237 P), (221, o239 P), (222, o240 P), (223, o241 P), (225, o243 P), (226, o244 P), (228, o246 P), (229, o247 P), (230, o248 P), (232, o250 P), (233, o251 P), (235, o253 P), (236, o254 P), (237, o255 P), (239, o257 P), (240, o258 P), (242, o260 P), (243, o261 P), (244, o262 P), (246, o264 P), (247, o265 P), (249, o267 P), (250, o268 P), (251, o269 P), (253, o271 P), (254, o272 P), (256, o274 P), (257, o275 P), (258, o276 P), (260, o278 P), (261, o279 P), (263, o281 P), (264, o282 P), (265, o283 P), (267, o285 P), (268, o286 P), (270, o288 P), (271, o289 P), (272, o290 P), (274, o292 P), (275, o293 P), (277, o295 P), (278, o296 P), (279, o297 P), (281, o299 P), (282, o300 P), (284, o302 P), (285, o303 P), (286, o304 P), (288, o306 P), (289, o307 P), (291, o309 P), (292, o310 P), (293, o311 P), (295, o313 P), (296, o314 P), (298, o316 P), (299, o317 P), (300, o318 P), (302, o320 P), (303, o321 P), (305, o323 P), (306, o324 P), (307, o325 P), (309, o327 P), (310, o328 P), (312, o330 P), (313, o331 P), (314, o332 P), (316, o334 P), (317, o335 P), (319, o337 P), (320, o338 P), (321, o339 P), (323, o341 P), (324, o342 P), (326, o344 P), (327, o345 P), (328, o346 P), (330, o348 P), (331, o349 P), (333, o351 P), (334, o352 P), (335, o353 P), (336, o354 P), (337, o362 P), (338, o356 P), (339, o357 P), (342, o363 P), (349, o370 P), (351, o372 P), (352, o373 P), (354, o375 P), (355, o376 P), (356, o377 P), (358, o379 P), (359, o380 P), (361, o382 P), (362, o383 P), (363, o384 P), (365, o386 P), (366, o387 P), (368, o389 P), (369, o390 P), (370, o391 P), (372, o393 P), (373, o394 P), (375, o396 P), (376, o397 P), (377, o398 P), (379, o400 P), (380, o401 P), (382, o403 P), (383, o404 P), (384, o405 P), (386, o407 P), (387, o408 P), (389, o410 P), (390, o411 P), (391, o412 P), (393, o414 P), (394, o415 P), (396, o417 P), (397, o418 P), (398, o419 P), (400, o421 P), (401, o422 P), (403, o424 P), (404, o425 P), (405, o426 P), (407, o428 P), (408, o429 P), (410, o431 P), (411, o432 P), (412, o433 P), (414, o435 P), (415, o436 P), (417, o438 P), (418, o439 P), (419, o440 P), (421, o442 P), (422, o443 P), (424, o445 P), (425, o446 P), (426, o447 P), (428, o449 P), (429, o450 P), (431, o452 P), (432, o453 P), (433, o454 P), (435, o456 P), (436, o457 P), (438, o459 P), (439, o460 P), (440, o461 P), (441, o462 P), (442, o463 P), (445, o469 P), (447, o471 P), (448, o472 P), (450, o474 P), (451, o475 P), (452, o478 P), (454, o480 P), (455, o481 P), (457, o483 P), (458, o484 P), (459, o487 P), (462, o490 P), (463, o491 P), (464, o494 P), (466, o496 P), (467, o497 P), (469, o499 P), (470, o500 P), (471, o503 P), (473, o505 P), (474, o506 P), (476, o508 P), (477, o509 P), (478, o512 P), (481, o515 P), (482, o516 P), (483, o519 P), (485, o521 P), (486, o522 P), (488, o524 P), (489, o525 P), (490, o528 P), (493, o531 P), (494, o532 P)]
noncomputable def fragAt : List Addr := [2, 3, 15, 17, 18, 20, 21, 22, 30, 32, 33, 35, 36, 37, 39, 40, 42, 43, 44, 46, 47, 49, 50, 51, 54, 55, 56, 58, 59, 61, 62, 63, 65, 66, 68, 69, 70, 71, 72, 73, 74, 77, 80, 85, 86, 88, 89, 91, 92, 93, 95, 96, 98, 99, 100, 101, 102, 103, 106, 113, 115, 116, 118, 119, 120, 121, 122, 132, 134, 135, 137, 138, 139, 141, 142, 144, 145, 146, 148, 149, 151, 152, 153, 155, 156, 158, 159, 160, 162, 163, 165, 166, 167, 169, 170, 172, 173, 174, 176, 177, 179, 180, 181, 183, 184, 186, 187, 188, 190, 191, 193, 194, 195, 197, 198, 200, 201, 202, 204, 205, 207, 208, 209, 211, 212, 214, 215, 216, 218, 219, 221, 222, 223, 225, 226, 228, 229, 230, 232, 233, 235, 236, 237, 239, 240, 242, 243, 244, 246, 247, 249, 250, 251, 253, 254, 256, 257, 258, 260, 261, 263, 264, 265, 267, 268, 270, 271, 272, 274, 275, 277, 278, 279, 281, 282, 284, 285, 286, 288, 289, 291, 292, 293, 295, 296, 298, 299, 300, 302, 303, 305, 306, 307, 309, 310, 312, 313, 314, 316, 317, 319, 320, 321, 323, 324, 326, 327, 328, 330, 331, 333, 334, 335, 336, 337, 338, 339, 342, 349, 351, 352, 354, 355, 356, 358, 359, 361, 362, 363, 365, 366, 368, 369, 370, 372, 373, 375, 376, 377, 379, 380, 382, 383, 384, 386, 387, 389, 390, 391, 393, 394, 396, 397, 398, 400, 401, 403, 404, 405, 407, 408, 410, 411, 412, 414, 415, 417, 418, 419, 421, 422, 424, 425, 426, 428, 429, 431, 432, 433, 435, 436, 438, 439, 440, 441, 442, 445, 447, 448, 450, 451, 452, 454, 455, 457, 458, 459, 462, 463, 464, 466, 467, 469, 470, 471, 473, 474, 476, 477, 478, 481, 482, 483, 485, 486, 488, 489, 490, 493, 494]
noncomputable def VQ : Program := view PW [0, 2, 3, 5, 6, 8, 9, 10, 11, 13, 14, 15, 16, 17, 18, 19, 20]
noncomputable def hook : Hook := kHook frag fragAt (fun _ => by kernel_rfl)
noncomputable def bE : List Stmt := behindTheImports PW
noncomputable def envE : Env := { scope := PW.main.scope, locals := mainNs, globals := mainNs, cells := [], code := .ref 13, frame := some 14 }
noncomputable def cE : Code := .body bE envE
noncomputable abbrev p0 : Pos := ⟨0, 0, 0, 0⟩
noncomputable abbrev st (H : Params → Heap) (k : Nat) (w : World) (os : OsState) : Shared := ⟨H w.params, #[], {}, k, os⟩
noncomputable abbrev ann : Option Value := some (.ref 6)
theorem pre_ok (w : World) (os : OsState) : topGo treeTable PW w 11 ann 12 ⟨boot_heap w.params, #[], boot_drawn, boot_toks, os⟩ (topStub PW) = some (st HP 187 w os, ⟨denote treeTable cE, cE, p0, [topFrame p0]⟩) := by kernel_rfl
theorem block_ok (w : World) (os : OsState) : segRun treeTable PW w 11 ann 1 1 (st HP 187 w os) (blockOf bE envE cE p0 [topFrame p0]) = some (.next, st HP 187 w os, cE, p0) := by kernel_rfl
theorem pieceA (w : World) (os : OsState) : segRun treeTable PW w 11 ann 1 1004 (st HP 187 w os) (piecesOf (bE.take 10) envE cE p0 [topFrame p0]) = some (.next, st HA 356 w os, cE, ⟨89, 0, 89, 3⟩) := by kernel_rfl
theorem pieceB (w : World) (os : OsState) : segRun treeTable PW w 11 ann 1 1151 (st HA 356 w os) (piecesOf ((bE.drop 10).take 1) envE cE ⟨89, 0, 89, 3⟩ [topFrame p0]) = some (.next, st HB 641 w os, cE, ⟨90, 0, 218, 20⟩) := by kernel_rfl
theorem pieceC (w : World) (os : OsState) : segRun treeTable PW w 11 ann 1 897 (st HB 641 w os) (piecesOf (bE.drop 11) envE cE ⟨90, 0, 218, 20⟩ [topFrame p0]) = some (.next, st HC 852 w os, cE, ⟨349, 0, 381, 85⟩) := by kernel_rfl
theorem fin_ok (w : World) (os : OsState) : topRun treeTable PW w 11 ann 2 (st HC 852 w os) ⟨doneF .next, cE, ⟨349, 0, 381, 85⟩, [topFrame p0]⟩ = some (st HC 852 w os) := by kernel_rfl
end
section
theorem bE_app : bE = bE.take 10 ++ ((bE.drop 10).take 1 ++ (bE.drop 11 ++ [])) := by kernel_rfl
theorem run_ok (w : World) (os : OsState) : topRun treeTable PW w 11 ann (12 + (1 + (1004 + (1151 + (897 + 2))))) ⟨boot_heap w.params, #[], boot_drawn, boot_toks, os⟩ (topStub PW) = some (st HC 852 w os) := by
 refine go_top (pre_ok w os) (piece_block (block_ok w os) ?_)
 rw [bE_app]
 exact piece_app (pieceA w os) (piece_app (pieceB w os) (piece_app (pieceC w os) (piece_nil (fin_ok w os))))
theorem size_ok (w : World) : ((boot_heap w.params).isNs mainGlobals && (#[] : Array GenState).size == 0, (boot_heap w.params).objs.size, (boot_heap w.params).nsMap mainGlobals "__annotations__") = (true, 11, ann) := by kernel_rfl
theorem open_ok : ∀ w : World, (fencedOpening treeTable PW w 6224).map (fun s => (s.heap, s.gens, s.drawn, s.toks)) = some (boot_heap w.params, #[], boot_drawn, boot_toks) := boot_open (by kernel_rfl) (by kernel_rfl) (fun s => rfl)
noncomputable abbrev RWr : RowW := (OpenLaw.row PySem.Challenge.rw_no0008_01).toRowW
theorem looks_ok (w : World) : (fun os => ((staticsOk (importedModules PW.main.body) (boot_heap w.params) (HC w.params) && namesBound PW (HC w.params) && gensDone (st HC 852 w os) && laidKept (boot_heap w.params) (HC w.params)),
  openSeen VQ [] (importedModules PW.main.body) (fun s => xlAt VQ [] s && recOk (RowW.records RWr) s) true (st HC 852 w os), Hook.obs hook (st HC 852 w os))) = fun _ => (true, openGood VQ [], Hook.val hook w) := by kernel_rfl
end
section
noncomputable abbrev KF (w : World) : Frag := frag w.params
noncomputable abbrev PR : Program := PySem.Challenge.rw_no0008_01.row.prog
inductive Ex2 {α1 α2 : Type} (P : α1 → α2 → Prop) : Prop
 | mk (x1 : α1) (x2 : α2) (h : P x1 x2)
inductive Ex3 {α1 α2 α3 : Type} (P : α1 → α2 → α3 → Prop) : Prop
 | mk (x1 : α1) (x2 : α2) (x3 : α3) (h : P x1 x2 x3)
inductive Ex4 {α1 α2 α3 α4 : Type} (P : α1 → α2 → α3 → α4 → Prop) : Prop
 | mk (x1 : α1) (x2 : α2) (x3 : α3) (x4 : α4) (h : P x1 x2 x3 x4)
inductive Ex5 {α1 α2 α3 α4 α5 : Type} (P : α1 → α2 → α3 → α4 → α5 → Prop) : Prop
 | mk (x1 : α1) (x2 : α2) (x3 : α3) (x4 : α4) (x5 : α5) (h : P x1 x2 x3 x4 x5)
inductive Ex6 {α1 α2 α3 α4 α5 α6 : Type} (P : α1 → α2 → α3 → α4 → α5 → α6 → Prop) : Prop
 | mk (x1 : α1) (x2 : α2) (x3 : α3) (x4 : α4) (x5 : α5) (x6 : α6) (h : P x1 x2 x3 x4 x5 x6)
inductive Ex7 {α1 α2 α3 α4 α5 α6 α7 : Type} (P : α1 → α2 → α3 → α4 → α5 → α6 → α7 → Prop) : Prop
 | mk (x1 : α1) (x2 : α2) (x3 : α3) (x4 : α4) (x5 : α5) (x6 : α6) (x7 : α7) (h : P x1 x2 x3 x4 x5 x6 x7)
inductive Ex8 {α1 α2 α3 α4 α5 α6 α7 α8 : Type} (P : α1 → α2 → α3 → α4 → α5 → α6 → α7 → α8 → Prop) : Prop
 | mk (x1 : α1) (x2 : α2) (x3 : α3) (x4 : α4) (x5 : α5) (x6 : α6) (x7 : α7) (x8 : α8) (h : P x1 x2 x3 x4 x5 x6 x7 x8)
inductive Ex9 {α1 α2 α3 α4 α5 α6 α7 α8 α9 : Type} (P : α1 → α2 → α3 → α4 → α5 → α6 → α7 → α8 → α9 → Prop) : Prop
 | mk (x1 : α1) (x2 : α2) (x3 : α3) (x4 : α4) (x5 : α5) (x6 : α6) (x7 : α7) (x8 : α8) (x9 : α9) (h : P x1 x2 x3 x4 x5 x6 x7 x8 x9)
inductive Ex10 {α1 α2 α3 α4 α5 α6 α7 α8 α9 α10 : Type} (P : α1 → α2 → α3 → α4 → α5 → α6 → α7 → α8 → α9 → α10 → Prop) : Prop
 | mk (x1 : α1) (x2 : α2) (x3 : α3) (x4 : α4) (x5 : α5) (x6 : α6) (x7 : α7) (x8 : α8) (x9 : α9) (x10 : α10) (h : P x1 x2 x3 x4 x5 x6 x7 x8 x9 x10)
inductive Ex11 {α1 α2 α3 α4 α5 α6 α7 α8 α9 α10 α11 : Type} (P : α1 → α2 → α3 → α4 → α5 → α6 → α7 → α8 → α9 → α10 → α11 → Prop) : Prop
 | mk (x1 : α1) (x2 : α2) (x3 : α3) (x4 : α4) (x5 : α5) (x6 : α6) (x7 : α7) (x8 : α8) (x9 : α9) (x10 : α10) (x11 : α11) (h : P x1 x2 x3 x4 x5 x6 x7 x8 x9 x10 x11)
inductive Ex13 {α1 α2 α3 α4 α5 α6 α7 α8 α9 α10 α11 α12 α13 : Type} (P : α1 → α2 → α3 → α4 → α5 → α6 → α7 → α8 → α9 → α10 → α11 → α12 → α13 → Prop) : Prop
 | mk (x1 : α1) (x2 : α2) (x3 : α3) (x4 : α4) (x5 : α5) (x6 : α6) (x7 : α7) (x8 : α8) (x9 : α9) (x10 : α10) (x11 : α11) (x12 : α12) (x13 : α13) (h : P x1 x2 x3 x4 x5 x6 x7 x8 x9 x10 x11 x12 x13)
inductive Ex19 {α1 α2 α3 α4 α5 α6 α7 α8 α9 α10 α11 α12 α13 α14 α15 α16 α17 α18 α19 : Type} (P : α1 → α2 → α3 → α4 → α5 → α6 → α7 → α8 → α9 → α10 → α11 → α12 → α13 → α14 → α15 → α16 → α17 → α18 → α19 → Prop) : Prop
 | mk (x1 : α1) (x2 : α2) (x3 : α3) (x4 : α4) (x5 : α5) (x6 : α6) (x7 : α7) (x8 : α8) (x9 : α9) (x10 : α10) (x11 : α11) (x12 : α12) (x13 : α13) (x14 : α14) (x15 : α15) (x16 : α16) (x17 : α17) (x18 : α18) (x19 : α19) (h : P x1 x2 x3 x4 x5 x6 x7 x8 x9 x10 x11 x12 x13 x14 x15 x16 x17 x18 x19)
inductive Al2 (p1 p2 : Prop) : Prop
 | mk (h1 : p1) (h2 : p2)
inductive Al3 (p1 p2 p3 : Prop) : Prop
 | mk (h1 : p1) (h2 : p2) (h3 : p3)
inductive Al4 (p1 p2 p3 p4 : Prop) : Prop
 | mk (h1 : p1) (h2 : p2) (h3 : p3) (h4 : p4)
inductive Al5 (p1 p2 p3 p4 p5 : Prop) : Prop
 | mk (h1 : p1) (h2 : p2) (h3 : p3) (h4 : p4) (h5 : p5)
inductive Al6 (p1 p2 p3 p4 p5 p6 : Prop) : Prop
 | mk (h1 : p1) (h2 : p2) (h3 : p3) (h4 : p4) (h5 : p5) (h6 : p6)
inductive Al7 (p1 p2 p3 p4 p5 p6 p7 : Prop) : Prop
 | mk (h1 : p1) (h2 : p2) (h3 : p3) (h4 : p4) (h5 : p5) (h6 : p6) (h7 : p7)
inductive Al8 (p1 p2 p3 p4 p5 p6 p7 p8 : Prop) : Prop
 | mk (h1 : p1) (h2 : p2) (h3 : p3) (h4 : p4) (h5 : p5) (h6 : p6) (h7 : p7) (h8 : p8)
inductive Al9 (p1 p2 p3 p4 p5 p6 p7 p8 p9 : Prop) : Prop
 | mk (h1 : p1) (h2 : p2) (h3 : p3) (h4 : p4) (h5 : p5) (h6 : p6) (h7 : p7) (h8 : p8) (h9 : p9)
inductive Al10 (p1 p2 p3 p4 p5 p6 p7 p8 p9 p10 : Prop) : Prop
 | mk (h1 : p1) (h2 : p2) (h3 : p3) (h4 : p4) (h5 : p5) (h6 : p6) (h7 : p7) (h8 : p8) (h9 : p9) (h10 : p10)
inductive Al11 (p1 p2 p3 p4 p5 p6 p7 p8 p9 p10 p11 : Prop) : Prop
 | mk (h1 : p1) (h2 : p2) (h3 : p3) (h4 : p4) (h5 : p5) (h6 : p6) (h7 : p7) (h8 : p8) (h9 : p9) (h10 : p10) (h11 : p11)
inductive Al15 (p1 p2 p3 p4 p5 p6 p7 p8 p9 p10 p11 p12 p13 p14 p15 : Prop) : Prop
 | mk (h1 : p1) (h2 : p2) (h3 : p3) (h4 : p4) (h5 : p5) (h6 : p6) (h7 : p7) (h8 : p8) (h9 : p9) (h10 : p10) (h11 : p11) (h12 : p12) (h13 : p13) (h14 : p14) (h15 : p15)
theorem in1 {α : Type} {x1 a : α} (h : a ∈ [x1]) : a = x1 := List.mem_singleton.mp h
theorem in2 {α : Type} {x1 x2 a : α} (h : a ∈ [x1, x2]) : a = x1 ∨ a = x2 := (List.mem_cons.mp h).imp id in1
theorem in3 {α : Type} {x1 x2 x3 a : α} (h : a ∈ [x1, x2, x3]) : a = x1 ∨ a = x2 ∨ a = x3 := (List.mem_cons.mp h).imp id in2
theorem in4 {α : Type} {x1 x2 x3 x4 a : α} (h : a ∈ [x1, x2, x3, x4]) : a = x1 ∨ a = x2 ∨ a = x3 ∨ a = x4 := (List.mem_cons.mp h).imp id in3
theorem in5 {α : Type} {x1 x2 x3 x4 x5 a : α} (h : a ∈ [x1, x2, x3, x4, x5]) : a = x1 ∨ a = x2 ∨ a = x3 ∨ a = x4 ∨ a = x5 := (List.mem_cons.mp h).imp id in4
inductive AllL {α : Type} (P : α → Prop) : List α → Prop
 | nil : AllL P []
 | cons {a : α} {l : List α} (h : P a) (t : AllL P l) : AllL P (a :: l)
theorem AllL.mem {α : Type} {P : α → Prop} {l : List α} (L : AllL P l) {a : α} (h : a ∈ l) : P a := by
 induction L with
 | nil => cases h
 | cons p t ih =>
  rcases List.mem_cons.mp h with rfl | h
  ·exact p
  ·exact ih h
theorem mem1 {α : Type} {x1 a : α} {l : List α} : a ∈ x1 :: a :: l := .tail _ (.head _)
theorem mem2 {α : Type} {x1 x2 a : α} {l : List α} : a ∈ x1 :: x2 :: a :: l := .tail _ (.tail _ (.head _))
theorem mem3 {α : Type} {x1 x2 x3 a : α} {l : List α} : a ∈ x1 :: x2 :: x3 :: a :: l := .tail _ (.tail _ (.tail _ (.head _)))
theorem memt {α : Type} {x1 x2 x3 x4 a : α} {l : List α} (h : a ∈ l) : a ∈ x1 :: x2 :: x3 :: x4 :: l := .tail _ (.tail _ (.tail _ (.tail _ h)))
theorem ite_t {c : Prop} {i : Decidable c} {a b : Prop} (h : c) (k : a) : @ite Prop c i a b := by rw [if_pos h]; exact k
theorem ite_f {c : Prop} {i : Decidable c} {a b : Prop} (h : ¬ c) (k : b) : @ite Prop c i a b := by rw [if_neg h]; exact k
noncomputable def Never : Value → Shared → Prop := fun _ _ => False
noncomputable def Sub (b h : Heap) : Prop := ∀ a o, b.get? a = some o → h.get? a = some o
theorem Sub.refl (h : Heap) : Sub h h := fun _ _ e => e
theorem Sub.trans {a b c : Heap} (x : Sub a b) (y : Sub b c) : Sub a c := fun p o e => y p o (x p o e)
noncomputable def Kept (C : List Addr) (h h' : Heap) : Prop := ∀ a o, h.get? a = some o → a ∉ C → h'.get? a = some o
structure Gd (w : World) (b : Heap) : Prop where
 X : (KF w).In b
 T : ∃ mg mb, TopRead VQ (looseW VQ []) mg mb b
theorem Gd.mono {w : World} {b h : Heap} (G : Gd w b) (s : Sub b h) : Gd w h :=
 ⟨G.X.keeps s, let ⟨mg, mb, T⟩ := G.T; ⟨mg, mb, T.keeps s⟩⟩
structure Rm (A : Around) (n : Nat) : Prop where
 h : A.handled = none
 d : A.depth + n < recursionLimit
 u : A.units + 8 * n + 100 < cLine
theorem Rm.deeper {A : Around} {n : Nat} (R : Rm A (n + 1)) (env : Env) : Rm (A.deeper env) n :=
 ⟨R.h, by have := R.d; show A.depth + 1 + n < _; (first | lia | omega), by have := R.u; show A.units + 3 + 8 * n + 100 < _; (first | lia | omega)⟩
theorem Rm.less {A : Around} {n k : Nat} (R : Rm A n) (h : k ≤ n) : Rm A k :=
 ⟨R.h, by have := R.d; (first | lia | omega), by have := R.u; (first | lia | omega)⟩
structure Ev (env : Env) (ks : List (Str × NameKind)) : Prop where
 fn : env.scope.kind = .function
 gl : env.globals = mainGlobals
 bl : env.builtins = builtinsNs
 im : interactive env = false
 ks : ∀ p ∈ ks, env.kindOf p.1 = some p.2
theorem Ev.notClass {env : Env} {ks : List (Str × NameKind)} (e : Ev env ks) : (env.scope.kind == .class || (env.scope.kind == .module && env.locals != env.globals)) = false := by rw [e.fn]; rfl
structure Fm (b : Heap) (env : Env) (h : Heap) (l : List (Str × Option Value)) (σ : List (Addr × Obj)) : Prop where
 fr : ∃ m, Fr b env.locals h m ∧ ∀ x v, (x, some v) ∈ l → m x = some v
 nw : News b env.locals h σ
 nd : (l.map (·.1)).Nodup
 na : (σ.map (·.1)).Nodup
theorem Fm.sub {b : Heap} {env : Env} {h : Heap} {l : List (Str × Option Value)} {σ : List (Addr × Obj)} (V : Fm b env h l σ) : Sub b h := let ⟨_, F, _⟩ := V.fr; F.keep
inductive PutL (x : Str) (v : Value) : List (Str × Option Value) → List (Str × Option Value) → Prop
 | head {u r} : PutL x v ((x, u) :: r) ((x, some v) :: r)
 | tail {p r r'} : PutL x v r r' → PutL x v (p :: r) (p :: r')
theorem putl1 {x : Str} {v : Value} {u : Option Value} {y1 : Str × Option Value} {r : List (Str × Option Value)} : PutL x v (y1 :: (x, u) :: r) (y1 :: (x, some v) :: r) := .tail .head
theorem putl2 {x : Str} {v : Value} {u : Option Value} {y1 y2 : Str × Option Value} {r : List (Str × Option Value)} : PutL x v (y1 :: y2 :: (x, u) :: r) (y1 :: y2 :: (x, some v) :: r) := .tail (.tail .head)
theorem putl3 {x : Str} {v : Value} {u : Option Value} {y1 y2 y3 : Str × Option Value} {r : List (Str × Option Value)} : PutL x v (y1 :: y2 :: y3 :: (x, u) :: r) (y1 :: y2 :: y3 :: (x, some v) :: r) := .tail (.tail (.tail .head))
theorem putlt {x : Str} {v : Value} {y1 y2 y3 y4 : Str × Option Value} {r r' : List (Str × Option Value)} (h : PutL x v r r') : PutL x v (y1 :: y2 :: y3 :: y4 :: r) (y1 :: y2 :: y3 :: y4 :: r') := .tail (.tail (.tail (.tail h)))
theorem PutL.names {x : Str} {v : Value} {l l' : List (Str × Option Value)} (U : PutL x v l l') : l'.map (·.1) = l.map (·.1) := by
 induction U with
 | head => rfl
 | tail _ ih => simp [ih]
theorem PutL.mem {x : Str} {v : Value} {l l' : List (Str × Option Value)} (U : PutL x v l l') (hn : (l.map (·.1)).Nodup) {y : Str} {u : Value} (hm : (y, some u) ∈ l') : (y = x ∧ u = v) ∨ (y ≠ x ∧ (y, some u) ∈ l) := by
 induction U with
 | head =>
  rename_i u₀ r
  simp only [List.map_cons, List.nodup_cons] at hn
  rcases List.mem_cons.mp hm with e | hm
  ·simp only [Prod.mk.injEq, Option.some.injEq] at e; exact .inl e
  ·refine .inr ⟨fun e => hn.1 ?_, .tail _ hm⟩
   exact e ▸ List.mem_map_of_mem (f := (·.1)) hm
 | tail q ih =>
  rename_i p r r'
  simp only [List.map_cons, List.nodup_cons] at hn
  rcases List.mem_cons.mp hm with e | hm
  ·by_cases hx : y = x
   ·exfalso
    subst hx
    have : y ∈ r.map (·.1) := by
     clear ih hm e
     have q' := hn.2
     clear hn
     induction q with
     | head => simp
     | tail q ih => simp only [List.map_cons, List.nodup_cons] at q'; exact .tail _ (ih q'.2)
    rw [← e] at hn
    exact hn.1 this
   ·exact .inr ⟨hx, e ▸ .head _⟩
  ·rcases ih hn.2 hm with h | h
   ·exact .inl h
   ·exact .inr ⟨h.1, .tail _ h.2⟩
noncomputable def At (b : Heap) (σ : List (Addr × Obj)) (a : Addr) (o : Obj) : Prop := (a, o) ∈ σ ∨ b.get? a = some o
section
variable {w : World} {b h : Heap} {env : Env} {l l' : List (Str × Option Value)} {σ σ' : List (Addr × Obj)} {ks : List (Str × NameKind)} {A : Around} {g : Array GenState} {d : Source → Nat} {t : Nat}
theorem Fm.at (V : Fm b env h l σ) {a : Addr} {o : Obj} (H : At b σ a o) : h.get? a = some o := H.elim (fun m => (V.nw _ m).1) fun e => V.sub _ _ e
theorem Fm.push (V : Fm b env h l σ) (o : Obj) (hf : o.isFreed = false := by rfl) : Fm b env (h.push o) l ((h.objs.size, o) :: σ) :=
 let ⟨m, F, hm⟩ := V.fr
 ⟨⟨m, F.push o, hm⟩, News.push F V.nw o hf, V.nd, by
  rw [List.map_cons, List.nodup_cons]
  refine ⟨fun q => ?_, V.na⟩
  obtain ⟨p, hp, e⟩ := List.mem_map.mp q
  exact absurd (Heap.lt_size (V.nw p hp).1) (by rw [e]; exact Nat.lt_irrefl _)⟩
theorem Fm.weak (V : Fm b env h l σ) (hl : ∀ x v, (x, some v) ∈ l' → (x, some v) ∈ l) (hn : (l'.map (·.1)).Nodup) (hσ : σ'.Sublist σ) : Fm b env h l' σ' :=
 let ⟨m, F, hm⟩ := V.fr
 ⟨⟨m, F, fun x v e => hm x v (hl x v e)⟩, fun p hp => V.nw p (hσ.subset hp), hn, V.na.sublist (hσ.map _)⟩
theorem Fm.drop (V : Fm b env h l σ) (hσ : σ'.Sublist σ) : Fm b env h l σ' := V.weak (fun _ _ e => e) V.nd hσ
theorem Fm.tail {p : Addr × Obj} (V : Fm b env h l (p :: σ)) : Fm b env h l σ := V.drop (List.sublist_cons_self _ _)
theorem Fm.ne {p : Addr × Obj} (V : Fm b env h l (p :: σ)) : ∀ q ∈ σ, q.1 ≠ p.1 := fun q hq e => by
 have := V.na
 rw [List.map_cons, List.nodup_cons] at this
 exact this.1 (e ▸ List.mem_map_of_mem hq)
theorem Fm.step {C : List Addr} {h' : Heap} (V : Fm b env h l σ) (hk : Kept C h h') (hC : ∀ c ∈ C, b.get? c = none ∧ c ≠ env.locals)
  (hσ : ∀ p ∈ σ', (p ∈ σ ∧ p.1 ∉ C) ∨ (h'.get? p.1 = some p.2 ∧ b.get? p.1 = none ∧ p.1 ≠ env.locals)) (hn : (σ'.map (·.1)).Nodup) : Fm b env h' l σ' := by
 obtain ⟨m, F, hm⟩ := V.fr
 obtain ⟨oL, es, ep, hL, r⟩ := F.ns
 refine ⟨⟨m, ⟨⟨oL, es, ep, hk _ _ hL (fun q => (hC _ q).2 rfl), r⟩, fun a o e => hk _ _ (F.keep a o e) (fun q => by rw [(hC _ q).1] at e; cases e), F.above⟩, hm⟩, fun p hp => ?_, V.nd, hn⟩
 rcases hσ p hp with ⟨q, n⟩ | q
 ·exact ⟨hk _ _ (V.nw p q).1 n, (V.nw p q).2⟩
 ·exact ⟨q.1, q.2.2, q.2.1⟩
theorem Fm.mono {h' : Heap} (V : Fm b env h l σ) (s : Sub h h') : Fm b env h' l σ :=
 V.step (C := []) (fun a o e _ => s a o e) (fun _ h => nomatch h) (fun p hp => .inl ⟨hp, fun h => nomatch h⟩) V.na
inductive PutS (d : Addr) (o o' : Obj) : List (Addr × Obj) → List (Addr × Obj) → Prop
 | head {r} : PutS d o o' ((d, o) :: r) ((d, o') :: r)
 | tail {p r r'} : PutS d o o' r r' → PutS d o o' (p :: r) (p :: r')
theorem puts1 {d : Addr} {o o' : Obj} {y1 : Addr × Obj} {r : List (Addr × Obj)} : PutS d o o' (y1 :: (d, o) :: r) (y1 :: (d, o') :: r) := .tail .head
theorem puts2 {d : Addr} {o o' : Obj} {y1 y2 : Addr × Obj} {r : List (Addr × Obj)} : PutS d o o' (y1 :: y2 :: (d, o) :: r) (y1 :: y2 :: (d, o') :: r) := .tail (.tail .head)
theorem puts3 {d : Addr} {o o' : Obj} {y1 y2 y3 : Addr × Obj} {r : List (Addr × Obj)} : PutS d o o' (y1 :: y2 :: y3 :: (d, o) :: r) (y1 :: y2 :: y3 :: (d, o') :: r) := .tail (.tail (.tail .head))
theorem putst {d : Addr} {o o' : Obj} {y1 y2 y3 y4 : Addr × Obj} {r r' : List (Addr × Obj)} (h : PutS d o o' r r') : PutS d o o' (y1 :: y2 :: y3 :: y4 :: r) (y1 :: y2 :: y3 :: y4 :: r') := .tail (.tail (.tail (.tail h)))
theorem PutS.names {d : Addr} {o o' : Obj} {σ σ' : List (Addr × Obj)} (U : PutS d o o' σ σ') : σ'.map (·.1) = σ.map (·.1) := by
 induction U with
 | head => rfl
 | tail _ ih => simp [ih]
theorem PutS.mem {d : Addr} {o o' : Obj} {σ σ' : List (Addr × Obj)} (U : PutS d o o' σ σ') : (d, o) ∈ σ := by
 induction U with
 | head => exact .head _
 | tail _ ih => exact .tail _ ih
theorem PutS.old {d : Addr} {o o' : Obj} {σ σ' : List (Addr × Obj)} (U : PutS d o o' σ σ') (hn : (σ.map (·.1)).Nodup) : ∀ p ∈ σ', p = (d, o') ∨ (p ∈ σ ∧ p.1 ≠ d) := by
 induction U with
 | head =>
  rename_i r
  simp only [List.map_cons, List.nodup_cons] at hn
  intro p hp
  rcases List.mem_cons.mp hp with rfl | hp
  ·exact .inl rfl
  ·exact .inr ⟨.tail _ hp, fun e => hn.1 (e ▸ List.mem_map_of_mem hp)⟩
 | tail q ih =>
  rename_i p₀ r r'
  simp only [List.map_cons, List.nodup_cons] at hn
  intro p hp
  rcases List.mem_cons.mp hp with rfl | hp
  ·exact .inr ⟨.head _, fun e => hn.1 (e ▸ List.mem_map_of_mem q.mem)⟩
  ·exact (ih hn.2 p hp).imp id fun x => ⟨.tail _ x.1, x.2⟩
theorem Fm.put {h' : Heap} {a : Addr} {o o' : Obj} (V : Fm b env h l σ) (U : PutS a o o' σ σ') (hk : Kept [a] h h') (ho : h'.get? a = some o') : Fm b env h' l σ' := by
 have hm := V.nw _ U.mem
 refine V.step hk (fun c hc => ?_) (fun p hp => ?_) (by rw [U.names]; exact V.na)
 ·rw [List.mem_singleton.mp hc]; exact ⟨hm.2.2, hm.2.1⟩
 ·rcases U.old V.na p hp with rfl | ⟨q, n⟩
  ·exact .inr ⟨ho, hm.2.2, hm.2.1⟩
  ·exact .inl ⟨q, fun e => n (List.mem_singleton.mp e)⟩
theorem Fm.add {h₀ : Heap} {a : Addr} {o : Obj} (V : Fm b env h l σ) (V₀ : Fm b env h₀ l σ) (ho : h.get? a = some o) (hn : h₀.objs.size ≤ a) : Fm b env h l ((a, o) :: σ) := by
 obtain ⟨m, F, hm⟩ := V.fr
 obtain ⟨m₀, F₀, _⟩ := V₀.fr
 have old : ∀ c oc, h₀.get? c = some oc → c ≠ a := fun c oc e q => absurd (Heap.lt_size e) (Nat.not_lt.mpr (q ▸ hn))
 have bn : b.get? a = none := by
  cases q : b.get? a with
  | none => rfl
  | some o' => exact absurd rfl (old _ _ (F₀.keep _ _ q))
 obtain ⟨oL, _, _, hL, _⟩ := F₀.ns
 refine ⟨⟨m, F, hm⟩, fun p hp => ?_, V.nd, ?_⟩
 ·rcases List.mem_cons.mp hp with rfl | hp
  ·exact ⟨ho, (old _ _ hL).symm, bn⟩
  ·exact V.nw p hp
 ·rw [List.map_cons, List.nodup_cons]
  refine ⟨fun q => ?_, V.na⟩
  obtain ⟨p, hp, e⟩ := List.mem_map.mp q
  exact old _ _ (V₀.nw p hp).1 e
end
end
section
local macro_rules | `(tactic| wtm_at "qmem") => `(tactic| with_reducible first | exact List.mem_cons_self | (refine List.mem_cons_of_mem _ ?_; wtm_at "qmem"))
section
variable {w : World} {b h : Heap} {env : Env} {l l' : List (Str × Option Value)} {σ σ' : List (Addr × Obj)} {ks : List (Str × NameKind)} {A : Around} {g : Array GenState} {d : Drawn} {t : Nat} {o : OsState}
theorem r_name {x : Str} {pos : Pos} {v : Value} {Q : Value → Shared → Prop} (e : Ev env ks) (V : Fm b env h l σ) (hk : (x, .local) ∈ ks) (hx : (x, some v) ∈ l)
  (k : Q v ⟨h, g, d, t, o⟩) (hd : (x == ("__debug__" : Str)) = false := by decide) : wpAny (model PR w) A (eval (.Name x pos) env) Q Never ⟨h, g, d, t, o⟩ :=
 let ⟨_, F, hm⟩ := V.fr
 wpAny_Name (wpAny_loadName_local e.fn (e.ks _ hk) F.ns (hm _ _ hx) k) hd
theorem r_global {x : Str} {pos : Pos} {v : Value} {Q : Value → Shared → Prop} (G : Gd w b) (e : Ev env ks) (V : Fm b env h l σ) (hk : (x, .globalImplicit) ∈ ks) (hx : nsIn (KF w) mainGlobals x = some (some v))
  (k : Q v ⟨h, g, d, t, o⟩) (hd : (x == ("__debug__" : Str)) = false := by decide) : wpAny (model PR w) A (eval (.Name x pos) env) Q Never ⟨h, g, d, t, o⟩ := by
 obtain ⟨mg, mb, T⟩ := G.T
 refine Name_function_global e.fn (e.ks _ hk) (loadGlobal_global (mg := mg) ?_ (mg_of G.X T.g hx) k) hd
 rw [e.gl]; exact T.g.keeps V.sub
theorem r_builtin {x : Str} {pos : Pos} {v : Value} {Q : Value → Shared → Prop} (G : Gd w b) (e : Ev env ks) (V : Fm b env h l σ) (hk : (x, .globalImplicit) ∈ ks) (hx : nsIn (KF w) mainGlobals x = some none)
  (hv : bootBuiltins x = some v) (k : Q v ⟨h, g, d, t, o⟩) (hn : x ≠ "__name__" := by decide) (hd : (x == ("__debug__" : Str)) = false := by decide) : wpAny (model PR w) A (eval (.Name x pos) env) Q Never ⟨h, g, d, t, o⟩ := by
 obtain ⟨mg, mb, T⟩ := G.T
 refine Name_function_global e.fn (e.ks _ hk) (loadGlobal_builtin (mg := mg) (mb := mb) ?_ (mg_none_of G.X T.g hx) ?_ ((T.builtins x hn).trans hv) k) hd
 ·rw [e.gl]; exact T.g.keeps V.sub
 ·rw [e.bl]; exact T.b.keeps V.sub
theorem r_cell {x : Str} {pos : Pos} {c : Addr} {oc : Obj} {v : Value} {Q : Value → Shared → Prop} (e : Ev env ks) (V : Fm b env h l σ) (hk : (x, .cell) ∈ ks) (hc : env.cells.lookup x = some c) (hm : At b σ c oc) (ho : oc.data = .cell (some v))
  (k : Q v ⟨h, g, d, t, o⟩) (hd : (x == ("__debug__" : Str)) = false := by decide) : wpAny (model PR w) A (eval (.Name x pos) env) Q Never ⟨h, g, d, t, o⟩ :=
 wpAny_Name (wpAny_loadName_cell e.fn (e.ks _ hk) hc ⟨oc, V.at hm, ho⟩ k) hd
theorem r_store {x : Str} {v : Value} {Q : Unit → Shared → Prop} (e : Ev env ks) (V : Fm b env h l σ) (hk : (x, .local) ∈ ks) (U : PutL x v l l')
  (k : ∀ h' t', Fm b env h' l' σ → Q () ⟨h', g, d, t', o⟩) : wpAny (model PR w) A (storeName env x v) Q Never ⟨h, g, d, t, o⟩ := by
 obtain ⟨m, F, hm⟩ := V.fr
 refine wpAny_storeName_local (e.ks _ hk) F.ns (fun h' hn hs => k h' _ ⟨⟨_, F.set hn hs, fun y u hy => ?_⟩, V.nw.set hs, ?_, ?_⟩) e.notClass
 ·rcases U.mem V.nd hy with ⟨rfl, rfl⟩ | ⟨n, q⟩
  ·exact if_pos rfl
  ·rw [if_neg n]; exact hm _ _ q
 ·rw [U.names]; exact V.nd
 ·exact V.na
theorem r_assign {x : Str} {pos' pos : Pos} {value : Expr} {Q : Flow → Shared → Prop}
  (k : wpAny (model PR w) A (eval value env) (fun v s₁ => wpAny (model PR w) A (storeName env x v) (fun _ => Q .next) Never s₁) Never ⟨h, g, d, t, o⟩)
  (hs : swapsWith value (some (.Name x pos')) pos.line env = pure false := by with_unfolding_all rfl) : wpAny (model PR w) A (exec (.Assign [.Name x pos'] value pos) env) Q Never ⟨h, g, d, t, o⟩ := wpAny_Assign_Name k hs
theorem r_int {i : Int} {k : Nat} {pos : Pos} {Q : Value → Shared → Prop} (q : ∀ u t', Q (.int i u) ⟨h, g, d, t', o⟩) : wpAny (model PR w) A (eval (.Constant (.int i) k pos) env) Q Never ⟨h, g, d, t, o⟩ := wpAny_Constant_int (q _ _)
theorem r_str {x : Str} {k : Nat} {pos : Pos} {Q : Value → Shared → Prop} (q : ∀ u t', Q (.str x u) ⟨h, g, d, t', o⟩) : wpAny (model PR w) A (eval (.Constant (.str x) k pos) env) Q Never ⟨h, g, d, t, o⟩ := Constant_str (q _ _)
theorem r_bool {x : Bool} {k : Nat} {pos : Pos} {Q : Value → Shared → Prop} (q : Q (.bool x) ⟨h, g, d, t, o⟩) : wpAny (model PR w) A (eval (.Constant (.bool x) k pos) env) Q Never ⟨h, g, d, t, o⟩ := wpAny_Constant_bool q
theorem r_cons {st : Stmt} {rest : List Stmt} {Q : Flow → Shared → Prop}
  (k : wpAny (model PR w) A (exec st env) (fun f s' => match f with | .next => wpAny (model PR w) A (execs rest env) Q Never s' | f => Q f s') Never ⟨h, g, d, t, o⟩) :
  wpAny (model PR w) A (execs (st :: rest) env) Q Never ⟨h, g, d, t, o⟩ := wpAny_execs_cons k
theorem r_nil {Q : Flow → Shared → Prop} (k : Q .next ⟨h, g, d, t, o⟩) : wpAny (model PR w) A (execs [] env) Q Never ⟨h, g, d, t, o⟩ := wpAny_execs_nil k
theorem r_one {st : Stmt} {Q : Flow → Shared → Prop} (k : wpAny (model PR w) A (exec st env) Q Never ⟨h, g, d, t, o⟩) : wpAny (model PR w) A (execs [st] env) Q Never ⟨h, g, d, t, o⟩ :=
 wpAny_execs_cons (wpAny_mono k (fun f s' q => by cases f with
  | next => exact wpAny_execs_nil q
  | _ => exact q) fun _ _ q => q)
noncomputable def Kt (w : World) (A : Around) (env : Env) (rest : List Stmt) (Q K : Flow → Shared → Prop) : Prop :=
 ∀ f s', (match f with | .next => wpAny (model PR w) A (execs rest env) Q Never s' | f => Q f s') → K f s'
theorem r_consK {st : Stmt} {rest : List Stmt} {Q : Flow → Shared → Prop} (k : ∀ K : Flow → Shared → Prop, Kt w A env rest Q K → wpAny (model PR w) A (exec st env) K Never ⟨h, g, d, t, o⟩) :
  wpAny (model PR w) A (execs (st :: rest) env) Q Never ⟨h, g, d, t, o⟩ := r_cons (k _ fun _ _ q => q)
theorem Kt.next {rest : List Stmt} {Q K : Flow → Shared → Prop} {s : Shared} (H : Kt w A env rest Q K) (k : wpAny (model PR w) A (execs rest env) Q Never s) : K .next s := H .next s k
theorem Kt.ret {rest : List Stmt} {Q K : Flow → Shared → Prop} {s : Shared} {v : Value} (H : Kt w A env rest Q K) (k : Q (.ret v) s) : K (.ret v) s := H (.ret v) s k
theorem Kt.retW {rest : List Stmt} {Q K : Flow → Shared → Prop} {s : Shared} {m : Sem Value} (H : Kt w A env rest Q K) (k : wpAny (model PR w) A m (fun v => Q (.ret v)) Never s) : wpAny (model PR w) A m (fun v => K (.ret v)) Never s := wpAny_mono k (fun _ _ q => H.ret q) fun _ _ q => q
theorem Kt.cont {rest : List Stmt} {Q K : Flow → Shared → Prop} {s : Shared} (H : Kt w A env rest Q K) (k : Q .cont s) : K .cont s := H .cont s k
theorem r_return {e : Expr} {pos : Pos} {Q : Flow → Shared → Prop} (k : wpAny (model PR w) A (eval e env) (fun v => Q (.ret v)) Never ⟨h, g, d, t, o⟩) :
  wpAny (model PR w) A (exec (.Return (some e) pos) env) Q Never ⟨h, g, d, t, o⟩ := wpAny_Return_some k
theorem r_expr {e : Expr} {pos : Pos} {Q : Flow → Shared → Prop} (ev : Ev env ks) (k : wpAny (model PR w) A (eval e env) (fun _ => Q .next) Never ⟨h, g, d, t, o⟩)
  (hs : swapsWith e none pos.line env = pure false := by with_unfolding_all rfl) : wpAny (model PR w) A (exec (.Expr e pos) env) Q Never ⟨h, g, d, t, o⟩ := wpAny_Expr_any k ev.im hs
theorem r_if {test : Expr} {body orelse : List Stmt} {pos : Pos} {Q : Flow → Shared → Prop}
  (k : wpAny (model PR w) A (isTrue test env (eval test env)) (fun c s₂ => if c then wpAny (model PR w) A (execs body env) Q Never s₂ else wpAny (model PR w) A (execs orelse env) Q Never s₂) Never ⟨h, g, d, t, o⟩) :
  wpAny (model PR w) A (exec (.If test body orelse pos) env) Q Never ⟨h, g, d, t, o⟩ := wpAny_If k
structure Inst (b : Heap) (σ : List (Addr × Obj)) (x C dx : Addr) (es : List DictEntry) (n : Nat) : Prop where
 at_ : At b σ x (instObj C dx)
 dict : At b σ dx (dictOf es n)
theorem Inst.here (I : Inst b σ x C dx es n) (V : Fm b env h l σ) : InstAt h x (instObj C dx) C (some (dictOf es n)) := ⟨V.at I.at_, rfl, rfl, V.at I.dict⟩
structure Plain (w : World) (C : Addr) (name : Str) : Prop where
 get : plainGet (KF w) C name = true
 dict : hasDictIn (KF w) C = true
 attr : ∃ a, findIn (KF w) (.ref C) name = some a ∧ noGet (KF w) a = true
theorem r_getattr {x C dx : Addr} {es : List DictEntry} {n : Nat} {name : Str} {v : Value} {expr : Bool} {Q : Value → Shared → Prop} (G : Gd w b) (V : Fm b env h l σ) (I : Inst b σ x C dx es n) (P : Plain w C name)
  (hl : getL name es = some (some v)) (hh : handedIn v = true) (k : ∀ t', Q v ⟨h, g, d, t', o⟩) : wpAny (model PR w) A (getAttr (.ref x) name expr) Q Never ⟨h, g, d, t, o⟩ := by
 obtain ⟨m, F, _⟩ := V.fr
 obtain ⟨a, ha, hn⟩ := P.attr
 exact get_own F G.X (I.here V) P.get P.dict ha hn hl hh (k _)
theorem r_attr {value : Expr} {attr : Str} {pos : Pos} {Q : Value → Shared → Prop}
  (k : wpAny (model PR w) A (eval value env) (fun x s₁ => wpAny (model PR w) A (getAttr x attr true) Q Never s₁) Never ⟨h, g, d, t, o⟩)
  (he : eval (.Attribute value attr pos) env = (do
   let o ← eval value env
   standAt pos.atName
   let r ← holding [o] (getAttr o attr true)
   letTemporaryGo value o r
   pure r) := by with_unfolding_all rfl) : wpAny (model PR w) A (eval (.Attribute value attr pos) env) Q Never ⟨h, g, d, t, o⟩ := Attribute_any_ k he
theorem r_sub {value slice : Expr} {pos : Pos} {Q : Value → Shared → Prop}
  (k : wpAny (model PR w) A (eval value env) (fun x s₁ => wpAny (model PR w) A (eval slice env) (fun i s₂ => wpAny (model PR w) A (subscriptTail value slice x i) Q Never s₂) Never s₁) Never ⟨h, g, d, t, o⟩) :
  wpAny (model PR w) A (eval (.Subscript value slice pos) env) Q Never ⟨h, g, d, t, o⟩ := Subscript_ k
theorem r_item_list {value slice : Expr} {a : Addr} {vs : Array Value} {n : Nat} {i : Int} {u : Tok} {v : Value} {Q : Value → Shared → Prop} (V : Fm b env h l σ) (H : At b σ a (listOf vs n)) (h0 : 0 ≤ i) (h1 : i < 2 ^ 63) (hx : vs[i.toNat]? = some v)
  (k : Q v ⟨h, g, d, t, o⟩) (hs : subscripted slice false (.ref a) (.int i u) = operate [.ref a, .int i u] (getItem (.ref a) (.int i u)) := by with_unfolding_all rfl) :
  wpAny (model PR w) A (subscriptTail value slice (.ref a) (.int i u)) Q Never ⟨h, g, d, t, o⟩ :=
 have hl : h.IsList a vs := ⟨_, V.at H, rfl, n, rfl⟩
 tail_any (s := ⟨h, g, d, t, o⟩) hl.typeIs slot_list_getitem.lookup (wpAny_getItem_list hl h0 h1 hx k) hs
end
structure FnAt (f : Addr) where
 fd : FuncData
 oc : Value
 od : Option Addr
 sl : Array (Option Value)
 at_ : ∀ w : World, (KF w).lookup f = some ⟨oc, od, .func fd, sl⟩
 code : ∀ w : World, codeIn (KF w) fd.code fd.qualname = true
noncomputable def retOf : Flow → Value
 | .ret v => v
 | _ => .none
theorem slots_lookup {binds : List (Str × Value)} {rest : List Str} (hn : (binds.map (·.1)).Nodup) : ∀ x v, (x, some v) ∈ binds.map (fun p => (p.1, some p.2)) ++ rest.map (fun n => (n, none)) → binds.reverse.lookup x = some v := by
 intro x v h
 have hm : (x, v) ∈ binds := by
  rcases List.mem_append.mp h with h | h
  ·obtain ⟨p, hp, e⟩ := List.mem_map.mp h
   simp only [Prod.mk.injEq, Option.some.injEq] at e
   obtain ⟨rfl, rfl⟩ := e
   exact hp
  ·obtain ⟨p, hp, e⟩ := List.mem_map.mp h
   simp at e
 have hr : (x, v) ∈ binds.reverse := List.mem_reverse.mpr hm
 have hn' : (binds.reverse.map (·.1)).Nodup := by rw [List.map_reverse]; unfold List.Nodup; rw [List.pairwise_reverse]; exact List.Pairwise.imp (fun h => Ne.symm h) hn
 clear hm hn h
 revert hr hn'
 generalize binds.reverse = r
 intro hr hn'
 induction r with
 | nil => cases hr
 | cons q r ih =>
  simp only [List.map_cons, List.nodup_cons] at hn'
  obtain ⟨qx, qv⟩ := q
  rw [List.lookup_cons]
  rcases List.mem_cons.mp hr with e | hp
  ·cases e; simp
  ·have : (x == qx) = false := beq_eq_false_iff_ne.mpr fun e => hn'.1 (e ▸ List.mem_map_of_mem (f := (·.1)) hp)
   rw [this]; exact ih hp hn'.2
section
variable {w : World} {b₀ h : Heap} {A : Around} {g : Array GenState} {d : Drawn} {t : Nat} {o : OsState}
theorem enter {f : Addr} (fn : FnAt f) {body : List Stmt} {args : List Value} {Q : Value → Shared → Prop} {n : Nat} (binds : List (Str × Value)) (names rest : List Str) (l : List (Str × Option Value)) (C : List (Addr × Obj))
  (G : Gd w b₀) (S : Sub b₀ h) (R : Rm A (n + 1)) (hbody : fn.fd.body = .stmts body) (hb : bindArgs fn.fd ⟨args, []⟩ = pure binds)
  (hnames : binds.map (·.1) = names) (hslots : binds.map (fun p => (p.1, some p.2)) ++ rest.map (fun n => (n, none)) = l)
  (hcell : ∀ x ∈ fn.fd.scope.names, x.2 ≠ .cell) (hloc : ∀ x ∈ names, fn.fd.scope.names.lookup x = some .local) (hnd : (names ++ rest).Nodup)
  (hC : ∀ p ∈ C, h.get? p.1 = some p.2 ∧ b₀.get? p.1 = none) (hCn : (C.map (·.1)).Nodup)
  (k : ∀ b env h' t', Gd w b → Sub b₀ b → Sub b h → (∀ a o, h.get? a = some o → a ∉ C.map (·.1) → b.get? a = some o) → h.objs.size ≤ env.locals → Sub h h' → Ev env fn.fd.scope.names → Fm b env h' l C → Rm (A.deeper env) n →
   wpAny (model PR w) (A.deeper env) (execs body env) (fun fl s' => Q (retOf fl) s') Never ⟨h', g, d, t', o⟩)
  (hgl : fn.fd.globals = mainGlobals := by rfl) (hbl : fn.fd.builtins = builtinsNs := by rfl) (hknd : (fn.fd.scope.names.map (·.1)).Nodup := by decide +kernel)
  (hco : fn.fd.scope.isCoroutine = false := by rfl) (hgen : fn.fd.scope.isGenerator = false := by rfl) (hk : fn.fd.scope.kind = .function := by rfl) :
  wpAny (model PR w) A (call (.ref f) args) Q Never ⟨h, g, d, t, o⟩ := by
 have G' : Gd w h := G.mono S
 have hnd1 : (binds.map (·.1)).Nodup := hnames ▸ (List.nodup_append.mp hnd).1
 have hl : ∀ x v, (x, some v) ∈ l → binds.reverse.lookup x = some v := hslots ▸ slots_lookup hnd1
 have hndl : (l.map (·.1)).Nodup := by
  rw [← hslots, List.map_append, List.map_map, List.map_map]
  have e1 : binds.map ((fun x : Str × Option Value => x.1) ∘ fun p : Str × Value => (p.1, some p.2)) = names := hnames
  have e2 : rest.map ((fun x : Str × Option Value => x.1) ∘ fun n : Str => (n, none)) = rest := by clear hslots hnd; induction rest with
   | nil => rfl
   | cons _ _ ih => rw [List.map_cons, ih]; rfl
  rw [e1, e2]; exact hnd
 obtain ⟨mg, mb, T⟩ := G'.T
 refine wpAny_call (codeAny_call_def (fd := fn.fd) (by have := R.d; (first | lia | omega)) (G'.X _ _ (fn.at_ w)) rfl T.nolimit (codeRec_of G'.X (fn.code w)) hbody (.of_eq hb) hcell (fun x hx => hloc x.1 (hnames ▸ List.mem_map_of_mem hx)) (fun h' hns hs => ?_) hco hgen hk)
 have St : Sub b₀ (hideAll h (C.map (·.1))) := fun a o e => hideAll_get _ (S a o e) fun q => by
  obtain ⟨p, hp, rfl⟩ := List.mem_map.mp q
  rw [(hC p hp).2] at e; cases e
 have Sb : Sub (hideAll h (C.map (·.1))) h := fun a o e => of_hideAll _ e
 refine wpAny_mono (k (hideAll h (C.map (·.1))) (callEnv fn.fd h.objs.size f) h' _ (G.mono St) St Sb (fun a o e n => hideAll_get _ e n) (Nat.le_refl _) hs ?_ ?_ (R.deeper _)) (fun fl s' q => ?_) (fun _ _ q => q.elim)
 ·refine ⟨hk, hgl, hbl, ?_, fun p hp => ?_⟩
  ·show (fn.fd.scope.kind == .module && _) = false
   rw [hk]; rfl
  ·show fn.fd.scope.names.lookup p.1 = some p.2
   revert hknd hp
   generalize fn.fd.scope.names = ns
   intro hknd hp
   clear hcell hloc hl
   induction ns with
   | nil => cases hp
   | cons q r ih =>
    simp only [List.map_cons, List.nodup_cons] at hknd
    rw [List.lookup_cons]
    rcases List.mem_cons.mp hp with rfl | hp
    ·simp
    ·have : (p.1 == q.1) = false := beq_eq_false_iff_ne.mpr fun e => hknd.1 (e ▸ List.mem_map_of_mem hp)
     rw [this]; exact ih hknd.2 hp
 ·refine ⟨⟨_, ⟨hns, fun a o e => hs _ _ (Sb _ _ e), Nat.le_of_eq (hideAll_size _ _)⟩, hl⟩, fun p hp => ⟨hs _ _ (hC p hp).1, Nat.ne_of_lt (Heap.lt_size (hC p hp).1), hideAll_none _ (List.mem_map_of_mem hp)⟩, hndl, hCn⟩
 ·cases fl <;> exact q
end
end
section
section
variable {w : World} {b h : Heap} {env : Env} {l l' : List (Str × Option Value)} {σ σ' : List (Addr × Obj)} {ks : List (Str × NameKind)} {A : Around} {g : Array GenState} {d : Drawn} {t : Nat} {o : OsState}
theorem r_call {func : Expr} {args : List Expr} {pos : Pos} {Q : Value → Shared → Prop}
  (k : wpAny (model PR w) A (eval func env) (fun f s₁ => wpAny (model PR w) A (callWith pos f [] (backTo pos (starEach args env)) []) Q Never s₁) Never ⟨h, g, d, t, o⟩)
  (he : eval (.Call func args [] pos) env = (do callWith pos (← eval func env) [] (backTo pos (starEach args env)) (backToKw pos (keywordEach [] env))) := by with_unfolding_all rfl) :
  wpAny (model PR w) A (eval (.Call func args [] pos) env) Q Never ⟨h, g, d, t, o⟩ := Call_ k he
theorem r_mcall {ob : Expr} {name : Str} {apos pos : Pos} {args : List Expr} {pl : Sem Bool} {Q : Value → Shared → Prop}
  (k : wpAny (model PR w) A (eval ob env) (fun ov s₁ => wpAny (model PR w) A (getMethod ov name pl) (fun fx s₂ => wpAny (model PR w) A (callWith pos fx.1 fx.2 (backTo pos (starEach args env)) []) Q Never s₂) Never s₁) Never ⟨h, g, d, t, o⟩)
  (he : eval (.Call (.Attribute ob name apos) args [] pos) env = (do
     let ov ← eval ob env
     standAt (Pos.atName apos)
     let x ← holding [ov] (getMethod ov name pl)
     match x with
      | (f, first) => callWith pos f first (backTo pos (starEach args env)) []) := by with_unfolding_all rfl) :
  wpAny (model PR w) A (eval (.Call (.Attribute ob name apos) args [] pos) env) Q Never ⟨h, g, d, t, o⟩ := MethodCall_ k he
structure Meth (w : World) (C : Addr) (name : Str) (f : Addr) : Prop where
 get : plainGet (KF w) C name = true
 find : findIn (KF w) (.ref C) name = some (some (.ref f))
 isf : isFn (KF w) (.ref f) = true
 keep : keepIn (KF w) (.ref f) = true
theorem r_getmeth {x C dx f : Addr} {es : List DictEntry} {n : Nat} {name : Str} {pl : Sem Bool} {Q : Value × List Value → Shared → Prop} (G : Gd w b) (V : Fm b env h l σ) (I : Inst b σ x C dx es n) (P : Meth w C name f)
  (hl : getL name es = some none) (k : Q (.ref f, [.ref x]) ⟨h, g, d, t, o⟩) : wpAny (model PR w) A (getMethod (.ref x) name pl) Q Never ⟨h, g, d, t, o⟩ :=
 let ⟨_, F, _⟩ := V.fr
 method_inst F G.X (I.here V) P.get P.find P.isf hl k
theorem r_cw {f : Value} {first : List Value} {e : Expr} {rest : List Expr} {pos : Pos} {Q : Value → Shared → Prop} (G : Gd w b) (hk : keepIn (KF w) f = true)
  (k : wpAny (model PR w) A (spliced (backTo pos (starEach (e :: rest) env))) (fun vs s₁ => Sub b s₁.heap ∧ wpAny (model PR w) A (call f (first ++ vs)) Q Never s₁) Never ⟨h, g, d, t, o⟩)
  (he : starEach (e :: rest) env = (false, eval e env) :: starEach rest env := by with_unfolding_all rfl) (hp : (backTo pos (starEach rest env)).any (·.1) = false := by with_unfolding_all rfl) :
  wpAny (model PR w) A (callWith pos f first (backTo pos (starEach (e :: rest) env)) []) Q Never ⟨h, g, d, t, o⟩ :=
 callWith_K G.X hk (wpAny_mono k (fun _ _ q => ⟨G.X.keeps q.1, q.2⟩) fun _ _ q => q) he hp
theorem r_cw0 {f : Value} {first : List Value} {pos : Pos} {Q : Value → Shared → Prop} (G : Gd w b) (V : Fm b env h l σ) (hk : keepIn (KF w) f = true) (k : wpAny (model PR w) A (call f (first ++ [])) Q Never ⟨h, g, d, t, o⟩) :
  wpAny (model PR w) A (callWith pos f first (backTo pos (starEach [] env)) []) Q Never ⟨h, g, d, t, o⟩ := callWith_K0 (G.X.keeps V.sub) hk k
theorem r_cwb {id : String} {e : Expr} {rest : List Expr} {pos : Pos} {Q : Value → Shared → Prop}
  (k : wpAny (model PR w) A (spliced (backTo pos (starEach (e :: rest) env))) (fun vs s₁ => wpAny (model PR w) A (call (.builtin id) vs) Q Never s₁) Never ⟨h, g, d, t, o⟩)
  (he : starEach (e :: rest) env = (false, eval e env) :: starEach rest env := by with_unfolding_all rfl) (hp : (backTo pos (starEach rest env)).any (·.1) = false := by with_unfolding_all rfl) :
  wpAny (model PR w) A (callWith pos (.builtin id) [] (backTo pos (starEach (e :: rest) env)) []) Q Never ⟨h, g, d, t, o⟩ := PyProof.Rows.callWith_builtin1 k he hp
theorem r_cwt {T : String} {e : Expr} {rest : List Expr} {pos : Pos} {Q : Value → Shared → Prop}
  (k : wpAny (model PR w) A (spliced (backTo pos (starEach (e :: rest) env))) (fun vs s₁ => wpAny (model PR w) A (call (.type T) vs) Q Never s₁) Never ⟨h, g, d, t, o⟩)
  (he : starEach (e :: rest) env = (false, eval e env) :: starEach rest env := by with_unfolding_all rfl) (hp : (backTo pos (starEach rest env)).any (·.1) = false := by with_unfolding_all rfl) :
  wpAny (model PR w) A (callWith pos (.type T) [] (backTo pos (starEach (e :: rest) env)) []) Q Never ⟨h, g, d, t, o⟩ := PyProof.Rows.callWith_type1 k he hp
theorem r_cwm {id : String} {first : List Value} {e : Expr} {rest : List Expr} {pos : Pos} {Q : Value → Shared → Prop}
  (k : wpAny (model PR w) A (spliced (backTo pos (starEach (e :: rest) env))) (fun vs s₁ => wpAny (model PR w) A (call (.builtin id) (first ++ vs)) Q Never s₁) Never ⟨h, g, d, t, o⟩)
  (he : starEach (e :: rest) env = (false, eval e env) :: starEach rest env := by with_unfolding_all rfl) (hp : (backTo pos (starEach rest env)).any (·.1) = false := by with_unfolding_all rfl) :
  wpAny (model PR w) A (callWith pos (.builtin id) first (backTo pos (starEach (e :: rest) env)) []) Q Never ⟨h, g, d, t, o⟩ := callWith_method1 k he hp
theorem r_sp {e : Expr} {rest : List Expr} {pos : Pos} {Q : List Value → Shared → Prop}
  (k : wpAny (model PR w) A (eval e env) (fun v s₁ => wpAny (model PR w) A (spliced (backTo pos (starEach rest env))) (fun vs s₂ => Q (v :: vs) s₂) Never s₁) Never ⟨h, g, d, t, o⟩)
  (he : starEach (e :: rest) env = (false, eval e env) :: starEach rest env := by with_unfolding_all rfl) : wpAny (model PR w) A (spliced (backTo pos (starEach (e :: rest) env))) Q Never ⟨h, g, d, t, o⟩ := spliced_more k he
theorem r_sp0 {pos : Pos} {Q : List Value → Shared → Prop} (k : Q [] ⟨h, g, d, t, o⟩) : wpAny (model PR w) A (spliced (backTo pos (starEach [] env))) Q Never ⟨h, g, d, t, o⟩ := spliced_none k
noncomputable abbrev tupOf (vs : List Value) : Obj := { cls := .type "tuple", data := .seq vs.toArray }
theorem r_newtuple {vs : List Value} {Q : Value → Shared → Prop} (V : Fm b env h l σ) (k : ∀ a h', h.objs.size ≤ a → Sub h h' → Fm b env h' l ((a, tupOf vs) :: σ) → Q (.ref a) ⟨h', g, d, t, o⟩) (hz : vs.length ≤ sizeLine := by size_fits) :
  wpAny (model PR w) A (newTuple vs) Q Never ⟨h, g, d, t, o⟩ :=
 wpAny_newObj_type (k _ _ (Nat.le_refl _) (fun _ _ e => Heap.get?_push_of_some _ e) (V.push _)) (by show vs.toArray.size ≤ sizeLine; rw [List.size_toArray]; exact hz)
theorem r_newlist {vs : List Value} {Q : Value → Shared → Prop} (V : Fm b env h l σ) (k : ∀ a h', h.objs.size ≤ a → Sub h h' → Fm b env h' l ((a, listOf vs.toArray 0) :: σ) → Q (.ref a) ⟨h', g, d, t, o⟩) (hz : vs.length ≤ sizeLine := by size_fits) :
  wpAny (model PR w) A (newList vs) Q Never ⟨h, g, d, t, o⟩ :=
 wpAny_newObj_type (k _ _ (Nat.le_refl _) (fun _ _ e => Heap.get?_push_of_some _ e) (V.push _)) (by show vs.toArray.size ≤ sizeLine; rw [List.size_toArray]; exact hz)
theorem r_tuple {elts : List Expr} {k : Nat} {pos : Pos} {Q : Value → Shared → Prop}
  (q : wpAny (model PR w) A (spliced (backTo pos (starEach elts env))) (fun vs s₁ => wpAny (model PR w) A (newTuple vs) Q Never s₁) Never ⟨h, g, d, t, o⟩) : wpAny (model PR w) A (eval (.Tuple elts k pos) env) Q Never ⟨h, g, d, t, o⟩ := Tuple_ q
theorem r_list {elts : List Expr} {pos : Pos} {Q : Value → Shared → Prop}
  (q : wpAny (model PR w) A (spliced (backTo pos (starEach elts env))) (fun vs s₁ => wpAny (model PR w) A (newList vs) Q Never s₁) Never ⟨h, g, d, t, o⟩) : wpAny (model PR w) A (eval (.List elts pos) env) Q Never ⟨h, g, d, t, o⟩ := List_ q
theorem r_tcmp {x : Expr} {op : CmpOp} {y : Expr} {pos : Pos} {whole : Sem Value} {Q : Bool → Shared → Prop}
  (k : wpAny (model PR w) A (eval x env) (fun a s₁ => wpAny (model PR w) A (eval y env) (fun c s₂ => wpAny (model PR w) A (compareOp op a c) (fun r s₃ => wpAny (model PR w) A (truthy r) Q Never s₃) Never s₂) Never s₁) Never ⟨h, g, d, t, o⟩)
  (hm : behindInMarks op y = false := by with_unfolding_all rfl) : wpAny (model PR w) A (isTrue (.Compare x [op] [y] pos) env whole) Q Never ⟨h, g, d, t, o⟩ := wpAny_isTrue_Compare1 k hm
theorem r_cmp {x : Expr} {op : CmpOp} {y : Expr} {pos : Pos} {Q : Value → Shared → Prop}
  (k : wpAny (model PR w) A (eval x env) (fun a s₁ => wpAny (model PR w) A (eval y env) (fun c s₂ => wpAny (model PR w) A (compareOp op a c) Q Never s₂) Never s₁) Never ⟨h, g, d, t, o⟩)
  (hm : behindInMarks op y = false := by with_unfolding_all rfl) : wpAny (model PR w) A (eval (.Compare x [op] [y] pos) env) Q Never ⟨h, g, d, t, o⟩ := wpAny_Compare1 k hm
theorem r_eqi {a c : Int} {u v : Tok} {Q : Value → Shared → Prop} (k : Q (.bool (a == c)) ⟨h, g, d, t, o⟩) : wpAny (model PR w) A (compareOp .Eq (.int a u) (.int c v)) Q Never ⟨h, g, d, t, o⟩ := eq_int k
theorem r_eqs {a c : Str} {u v : Tok} {Q : Value → Shared → Prop} (k : Q (.bool (a == c)) ⟨h, g, d, t, o⟩) : wpAny (model PR w) A (compareOp .Eq (.str a u) (.str c v)) Q Never ⟨h, g, d, t, o⟩ := eq_str k
theorem r_true {c : Bool} {Q : Bool → Shared → Prop} (k : Q c ⟨h, g, d, t, o⟩) : wpAny (model PR w) A (truthy (.bool c)) Q Never ⟨h, g, d, t, o⟩ := wpAny_truthy_bool k
theorem r_tany {e : Expr} {whole : Sem Value} {Q : Bool → Shared → Prop} (k : wpAny (model PR w) A whole (fun v s₁ => wpAny (model PR w) A (truthy v) Q Never s₁) Never ⟨h, g, d, t, o⟩)
  (he : isTrue e env whole = (do let v ← whole; standAt (Expr.pos e); holding [v] (truthy v)) := by with_unfolding_all rfl) : wpAny (model PR w) A (isTrue e env whole) Q Never ⟨h, g, d, t, o⟩ := isTrue_plain k he
noncomputable abbrev Turn (Q : Flow → Shared → Prop) (J : Shared → Prop) : Flow → Shared → Prop
 | .next, s => J s
 | .cont, s => J s
 | .brk, s => Q .next s
 | .ret v, s => Q (.ret v) s
noncomputable abbrev TurnE (Q : Flow → Shared → Prop) (g : Array GenState) (d : Drawn) (o : OsState) (b : Heap) (env : Env) (p : Addr × Obj) (I : Nat → List (Str × Option Value) → List (Addr × Obj) → Prop) (i : Nat) : Flow → Shared → Prop :=
 Turn Q fun s₃ => Ex4 fun h' t' l' σ' => Al3 (s₃ = ⟨h', g, d, t', o⟩) (Fm b env h' l' (p :: σ')) (I (i + 1) l' σ')
noncomputable abbrev TurnW (Q : Flow → Shared → Prop) (g : Array GenState) (d : Drawn) (o : OsState) (b : Heap) (env : Env) (I : Nat → List (Str × Option Value) → List (Addr × Obj) → Prop) (n : Nat) : Flow → Shared → Prop :=
 Turn Q fun s₃ => Ex5 fun m h' t' l' σ' => Al4 (s₃ = ⟨h', g, d, t', o⟩) (Fm b env h' l' σ') (m < n) (I m l' σ')
theorem Kt.retE {w : World} {A : Around} {env env' : Env} {rest : List Stmt} {Q K : Flow → Shared → Prop} {g : Array GenState} {d : Drawn} {o : OsState} {b : Heap} {p : Addr × Obj} {I : Nat → List (Str × Option Value) → List (Addr × Obj) → Prop} {i : Nat} {v : Value} {s : Shared} (H : Kt w A env rest Q K) (k : Q (.ret v) s) : TurnE K g d o b env' p I i (.ret v) s := H.ret k
noncomputable def Loop (w : World) (A : Around) (target : Expr) (body : List Stmt) (env : Env) (Q : Flow → Shared → Prop) (x : Value) (s : Shared) : Prop :=
 wpAny (model PR w) A (pyIter x) (fun it s₂ => codeAny (model PR w) A (.forLoop target it body [] env) (fun r s' => match r with | .ok f => Q f s' | .error _ => False) s₂) Never s
theorem r_for {target iter : Expr} {body : List Stmt} {pos : Pos} {Q : Flow → Shared → Prop} (k : wpAny (model PR w) A (eval iter env) (fun x s₁ => Loop w A target body env Q x s₁) Never ⟨h, g, d, t, o⟩)
  (hs : ∀ x, foldedSetIterable iter env x = pure x := by intro _; with_unfolding_all rfl) : wpAny (model PR w) A (exec (.For target iter body [] pos) env) Q Never ⟨h, g, d, t, o⟩ := by
 refine wpAny_For (wpAny_mono k (fun x s₁ q => wpAny_mono q (fun it s₂ q => ?_) fun _ _ q => q) fun _ _ q => q) hs
 refine codeAny_mono q fun r s' q => ?_
 cases r with
 | ok f => exact q
 | error e => exact q.elim
theorem loop_list {target : Expr} {body : List Stmt} {Q : Flow → Shared → Prop} {la : Addr} {vs : Array Value} (hh : A.handled = none) (V : Fm b env h l σ)
  (I : Nat → List (Str × Option Value) → List (Addr × Obj) → Prop) (h0 : I 0 l σ)
  (hl : ∀ i l σ, I i l σ → ∃ n, At b σ la (listOf vs n))
  (turn : ∀ i v it ito h t l σ, vs[i]? = some v → I i l σ → Fm b env h l ((it, ito) :: σ) →
   wpAny (model PR w) A (assign target env v) (fun _ s₂ => wpAny (model PR w) A (execs body env) (TurnE Q g d o b env (it, ito) I i) Never s₂) Never ⟨h, g, d, t, o⟩)
  (done : ∀ h t l σ, I vs.size l σ → Fm b env h l σ → Q .next ⟨h, g, d, t, o⟩)
  (hgo : ∀ it v, letOwnedTupleGo target (.ref it) v = pure () := by intro _ _; rfl) : Loop w A target body env Q (.ref la) ⟨h, g, d, t, o⟩ := by
 have isl : ∀ {h l σ i}, I i l σ → Fm b env h l σ → h.IsList la vs := fun q V => let ⟨n, H⟩ := hl _ _ _ q; ⟨_, V.at H, rfl, n, rfl⟩
 have L0 := isl h0 V
 refine wpAny_pyIter_list (s := ⟨h, g, d, t, o⟩) L0 ?_
 have V1 := V.push { cls := .type "list_iterator", data := .fields #[.ref la, .int 0 0] }
 have hbit : b.get? h.objs.size = none := (V1.nw _ (.head _)).2.2
 have hLit : h.objs.size ≠ env.locals := (V1.nw _ (.head _)).2.1
 refine codeAny_forLoop
  (fun n s' => Ex6 fun h' t' l' σ' i ito => Al6 (s' = ⟨h', g, d, t', o⟩) (Fm b env h' l' ((h.objs.size, ito) :: σ')) (h'.IsListIter h.objs.size la i) (I i l' σ') (i ≤ vs.size) (n = vs.size + 1 - i)) ?_ (vs.size + 1)
  ⟨_, _, l, σ, 0, _, rfl, V1, ⟨_, (V1.nw _ (.head _)).1, rfl, rfl⟩, h0, Nat.zero_le _, rfl⟩ (hgo _)
 rintro n s' ⟨h', t', l', σ', i, ito, rfl, V', hit, hI, hi, rfl⟩
 have L := isl hI V'.tail
 have ne := V'.ne
 cases hv : vs[i]? with
 | none =>
  have hsz : i = vs.size := Nat.le_antisymm hi (by first | exact hv | simpa using hv)
  subst hsz
  refine wpAny_pyNext_list_end (s := ⟨h', g, d, t', o⟩) hh hit L hv fun h₁ he₁ => wpAny_execs_nil ?_
  refine done _ _ _ _ hI (V'.step (C := [h.objs.size]) (fun a o e n => he₁ a o (fun q => n (q ▸ .head _)) e) (fun c hc => ?_) (fun p hp => .inl ⟨.tail _ hp, fun q => ne p hp (List.mem_singleton.mp q)⟩) V'.tail.na)
  rw [List.mem_singleton.mp hc]; exact ⟨hbit, hLit⟩
 | some v =>
  have hlt : i < vs.size := (Array.getElem?_eq_some_iff.mp hv).1
  refine wpAny_pyNext_list_item (s := ⟨h', g, d, t', o⟩) hit L hv fun h₁ hit₁ hs₁ => ?_
  obtain ⟨ito₁, ei, er⟩ := id hit₁
  have V2 : Fm b env h₁ l' ((h.objs.size, ito₁) :: σ') := V'.step (C := [h.objs.size]) (fun a o e n => (hs₁.2 a fun q => n (q ▸ .head _)).trans e) (fun c hc => by rw [List.mem_singleton.mp hc]; exact ⟨hbit, hLit⟩) (fun p hp => by
   rcases List.mem_cons.mp hp with rfl | hp
   ·exact .inr ⟨ei, hbit, hLit⟩
   ·exact .inl ⟨.tail _ hp, fun q => ne p hp (List.mem_singleton.mp q)⟩) V'.na
  refine wpAny_mono (turn i v h.objs.size ito₁ h₁ t' l' σ' hv hI V2) (fun _ s₂ q => wpAny_mono q (fun f s₃ q => ?_) fun _ _ q => q.elim) fun _ _ q => q.elim
  have fin : (Ex4 fun h' t' l' σ' => Al3 (s₃ = ⟨h', g, d, t', o⟩) (Fm b env h' l' ((h.objs.size, ito₁) :: σ')) (I (i + 1) l' σ')) →
    ∃ m, m < vs.size + 1 - i ∧ Ex6 fun h' t' l' σ' i ito => Al6 (s₃ = ⟨h', g, d, t', o⟩) (Fm b env h' l' ((h.objs.size, ito) :: σ')) (h'.IsListIter h.objs.size la i) (I i l' σ') (i ≤ vs.size) (m = vs.size + 1 - i) := by
   rintro ⟨h₂, t₂, l₂, σ₂, rfl, V₃, hI₃⟩
   exact ⟨vs.size + 1 - (i + 1), by (first | lia | omega), h₂, t₂, l₂, σ₂, i + 1, ito₁, rfl, V₃, ⟨ito₁, (V₃.nw _ (.head _)).1, er⟩, hI₃, hlt, rfl⟩
  cases f with
  | next => exact fin q
  | cont => exact fin q
  | brk => exact q
  | ret v => exact q
theorem r_while {test : Expr} {body : List Stmt} {pos : Pos} {Q : Flow → Shared → Prop} (V : Fm b env h l σ)
  (I : Nat → List (Str × Option Value) → List (Addr × Obj) → Prop) (n : Nat) (h0 : I n l σ)
  (turn : ∀ n h t l σ, I n l σ → Fm b env h l σ → wpAny (model PR w) A (isTrue test env (eval test env)) (fun c s₂ =>
   if c then wpAny (model PR w) A (execs body env) (TurnW Q g d o b env I n) Never s₂
   else Q .next s₂) Never ⟨h, g, d, t, o⟩) : wpAny (model PR w) A (exec (.While test body [] pos) env) Q Never ⟨h, g, d, t, o⟩ := by
 refine wpAny_While (codeAny_whileLoop (fun n s' => Ex4 fun h' t' l' σ' => Al3 (s' = ⟨h', g, d, t', o⟩) (Fm b env h' l' σ') (I n l' σ')) ?_ n ⟨h, t, l, σ, rfl, V, h0⟩)
 rintro n s' ⟨h', t', l', σ', rfl, V', hI⟩
 refine wpAny_mono (turn n h' t' l' σ' hI V') (fun c s₂ q => ?_) fun _ _ q => q.elim
 cases c with
 | false => exact wpAny_execs_nil q
 | true =>
  refine wpAny_mono (show wpAny (model PR w) A (execs body env) _ Never s₂ from q) (fun f s₃ q => ?_) fun _ _ q => q.elim
  have fin : (Ex5 fun m h' t' l' σ' => Al4 (s₃ = ⟨h', g, d, t', o⟩) (Fm b env h' l' σ') (m < n) (I m l' σ')) → ∃ m, m < n ∧ Ex4 fun h' t' l' σ' => Al3 (s₃ = ⟨h', g, d, t', o⟩) (Fm b env h' l' σ') (I m l' σ') :=
   fun ⟨m, h', t', l', σ', e, V, hm, hI⟩ => ⟨m, hm, h', t', l', σ', e, V, hI⟩
  cases f with
  | next => exact fin q
  | cont => exact fin q
  | brk => exact q
  | ret v => exact q
end
end
section
inductive EsAre : List DictEntry → List (Str × Value) → Prop
 | nil : EsAre [] []
 | cons {hs n u v es l} : EsAre es l → EsAre (⟨hs, .str n u, v⟩ :: es) ((n, v) :: l)
theorem EsAre.getL {name : Str} {es : List DictEntry} {l : List (Str × Value)} (E : EsAre es l) : getL name es = some (l.lookup name) := by
 have noref : es.any (·.refKey) = false := by
  induction E with
  | nil => rfl
  | cons _ ih => simp only [List.any_cons, ih, Bool.or_false]; rfl
 have find : (es.find? (·.key.isStr name)).map (·.val) = l.lookup name := by
  clear noref
  induction E with
  | nil => rfl
  | @cons hs n u v es l _ ih =>
   rw [List.find?_cons, List.lookup_cons]
   show Option.map _ (match n == name with | true => _ | false => _) = _
   by_cases hn : n = name
   ·subst hn; simp
   ·have h1 : (n == name) = false := beq_eq_false_iff_ne.mpr hn
    have h2 : (name == n) = false := beq_eq_false_iff_ne.mpr (Ne.symm hn)
    rw [h1, h2]; exact ih
 unfold W.getL
 cases hf : es.find? (·.key.isStr name) with
 | none => rw [hf] at find; rw [noref]; simpa using find
 | some e => rw [hf] at find; simpa using find
theorem EsAre.length {es : List DictEntry} {l : List (Str × Value)} (E : EsAre es l) : es.length = l.length := by
 induction E with
 | nil => rfl
 | cons _ ih => simp [ih]
structure Self (h : Heap) (x C dx : Addr) (fl : List (Str × Value)) : Prop where
 ex : ∃ es n, h.get? x = some (instObj C dx) ∧ h.get? dx = some (dictOf es n) ∧ EsAre es fl
section
variable {w : World} {b h : Heap} {env : Env} {l l' : List (Str × Option Value)} {σ σ' : List (Addr × Obj)} {ks : List (Str × NameKind)} {A : Around} {g : Array GenState} {d : Drawn} {t : Nat} {o : OsState}
theorem Self.sub {x C dx : Addr} {fl : List (Str × Value)} {h h' : Heap} (I : Self h x C dx fl) (s : Sub h h') : Self h' x C dx fl :=
 let ⟨es, n, h1, h2, h3⟩ := I.ex; ⟨es, n, s _ _ h1, s _ _ h2, h3⟩
theorem Self.kept {x C dx : Addr} {fl : List (Str × Value)} {h h' : Heap} {D : List Addr} (I : Self h x C dx fl) (s : Kept D h h') (h1 : x ∉ D) (h2 : dx ∉ D) : Self h' x C dx fl :=
 let ⟨es, n, e1, e2, e3⟩ := I.ex; ⟨es, n, s _ _ e1 h1, s _ _ e2 h2, e3⟩
theorem r_self {x C dx : Addr} {fl : List (Str × Value)} {name : Str} {v : Value} {expr : Bool} {Q : Value → Shared → Prop} (G : Gd w b) (V : Fm b env h l σ) (I : Self b x C dx fl) (P : Plain w C name)
  (hl : fl.lookup name = some v) (k : ∀ t', Q v ⟨h, g, d, t', o⟩) (hh : handedIn v = true := by rfl) : wpAny (model PR w) A (getAttr (.ref x) name expr) Q Never ⟨h, g, d, t, o⟩ :=
 let ⟨_, n, h1, h2, h3⟩ := I.ex
 r_getattr G V (n := n) ⟨.inr h1, .inr h2⟩ P (by rw [h3.getL, hl]) hh k
theorem r_smeth {x C dx f : Addr} {fl : List (Str × Value)} {name : Str} {pl : Sem Bool} {Q : Value × List Value → Shared → Prop} (G : Gd w b) (V : Fm b env h l σ) (I : Self b x C dx fl) (P : Meth w C name f)
  (hl : fl.lookup name = none) (k : Q (.ref f, [.ref x]) ⟨h, g, d, t, o⟩) : wpAny (model PR w) A (getMethod (.ref x) name pl) Q Never ⟨h, g, d, t, o⟩ :=
 let ⟨_, n, h1, h2, h3⟩ := I.ex
 r_getmeth G V (n := n) ⟨.inr h1, .inr h2⟩ P (by rw [h3.getL, hl]) k
end
inductive All2 {α β : Type} (P : α → β → Prop) : List α → List β → Prop
 | nil : All2 P [] []
 | cons {x y xs ys} : P x y → All2 P xs ys → All2 P (x :: xs) (y :: ys)
section
variable {α β : Type} {P P' : α → β → Prop}
theorem All2.length {xs : List α} {ys : List β} (N : All2 P xs ys) : xs.length = ys.length := by
 induction N with
 | nil => rfl
 | cons _ _ ih => simp [ih]
theorem All2.get {xs : List α} {ys : List β} (N : All2 P xs ys) : ∀ {i : Nat} {y : β}, ys[i]? = some y → ∃ x, xs[i]? = some x ∧ P x y := by
 induction N with
 | nil => intro i n h; simp at h
 | cons hv _ ih =>
  intro i n h
  cases i with
  | zero => simp at h; subst h; exact ⟨_, rfl, hv⟩
  | succ i => simpa using ih (by first | exact h | simpa using h)
theorem All2.back {xs : List α} {ys : List β} (N : All2 P xs ys) : ∀ {i : Nat} {x : α}, xs[i]? = some x → ∃ y, ys[i]? = some y ∧ P x y := by
 induction N with
 | nil => intro i n h; simp at h
 | cons hv _ ih =>
  intro i n h
  cases i with
  | zero => simp at h; subst h; exact ⟨_, rfl, hv⟩
  | succ i => simpa using ih (by first | exact h | simpa using h)
theorem All2.append {xs us : List α} {ys vs : List β} (N : All2 P xs ys) (M : All2 P us vs) : All2 P (xs ++ us) (ys ++ vs) := by
 induction N with
 | nil => exact M
 | cons h _ ih => exact .cons h ih
theorem All2.snoc {xs : List α} {ys : List β} {x : α} {y : β} (N : All2 P xs ys) (hv : P x y) : All2 P (xs ++ [x]) (ys ++ [y]) := N.append (.cons hv .nil)
theorem All2.mono {xs : List α} {ys : List β} (N : All2 P xs ys) (h : ∀ x y, P x y → P' x y) : All2 P' xs ys := by
 induction N with
 | nil => exact .nil
 | cons hv _ ih => exact .cons (h _ _ hv) ih
end
noncomputable def IsN (v : Value) (n : Nat) : Prop := ∃ u, v = .int n u
noncomputable def IsS (v : Value) (x : Str) : Prop := ∃ u, v = .str x u
noncomputable abbrev Nums := All2 IsN
noncomputable def ListP {β : Type} (P : Value → β → Prop) (h : Heap) (a : Addr) (ys : List β) : Prop := ∃ vs k, h.get? a = some (listOf vs k) ∧ All2 P vs.toList ys
noncomputable def TupP {β : Type} (P : Value → β → Prop) (h : Heap) (a : Addr) (ys : List β) : Prop := ∃ vs, h.get? a = some (tupOf vs) ∧ All2 P vs ys
noncomputable abbrev ListN := ListP IsN
noncomputable abbrev TupN := TupP IsN
section
variable {β : Type} {P P' : Value → β → Prop} {h h' : Heap} {a : Addr} {ys : List β} {C : List Addr}
theorem ListP.sub (x : ListP P h a ys) (s : Sub h h') : ListP P h' a ys := let ⟨vs, k, e, n⟩ := x; ⟨vs, k, s _ _ e, n⟩
theorem ListP.kept (x : ListP P h a ys) (s : Kept C h h') (hn : a ∉ C) : ListP P h' a ys := let ⟨vs, k, e, n⟩ := x; ⟨vs, k, s _ _ e hn, n⟩
theorem ListP.mono (x : ListP P h a ys) (f : ∀ x y, P x y → P' x y) : ListP P' h a ys := let ⟨vs, k, e, n⟩ := x; ⟨vs, k, e, n.mono f⟩
theorem TupP.sub (x : TupP P h a ys) (s : Sub h h') : TupP P h' a ys := let ⟨vs, e, n⟩ := x; ⟨vs, s _ _ e, n⟩
theorem TupP.kept (x : TupP P h a ys) (s : Kept C h h') (hn : a ∉ C) : TupP P h' a ys := let ⟨vs, e, n⟩ := x; ⟨vs, s _ _ e hn, n⟩
end
inductive Dt where
 | i (n : Nat)
 | t (l : List Nat)
 deriving DecidableEq
structure Tm where
 op : Str
 args : List Nat
 sort : Nat
 data : Dt
 deriving DecidableEq
noncomputable def IsDt (h : Heap) (v : Value) : Dt → Prop
 | .i n => IsN v n
 | .t l => ∃ a, v = .ref a ∧ TupN h a l
theorem IsDt.sub {h h' : Heap} {v : Value} {d : Dt} (x : IsDt h v d) (s : Sub h h') : IsDt h' v d := by
 cases d with
 | i n => exact x
 | t l => obtain ⟨a, e, y⟩ := x; exact ⟨a, e, y.sub s⟩
structure BankL where
 x : Addr
 dx : Addr
 lsn : Addr
 lsw : Addr
 lfn : Addr
 lfa : Addr
 lfr : Addr
 lo : Addr
 la : Addr
 ls : Addr
 ld : Addr
 ln : Addr
 u0 : Tok
 u1 : Tok
 u2 : Tok
noncomputable def BankL.fields (B : BankL) : List (Str × Value) :=
 [("sort_names", .ref B.lsn), ("sort_widths", .ref B.lsw), ("fun_names", .ref B.lfn), ("fun_args", .ref B.lfa), ("fun_results", .ref B.lfr), ("fresh_count", .int 0 B.u0), ("term_ops", .ref B.lo), ("term_args", .ref B.la), ("term_sorts", .ref B.ls), ("term_datas", .ref B.ld), ("numbers", .ref B.ln), ("true_number", .int 1 B.u1), ("false_number", .int 2 B.u2)]
structure BankR (h : Heap) (B : BankL) (ts : List Tm) : Prop where
 self : Self h B.x 442 B.dx B.fields
 ops : ListP (fun v (m : Tm) => IsS v m.op) h B.lo ts
 args : ListP (fun v (m : Tm) => ∃ a, v = .ref a ∧ TupN h a m.args) h B.la ts
 sorts : ListP (fun v (m : Tm) => IsN v m.sort) h B.ls ts
 datas : ListP (fun v (m : Tm) => IsDt h v m.data) h B.ld ts
theorem BankR.sub {h h' : Heap} {B : BankL} {ts : List Tm} (x : BankR h B ts) (s : Sub h h') : BankR h' B ts :=
 ⟨x.self.sub s, x.ops.sub s, (x.args.sub s).mono fun _ _ ⟨a, e, y⟩ => ⟨a, e, y.sub s⟩, x.sorts.sub s, (x.datas.sub s).mono fun _ _ y => y.sub s⟩
end
section
noncomputable def NMap {β : Type} (w : World) (P : Value → β → Prop) (o : Obj) (f : Nat → Option β) (n : Nat) : Prop :=
 ∃ kvs : List (Int × Value), o.IsDictOf (intKind PR w) kvs ∧ kvs.length ≤ n ∧ ∀ k : Nat, match f k with
  | none => valueAt kvs (k : Int) = none
  | some y => ∃ v, valueAt kvs (k : Int) = some v ∧ P v y
theorem valueAt_stored {K : Type} [DecidableEq K] (kvs : List (K × Value)) (k : K) (v : Value) (j : K) : valueAt (stored kvs k v) j = if j = k then some v else valueAt kvs j := by
 unfold stored
 split
 ·rename_i h
  induction kvs with
  | nil => simp at h
  | cons p r ih =>
   obtain ⟨a, c⟩ := p
   by_cases ha : a = k
   ·subst ha
    by_cases hj : j = a
    ·subst hj; simp [valueAt]
    ·have hj' : ¬ a = j := fun e => hj e.symm
     simp only [valueAt, List.map_cons, if_true, List.find?_cons, hj', decide_false, hj, if_false]
     clear ih h
     induction r with
     | nil => rfl
     | cons q r ih =>
      obtain ⟨x, y⟩ := q
      by_cases hx : x = a
      ·subst hx; simp only [List.map_cons, if_true, List.find?_cons, hj', decide_false]; exact ih
      ·simp only [List.map_cons, hx, if_false, List.find?_cons]
       by_cases hxj : x = j
       ·simp [hxj]
       ·simp only [hxj, decide_false]; exact ih
   ·have h' : (r.any fun kv => decide (kv.1 = k)) = true := by simpa [ha] using h
    have ih' := ih h'
    simp only [valueAt, List.map_cons, ha, if_false, List.find?_cons] at ih' ⊢
    by_cases haj : a = j
    ·have : ¬ j = k := fun e => ha (haj.trans e)
     simp [haj, this]
    ·simp only [haj, decide_false]; exact ih'
 ·rename_i h
  have hno : ∀ p ∈ kvs, ¬ p.1 = k := fun p hp e => h (List.any_eq_true.mpr ⟨p, hp, decide_eq_true e⟩)
  unfold valueAt
  rw [List.find?_append]
  by_cases hj : j = k
  ·subst hj
   have : (kvs.find? fun kv => decide (kv.1 = j)) = none := List.find?_eq_none.mpr fun p hp => by simpa using hno p hp
   simp [this]
  ·have hj' : ¬ k = j := fun e => hj e.symm
   simp [hj, hj']
theorem stored_length_old {K : Type} [DecidableEq K] {kvs : List (K × Value)} {k : K} {v u : Value} (h : valueAt kvs k = some u) : (stored kvs k v).length = kvs.length := by
 unfold stored
 rw [if_pos, List.length_map]
 unfold valueAt at h
 obtain ⟨p, hp, _⟩ := Option.map_eq_some_iff.mp h
 have q := List.find?_some hp
 exact List.any_eq_true.mpr ⟨p, List.mem_of_find?_eq_some hp, by simpa using q⟩
section
variable {w : World} {b h : Heap} {env : Env} {l l' : List (Str × Option Value)} {σ : List (Addr × Obj)} {σ' : Obj → List (Addr × Obj)} {ks : List (Str × NameKind)} {A : Around} {g : Array GenState} {d : Drawn} {t : Nat} {o : OsState}
variable {β : Type} {P : Value → β → Prop}
theorem NMap.nil (w : World) (P : Value → β → Prop) : NMap w P { cls := .type "dict", data := .dict #[] } (fun _ => none) 0 :=
 ⟨[], ⟨#[], 0, ⟨rfl, rfl, rfl⟩, rfl, fun _ he => by simp at he, Pairs.nil, List.nodup_nil⟩, Nat.le_refl _, fun _ => rfl⟩
theorem NMap.le {oo : Obj} {f : Nat → Option β} {n m : Nat} (M : NMap w P oo f n) (h : n ≤ m) : NMap w P oo f m := let ⟨kvs, a, c, e⟩ := M; ⟨kvs, a, Nat.le_trans c h, e⟩
theorem NMap.congr {oo : Obj} {f f' : Nat → Option β} {n : Nat} (M : NMap w P oo f n) (h : ∀ k, f k = f' k) : NMap w P oo f' n := (funext h : f = f') ▸ M
noncomputable def setF (f : Nat → Option β) (k : Nat) (y : β) : Nat → Option β := fun j => if j = k then some y else f j
theorem r_getN {value slice : Expr} {a : Addr} {oo : Obj} {f : Nat → Option β} {n : Nat} {key : Value} {k : Nat} {y : β} {Q : Value → Shared → Prop} (V : Fm b env h l σ) (H : At b σ a oo) (M : NMap w P oo f n) (hk : IsN key k) (hf : f k = some y)
  (q : ∀ v t', P v y → Q v ⟨h, g, d, t', o⟩) (hs : subscripted slice false (.ref a) key = operate [.ref a, key] (getItem (.ref a) key) := by with_unfolding_all rfl) :
  wpAny (model PR w) A (subscriptTail value slice (.ref a) key) Q Never ⟨h, g, d, t, o⟩ := by
 obtain ⟨kvs, hd, _, hv⟩ := M
 obtain ⟨u, rfl⟩ := hk
 have hv := hv k
 rw [hf] at hv
 obtain ⟨v, e1, e2⟩ := hv
 have hm : h.DictOf (intKind PR w) a kvs := Heap.dictOf_iff.mpr ⟨_, V.at H, hd⟩
 exact tail_any (s := ⟨h, g, d, t, o⟩) hm.typeIs slot_dict_getitem.lookup (wpAny_getItem_of (intKind_is _ _ _ _) hm.mapOf e1 (q _ _ e2)) hs
theorem r_setN {a : Addr} {oo : Obj} {f : Nat → Option β} {n : Nat} {key v : Value} {k : Nat} {y : β} {Q : Unit → Shared → Prop} (V : Fm b env h l σ) (U : ∀ o', PutS a oo o' σ (σ' o')) (M : NMap w P oo f n) (hk : IsN key k) (hv : P v y) (hz : n ≤ 1000000)
  (q : ∀ o' h' t', NMap w P o' (setF f k y) (if (f k).isSome then n else n + 1) → Fm b env h' l (σ' o') → Kept [a] h h' → h'.get? a = some o' → Q () ⟨h', g, d, t', o⟩) : wpAny (model PR w) A (setItem (.ref a) key v) Q Never ⟨h, g, d, t, o⟩ := by
 obtain ⟨kvs, hd, hn, hf⟩ := M
 obtain ⟨u, rfl⟩ := hk
 have hm : h.DictOf (intKind PR w) a kvs := Heap.dictOf_iff.mpr ⟨_, (V.nw _ (U oo).mem).1, hd⟩
 refine wpAny_setItem_pairs (s := ⟨h, g, d, t, o⟩) (intKind_is _ _ _ _) hm (fun h' hm' hs => ?_) (by rw [sizeLine_eq]; (first | lia | omega))
 obtain ⟨o', ho', hd'⟩ := Heap.dictOf_iff.mp hm'
 have hkept : Kept [a] h h' := fun c oc e n => (hs.2 c fun q => n (q ▸ .head _)).trans e
 refine q o' h' _ ⟨_, hd', ?_, fun j => ?_⟩ (V.put (U o') hkept ho') hkept ho'
 ·have hfk := hf k
  cases hk : f k with
  | none => rw [hk] at hfk; simp only [Option.isSome_none, Bool.false_eq_true, if_false]; have := stored_length_le kvs (k : Int) v; (first | lia | omega)
  | some y => rw [hk] at hfk; obtain ⟨v0, e, _⟩ := hfk; simp only [Option.isSome_some, if_true]; rw [stored_length_old e]; exact hn
 ·rw [valueAt_stored]
  unfold setF
  by_cases hj : j = k
  ·subst hj; simp only [if_true]; exact ⟨v, rfl, hv⟩
  ·have : ¬ (j : Int) = (k : Int) := by (first | lia | omega)
   rw [if_neg hj, if_neg this]; exact hf j
theorem r_inN {a : Addr} {oo : Obj} {f : Nat → Option β} {n : Nat} {key : Value} {k : Nat} {Q : Value → Shared → Prop} (V : Fm b env h l σ) (H : At b σ a oo) (M : NMap w P oo f n) (hk : IsN key k) (ha : (a == sysModules) = false)
  (q : ∀ t', Q (.bool (f k).isSome) ⟨h, g, d, t', o⟩) : wpAny (model PR w) A (compareOp .In key (.ref a)) Q Never ⟨h, g, d, t, o⟩ := by
 obtain ⟨kvs, hd, _, hv⟩ := M
 obtain ⟨u, rfl⟩ := hk
 have hm : h.DictOf (intKind PR w) a kvs := Heap.dictOf_iff.mpr ⟨_, V.at H, hd⟩
 refine wpAny_in_of (s := ⟨h, g, d, t, o⟩) (intKind_is _ _ _ _) ha hm.mapOf ?_
 have hv := hv k
 cases hk : f k with
 | none => rw [hk] at hv q; rw [hv]; exact q _
 | some y => rw [hk] at hv q; obtain ⟨v, e, _⟩ := hv; rw [e]; exact q _
theorem r_notInN {a : Addr} {oo : Obj} {f : Nat → Option β} {n : Nat} {key : Value} {k : Nat} {Q : Value → Shared → Prop} (V : Fm b env h l σ) (H : At b σ a oo) (M : NMap w P oo f n) (hk : IsN key k) (ha : (a == sysModules) = false)
  (q : ∀ t', Q (.bool (!(f k).isSome)) ⟨h, g, d, t', o⟩) : wpAny (model PR w) A (compareOp .NotIn key (.ref a)) Q Never ⟨h, g, d, t, o⟩ := by
 obtain ⟨kvs, hd, _, hv⟩ := M
 obtain ⟨u, rfl⟩ := hk
 have hm : h.DictOf (intKind PR w) a kvs := Heap.dictOf_iff.mpr ⟨_, V.at H, hd⟩
 refine wpAny_notIn_of (s := ⟨h, g, d, t, o⟩) (intKind_is _ _ _ _) ha hm.mapOf ?_
 have hv := hv k
 cases hk : f k with
 | none => rw [hk] at hv q; rw [hv]; exact q _
 | some y => rw [hk] at hv q; obtain ⟨v, e, _⟩ := hv; rw [e]; exact q _
theorem Gd.low (G : Gd w b) : 3 < b.objs.size := by
 obtain ⟨mg, mb, T⟩ := G.T
 obtain ⟨og, _, _, hg, _⟩ := T.g
 exact Heap.lt_size hg
noncomputable abbrev dict0 : Obj := { cls := .type "dict", data := .dict #[] }
theorem r_dict0 {pos : Pos} {Q : Value → Shared → Prop} (G : Gd w b) (V : Fm b env h l σ) (k : ∀ a h', h.objs.size ≤ a → Sub h h' → (a == sysModules) = false → Fm b env h' l ((a, dict0) :: σ) → Q (.ref a) ⟨h', g, d, t, o⟩) :
  wpAny (model PR w) A (eval (.Dict [] [] pos) env) Q Never ⟨h, g, d, t, o⟩ := by
 refine wpAny_Dict_empty (k _ _ (Nat.le_refl _) (fun _ _ e => Heap.get?_push_of_some _ e) ?_ (V.push _))
 have h1 := (G.mono V.sub).low
 refine beq_eq_false_iff_ne.mpr fun e => ?_
 have : h.objs.size = 1 := e
 (first | lia | omega)
theorem r_append {a : Addr} {vs : Array Value} {n : Nat} {v : Value} {σ' : List (Addr × Obj)} {Q : Value → Shared → Prop} (V : Fm b env h l σ) (U : PutS a (listOf vs n) (listOf (vs.push v) (n + 1)) σ σ') (hz : vs.size ≤ 1000000)
  (k : ∀ h', Fm b env h' l σ' → Kept [a] h h' → h'.get? a = some (listOf (vs.push v) (n + 1)) → Q .none ⟨h', g, d, t, o⟩) : wpAny (model PR w) A (call (.builtin "list.append") [.ref a, v]) Q Never ⟨h, g, d, t, o⟩ := by
 have ha := (V.nw _ U.mem).1
 refine wpAny_call_entry slot_list_append (s := ⟨h, g, d, t, o⟩) ⟨_, ha, rfl⟩ entry_list_append ?_ (args_list_append _ _)
 show wpAny _ _ (updateSeq a (·.push v) >>= fun _ => ret .none) _ _ _
 have ho' : (h.update a (Obj.mapSeq (·.push v))).get? a = some (listOf (vs.push v) (n + 1)) := by
  rw [Heap.get?_update_self _ ha (by rw [Obj.mapSeq_push_plain]; rfl), Obj.mapSeq_push_plain]
 have hkept : Kept [a] h (h.update a (Obj.mapSeq (·.push v))) := fun c oc e n => (Heap.get?_update_ne _ _ _ _ (fun q => n (by simp [q]))).trans e
 refine wpAny_bind (wpAny_updateSeq ha rfl (wpAny_pure ⟨.none, rfl, k _ (V.put U hkept ho') hkept ho'⟩) ?_)
 seq_fits
theorem r_lmeth {a : Addr} {vs : Array Value} {n : Nat} {name : Str} {id : String} {pl : Sem Bool} {Q : Value × List Value → Shared → Prop} (V : Fm b env h l σ) (H : At b σ a (listOf vs n)) (slot : Slot "list" name id) (hty : typeOf (.builtin id) = pure (.type "method_descriptor"))
  (k : Q (.builtin id, [.ref a]) ⟨h, g, d, t, o⟩) : wpAny (model PR w) A (getMethod (.ref a) name pl) Q Never ⟨h, g, d, t, o⟩ :=
 getMethod_builtin (s := ⟨h, g, d, t, o⟩) ⟨_, V.at H, rfl⟩ F.plainAttrs_list slot hty (fun c e => by cases e; exact ⟨_, V.at H, rfl⟩) k
end
end
section
noncomputable def Later (s : Shared) (P : Shared → Prop) : Prop := ∀ h' t', Sub s.heap h' → P ⟨h', s.gens, s.drawn, t', s.os⟩
theorem ext_sub {h h' : Heap} (x : Heap.ExtBut h.objs.size h h') : Sub h h' := fun a o e => x a o (Nat.ne_of_lt (Heap.lt_size e)) e
section
variable {w : World} {b h : Heap} {env : Env} {l l' : List (Str × Option Value)} {σ : List (Addr × Obj)} {ks : List (Str × NameKind)} {A : Around} {g : Array GenState} {d : Drawn} {t : Nat} {o : OsState}
theorem later {P : Shared → Prop} (k : ∀ h' t', Sub h h' → P ⟨h', g, d, t', o⟩) : Later ⟨h, g, d, t, o⟩ P := k
theorem posN {x : Str} {p : Pos} : (Expr.Name x p).pos = p := rfl
theorem swapped2 (e : Ev env ks) {x y : Str} {p1 p2 tp vp : Pos} {n m : Nat} {a c : Expr} (hx : env.kindOf x = some .local) (hy : env.kindOf y = some .local) (hxy : (y == x) = false) (hl : (p1.line == p1.line && p2.line == p1.line) = true)
  (h1 : ([a, c].any fun | .Starred .. => true | _ => false) = false) (h2 : ([a, c].all (foldedForSure 8)) = false) (h3 : ([a, c].all (constantsAlone 8)) = false) :
  swappedStores [.Tuple [.Name x p1, .Name y p2] n tp] (.Tuple [a, c] m vp) env = pure (some [x, y]) := by
 have hl1 : (p2.line == p1.line) = true := (Bool.and_eq_true_iff.mp hl).2
 have hb : env.blockKind = .function := by unfold Env.blockKind; rw [e.fn]; rfl
 unfold swappedStores
 simp only [hb, h1, h2, h3, hx, hy, hl1, List.length_cons, List.length_nil, List.filterMap_cons, List.filterMap_nil, List.head?_cons, Option.map_some, Option.getD_some, posN, beq_self_eq_true, Bool.true_and, Bool.and_true, if_true, Bool.or_true, Bool.or_false, Bool.true_or, Bool.not_true, Bool.false_or, bne_self_eq_false, Bool.false_eq_true, if_false]
 have he : ([x, y] : List Str).eraseDups = [x, y] := by
  rw [List.eraseDups_cons, List.filter_cons]
  rw [hxy]
  simp [List.eraseDups_cons]
 rw [he]
 exact (if_neg fun q => Bool.false_ne_true (Eq.trans (Eq.symm h1) q)).trans rfl
theorem swapped3 (e : Ev env ks) {x y z : Str} {p1 p2 p3 tp vp : Pos} {n m : Nat} {a c f : Expr} (hx : env.kindOf x = some .local) (hy : env.kindOf y = some .local) (hz : env.kindOf z = some .local) (hxy : (y == x) = false) (hxz : (z == x) = false) (hyz : (z == y) = false) (hl : (p2.line == p1.line && p3.line == p1.line) = true)
  (h1 : ([a, c, f].any fun | .Starred .. => true | _ => false) = false) (h2 : ([a, c, f].all (foldedForSure 8)) = false) (h3 : ([a, c, f].all (constantsAlone 8)) = false) :
  swappedStores [.Tuple [.Name x p1, .Name y p2, .Name z p3] n tp] (.Tuple [a, c, f] m vp) env = pure (some [x, y, z]) := by
 have hl1 : (p2.line == p1.line) = true := (Bool.and_eq_true_iff.mp hl).1
 have hl2 : (p3.line == p1.line) = true := (Bool.and_eq_true_iff.mp hl).2
 have hb : env.blockKind = .function := by unfold Env.blockKind; rw [e.fn]; rfl
 unfold swappedStores
 simp only [hb, h1, h2, h3, hx, hy, hz, hl1, hl2, List.length_cons, List.length_nil, List.filterMap_cons, List.filterMap_nil, List.head?_cons, Option.map_some, Option.getD_some, posN, beq_self_eq_true, Bool.true_and, Bool.and_true, if_true, Bool.or_true, Bool.or_false, Bool.true_or, Bool.not_true, Bool.false_or, bne_self_eq_false, Bool.false_eq_true, if_false]
 have he : ([x, y, z] : List Str).eraseDups = [x, y, z] := by
  rw [List.eraseDups_cons, List.filter_cons, hxy, List.filter_cons, hxz]
  simp only [Bool.not_false, if_true, List.filter_nil]
  rw [List.eraseDups_cons, List.filter_cons, hyz]
  simp [List.eraseDups_cons]
 rw [he]
 exact (if_neg fun q => Bool.false_ne_true (Eq.trans (Eq.symm h1) q)).trans rfl
theorem unpacked {n : Nat} {a : Addr} {vs : List Value} {Q : List Value → Shared → Prop} (hh : A.handled = none) (ha : h.get? a = some (tupOf vs)) (hn : n = vs.length) (k : ∀ h', Sub h h' → Q vs ⟨h', g, d, t, o⟩) :
  wpAny (model PR w) A (unpackItems (.ref a) n none) Q Never ⟨h, g, d, t, o⟩ := by
 subst hn
 have ht : IsTup h a vs.toArray := ⟨_, ha, rfl, 0, rfl⟩
 have := unpackItems_tuple (s := ⟨h, g, d, t, o⟩) (prog := PR) (w := w) (A := A) (E := Never) (Q := Q) hh ht fun h' he => by simpa using k h' (ext_sub he)
 simpa using this
theorem r_assign2 {x y : Str} {p1 p2 tp vp pos : Pos} {n m : Nat} {a c : Expr} {Q : Flow → Shared → Prop} (hh : A.handled = none) (e : Ev env ks) (hx : (x, .local) ∈ ks) (hy : (y, .local) ∈ ks) (hxy : (y == x) = false)
  (k : wpAny (model PR w) A (eval a env) (fun v1 s₁ => wpAny (model PR w) A (eval c env) (fun v2 s₂ => Later s₂ fun s₃ => wpAny (model PR w) A (storeName env y v2) (fun _ s₄ => wpAny (model PR w) A (storeName env x v1) (fun _ => Q .next) Never s₄) Never s₃) Never s₁) Never ⟨h, g, d, t, o⟩)
  (hl : (p1.line == p1.line && p2.line == p1.line) = true := by with_unfolding_all rfl) (h1 : ([a, c].any fun | .Starred .. => true | _ => false) = false := by with_unfolding_all rfl) (h2 : ([a, c].all (foldedForSure 8)) = false := by with_unfolding_all rfl) (h3 : ([a, c].all (constantsAlone 8)) = false := by with_unfolding_all rfl)
  (hsp : spliced (backTo vp (starEach [a, c] env)) = spliced [(false, eval a env), (false, eval c env)] := by with_unfolding_all rfl) (hs : swapsWithSole [.Tuple [.Name x p1, .Name y p2] n tp] (.Tuple [a, c] m vp) pos.line env = pure false := by with_unfolding_all rfl) :
  wpAny (model PR w) A (exec (.Assign [.Tuple [.Name x p1, .Name y p2] n tp] (.Tuple [a, c] m vp) pos) env) Q Never ⟨h, g, d, t, o⟩ := by
 refine Assign_Tuple_swapped (names := [x, y]) (Tuple_ ?_) hs (swapped2 e (e.ks _ hx) (e.ks _ hy) hxy hl h1 h2 h3)
 rw [hsp]
 refine spliced_cons (wpAny_mono k (fun v1 s₁ q => spliced_cons (wpAny_mono q (fun v2 s₂ q => spliced_nil ?_) fun _ _ q => q)) fun _ _ q => q)
 obtain ⟨h2', g2, d2, t2, o2⟩ := s₂
 refine wpAny_newObj_type ?_ (by show (2 : Nat) ≤ sizeLine; rw [sizeLine_eq]; (first | lia | omega))
 refine unpacked (vs := [v1, v2]) hh (Heap.get?_push_size _ rfl) rfl fun h3' s3 => ?_
 refine wpAny_assignInOrder_more (wpAny_bindName (wpAny_mono (q h3' t2 fun a o e => s3 _ _ (Heap.get?_push_of_some _ e)) (fun _ s₄ q => ?_) fun _ _ q => q))
 exact wpAny_assignInOrder_more (wpAny_bindName (wpAny_mono q (fun _ s₅ q => wpAny_assignInOrder_none q) fun _ _ q => q))
theorem r_assign3 {x y z : Str} {p1 p2 p3 tp vp pos : Pos} {n m : Nat} {a c f : Expr} {Q : Flow → Shared → Prop} (hh : A.handled = none) (e : Ev env ks) (hx : (x, .local) ∈ ks) (hy : (y, .local) ∈ ks) (hz : (z, .local) ∈ ks) (hxy : (y == x) = false) (hxz : (z == x) = false) (hyz : (z == y) = false)
  (k : wpAny (model PR w) A (eval a env) (fun v1 s₁ => wpAny (model PR w) A (eval c env) (fun v2 s₂ => wpAny (model PR w) A (eval f env) (fun v3 s₃ => Later s₃ fun s₄ => wpAny (model PR w) A (storeName env z v3) (fun _ s₅ => wpAny (model PR w) A (storeName env y v2) (fun _ s₆ => wpAny (model PR w) A (storeName env x v1) (fun _ => Q .next) Never s₆) Never s₅) Never s₄) Never s₂) Never s₁) Never ⟨h, g, d, t, o⟩)
  (hl : (p2.line == p1.line && p3.line == p1.line) = true := by with_unfolding_all rfl) (h1 : ([a, c, f].any fun | .Starred .. => true | _ => false) = false := by with_unfolding_all rfl) (h2 : ([a, c, f].all (foldedForSure 8)) = false := by with_unfolding_all rfl) (h3 : ([a, c, f].all (constantsAlone 8)) = false := by with_unfolding_all rfl)
  (hsp : spliced (backTo vp (starEach [a, c, f] env)) = spliced [(false, eval a env), (false, eval c env), (false, eval f env)] := by with_unfolding_all rfl) (hs : swapsWithSole [.Tuple [.Name x p1, .Name y p2, .Name z p3] n tp] (.Tuple [a, c, f] m vp) pos.line env = pure false := by with_unfolding_all rfl) :
  wpAny (model PR w) A (exec (.Assign [.Tuple [.Name x p1, .Name y p2, .Name z p3] n tp] (.Tuple [a, c, f] m vp) pos) env) Q Never ⟨h, g, d, t, o⟩ := by
 refine Assign_Tuple_swapped (names := [x, y, z]) (Tuple_ ?_) hs (swapped3 e (e.ks _ hx) (e.ks _ hy) (e.ks _ hz) hxy hxz hyz hl h1 h2 h3)
 rw [hsp]
 refine spliced_cons (wpAny_mono k (fun v1 s₁ q => spliced_cons (wpAny_mono q (fun v2 s₂ q => spliced_cons (wpAny_mono q (fun v3 s₃ q => spliced_nil ?_) fun _ _ q => q)) fun _ _ q => q)) fun _ _ q => q)
 obtain ⟨h2', g2, d2, t2, o2⟩ := s₃
 refine wpAny_newObj_type ?_ (by show (3 : Nat) ≤ sizeLine; rw [sizeLine_eq]; (first | lia | omega))
 refine unpacked (vs := [v1, v2, v3]) hh (Heap.get?_push_size _ rfl) rfl fun h3' s3 => ?_
 refine wpAny_assignInOrder_more (wpAny_bindName (wpAny_mono (q h3' t2 fun a o e => s3 _ _ (Heap.get?_push_of_some _ e)) (fun _ s₄ q => ?_) fun _ _ q => q))
 refine wpAny_assignInOrder_more (wpAny_bindName (wpAny_mono q (fun _ s₄ q => ?_) fun _ _ q => q))
 exact wpAny_assignInOrder_more (wpAny_bindName (wpAny_mono q (fun _ s₅ q => wpAny_assignInOrder_none q) fun _ _ q => q))
theorem r_target2 {x y : Str} {p1 p2 tp : Pos} {n : Nat} {a : Addr} {v1 v2 : Value} {Q : Unit → Shared → Prop} (hh : A.handled = none) (ha : h.get? a = some (tupOf [v1, v2]))
  (k : Later ⟨h, g, d, t, o⟩ fun s₁ => wpAny (model PR w) A (storeName env x v1) (fun _ s₂ => wpAny (model PR w) A (storeName env y v2) Q Never s₂) Never s₁) :
  wpAny (model PR w) A (assign (.Tuple [.Name x p1, .Name y p2] n tp) env (.ref a)) Q Never ⟨h, g, d, t, o⟩ := by
 refine wpAny_assign_Tuple (s := ⟨h, g, d, t, o⟩) (items := [v1, v2].toArray) hh ⟨_, ha, rfl, 0, rfl⟩ rfl rfl fun h' he => ?_
 refine wpAny_assignInOrder_more (wpAny_assign_Name (wpAny_mono (k h' t (ext_sub he)) (fun _ s₂ q => ?_) fun _ _ q => q))
 exact wpAny_assignInOrder_more (wpAny_assign_Name (wpAny_mono q (fun _ _ q => wpAny_assignInOrder_none q) fun _ _ q => q))
theorem r_min {a c : Nat} {u v : Tok} {Q : Value → Shared → Prop} (hh : A.handled = none) (V : Fm b env h l σ) (k : ∀ h' t' z, Fm b env h' l σ → Q (.int (min a c : Nat) z) ⟨h', g, d, t', o⟩) :
  wpAny (model PR w) A (call (.builtin "min") [.int a u, .int c v]) Q Never ⟨h, g, d, t, o⟩ := by
 obtain ⟨m, F, hm⟩ := V.fr
 refine min_two_N (s := ⟨h, g, d, t, o⟩) hh F V.nw fun h' tk F' N' => ?_
 have e : (if (c : Int) < (a : Int) then (c : Int) else (a : Int)) = ((min a c : Nat) : Int) := by split <;> (first | lia | omega)
 rw [e]
 exact k _ _ _ ⟨⟨m, F', hm⟩, N', V.nd, V.na⟩
theorem r_max {a c : Nat} {u v : Tok} {Q : Value → Shared → Prop} (hh : A.handled = none) (V : Fm b env h l σ) (k : ∀ h' t' z, Fm b env h' l σ → Q (.int (max a c : Nat) z) ⟨h', g, d, t', o⟩) :
  wpAny (model PR w) A (call (.builtin "max") [.int a u, .int c v]) Q Never ⟨h, g, d, t, o⟩ := by
 obtain ⟨m, F, hm⟩ := V.fr
 refine max_two_N (s := ⟨h, g, d, t, o⟩) hh F V.nw fun h' tk F' N' => ?_
 have e : (if (c : Int) > (a : Int) then (c : Int) else (a : Int)) = ((max a c : Nat) : Int) := by split <;> (first | lia | omega)
 rw [e]
 exact k _ _ _ ⟨⟨m, F', hm⟩, N', V.nd, V.na⟩
theorem kept_of {C : List Addr} {h' : Heap} (Kb : ∀ a o, h.get? a = some o → a ∉ C → b.get? a = some o) (V : Fm b env h' l σ) : Kept C h h' := fun a o e n => V.sub _ _ (Kb a o e n)
theorem sub_of {h' : Heap} (Hb : Sub h b) (V : Fm b env h' l σ) : Sub h h' := Hb.trans V.sub
theorem nat_beq (a c : Nat) : ((a : Int) == (c : Int)) = (a == c) := by
 by_cases q : a = c
 ·simp [q]
 ·have : ¬ (a : Int) = (c : Int) := by (first | lia | omega)
  rw [beq_eq_false_iff_ne.mpr this, beq_eq_false_iff_ne.mpr q]
theorem r_setsub {ob i : Expr} {pos' pos : Pos} {value : Expr} {Q : Flow → Shared → Prop}
  (k : wpAny (model PR w) A (eval value env) (fun v s₁ => wpAny (model PR w) A (eval ob env) (fun ov s₂ => wpAny (model PR w) A (eval i env) (fun iv s₃ => wpAny (model PR w) A (setItem ov iv v) (fun _ => Q .next) Never s₃) Never s₂) Never s₁) Never ⟨h, g, d, t, o⟩)
  (hs : swapsWith value (some (.Subscript ob i pos')) pos.line env = pure false := by with_unfolding_all rfl) : wpAny (model PR w) A (exec (.Assign [.Subscript ob i pos'] value pos) env) Q Never ⟨h, g, d, t, o⟩ := wpAny_Assign_Subscript k hs
end
end
section
noncomputable def fn43 : FnAt 43 := ⟨_, _, _, _, fun _ => rfl, fun _ => by kernel_rfl⟩
noncomputable def fn50 : FnAt 50 := ⟨_, _, _, _, fun _ => rfl, fun _ => by kernel_rfl⟩
noncomputable def fn229 : FnAt 229 := ⟨_, _, _, _, fun _ => rfl, fun _ => by kernel_rfl⟩
noncomputable def fn236 : FnAt 236 := ⟨_, _, _, _, fun _ => rfl, fun _ => by kernel_rfl⟩
noncomputable def fn243 : FnAt 243 := ⟨_, _, _, _, fun _ => rfl, fun _ => by kernel_rfl⟩
noncomputable def fn250 : FnAt 250 := ⟨_, _, _, _, fun _ => rfl, fun _ => by kernel_rfl⟩
noncomputable def fn306 : FnAt 306 := ⟨_, _, _, _, fun _ => rfl, fun _ => by kernel_rfl⟩
noncomputable def fn313 : FnAt 313 := ⟨_, _, _, _, fun _ => rfl, fun _ => by kernel_rfl⟩
theorem pl_ops (w : World) : Plain w 442 "term_ops" := ⟨by kernel_rfl, by kernel_rfl, ⟨none, by kernel_rfl, by kernel_rfl⟩⟩
theorem pl_args (w : World) : Plain w 442 "term_args" := ⟨by kernel_rfl, by kernel_rfl, ⟨none, by kernel_rfl, by kernel_rfl⟩⟩
theorem pl_sorts (w : World) : Plain w 442 "term_sorts" := ⟨by kernel_rfl, by kernel_rfl, ⟨none, by kernel_rfl, by kernel_rfl⟩⟩
theorem pl_datas (w : World) : Plain w 442 "term_datas" := ⟨by kernel_rfl, by kernel_rfl, ⟨none, by kernel_rfl, by kernel_rfl⟩⟩
theorem pl_true (w : World) : Plain w 442 "true_number" := ⟨by kernel_rfl, by kernel_rfl, ⟨none, by kernel_rfl, by kernel_rfl⟩⟩
theorem pl_false (w : World) : Plain w 442 "false_number" := ⟨by kernel_rfl, by kernel_rfl, ⟨none, by kernel_rfl, by kernel_rfl⟩⟩
theorem pl_bank (w : World) : Plain w 72 "bank" := ⟨by kernel_rfl, by kernel_rfl, ⟨none, by kernel_rfl, by kernel_rfl⟩⟩
theorem pl_terms (w : World) : Plain w 72 "terms" := ⟨by kernel_rfl, by kernel_rfl, ⟨none, by kernel_rfl, by kernel_rfl⟩⟩
theorem pl_least (w : World) : Plain w 72 "least" := ⟨by kernel_rfl, by kernel_rfl, ⟨none, by kernel_rfl, by kernel_rfl⟩⟩
structure ClL where
 c : Addr
 dc : Addr
 tl : Addr
 ld : Addr
noncomputable def ClL.fields (C : ClL) (B : BankL) : List (Str × Value) := [("bank", .ref B.x), ("terms", .ref C.tl), ("least", .ref C.ld)]
structure Cls (h : Heap) (C : ClL) (B : BankL) (ts : List Tm) (terms : List Nat) : Prop where
 self : Self h C.c 72 C.dc (C.fields B)
 bank : BankR h B ts
 terms : ListN h C.tl terms
theorem ne_of_cls {h : Heap} {a c : Addr} {oa oc : Obj} (x : h.get? a = some oa) (y : h.get? c = some oc) (n : oa.cls ≠ oc.cls) : a ≠ c := fun e => by
 rw [e, y] at x; cases x; exact n rfl
theorem NMap.cls {w : World} {β : Type} {P : Value → β → Prop} {o : Obj} {f : Nat → Option β} {n : Nat} (M : NMap w P o f n) : o.cls = .type "dict" := let ⟨_, ⟨_, _, e, _⟩, _⟩ := M; e.1
theorem Self.off {h : Heap} {x C dx : Addr} {p : Str × Value} {fl : List (Str × Value)} (I : Self h x C dx (p :: fl)) {w : World} {β : Type} {P : Value → β → Prop} {o : Obj} {f : Nat → Option β} {n : Nat} {d : Addr} (hd : h.get? d = some o) (M : NMap w P o f n) : x ∉ [d] ∧ dx ∉ [d] := by
 obtain ⟨es, k, e1, e2, e3⟩ := I.ex
 refine ⟨fun q => ne_of_cls e1 hd (by rw [M.cls]; exact fun e => nomatch e) (List.mem_singleton.mp q), fun q => ?_⟩
 have q := List.mem_singleton.mp q
 subst q
 rw [e2] at hd
 cases hd
 obtain ⟨kvs, ⟨es', ep, _, hdat, hk, _⟩, _⟩ := M
 cases e3 with
 | cons r =>
  cases hdat
  obtain ⟨j, hj, _⟩ := hk _ (by simp; exact .inl rfl)
  cases hj
theorem clsne : (Value.type "list") ≠ Value.type "dict" := by decide
theorem clsne2 : (Value.type "tuple") ≠ Value.type "dict" := by decide
theorem ListP.off {β γ : Type} {R : Value → γ → Prop} {h : Heap} {a : Addr} {ys : List γ} (L : ListP R h a ys) {w : World} {P : Value → β → Prop} {o : Obj} {f : Nat → Option β} {n : Nat} {d : Addr} (hd : h.get? d = some o) (M : NMap w P o f n) : a ∉ [d] := fun q =>
 let ⟨_, _, e, _⟩ := L
 ne_of_cls e hd (by rw [M.cls]; exact clsne) (List.mem_singleton.mp q)
theorem TupP.off {β γ : Type} {R : Value → γ → Prop} {h : Heap} {a : Addr} {ys : List γ} (L : TupP R h a ys) {w : World} {P : Value → β → Prop} {o : Obj} {f : Nat → Option β} {n : Nat} {d : Addr} (hd : h.get? d = some o) (M : NMap w P o f n) : a ∉ [d] := fun q =>
 let ⟨_, e, _⟩ := L
 ne_of_cls e hd (by rw [M.cls]; exact clsne2) (List.mem_singleton.mp q)
section
variable {h h' : Heap} {w : World} {β : Type} {P : Value → β → Prop} {o : Obj} {f : Nat → Option β} {n : Nat} {d : Addr} {B : BankL} {ts : List Tm} {C : ClL} {terms : List Nat}
theorem BankR.keptN (K : BankR h B ts) (hd : h.get? d = some o) (M : NMap w P o f n) (s : Kept [d] h h') : BankR h' B ts :=
 ⟨K.self.kept s (K.self.off hd M).1 (K.self.off hd M).2, K.ops.kept s (K.ops.off hd M), (K.args.kept s (K.args.off hd M)).mono fun _ _ ⟨a, e, y⟩ => ⟨a, e, y.kept s (y.off hd M)⟩, K.sorts.kept s (K.sorts.off hd M),
  (K.datas.kept s (K.datas.off hd M)).mono fun _ m y => by
   cases hm : m.data with
   | i n => rw [hm] at y; exact y
   | t l => rw [hm] at y; obtain ⟨a, e, y⟩ := y; exact ⟨a, e, y.kept s (y.off hd M)⟩⟩
theorem Cls.keptN (K : Cls h C B ts terms) (hd : h.get? d = some o) (M : NMap w P o f n) (s : Kept [d] h h') : Cls h' C B ts terms :=
 ⟨K.self.kept s (K.self.off hd M).1 (K.self.off hd M).2, K.bank.keptN hd M s, K.terms.kept s (K.terms.off hd M)⟩
theorem Cls.sub (K : Cls h C B ts terms) (s : Sub h h') : Cls h' C B ts terms := ⟨K.self.sub s, K.bank.sub s, K.terms.sub s⟩
end
noncomputable def onT (terms : List Nat) (c : Nat → Nat) : Nat → Option Nat := fun k => if k ∈ terms then some (c k) else none
theorem onT_mem {terms : List Nat} {c : Nat → Nat} {k : Nat} (h : k ∈ terms) : onT terms c k = some (c k) := if_pos h
end
section
inductive KI where
 | s (x : Str)
 | i (n : Nat)
 | t (l : List Nat)
 deriving DecidableEq
noncomputable def IsKI (h : Heap) (v : Value) : KI → Prop
 | .s x => IsS v x
 | .i n => IsN v n
 | .t l => ∃ a, v = .ref a ∧ TupN h a l
section
variable {w : World}
noncomputable def KI.hash (w : World) : KI → Int
 | .s x => hashStr w x
 | .i n => hashInt n
 | .t l => tupleKeyHash (intKind PR w) (l.map fun n : Nat => (n : Int))
noncomputable def KI.draws : KI → Nat
 | .s _ => 1
 | .i _ => 1
 | .t l => l.length + 1
noncomputable def IsKey (h : Heap) (k : List KI) (a : Addr) : Prop := ∃ vs, h.get? a = some (tupOf vs) ∧ All2 (IsKI h) vs k
theorem IsKI.kept {h h' : Heap} {v : Value} {k : KI} (x : IsKI h v k) (s : ∀ a vs, h.get? a = some (tupOf vs) → h'.get? a = some (tupOf vs)) : IsKI h' v k := by
 cases k with
 | s y => exact x
 | i n => exact x
 | t l => obtain ⟨a, e, vs, y, z⟩ := x; exact ⟨a, e, vs, s _ _ y, z⟩
theorem IsKey.kept {h h' : Heap} {k : List KI} {a : Addr} (x : IsKey h k a) (s : ∀ a vs, h.get? a = some (tupOf vs) → h'.get? a = some (tupOf vs)) : IsKey h' k a :=
 let ⟨vs, e, y⟩ := x; ⟨vs, s _ _ e, y.mono fun _ _ z => z.kept s⟩
theorem items_of {vs : List Value} {ns : List Nat} (N : Nums vs ns) : ItemsAre (intKind PR w) (ns.map fun n : Nat => (n : Int)) vs := by
 induction N with
 | nil => exact .nil
 | cons h _ ih => obtain ⟨u, rfl⟩ := h; exact .cons (intKind_is _ _ _ _) ih
theorem tupleKey_of {h : Heap} {a : Addr} {l : List Nat} (T : TupN h a l) : IsTupleKey (intKind PR w) h (l.map fun n : Nat => (n : Int)) a := by
 obtain ⟨vs, e, N⟩ := T
 exact ⟨_, _, 0, e, rfl, rfl, by simpa using items_of N⟩
theorem IsN.inj {v : Value} {n m : Nat} (x : IsN v n) (y : IsN v m) : n = m := by
 obtain ⟨u, rfl⟩ := x; obtain ⟨u', e⟩ := y; injection e with e _; (first | lia | omega)
theorem IsS.inj {v : Value} {n m : Str} (x : IsS v n) (y : IsS v m) : n = m := by
 obtain ⟨u, rfl⟩ := x; obtain ⟨u', e⟩ := y; injection e
theorem All2.inj {α β : Type} {P : α → β → Prop} (f : ∀ {x y z}, P x y → P x z → y = z) {xs : List α} {ys zs : List β} (N : All2 P xs ys) (M : All2 P xs zs) : ys = zs := by
 induction N generalizing zs with
 | nil => cases M; rfl
 | cons h _ ih => cases M with | cons h' M => rw [f h h', ih M]
theorem TupP.inj {β : Type} {P : Value → β → Prop} (f : ∀ {x y z}, P x y → P x z → y = z) {h : Heap} {a : Addr} {ys zs : List β} (x : TupP P h a ys) (y : TupP P h a zs) : ys = zs := by
 obtain ⟨vs, e, n⟩ := x; obtain ⟨vs', e', n'⟩ := y
 rw [e] at e'
 have : vs = vs' := by simpa using e'
 subst this
 exact All2.inj (P := P) f n n'
theorem IsKI.inj {h : Heap} {v : Value} {k j : KI} (x : IsKI h v k) (y : IsKI h v j) : k = j := by
 cases k with
 | s a => cases j with
  | s b => rw [IsS.inj x y]
  | i b => obtain ⟨u, rfl⟩ := x; obtain ⟨_, e⟩ := y; cases e
  | t b => obtain ⟨u, rfl⟩ := x; obtain ⟨_, e, _⟩ := y; cases e
 | i a => cases j with
  | s b => obtain ⟨u, rfl⟩ := x; obtain ⟨_, e⟩ := y; cases e
  | i b => rw [IsN.inj x y]
  | t b => obtain ⟨u, rfl⟩ := x; obtain ⟨_, e, _⟩ := y; cases e
 | t a => cases j with
  | s b => obtain ⟨u, rfl, _⟩ := x; obtain ⟨_, e⟩ := y; cases e
  | i b => obtain ⟨u, rfl, _⟩ := x; obtain ⟨_, e⟩ := y; cases e
  | t b =>
   obtain ⟨u, rfl, hx⟩ := x
   obtain ⟨u', e, hy⟩ := y
   cases e
   rw [TupP.inj (P := IsN) (fun p q => IsN.inj p q) hx hy]
theorem IsKey.inj {h : Heap} {k j : List KI} {a : Addr} (x : IsKey h k a) (y : IsKey h j a) : k = j := TupP.inj (P := IsKI h) (fun p q => IsKI.inj p q) x y
theorem nums_reads {h : Heap} {vs : List Value} {ns : List Nat} (N : Nums vs ns) : ∃ as, ReadsAll h vs (ns.map fun n : Nat => PyData.int n) as := by
 induction N with
 | nil => exact ⟨_, .nil⟩
 | cons hv _ ih => obtain ⟨u, rfl⟩ := hv; obtain ⟨as, r⟩ := ih; exact ⟨_, .cons (.int _ _) r⟩
theorem tup_reads {h : Heap} {a : Addr} {l : List Nat} (T : TupN h a l) : ∃ as, Reads h (.ref a) (.tuple (l.map fun n : Nat => PyData.int n)) as := by
 obtain ⟨vs, e, N⟩ := T
 obtain ⟨as, r⟩ := nums_reads (h := h) N
 exact ⟨_, .tuple (n := 0) e rfl rfl (by first | exact r | simpa using r)⟩
theorem canLay_ints : ∀ l : List Nat, PyData.canLayAll0 (l.map fun n : Nat => PyData.int n) = true
 | [] => rfl
 | _ :: r => by simp only [List.map_cons, PyData.canLayAll0, canLay_ints r, PyData.canLay0, Bool.and_self]
theorem depth_ints : ∀ l : List Nat, PyData.depthAll (l.map fun n : Nat => PyData.int n) = 0
 | [] => rfl
 | _ :: r => by simp only [List.map_cons, PyData.depthAll, depth_ints r, PyData.depth, Nat.max_self]
theorem eqv_ints : ∀ l m : List Nat, PyData.eqvAll (l.map fun n : Nat => PyData.int n) (m.map fun n : Nat => PyData.int n) = decide (l = m)
 | [], [] => by simp [PyData.eqvAll]
 | [], _ :: _ => by simp [PyData.eqvAll]
 | _ :: _, [] => by simp [PyData.eqvAll]
 | a :: r, c :: s => by
  simp only [List.map_cons, PyData.eqvAll, PyData.eqv, eqv_ints r s, List.cons.injEq]
  by_cases h : a = c
  ·subst h; by_cases h' : r = s <;> simp [h']
  ·have : ¬ (a : Int) = (c : Int) := by (first | lia | omega)
   simp [h, this]
theorem isTuple_of {h : Heap} {a : Addr} {vs : List Value} (e : h.get? a = some (tupOf vs)) : h.IsTuple a vs.toArray := ⟨_, e, rfl, 0, rfl⟩
theorem IsKI.eqAt {A : Around} {s : Shared} {v u : Value} {k j : KI} (x : IsKI s.heap v k) (y : IsKI s.heap u j) (hu : A.units + 1 < cLine) : SeqAt.EqAt A s v u (decide (k = j)) := by
 have hu0 : A.units < cLine := by (first | lia | omega)
 cases k with
 | s a =>
  obtain ⟨p, rfl⟩ := x
  cases j with
  | s b => obtain ⟨q, rfl⟩ := y; rw [show decide (KI.s a = KI.s b) = (a == b) by by_cases h : a = b <;> simp [h]]; exact .str_str _ _ _ _
  | i b => obtain ⟨q, rfl⟩ := y; exact .str_int _ _ _ _
  | t b => obtain ⟨q, rfl, vs, e, _⟩ := y; exact .str_tuple _ _ (isTuple_of e) hu0
 | i a =>
  obtain ⟨p, rfl⟩ := x
  cases j with
  | s b => obtain ⟨q, rfl⟩ := y; exact .int_str _ _ _ _
  | i b =>
   obtain ⟨q, rfl⟩ := y
   rw [show decide (KI.i a = KI.i b) = ((a : Int) == (b : Int)) by
    by_cases h : a = b
    ·simp [h]
    ·have : ¬ (a : Int) = (b : Int) := by (first | lia | omega)
     simp [h, this]]
   exact .int_int _ _ _ _
  | t b => obtain ⟨q, rfl, vs, e, _⟩ := y; exact .int_tuple _ _ (isTuple_of e) hu0
 | t a =>
  obtain ⟨p, rfl, T⟩ := x
  cases j with
  | s b => obtain ⟨q, rfl⟩ := y; obtain ⟨vs, e, _⟩ := T; exact .tuple_str _ _ (isTuple_of e) hu0
  | i b => obtain ⟨q, rfl⟩ := y; obtain ⟨vs, e, _⟩ := T; exact .tuple_int _ _ (isTuple_of e) hu0
  | t b =>
   obtain ⟨q, rfl, T'⟩ := y
   obtain ⟨as, r⟩ := tup_reads T
   obtain ⟨bs, r'⟩ := tup_reads T'
   have := SeqAt.eqAt_reads _ _ A s _ _ _ _ r r' (by rw [PyData.canLay0]; exact canLay_ints a) (by rw [PyData.canLay0]; exact canLay_ints b) (by simp only [PyData.depth, depth_ints]; (first | lia | omega))
   rw [show decide (KI.t a = KI.t b) = PyData.eqv (.tuple (a.map fun n : Nat => PyData.int n)) (.tuple (b.map fun n : Nat => PyData.int n)) by
    rw [PyData.eqv, eqv_ints]; by_cases h : a = b <;> simp [h]]
   exact this
theorem all_eq {k j : List KI} : ((List.range (min k.length j.length)).all (fun i => decide (k[i]? = j[i]?)) && k.length == j.length) = decide (k = j) := by
 by_cases h : k = j
 ·subst h; simp
 ·rw [decide_eq_false h]
  cases q : ((List.range (min k.length j.length)).all (fun i => decide (k[i]? = j[i]?)) && k.length == j.length) with
  | false => rfl
  | true =>
   exfalso
   simp only [Bool.and_eq_true, List.all_eq_true, List.mem_range, decide_eq_true_eq, beq_iff_eq] at q
   refine h (List.ext_getElem? fun i => ?_)
   by_cases hi : i < k.length
   ·exact q.1 i (by (first | lia | omega))
   ·rw [List.getElem?_eq_none (by (first | lia | omega)), List.getElem?_eq_none (by (first | lia | omega))]
theorem IsKey.eqAt {A : Around} {s : Shared} {a b : Addr} {k j : List KI} (x : IsKey s.heap k a) (y : IsKey s.heap j b) (hu : A.units + 2 < cLine) : SeqAt.EqAt A s (.ref a) (.ref b) (decide (k = j)) := by
 by_cases hab : a = b
 ·subst hab
  rw [x.inj y, decide_eq_true rfl]
  exact .same _
 ·obtain ⟨vs, e, N⟩ := x
  obtain ⟨us, e', N'⟩ := y
  refine .of_refs hab ?_
  have := SeqAt.RcAt.tuples (A := A) (s := s) (e := fun i => decide (k[i]? = j[i]?)) (isTuple_of e) (isTuple_of e') (by (first | lia | omega)) (fun i h1 h2 => by
   have h1' : i < vs.length := by simpa using h1
   have h2' : i < us.length := by simpa using h2
   obtain ⟨y1, e1, p1⟩ := N.back (List.getElem?_eq_getElem h1')
   obtain ⟨y2, e2, p2⟩ := N'.back (List.getElem?_eq_getElem h2')
   rw [e1, e2]
   have := p1.eqAt (A := A.in1) p2 (by show A.units + 1 + 1 < _; (first | lia | omega))
   simpa using this)
  have e3 : vs.toArray.size = k.length := by rw [List.size_toArray]; exact N.length
  have e4 : us.toArray.size = j.length := by rw [List.size_toArray]; exact N'.length
  rw [e3, e4, all_eq] at this
  exact this
theorem ki_hash {A : Around} {E : Value → Shared → Prop} {s : Shared} {v : Value} {k : KI} {Q : Int → Shared → Prop} (hu : A.units < cLine) (x : IsKI s.heap v k) (h : Q (k.hash w) { s with toks := s.toks + k.draws }) :
  wpAny (model PR w) A (pyHash v) Q E s := by
 cases k with
 | s y => obtain ⟨u, rfl⟩ := x; exact wpAny_pyHash_str h
 | i n => obtain ⟨u, rfl⟩ := x; exact wpAny_pyHash_int h
 | t l =>
  obtain ⟨a, rfl, T⟩ := x
  refine wpAny_pyHash_tuple hu (tupleKey_of (w := w) T) ?_
  simpa [KI.draws, KI.hash] using h
noncomputable def drawsOf (k : List KI) : Nat := (k.map KI.draws).sum
noncomputable def hashOf (w : World) (k : List KI) : Int := reduceHash (Builtin.Tuple.tupleHashOf (k.map (KI.hash w)))
theorem key_hash {A : Around} {E : Value → Shared → Prop} {s : Shared} {a : Addr} {k : List KI} {Q : Int → Shared → Prop} (hu : A.units + 1 < cLine) (hk : IsKey s.heap k a) (h : Q (hashOf w k) { s with toks := s.toks + (drawsOf k + 1) }) :
  wpAny (model PR w) A (pyHash (.ref a)) Q E s := by
 obtain ⟨vs, ho, hi⟩ := hk
 have hT : s.TypeIs (.ref a) "tuple" := ⟨_, ho, rfl⟩
 unfold pyHash
 unfold pyHashByItsType
 refine wpAny_bind (wpAny_cRoomFor_or (.inr (by (first | lia | omega))) ?_)
 refine wpAny_bind (wpAny_specialOf hT F.slot_tuple_hash.lookup ?_)
 show wpAny _ _ (if (some (Value.builtin "tuple.__hash__") == some Value.none) = true then _ else _) Q E s
 rw [if_neg (by rw [beq_builtin_none]; exact Bool.false_ne_true)]
 refine wpAny_bind (wpAny_specialOf hT F.slot_tuple_hash.lookup ?_)
 show wpAny _ _ (callSpecialIfBoundUnlessNone? (.ref a) "__hash__" _ >>= _) Q E s
 refine wpAny_bind (wpAny_callSpecialIfBoundUnlessNone?_slot hT F.slot_tuple_hash (wpAny_call_entry F.slot_tuple_hash hT F.entry_tuple_hash ?_ (F.args_tuple_hash_1 _)))
 show wpAny _ _ (Builtin.Tuple.tupleItemsOf (.ref a) >>= _) _ _ s
 refine wpAny_bind (wpAny_tupleItemsOf ho rfl ?_)
 refine wpAny_bind ?_
 rw [← Array.forIn_toList]
 refine wpAny_forIn_list _
  (fun rest (b : Array Int) s' => ∃ done left, k = done ++ left ∧ All2 (IsKI s.heap) rest left ∧ b.toList = done.map (KI.hash w) ∧ s' = { s with toks := s.toks + drawsOf done })
  _ ?_ ?_ _ _ ⟨[], k, rfl, by simpa using hi, rfl, rfl⟩
 ·rintro x rest b s' ⟨done, left, rfl, hl, hb, rfl⟩
  cases hl with
  | @cons _ k₁ _ ks' h1 hl' =>
   refine wpAny_bind (ki_hash (w := w) (k := k₁) (by show A.units + 1 < cLine; (first | lia | omega)) h1 ?_)
   have e : drawsOf (done ++ [k₁]) = drawsOf done + k₁.draws := by simp [drawsOf]
   first
    | exact wpAny_pure ⟨done ++ [k₁], ks', by simp, hl', by simp [hb], by simp [e, Nat.add_assoc]⟩
    | exact wpAny_bind (wpAny_pure (wpAny_pure ⟨done ++ [k₁], ks', by simp, hl', by simp [hb], by simp [e, Nat.add_assoc]⟩))
 ·rintro b s' ⟨done, left, rfl, hl, hb, rfl⟩
  cases hl
  rw [List.append_nil] at h
  show wpAny _ _ (retInt (Builtin.Tuple.tupleHashOf b.toList)) _ _ _
  rw [hb]
  refine wpAny_ret_mkInt ?_
  show wpAny _ _ (if (decide (-(2 : Int) ^ 63 ≤ Builtin.Tuple.tupleHashOf (done.map (KI.hash w))) && decide (Builtin.Tuple.tupleHashOf (done.map (KI.hash w)) < 2 ^ 63)) = true then _ else _) Q E _
  unfold hashOf reduceHash at h
  by_cases hr : (decide (-(2 : Int) ^ 63 ≤ Builtin.Tuple.tupleHashOf (done.map (KI.hash w))) && decide (Builtin.Tuple.tupleHashOf (done.map (KI.hash w)) < 2 ^ 63)) = true
  ·rw [if_pos hr]
   rw [if_pos hr] at h
   exact wpAny_pure (by simpa [Nat.add_assoc] using h)
  ·rw [if_neg hr]
   rw [if_neg hr] at h
   exact wpAny_bind (wpAny_rule (wpAny_pure (by simpa [Nat.add_assoc] using h)))
theorem tup_quiet {A : Around} {E : Value → Shared → Prop} {s : Shared} {a : Addr} {vs : List Value} {n : Nat} {Q : Bool → Shared → Prop} (ho : s.heap.get? a = some (tupOf vs)) (hi : ∀ v ∈ vs, ∀ {Q : Bool → Shared → Prop}, Q true s → wpAny (model PR w) A (eqIsQuiet n v) Q E s) (h : Q true s) :
  wpAny (model PR w) A (eqIsQuiet (n + 1) (.ref a)) Q E s := by
 have hT : s.TypeIs (.ref a) "tuple" := ⟨_, ho, rfl⟩
 unfold eqIsQuiet
 refine wpAny_bind (wpAny_specialOf hT F.slot_tuple_eq.lookup ?_)
 show wpAny _ _ (isInstance (.ref a) (.type "tuple") >>= _) _ _ s
 refine wpAny_bind (wpAny_isInstance hT isSubtype_tuple_tuple ?_)
 simp only [Bool.not_true, Bool.false_eq_true, if_false]
 refine wpAny_bind (wpAny_seqItems ho rfl ?_)
 refine wpAny_bind ?_
 show wpAny _ _ (forIn vs.toArray _ _) _ _ s
 rw [← Array.forIn_toList]
 refine wpAny_forIn_list _ (fun rest r s' => r.1 = none ∧ s' = s ∧ ∀ v ∈ rest, v ∈ vs) _ ?_ ?_ _ _ ⟨rfl, rfl, by simp⟩
 ·rintro v rest r s' ⟨hr, rfl, hall⟩
  refine wpAny_bind (hi v (hall v List.mem_cons_self) ?_)
  simp only [Bool.not_true, Bool.false_eq_true, if_false]
  exact wpAny_pure ⟨rfl, rfl, fun u hu' => hall u (List.mem_cons_of_mem _ hu')⟩
 ·rintro ⟨r1, r2⟩ s' ⟨hr, rfl, _⟩
  simp only at hr
  subst hr
  exact wpAny_pure h
theorem nums_byValue {vs : List Value} {ns : List Nat} (N : Nums vs ns) : ∀ v ∈ vs, carriedByValue v = true := by
 induction N with
 | nil => intro v hv; cases hv
 | cons h _ ih =>
  intro v hv
  rcases List.mem_cons.mp hv with rfl | hv
  ·obtain ⟨u, rfl⟩ := h; rfl
  ·exact ih v hv
theorem All2.of_mem {α β : Type} {P : α → β → Prop} {xs : List α} {ys : List β} (N : All2 P xs ys) : ∀ x ∈ xs, ∃ y, P x y := by
 induction N with
 | nil => intro v hv; cases hv
 | cons h _ ih =>
  intro v hv
  rcases List.mem_cons.mp hv with rfl | hv
  ·exact ⟨_, h⟩
  ·exact ih v hv
theorem key_quiet {A : Around} {E : Value → Shared → Prop} {s : Shared} {a : Addr} {k : List KI} {Q : Bool → Shared → Prop} (hk : IsKey s.heap k a) (h : Q true s) : wpAny (model PR w) A (eqIsQuiet 8 (.ref a)) Q E s := by
 obtain ⟨vs, ho, N⟩ := hk
 refine tup_quiet ho (fun v hv Q' q => ?_) h
 obtain ⟨ki, x⟩ := N.of_mem v hv
 cases ki with
 | s y => obtain ⟨u, rfl⟩ := x; rw [eqIsQuiet_byValue _ rfl]; exact wpAny_pure q
 | i n => obtain ⟨u, rfl⟩ := x; rw [eqIsQuiet_byValue _ rfl]; exact wpAny_pure q
 | t l =>
  obtain ⟨a', rfl, us, e, M⟩ := x
  exact tup_quiet e (fun u hu Q'' q'' => by rw [eqIsQuiet_byValue _ (nums_byValue M u hu)]; exact wpAny_pure q'') q
noncomputable def keyKind (w : World) : HeapKind PR w (List KI) where
 is := IsKey
 hash := hashOf w
 draws := fun k => drawsOf k + 1
 room := fun A => A.units + 2 < cLine
 inj := fun x y => x.inj y
 keeps := fun {h h' k a d o es ep} x ho hd hs => x.kept fun c vs e => by
  refine (hs.2 c ?_).trans e
  rintro rfl
  rw [e] at ho; cases ho; cases hd
 pyHash := fun hu hk h => key_hash (by (first | lia | omega)) hk h
 eqBool := fun {A E s x y a b Q} hu hx hy h => hx.eqAt hy hu PR w E Q h
 quiet := fun hk h => key_quiet hk h
end
end
section
noncomputable def ownsItsTuple : List String := ["enumerate", "zip", "dict_itemiterator", "dict_reverseitemiterator", "odict_iterator", "itertools.zip_longest", "itertools.pairwise"]
noncomputable def Loose (h : Heap) (I : Addr) : Prop := ∃ o n, h.get? I = some o ∧ o.cls = .type n ∧ ownsItsTuple.contains n = false
section
variable {w : World} {b h : Heap} {env : Env} {l l' : List (Str × Option Value)} {σ : List (Addr × Obj)} {ks : List (Str × NameKind)} {A : Around} {g : Array GenState} {d : Drawn} {t : Nat} {o : OsState}
theorem letGo_loose {target : Expr} {I : Addr} {v : Value} {s : Shared} {E : Value → Shared → Prop} {Q : Unit → Shared → Prop} (L : Loose s.heap I) (q : Q () s) : wpAny (model PR w) A (letOwnedTupleGo target (.ref I) v) Q E s := by
 obtain ⟨oo, n, ho, hc, hn⟩ := L
 have body : wpAny (model PR w) A (do
   let (.ref r, .ref a) := ((Value.ref I, v) : Value × Value) | return
   let o ← load r
   match o.cls, o.data with
   | .type n, .fields vs =>
    if ownsItsTuple.contains n && vs[0]? == some (rawInt a) then
     rule "for.unpacks-the-owned-tuple"
     updateField r 0 .none
   | _, _ => pure ()) Q E s := by
  cases v <;> first
   | exact wpAny_pure q
   | (
    refine wpAny_bind (wpAny_load ho ?_)
    rw [hc]
    cases oo.data <;> first
     | exact wpAny_pure q
     | (
      show wpAny _ _ (if (ownsItsTuple.contains n && _) = true then _ else _) Q E s
      rw [hn, Bool.false_and, if_neg Bool.false_ne_true]
      exact wpAny_pure q))
 cases target <;> first | exact wpAny_pure q | exact body
theorem codeAny_forLoopW {R : Result → Shared → Prop} {target : Expr} {it : Value} {body : List Stmt} {s : Shared} (I : Nat → Shared → Prop)
  (turn : ∀ n s, I n s → wpAny (model PR w) A (pyNext it) (fun r s₁ => match r with
   | none => R (.ok .next) s₁
   | some v => wpAny (model PR w) A (letOwnedTupleGo target it v) (fun _ s₁ => wpAny (model PR w) A (assign target env v) (fun _ s₂ => wpAny (model PR w) A (execs body env) (fun f s₃ => match f with
     | .next | .cont => ∃ m, m < n ∧ I m s₃
     | .brk => R (.ok .next) s₃
     | .ret v => R (.ok (.ret v)) s₃) Never s₂) Never s₁) Never s₁) Never s)
  (n : Nat) (h : I n s) : codeAny (model PR w) A (.forLoop target it body [] env) R s := by
 refine codeAny_loop' rfl I (fun n s hI => ?_) n h
 show wpAny _ _ ((forTurn target it body [] env).onRaise (fun x => do noteFrame x env; theTreesLotGoes x)) _ _ s
 refine wpAny_noted ?_
 simp only [forTurn]
 refine wpAny_mono (E := Never) ?_ (fun _ _ q => q) fun _ _ q => q.elim
 refine wpAny_bind (wpAny_standAt (wpAny_bind (wpAny_onRaise (wpAny_mono (turn n s hI) (fun r s₁ h₁ => ?_) fun _ _ h' => h'.elim))))
 cases r with
 | none => exact wpAny_pure (.inr ⟨rfl, codeAny_block (wpAny_execs_nil h₁)⟩)
 | some v =>
  refine wpAny_bind (wpAny_mono h₁ (fun _ s₁ h₁ => ?_) fun _ _ h' => h')
  refine wpAny_bind (wpAny_mono h₁ (fun _ s₂ h₂ => wpAny_bind (wpAny_mono h₂ (fun f s₃ h₃ => ?_) fun _ _ h' => h')) fun _ _ h' => h')
  cases f with
  | next => exact wpAny_pure (.inl ⟨rfl, h₃⟩)
  | cont => exact wpAny_pure (.inl ⟨rfl, h₃⟩)
  | brk => exact wpAny_pure h₃
  | ret v => exact wpAny_pure h₃
theorem loop_gen {target : Expr} {body : List Stmt} {Q : Flow → Shared → Prop} {I : Addr} {fp : List Addr} {n : Nat} {P : Nat → Value → Prop} {St : Nat → Heap → Prop} {o₀ : Obj} (W : Walks PR w A I fp [I] n P St) (V : Fm b env h l ((I, o₀) :: σ)) (hst : St 0 h)
  (Inv : Nat → List (Str × Option Value) → List (Addr × Obj) → Prop) (h0 : Inv 0 l σ)
  (hfp : ∀ a ∈ fp, a = I ∨ ∃ oo, ∀ i l σ, Inv i l σ → At b σ a oo)
  (turn : ∀ i v ito h t l σ, i < n → P i v → Inv i l σ → Fm b env h l ((I, ito) :: σ) →
   wpAny (model PR w) A (assign target env v) (fun _ s₂ => wpAny (model PR w) A (execs body env) (TurnE Q g d o b env (I, ito) Inv i) Never s₂) Never ⟨h, g, d, t, o⟩)
  (done : ∀ h t l σ, Inv n l σ → Fm b env h l σ → Q .next ⟨h, g, d, t, o⟩)
  (hgo : ∀ i h, St i h → Loose h I) : codeAny (model PR w) A (.forLoop target (.ref I) body [] env) (fun r s' => match r with | .ok f => Q f s' | .error _ => False) ⟨h, g, d, t, o⟩ := by
 refine codeAny_forLoopW
  (fun m s' => Ex6 fun h' t' l' σ' i ito => Al6 (s' = ⟨h', g, d, t', o⟩) (Fm b env h' l' ((I, ito) :: σ')) (St i h') (Inv i l' σ') (i ≤ n) (m = n + 1 - i)) ?_ (n + 1)
  ⟨_, _, l, σ, 0, _, rfl, V, hst, h0, Nat.zero_le _, rfl⟩
 rintro m s' ⟨h', t', l', σ', i, ito, rfl, V', hst', hI, hi, rfl⟩
 have hbI : b.get? I = none := (V'.nw _ (.head _)).2.2
 have hLI : I ≠ env.locals := (V'.nw _ (.head _)).2.1
 have ne := V'.ne
 by_cases hlt : i < n
 ·refine W.item i ⟨h', g, d, t', o⟩ _ _ hlt hst' fun v h₁ tk hP hst₁ hk => ?_
  obtain ⟨oI, nI, eI, rI⟩ := hgo _ _ hst₁
  have V2 : Fm b env h₁ l' ((I, oI) :: σ') := V'.step (C := [I]) (fun a oo e n => hk a oo (by first | exact n | simpa using n) e) (fun c hc => by rw [List.mem_singleton.mp hc]; exact ⟨hbI, hLI⟩) (fun p hp => by
   rcases List.mem_cons.mp hp with rfl | hp
   ·exact .inr ⟨eI, hbI, hLI⟩
   ·exact .inl ⟨.tail _ hp, fun q => ne p hp (List.mem_singleton.mp q)⟩) V'.na
  refine letGo_loose ⟨oI, nI, eI, rI⟩ ?_
  refine wpAny_mono (turn i v oI h₁ tk l' σ' hlt hP hI V2) (fun _ s₂ q => wpAny_mono q (fun f s₃ q => ?_) fun _ _ q => q.elim) fun _ _ q => q.elim
  have fin : (Ex4 fun h' t' l' σ' => Al3 (s₃ = ⟨h', g, d, t', o⟩) (Fm b env h' l' ((I, oI) :: σ')) (Inv (i + 1) l' σ')) →
    ∃ m, m < n + 1 - i ∧ Ex6 fun h' t' l' σ' i ito => Al6 (s₃ = ⟨h', g, d, t', o⟩) (Fm b env h' l' ((I, ito) :: σ')) (St i h') (Inv i l' σ') (i ≤ n) (m = n + 1 - i) := by
   rintro ⟨h₂, t₂, l₂, σ₂, rfl, V₃, hI₃⟩
   refine ⟨n + 1 - (i + 1), by (first | lia | omega), h₂, t₂, l₂, σ₂, i + 1, oI, rfl, V₃, W.frame _ _ _ hst₁ fun a ha oo e => ?_, hI₃, hlt, rfl⟩
   rcases hfp a ha with rfl | ⟨o₂, hA⟩
   ·rw [eI] at e; cases e; exact (V₃.nw _ (.head _)).1
   ·have e2 := V2.tail.at (hA _ _ _ hI)
    rw [e2] at e; cases e
    exact V₃.tail.at (hA _ _ _ hI₃)
  cases f with
  | next => exact fin q
  | cont => exact fin q
  | brk => exact q
  | ret v => exact q
 ·have hin : i = n := by (first | lia | omega)
  subst hin
  refine W.done ⟨h', g, d, t', o⟩ _ _ hst' fun h₁ tk hk => ?_
  refine done _ _ _ _ hI (V'.step (C := [I]) (fun a oo e n => hk a oo (by first | exact n | simpa using n) e) (fun c hc => by rw [List.mem_singleton.mp hc]; exact ⟨hbI, hLI⟩) (fun p hp => .inl ⟨.tail _ hp, fun q => ne p hp (List.mem_singleton.mp q)⟩) V'.tail.na)
theorem loop_tuple {target : Expr} {body : List Stmt} {Q : Flow → Shared → Prop} {a : Addr} {vs : List Value} (hh : A.handled = none) (V : Fm b env h l σ)
  (Inv : Nat → List (Str × Option Value) → List (Addr × Obj) → Prop) (h0 : Inv 0 l σ) (ha : ∀ i l σ, Inv i l σ → At b σ a (tupOf vs))
  (turn : ∀ i v I ito h t l σ, vs[i]? = some v → Inv i l σ → Fm b env h l ((I, ito) :: σ) →
   wpAny (model PR w) A (assign target env v) (fun _ s₂ => wpAny (model PR w) A (execs body env) (TurnE Q g d o b env (I, ito) Inv i) Never s₂) Never ⟨h, g, d, t, o⟩)
  (done : ∀ h t l σ, Inv vs.length l σ → Fm b env h l σ → Q .next ⟨h, g, d, t, o⟩) : Loop w A target body env Q (.ref a) ⟨h, g, d, t, o⟩ := by
 have e := V.at (ha _ _ _ h0)
 refine wpAny_pyIter_tuple (s := ⟨h, g, d, t, o⟩) (isTuple_of e) ?_
 have ne : a ≠ h.objs.size := Nat.ne_of_lt (Heap.lt_size e)
 have V1 := V.push { cls := .type "tuple_iterator", data := .fields #[.ref a, .int 0 0] }
 refine loop_gen (Walks.tuple hh h.objs.size a ne vs.toArray) V1 ⟨⟨_, (V1.nw _ (.head _)).1, rfl, rfl⟩, isTuple_of (Heap.get?_push_of_some _ e)⟩ Inv h0 (fun c hc => ?_) (fun i v ito h t l σ hi hP hI V => turn i v _ ito h t l σ (by simpa using hP) hI V) (fun h t l σ hI V => done h t l σ (by simpa using hI) V) fun i h st => ?_
 ·rcases List.mem_cons.mp hc with rfl | hc
  ·exact .inl rfl
  ·rw [List.mem_singleton.mp hc]; exact .inr ⟨_, ha⟩
 ·obtain ⟨⟨oo, e1, e2, e3⟩, _⟩ := st
  exact ⟨oo, _, e1, e2, by decide⟩
theorem loop_listT {target : Expr} {body : List Stmt} {Q : Flow → Shared → Prop} {a : Addr} {vs : Array Value} {k : Nat} (hh : A.handled = none) (V : Fm b env h l σ)
  (Inv : Nat → List (Str × Option Value) → List (Addr × Obj) → Prop) (h0 : Inv 0 l σ) (ha : ∀ i l σ, Inv i l σ → At b σ a (listOf vs k))
  (turn : ∀ i v I ito h t l σ, vs[i]? = some v → Inv i l σ → Fm b env h l ((I, ito) :: σ) →
   wpAny (model PR w) A (assign target env v) (fun _ s₂ => wpAny (model PR w) A (execs body env) (TurnE Q g d o b env (I, ito) Inv i) Never s₂) Never ⟨h, g, d, t, o⟩)
  (done : ∀ h t l σ, Inv vs.size l σ → Fm b env h l σ → Q .next ⟨h, g, d, t, o⟩) : Loop w A target body env Q (.ref a) ⟨h, g, d, t, o⟩ := by
 have e := V.at (ha _ _ _ h0)
 have L0 : h.IsList a vs := ⟨_, e, rfl, k, rfl⟩
 refine wpAny_pyIter_list (s := ⟨h, g, d, t, o⟩) L0 ?_
 have ne : a ≠ h.objs.size := Nat.ne_of_lt (Heap.lt_size e)
 have V1 := V.push { cls := .type "list_iterator", data := .fields #[.ref a, .int 0 0] }
 refine loop_gen (Walks.list hh h.objs.size a ne vs) V1 ⟨⟨_, (V1.nw _ (.head _)).1, rfl, rfl⟩, L0.push _⟩ Inv h0 (fun c hc => ?_) (fun i v ito h t l σ hi hP hI V => turn i v _ ito h t l σ hP hI V) (fun h t l σ hI V => done h t l σ hI V) fun i h st => ?_
 ·rcases List.mem_cons.mp hc with rfl | hc
  ·exact .inl rfl
  ·rw [List.mem_singleton.mp hc]; exact .inr ⟨_, ha⟩
 ·obtain ⟨⟨oo, e1, e2, e3⟩, _⟩ := st
  exact ⟨oo, _, e1, e2, by decide⟩
noncomputable abbrev rangeOf (n : Nat) (u1 u2 u3 : Tok) : Obj := { cls := .type "range", data := .fields #[.int 0 u1, .int n u2, .int 1 u3] }
theorem r_range {n : Nat} {u : Tok} {Q : Value → Shared → Prop} (V : Fm b env h l σ) (k : ∀ a h' t' u1 u2 u3, h.objs.size ≤ a → Sub h h' → Fm b env h' l ((a, rangeOf n u1 u2 u3) :: σ) → Q (.ref a) ⟨h', g, d, t', o⟩) :
  wpAny (model PR w) A (call (.type "range") [.int n u]) Q Never ⟨h, g, d, t, o⟩ :=
 call_range_1 (k _ _ _ _ _ _ (Nat.le_refl _) (fun _ _ e => Heap.get?_push_of_some _ e) (V.push _))
theorem loop_range {target : Expr} {body : List Stmt} {Q : Flow → Shared → Prop} {a : Addr} {n : Nat} {u1 u2 u3 : Tok} (hh : A.handled = none) (V : Fm b env h l σ) (ha : At b σ a (rangeOf n u1 u2 u3)) (hn : n < 1000000)
  (Inv : Nat → List (Str × Option Value) → List (Addr × Obj) → Prop) (h0 : Inv 0 l σ)
  (turn : ∀ i u I ito h t l σ, i < n → Inv i l σ → Fm b env h l ((I, ito) :: σ) →
   wpAny (model PR w) A (assign target env (.int i u)) (fun _ s₂ => wpAny (model PR w) A (execs body env) (TurnE Q g d o b env (I, ito) Inv i) Never s₂) Never ⟨h, g, d, t, o⟩)
  (done : ∀ h t l σ, Inv n l σ → Fm b env h l σ → Q .next ⟨h, g, d, t, o⟩) : Loop w A target body env Q (.ref a) ⟨h, g, d, t, o⟩ := by
 have e := V.at ha
 refine wpAny_pyIter_range (s := ⟨h, g, d, t, o⟩) e (small_one (by decide) (by decide) (by (first | lia | omega)) (by (first | lia | omega))) ?_
 have hsz : Builtin.Range.rangeSize 0 (n : Int) 1 = (n : Int) := by rw [rangeSize_one]; split <;> (first | lia | omega)
 have V1 := V.push { cls := .type "range_iterator", data := .fields #[rawInt 0, rawInt (Builtin.Range.rangeSize 0 (n : Int) 1), rawInt 1] }
 refine loop_gen (Walks.range hh h.objs.size 0 1 n) V1 ?_ Inv h0 (fun c hc => .inl (List.mem_singleton.mp hc)) (fun i v ito h t l σ hi hP hI V => ?_) (fun h t l σ hI V => done h t l σ hI V) fun i h st => ⟨_, _, st, rfl, by decide⟩
 ·have e1 : (0 + ((0 : Nat) : Int) * 1) = 0 := by simp
  have e2 : ((n : Int) - ((0 : Nat) : Int)) = Builtin.Range.rangeSize 0 (n : Int) 1 := by rw [hsz]; simp
  rw [e1, e2]
  exact (V1.nw _ (.head _)).1
 ·obtain ⟨u, rfl⟩ := hP
  have := turn i u _ ito h t l σ hi hI V
  have e3 : (0 + (i : Int) * 1) = (i : Int) := by (first | lia | omega)
  rw [e3]; exact this
end
end
section
noncomputable def closL (cells : List (Str × Addr)) : List (Str × NameKind) → List (Str × Addr) → Option (List (Str × Addr))
 | [], acc => some acc
 | (n, k) :: r, acc => if (k == .free) = true then (match cells.lookup n with | some a => closL cells r ((n, a) :: acc) | none => none) else closL cells r acc
theorem closureFor_of {scope : Scope} {env : Env} {cl : List (Str × Addr)} (h : closL env.cells scope.names [] = some cl) : closureFor scope env = pure cl := by
 unfold closureFor
 have key : ∀ (ns : List (Str × NameKind)) (acc : List (Str × Addr)), closL env.cells ns acc = some cl →
   (forIn ns acc fun (x : Str × NameKind) (r : List (Str × Addr)) => if (x.2 == NameKind.free) = true then (do let a ← cellOf env x.1; pure (ForInStep.yield ((x.1, a) :: r))) else (pure (ForInStep.yield r) : Sem _)) = pure cl := by
  intro ns
  induction ns with
  | nil => intro acc h; simp only [closL, Option.some.injEq] at h; subst h; rfl
  | cons p r ih =>
   obtain ⟨n, k⟩ := p
   intro acc h
   rw [List.forIn_cons]
   unfold closL at h
   dsimp only
   by_cases hk : (k == NameKind.free) = true
   ·rw [if_pos hk] at h ⊢
    cases hl : env.cells.lookup n with
    | none => rw [hl] at h; cases h
    | some a =>
     rw [hl] at h
     have : cellOf env n = pure a := by unfold cellOf; rw [hl]
     rw [this]
     exact ih _ h
   ·rw [if_neg hk] at h ⊢
    exact ih _ h
 have := key scope.names [] h
 first
  | exact congrArg (fun m => m >>= pure) this
  | (refine Eq.trans ?_ this; rfl)
noncomputable def seen (ns : List (Str × NameKind)) : List (Str × NameKind) := ns.map fun p => if p.2 = .free then (p.1, .cell) else p
theorem Ev.comp {env : Env} {ks : List (Str × NameKind)} (e : Ev env ks) {scope : Scope} {cl : List (Str × Addr)} {C : Addr} (hk : scope.kind = .function) (hn : (scope.names.map (·.1)).Nodup) (hf : ∀ p ∈ scope.names, p.2 = .free → (p.1, .cell) ∈ ks) :
  Ev (compEnvC scope cl C env) (seen scope.names) := by
 refine ⟨hk, e.gl, e.bl, ?_, ?_⟩
 ·show (scope.kind == .module && _) = false
  rw [hk]; rfl
 ·intro p hp
  show List.lookup p.1 (scope.names.map fun x => match x with | (n, k) => if (k == NameKind.free && env.scope.kind == .function && env.kindOf n == some .cell) = true then (n, NameKind.cell) else (n, k)) = some p.2
  have heq : (scope.names.map fun x => match x with | (n, k) => if (k == NameKind.free && env.scope.kind == .function && env.kindOf n == some .cell) = true then (n, NameKind.cell) else (n, k)) = seen scope.names := by
   unfold seen
   refine List.map_congr_left fun q hq => ?_
   obtain ⟨n, k⟩ := q
   dsimp only
   by_cases hk' : k = .free
   ·subst hk'
    have := e.ks _ (hf _ hq rfl)
    rw [e.fn, this]
    rfl
   ·rw [if_neg hk']
    have : (k == NameKind.free) = false := beq_eq_false_iff_ne.mpr hk'
    rw [this]; rfl
  rw [heq]
  have hn' : ((seen scope.names).map (·.1)).Nodup := by
   have : (seen scope.names).map (·.1) = scope.names.map (·.1) := by
    unfold seen
    rw [List.map_map]
    refine List.map_congr_left fun q _ => ?_
    show (if q.2 = NameKind.free then (q.1, NameKind.cell) else q).1 = q.1
    split <;> rfl
   rw [this]; exact hn
  clear heq hf hn
  revert hp hn'
  generalize seen scope.names = ns
  intro hp hn'
  induction ns with
  | nil => cases hp
  | cons q r ih =>
   simp only [List.map_cons, List.nodup_cons] at hn'
   rw [List.lookup_cons]
   rcases List.mem_cons.mp hp with rfl | hp
   ·simp
   ·have : (p.1 == q.1) = false := beq_eq_false_iff_ne.mpr fun e => hn'.1 (e ▸ List.mem_map_of_mem hp)
    rw [this]; exact ih hp hn'.2
section
variable {w : World} {b h : Heap} {env : Env} {l l' : List (Str × Option Value)} {σ : List (Addr × Obj)} {ks : List (Str × NameKind)} {A : Around} {g : Array GenState} {d : Drawn} {t : Nat} {o : OsState}
noncomputable def CompTurn (w : World) (A : Around) (ifs : List Expr) (elt : Expr) (cenv : Env) (yes : Value → Shared → Prop) (no : Shared → Prop) (s : Shared) : Prop :=
 wpAny (model PR w) A (forIn ifs true fun c r => if r = true then do let ok ← isTrue c cenv (eval c cenv); pure (ForInStep.yield ok) else pure (ForInStep.yield r)) (fun ok s₃ =>
  if ok = true then wpAny (model PR w) A (eval elt cenv) yes Never s₃ else no s₃) Never s
theorem compTurn_plain {elt : Expr} {cenv : Env} {yes : Value → Shared → Prop} {no : Shared → Prop} (k : wpAny (model PR w) A (eval elt cenv) yes Never ⟨h, g, d, t, o⟩) : CompTurn w A [] elt cenv yes no ⟨h, g, d, t, o⟩ :=
 wpAny_tests_nil (by rw [if_pos rfl]; exact k)
theorem compTurn_test {c elt : Expr} {cenv : Env} {yes : Value → Shared → Prop} {no : Shared → Prop} (k : wpAny (model PR w) A (isTrue c cenv (eval c cenv)) (fun ok s₃ => if ok = true then wpAny (model PR w) A (eval elt cenv) yes Never s₃ else no s₃) Never ⟨h, g, d, t, o⟩) :
  CompTurn w A [c] elt cenv yes no ⟨h, g, d, t, o⟩ := wpAny_tests_one k
theorem Fm.perm {σ' : List (Addr × Obj)} (V : Fm b env h l σ) (p : σ.Perm σ') : Fm b env h l σ' :=
 ⟨V.fr, fun q hq => V.nw q (p.mem_iff.mpr hq), V.nd, (p.map _).nodup_iff.mp V.na⟩
theorem Fm.size_le (V : Fm b env h l σ) : b.objs.size ≤ env.locals := let ⟨_, F, _⟩ := V.fr; F.above
theorem below_none {b : Heap} {a : Addr} (h : b.objs.size ≤ a) : b.get? a = none := by
 cases e : b.get? a with
 | none => rfl
 | some o' => exact absurd (Heap.lt_size e) (Nat.not_lt.mpr h)
theorem Fm.inner {cenv : Env} {mC : Str → Option Value} {lc : List (Str × Option Value)} (V : Fm b env h l σ) (hns : h.Ns cenv.locals mC) (hb : b.objs.size ≤ cenv.locals) (hL : cenv.locals ≠ env.locals) (hσ : ∀ p ∈ σ, p.1 ≠ cenv.locals)
  (hl : ∀ x v, (x, some v) ∈ lc → mC x = some v) (hnd : (lc.map (·.1)).Nodup) :
  ∃ oL, Fm b cenv h lc ((env.locals, oL) :: σ) ∧ ∀ {cenv' : Env} {h' : Heap} {l' : List (Str × Option Value)} {σ' : List (Addr × Obj)}, cenv'.locals = cenv.locals → Fm b cenv' h' l' ((env.locals, oL) :: σ') →
   ∃ oC mC, Fm b env h' l ((cenv.locals, oC) :: σ') ∧ h'.Ns cenv.locals mC ∧ h'.get? cenv.locals = some oC := by
 obtain ⟨m, F, hm⟩ := V.fr
 obtain ⟨oL, es, ep, hoL, r⟩ := F.ns
 refine ⟨oL, ⟨⟨mC, ⟨hns, F.keep, hb⟩, hl⟩, fun p hp => ?_, hnd, ?_⟩, fun {cenv' h' l' σ'} hc V' => ?_⟩
 ·rcases List.mem_cons.mp hp with rfl | hp
  ·exact ⟨hoL, hL.symm, below_none F.above⟩
  ·exact ⟨(V.nw p hp).1, hσ p hp, (V.nw p hp).2.2⟩
 ·rw [List.map_cons, List.nodup_cons]
  refine ⟨fun q => ?_, V.na⟩
  obtain ⟨p, hp, e⟩ := List.mem_map.mp q
  exact (V.nw p hp).2.1 e
 ·obtain ⟨m', F', hm'⟩ := V'.fr
  rw [hc] at F'
  obtain ⟨oC, es', ep', hoC, r'⟩ := id F'.ns
  refine ⟨oC, m', ⟨⟨m, ⟨⟨oL, es, ep, (V'.nw _ (.head _)).1, r⟩, F'.keep, F.above⟩, hm⟩, fun p hp => ?_, V.nd, ?_⟩, F'.ns, hoC⟩
  ·rcases List.mem_cons.mp hp with rfl | hp
   ·exact ⟨hoC, hL, below_none hb⟩
   ·exact ⟨(V'.nw p (.tail _ hp)).1, V'.ne p hp, (V'.nw p (.tail _ hp)).2.2⟩
  ·rw [List.map_cons, List.nodup_cons]
   refine ⟨fun q => ?_, V'.tail.na⟩
   obtain ⟨p, hp, e⟩ := List.mem_map.mp q
   exact (V'.nw p (.tail _ hp)).2.1 (e.trans hc.symm)
theorem comp_gen {elt iter : Expr} {x : Str} {px pos : Pos} {ifs : List Expr} {scope : Scope} {cl : List (Str × Addr)} {I : Addr} {fp : List Addr} {n : Nat} {P : Nat → Value → Prop} {St : Nat → Heap → Prop} {o₀ : Obj} {RR : Value → Addr → Result → Shared → Prop}
  (e : Ev env ks) (W : Walks PR w A I fp [I] n P St) (V : Fm b env h l ((I, o₀) :: σ)) (hst : St 0 h) (hn : n ≤ 1000000)
  (Inv : Nat → List (Addr × Obj) → List Value → Prop) (h0 : Inv 0 σ [])
  (hlen : ∀ i σ vs, Inv i σ vs → vs.length ≤ 1000000)
  (hfp : ∀ a ∈ fp, a = I ∨ ∃ oo, ∀ i σ vs, Inv i σ vs → At b σ a oo)
  (hcell : ∀ y ∈ scope.names, y.2 ≠ .cell) (hkind : scope.kind = .function) (hnd : (scope.names.map (·.1)).Nodup) (hx : (x, .local) ∈ scope.names) (hf : ∀ p ∈ scope.names, p.2 = .free → (p.1, .cell) ∈ ks)
  (hgo : ∀ i h, St i h → Loose h I)
  (turn : ∀ i v cenv h t m oL L D ito vs σ, i < n → P i v → Inv i σ vs → Ev cenv (seen scope.names) → cenv.cells = cl → Fm b cenv h [(x, some v)] ((D, listOf vs.toArray m) :: (I, ito) :: (L, oL) :: σ) →
   CompTurn w A ifs elt cenv (fun y s₃ => Ex4 fun h' t' l' σ' => Al4 (s₃ = ⟨h', g, d, t', o⟩) (Fm b cenv h' l' ((D, listOf vs.toArray m) :: (I, ito) :: (L, oL) :: σ')) (l'.map (·.1) = [x]) (Inv (i + 1) σ' (vs ++ [y])))
    (fun s₃ => Ex4 fun h' t' l' σ' => Al4 (s₃ = ⟨h', g, d, t', o⟩) (Fm b cenv h' l' ((D, listOf vs.toArray m) :: (I, ito) :: (L, oL) :: σ')) (l'.map (·.1) = [x]) (Inv (i + 1) σ' vs)) ⟨h, g, d, t, o⟩)
  (done : ∀ D C oC m h' t' vs σ' mC, h.objs.size ≤ D → Inv n σ' vs → Fm b env h' l ((D, listOf vs.toArray m) :: (C, oC) :: σ') → h'.Ns C mC → h'.get? C = some oC → RR (.ref D) C (.ok .next) ⟨h', g, d, t', o⟩) :
  wpAny (model PR w) A (newList []) (fun acc s₃ => wpAny (model PR w) A (newFunctionEnv scope env.globals cl [] env.qual none .none (some env)) (fun cenv s₄ =>
   codeAny (model PR w) A (.compStart (.ListComp elt [⟨.Name x px, iter, ifs, 0⟩] scope pos) 0 (.ref I) acc { cenv with scope := relabel scope env }) (RR acc cenv.locals) s₄) Never s₃) Never ⟨h, g, d, t, o⟩ := by
 refine wpAny_newObj_type ?_ (by show (([] : List Value).toArray.size) ≤ sizeLine; exact Nat.zero_le _)
 have V1 := V.push (listOf ([] : List Value).toArray 0)
 refine wpAny_newFunctionEnv hcell (by intro y hy; simp at hy) (fun h₁ hns₁ hsb₁ => ?_) hkind
 dsimp only at hns₁ hsb₁ ⊢
 have hlt : ∀ (a : Nat) oo, h.get? a = some oo → (a : Nat) < h.objs.size := fun a oo e => Heap.lt_size e
 have hCsz : (h.push (listOf ([] : List Value).toArray 0)).objs.size = h.objs.size + 1 := Heap.size_push _ _
 have hS : Sub (h.push (listOf ([] : List Value).toArray 0)) h₁ := fun a oo e => hsb₁.extBut a oo (Nat.ne_of_lt (Heap.lt_size e)) (Heap.get?_push_of_some _ e)
 have V2 := V1.mono hS
 have hCf : ∀ a oo, (h.push (listOf ([] : List Value).toArray 0)).get? a = some oo → a ≠ (h.push (listOf ([] : List Value).toArray 0)).objs.size := fun a oo e => Nat.ne_of_lt (Heap.lt_size e)
 have hbs : b.objs.size ≤ (h.push (listOf ([] : List Value).toArray 0)).objs.size := by
  obtain ⟨m, F, _⟩ := V.fr
  obtain ⟨oL, _, _, hL, _⟩ := F.ns
  rw [hCsz]
  exact Nat.le_trans F.above (Nat.le_succ_of_le (Nat.le_of_lt (hlt _ _ hL)))
 have hLC : (h.push (listOf ([] : List Value).toArray 0)).objs.size ≠ env.locals := by
  obtain ⟨m, F, _⟩ := V.fr
  obtain ⟨oL, _, _, hL, _⟩ := F.ns
  rw [hCsz]
  exact (Nat.ne_of_lt (Nat.lt_succ_of_lt (hlt _ _ hL))).symm
 obtain ⟨oL, V3, back⟩ := V2.inner (cenv := compEnvC scope cl (h.push (listOf ([] : List Value).toArray 0)).objs.size env) (lc := [(x, none)]) hns₁ hbs hLC (fun p hp => hCf _ _ (V1.nw p hp).1) (fun y v hy => by simp at hy) (by simp)
 have ec : Ev (compEnvC scope cl (h.push (listOf ([] : List Value).toArray 0)).objs.size env) (seen scope.names) := e.comp hkind hnd hf
 have hst₁ : St 0 h₁ := W.frame _ _ _ hst fun a _ oo e => hS _ _ (Heap.get?_push_of_some _ e)
 have hxs : (x, .local) ∈ seen scope.names := List.mem_map.mpr ⟨_, hx, rfl⟩
 have key : ∀ s₃ : Shared, s₃ = ⟨h₁, g, d, t + ([] : List (Str × Value)).length, o⟩ → codeAny (model PR w) A (.compLoop (.ListComp elt [⟨.Name x px, iter, ifs, 0⟩] scope pos) 0 (.ref I) (.ref h.objs.size) (compEnvC scope cl (h.push (listOf ([] : List Value).toArray 0)).objs.size env)) (RR (.ref h.objs.size) (h.push (listOf ([] : List Value).toArray 0)).objs.size) s₃ := by
  rintro s₃ rfl
  refine codeAny_compLoop_tests (fun k s' => Ex8 fun h' t' l' σ' i ito vs m => Al7 (s' = ⟨h', g, d, t', o⟩) (Fm b (compEnvC scope cl (h.push (listOf ([] : List Value).toArray 0)).objs.size env) h' l' ((h.objs.size, listOf vs.toArray m) :: (I, ito) :: (env.locals, oL) :: σ')) (l'.map (·.1) = [x]) (St i h') (Inv i σ' vs) (i ≤ n) (k = n + 1 - i)) ?_ (n + 1)
   ⟨h₁, _, [(x, none)], σ, 0, o₀, [], 0, rfl, V3.perm ?_, rfl, hst₁, h0, Nat.zero_le _, rfl⟩
  ·rintro k s' ⟨h', t', l', σ', i, ito, vs, m, rfl, V', hl', hst', hI, hi, rfl⟩
   have hbI : b.get? I = none := (V'.nw _ (.tail _ (.head _))).2.2
   have hLI : I ≠ (compEnvC scope cl (h.push (listOf ([] : List Value).toArray 0)).objs.size env).locals := (V'.nw _ (.tail _ (.head _))).2.1
   have swap : ∀ {oo : Obj} {τ : List (Addr × Obj)} {q : Addr × Obj}, (q :: (I, oo) :: τ).Perm ((I, oo) :: q :: τ) := fun {oo τ q} => List.Perm.swap _ _ _
   have Vp := V'.perm swap
   have ne := Vp.ne
   by_cases hlt : i < n
   ·refine W.item i ⟨h', g, d, t', o⟩ _ _ hlt hst' fun v h₂ tk hP hst₂ hk => ?_
    obtain ⟨oI, nI, eI, rI⟩ := hgo _ _ hst₂
    have V4 : Fm b (compEnvC scope cl (h.push (listOf ([] : List Value).toArray 0)).objs.size env) h₂ l' ((I, oI) :: (h.objs.size, listOf vs.toArray m) :: (env.locals, oL) :: σ') := Vp.step (C := [I]) (fun a oo e n => hk a oo (by first | exact n | simpa using n) e) (fun c hc => by rw [List.mem_singleton.mp hc]; exact ⟨hbI, hLI⟩) (fun p hp => by
     rcases List.mem_cons.mp hp with rfl | hp
     ·exact .inr ⟨eI, hbI, hLI⟩
     ·exact .inl ⟨.tail _ hp, fun q => ne p hp (List.mem_singleton.mp q)⟩) Vp.na
    obtain ⟨u, rfl⟩ : ∃ u, l' = [(x, u)] := by
     cases l' with
     | nil => simp at hl'
     | cons q r =>
      cases r with
      | nil => obtain ⟨q1, q2⟩ := q; simp at hl'; exact ⟨q2, by rw [hl']⟩
      | cons _ _ => simp at hl'
    refine wpAny_mono (E := Never) (wpAny_assign_Name (r_store (l' := [(x, some v)]) ec V4 hxs PutL.head fun h₃ t₃ V5 => ?_)) (fun _ _ q => q) fun _ _ q => q.elim
    refine wpAny_mono (E := Never) (turn i v _ h₃ t₃ m oL env.locals h.objs.size oI vs σ' hlt hP hI ec rfl (V5.perm (List.Perm.swap _ _ _))) (fun ok s₃ q => ?_) fun _ _ q => q.elim
    have fin : ∀ {h₅ : Heap} {t₅ : Nat} {l₅ : List (Str × Option Value)} {σ₅ : List (Addr × Obj)} {us : List Value} {m₅ : Nat}, Fm b (compEnvC scope cl (h.push (listOf ([] : List Value).toArray 0)).objs.size env) h₅ l₅ ((h.objs.size, listOf us.toArray m₅) :: (I, oI) :: (env.locals, oL) :: σ₅) → l₅.map (·.1) = [x] → Inv (i + 1) σ₅ us →
      ∃ k, k < n + 1 - i ∧ Ex8 fun h' t' l' σ' i ito vs m => Al7 ((⟨h₅, g, d, t₅, o⟩ : Shared) = ⟨h', g, d, t', o⟩) (Fm b (compEnvC scope cl (h.push (listOf ([] : List Value).toArray 0)).objs.size env) h' l' ((h.objs.size, listOf vs.toArray m) :: (I, ito) :: (env.locals, oL) :: σ')) (l'.map (·.1) = [x]) (St i h') (Inv i σ' vs) (i ≤ n) (k = n + 1 - i) := by
     intro h₅ t₅ l₅ σ₅ us m₅ V₅ hl₅ hI₅
     refine ⟨n + 1 - (i + 1), by (first | lia | omega), h₅, t₅, l₅, σ₅, i + 1, oI, us, m₅, rfl, V₅, hl₅, W.frame _ _ _ hst₂ fun a ha oo e => ?_, hI₅, hlt, rfl⟩
     rcases hfp a ha with rfl | ⟨o₂, hA⟩
     ·rw [eI] at e; cases e; exact (V₅.nw _ (.tail _ (.head _))).1
     ·have up : ∀ {τ : List (Addr × Obj)} {p q r : Addr × Obj}, At b τ a o₂ → At b (p :: q :: r :: τ) a o₂ := fun H => H.imp (fun m => .tail _ (.tail _ (.tail _ m))) id
      have e2 := V4.at (up (hA _ _ _ hI))
      rw [e2] at e; cases e
      exact V₅.at (up (hA _ _ _ hI₅))
    cases ok with
    | false =>
     obtain ⟨h₅, t₅, l₅, σ₅, rfl, V₅, hl₅, hI₅⟩ := q
     exact fin V₅ hl₅ hI₅
    | true =>
     refine wpAny_mono (E := Never) q (fun y s₄ q => ?_) fun _ _ q => q.elim
     obtain ⟨h₅, t₅, l₅, σ₅, rfl, V₅, hl₅, hI₅⟩ := q
     have hl := hlen _ _ _ hI₅
     rw [List.length_append, List.length_singleton] at hl
     refine wpAny_mono (E := Never) (r_append V₅ PutS.head (by rw [List.size_toArray]; (first | lia | omega)) fun h₆ V₆ _ _ => ?_) (fun _ _ q => q) fun _ _ q => q.elim
     rw [List.push_toArray] at V₆
     exact fin V₆ hl₅ hI₅
   ·have hin : i = n := by (first | lia | omega)
    subst hin
    refine W.done ⟨h', g, d, t', o⟩ _ _ hst' fun h₂ tk hk => ?_
    have V4 : Fm b (compEnvC scope cl (h.push (listOf ([] : List Value).toArray 0)).objs.size env) h₂ l' ((h.objs.size, listOf vs.toArray m) :: (env.locals, oL) :: σ') := Vp.step (C := [I]) (fun a oo e n => hk a oo (by first | exact n | simpa using n) e) (fun c hc => by rw [List.mem_singleton.mp hc]; exact ⟨hbI, hLI⟩) (fun p hp => .inl ⟨.tail _ hp, fun q => ne p hp (List.mem_singleton.mp q)⟩) Vp.tail.na
    obtain ⟨oC, mC, V5, hns, hoC⟩ := back (cenv' := compEnvC scope cl (h.push (listOf ([] : List Value).toArray 0)).objs.size env) rfl (V4.perm (List.Perm.swap _ _ _))
    exact done _ _ oC m h₂ tk vs σ' mC (Nat.le_refl _) hI (V5.perm (List.Perm.swap _ _ _)) hns hoC
  ·refine List.Perm.trans (List.Perm.swap _ _ _) (List.Perm.cons _ (List.Perm.swap _ _ _))
 exact codeAny_compStart_list (key _ rfl) (W.self 0 _ _ _ hst₁ (key _ rfl))
end
end
section
section
variable {w : World} {b h : Heap} {env : Env} {l l' : List (Str × Option Value)} {σ : List (Addr × Obj)} {ks : List (Str × NameKind)} {A : Around} {g : Array GenState} {d : Drawn} {t : Nat} {o : OsState}
noncomputable def CompIt (w : World) (A : Around) (elt : Expr) (x : Str) (px : Pos) (iter : Expr) (ifs : List Expr) (scope : Scope) (pos : Pos) (cl : List (Str × Addr)) (env : Env) (use : Option (Value → Sem Unit)) (Q : Value → Shared → Prop) (xv : Value) (s : Shared) : Prop :=
 wpAny (model PR w) A (pyIter xv) (fun it s₂ => wpAny (model PR w) A (newList []) (fun acc s₃ =>
   wpAny (model PR w) A (newFunctionEnv scope env.globals cl [] env.qual none .none (some env)) (fun cenv s₄ =>
    codeAny (model PR w) A (.compStart (.ListComp elt [⟨.Name x px, iter, ifs, 0⟩] scope pos) 0 it acc { cenv with scope := relabel scope env }) (compPost (model PR w) A Never use Q acc cenv.locals) s₄) Never s₃) Never s₂) Never s
theorem lookup_names {ns : List (Str × NameKind)} (hnd : (ns.map (·.1)).Nodup) : ∀ p ∈ ns, ns.lookup p.1 = some p.2 := by
 intro p hp
 induction ns with
 | nil => cases hp
 | cons q r ih =>
  simp only [List.map_cons, List.nodup_cons] at hnd
  rw [List.lookup_cons]
  rcases List.mem_cons.mp hp with rfl | hp
  ·simp
  ·have : (p.1 == q.1) = false := beq_eq_false_iff_ne.mpr fun e => hnd.1 (e ▸ List.mem_map_of_mem hp)
   rw [this]; exact ih hnd.2 hp
theorem r_comp {elt iter : Expr} {x : Str} {px pos : Pos} {ifs : List Expr} {scope : Scope} {Q : Value → Shared → Prop} (cl : List (Str × Addr)) (hcl : closL env.cells scope.names [] = some cl)
  (k : wpAny (model PR w) A (eval iter env) (fun xv s₁ => CompIt w A elt x px iter ifs scope pos cl env none Q xv s₁) Never ⟨h, g, d, t, o⟩)
  (hkind : scope.kind = .function := by rfl) (hnd : (scope.names.map (·.1)).Nodup := by decide +kernel)
  (hs : ∀ x, foldedSetIterable iter env x = pure x := by intro _; with_unfolding_all rfl) :
  wpAny (model PR w) A (eval (.ListComp elt [⟨.Name x px, iter, ifs, 0⟩] scope pos) env) Q Never ⟨h, g, d, t, o⟩ := by
 rw [eval_ListComp]
 refine wpAny_comprehension_free (use := none) rfl hs (closureFor_of hcl) hkind (fun y hy e => by rw [← e]; exact lookup_names hnd y hy) k
theorem r_compA {elt iter : Expr} {x y : Str} {px py pos spos : Pos} {ifs : List Expr} {scope : Scope} {Q : Flow → Shared → Prop} (cl : List (Str × Addr)) (e : Ev env ks) (hyk : (y, .local) ∈ ks) (hcl : closL env.cells scope.names [] = some cl)
  (k : wpAny (model PR w) A (eval iter env) (fun xv s₁ => CompIt w A elt x px iter ifs scope pos cl env (some (assign (.Name y py) env)) (fun _ s' => Q .next s') xv s₁) Never ⟨h, g, d, t, o⟩)
  (hsc : (py.line == pos.line && !(scope.names.any fun (n, k) => n == y && (k == .local || k == .cell))) = true := by decide +kernel)
  (hkind : scope.kind = .function := by rfl) (hnd : (scope.names.map (·.1)).Nodup := by decide +kernel)
  (hs : ∀ x, foldedSetIterable iter env x = pure x := by intro _; with_unfolding_all rfl) :
  wpAny (model PR w) A (exec (.Assign [.Name y py] (.ListComp elt [⟨.Name x px, iter, ifs, 0⟩] scope pos) spos) env) Q Never ⟨h, g, d, t, o⟩ := by
 have hsw : swapsWith (.ListComp elt [⟨.Name x px, iter, ifs, 0⟩] scope pos) (some (.Name y py)) spos.line env = pure true := by
  have hb : env.blockKind = .function := by unfold Env.blockKind; rw [e.fn]; rfl
  have hk := e.ks _ hyk
  have h1 := (Bool.and_eq_true_iff.mp hsc).1
  have h2 := (Bool.and_eq_true_iff.mp hsc).2
  show pure (env.blockKind == .function && env.kindOf y == some .local && py.line == pos.line && !(scope.names.any fun (n, k) => n == y && (k == .local || k == .cell))) = pure true
  rw [hb, hk, h1, h2]; rfl
 rw [exec_Assign_Name_used _ _ _ _ hsw]
 refine wpAny_bind (wpAny_standAt (wpAny_bind ?_))
 show wpAny _ A (do let _ ← comprehension (.ListComp elt [⟨.Name x px, iter, ifs, 0⟩] scope pos) scope env _ (newList []) false (eval iter env) (some (assign (.Name y py) env))) _ _ _
 refine wpAny_bind (wpAny_mono (wpAny_comprehension_free (use := some (assign (.Name y py) env)) (Q := fun _ s' => Q .next s') rfl hs (closureFor_of hcl) hkind (fun y hy e => by rw [← e]; exact lookup_names hnd y hy) k) (fun _ s' hq => wpAny_pure (wpAny_pure hq)) fun _ _ e => e)
theorem fin_none {D C : Addr} {oC oD : Obj} {mC : Str → Option Value} {Q : Value → Shared → Prop} (V : Fm b env h l ((D, oD) :: (C, oC) :: σ)) (hns : h.Ns C mC)
  (k : ∀ h', Fm b env h' l ((D, oD) :: σ) → Q (.ref D) ⟨h', g, d, t, o⟩) : compPost (model PR w) A Never none Q (.ref D) C (.ok .next) ⟨h, g, d, t, o⟩ := by
 have V' := V.perm (List.Perm.swap _ _ _)
 have hm := V'.nw _ (.head _)
 refine ⟨mC, hns, fun h' hs => k h' (V'.step (C := [C]) (fun a oo e n => hs.extBut a oo (by first | exact n | simpa using n) e) (fun c hc => ?_) (fun p hp => .inl ⟨.tail _ hp, fun q => V'.ne p hp (List.mem_singleton.mp q)⟩) V'.tail.na)⟩
 rw [List.mem_singleton.mp hc]; exact ⟨hm.2.2, hm.2.1⟩
theorem fin_store {D C : Addr} {oC oD : Obj} {mC : Str → Option Value} {y : Str} {py : Pos} {Q : Value → Shared → Prop} (e : Ev env ks) (V : Fm b env h l ((D, oD) :: (C, oC) :: σ)) (hns : h.Ns C mC) (hoC : h.get? C = some oC) (hk : (y, .local) ∈ ks) (U : PutL y (.ref D) l l')
  (k : ∀ h' t', Fm b env h' l' ((D, oD) :: σ) → Q .none ⟨h', g, d, t', o⟩) : compPost (model PR w) A Never (some (assign (.Name y py) env)) Q (.ref D) C (.ok .next) ⟨h, g, d, t, o⟩ := by
 show wpAny _ A (assign (.Name y py) env (.ref D)) _ _ _
 refine wpAny_assign_Name (r_store e V hk U fun h' t' V' => ?_)
 have V'' := V'.perm (List.Perm.swap _ _ _)
 have hm := V''.nw _ (.head _)
 refine ⟨mC, hns.at' (fun oo e => by rw [hoC] at e; cases e; exact hm.1), fun h'' hs => k h'' t' (V''.step (C := [C]) (fun a oo e n => hs.extBut a oo (by first | exact n | simpa using n) e) (fun c hc => ?_) (fun p hp => .inl ⟨.tail _ hp, fun q => V''.ne p hp (List.mem_singleton.mp q)⟩) V''.tail.na)⟩
 rw [List.mem_singleton.mp hc]; exact ⟨hm.2.2, hm.2.1⟩
section
variable {elt iter : Expr} {x : Str} {px pos : Pos} {ifs : List Expr} {scope : Scope} {cl : List (Str × Addr)} {use : Option (Value → Sem Unit)} {Q : Value → Shared → Prop}
noncomputable abbrev CEnd (b : Heap) (g : Array GenState) (d : Drawn) (o : OsState) (cenv : Env) (x : Str) (q1 q2 q3 : Addr × Obj) (P : List (Addr × Obj) → Prop) : Shared → Prop :=
 fun s₃ => Ex4 fun h' t' l' σ' => Al4 (s₃ = ⟨h', g, d, t', o⟩) (Fm b cenv h' l' (q1 :: q2 :: q3 :: σ')) (l'.map (·.1) = [x]) (P σ')
noncomputable def CTurn (w : World) (A : Around) (b : Heap) (g : Array GenState) (d : Drawn) (o : OsState) (ifs : List Expr) (elt : Expr) (x : Str) (cenv : Env) (h : Heap) (t m i : Nat) (Inv : Nat → List (Addr × Obj) → List Value → Prop) (D I L : Addr) (ito oL : Obj) (vs : List Value) : Prop :=
 CompTurn w A ifs elt cenv (fun y => CEnd b g d o cenv x (D, listOf vs.toArray m) (I, ito) (L, oL) fun σ' => Inv (i + 1) σ' (vs ++ [y]))
    (CEnd b g d o cenv x (D, listOf vs.toArray m) (I, ito) (L, oL) fun σ' => Inv (i + 1) σ' vs) ⟨h, g, d, t, o⟩
theorem compit_tuple {a : Addr} {us : List Value} (hh : A.handled = none) (e : Ev env ks) (V : Fm b env h l σ) (hn : us.length ≤ 1000000)
  (Inv : Nat → List (Addr × Obj) → List Value → Prop) (h0 : Inv 0 σ []) (ha : ∀ i σ vs, Inv i σ vs → At b σ a (tupOf us)) (hlen : ∀ i σ vs, Inv i σ vs → vs.length ≤ 1000000)
  (hx : (x, .local) ∈ scope.names) (hf : ∀ p ∈ scope.names, p.2 = .free → (p.1, .cell) ∈ ks)
  (turn : ∀ i v cenv h t m oL L D I ito vs σ, us[i]? = some v → Inv i σ vs → Ev cenv (seen scope.names) → cenv.cells = cl → Fm b cenv h [(x, some v)] ((D, listOf vs.toArray m) :: (I, ito) :: (L, oL) :: σ) → CTurn w A b g d o ifs elt x cenv h t m i Inv D I L ito oL vs)
  (done : ∀ D C oC m h' t' vs σ' mC, h.objs.size ≤ D → Inv us.length σ' vs → Fm b env h' l ((D, listOf vs.toArray m) :: (C, oC) :: σ') → h'.Ns C mC → h'.get? C = some oC → compPost (model PR w) A Never use Q (.ref D) C (.ok .next) ⟨h', g, d, t', o⟩)
  (hcell : ∀ y ∈ scope.names, y.2 ≠ .cell := by decide +kernel) (hkind : scope.kind = .function := by rfl) (hnd : (scope.names.map (·.1)).Nodup := by decide +kernel) :
  CompIt w A elt x px iter ifs scope pos cl env use Q (.ref a) ⟨h, g, d, t, o⟩ := by
 have ea := V.at (ha _ _ _ h0)
 refine wpAny_pyIter_tuple (s := ⟨h, g, d, t, o⟩) (isTuple_of ea) ?_
 have ne : a ≠ h.objs.size := Nat.ne_of_lt (Heap.lt_size ea)
 have V1 := V.push { cls := .type "tuple_iterator", data := .fields #[.ref a, .int 0 0] }
 refine comp_gen e (Walks.tuple hh h.objs.size a ne us.toArray) V1 ⟨⟨_, (V1.nw _ (.head _)).1, rfl, rfl⟩, isTuple_of (Heap.get?_push_of_some _ ea)⟩ (by first | exact hn | simpa using hn) Inv h0 hlen (fun c hc => ?_) hcell hkind hnd hx hf (fun i h st => ?_) (fun i v cenv h t m oL L D ito vs σ hi hP hI ec hc V => turn i v cenv h t m oL L D _ ito vs σ (by simpa using hP) hI ec hc V) (fun D C oC m h' t' vs σ' mC hD hI V hns hoC => done D C oC m h' t' vs σ' mC (by have := Heap.size_push h { cls := .type "tuple_iterator", data := .fields #[.ref a, .int 0 0] }; exact Nat.le_trans (by rw [this]; exact Nat.le_succ _) hD) (by simpa using hI) V hns hoC)
 ·rcases List.mem_cons.mp hc with rfl | hc
  ·exact .inl rfl
  ·rw [List.mem_singleton.mp hc]; exact .inr ⟨_, ha⟩
 ·obtain ⟨⟨oo, e1, e2, e3⟩, _⟩ := st
  exact ⟨oo, _, e1, e2, by decide⟩
theorem compit_list {a : Addr} {us : Array Value} {k : Nat} (hh : A.handled = none) (e : Ev env ks) (V : Fm b env h l σ) (hn : us.size ≤ 1000000)
  (Inv : Nat → List (Addr × Obj) → List Value → Prop) (h0 : Inv 0 σ []) (ha : ∀ i σ vs, Inv i σ vs → At b σ a (listOf us k)) (hlen : ∀ i σ vs, Inv i σ vs → vs.length ≤ 1000000)
  (hx : (x, .local) ∈ scope.names) (hf : ∀ p ∈ scope.names, p.2 = .free → (p.1, .cell) ∈ ks)
  (turn : ∀ i v cenv h t m oL L D I ito vs σ, us[i]? = some v → Inv i σ vs → Ev cenv (seen scope.names) → cenv.cells = cl → Fm b cenv h [(x, some v)] ((D, listOf vs.toArray m) :: (I, ito) :: (L, oL) :: σ) → CTurn w A b g d o ifs elt x cenv h t m i Inv D I L ito oL vs)
  (done : ∀ D C oC m h' t' vs σ' mC, h.objs.size ≤ D → Inv us.size σ' vs → Fm b env h' l ((D, listOf vs.toArray m) :: (C, oC) :: σ') → h'.Ns C mC → h'.get? C = some oC → compPost (model PR w) A Never use Q (.ref D) C (.ok .next) ⟨h', g, d, t', o⟩)
  (hcell : ∀ y ∈ scope.names, y.2 ≠ .cell := by decide +kernel) (hkind : scope.kind = .function := by rfl) (hnd : (scope.names.map (·.1)).Nodup := by decide +kernel) :
  CompIt w A elt x px iter ifs scope pos cl env use Q (.ref a) ⟨h, g, d, t, o⟩ := by
 have ea := V.at (ha _ _ _ h0)
 have L0 : h.IsList a us := ⟨_, ea, rfl, k, rfl⟩
 refine wpAny_pyIter_list (s := ⟨h, g, d, t, o⟩) L0 ?_
 have ne : a ≠ h.objs.size := Nat.ne_of_lt (Heap.lt_size ea)
 have V1 := V.push { cls := .type "list_iterator", data := .fields #[.ref a, .int 0 0] }
 refine comp_gen e (Walks.list hh h.objs.size a ne us) V1 ⟨⟨_, (V1.nw _ (.head _)).1, rfl, rfl⟩, L0.push _⟩ hn Inv h0 hlen (fun c hc => ?_) hcell hkind hnd hx hf (fun i h st => ?_) (fun i v cenv h t m oL L D ito vs σ hi hP hI ec hc V => turn i v cenv h t m oL L D _ ito vs σ hP hI ec hc V) (fun D C oC m h' t' vs σ' mC hD hI V hns hoC => done D C oC m h' t' vs σ' mC (by have := Heap.size_push h { cls := .type "list_iterator", data := .fields #[.ref a, .int 0 0] }; exact Nat.le_trans (by rw [this]; exact Nat.le_succ _) hD) hI V hns hoC)
 ·rcases List.mem_cons.mp hc with rfl | hc
  ·exact .inl rfl
  ·rw [List.mem_singleton.mp hc]; exact .inr ⟨_, ha⟩
 ·obtain ⟨⟨oo, e1, e2, e3⟩, _⟩ := st
  exact ⟨oo, _, e1, e2, by decide⟩
theorem compit_range {a : Addr} {n : Nat} {u1 u2 u3 : Tok} (hh : A.handled = none) (e : Ev env ks) (V : Fm b env h l σ) (ha : At b σ a (rangeOf n u1 u2 u3)) (hn : n < 1000000)
  (Inv : Nat → List (Addr × Obj) → List Value → Prop) (h0 : Inv 0 σ []) (hlen : ∀ i σ vs, Inv i σ vs → vs.length ≤ 1000000)
  (hx : (x, .local) ∈ scope.names) (hf : ∀ p ∈ scope.names, p.2 = .free → (p.1, .cell) ∈ ks)
  (turn : ∀ i u cenv h t m oL L D I ito vs σ, i < n → Inv i σ vs → Ev cenv (seen scope.names) → cenv.cells = cl → Fm b cenv h [(x, some (.int i u))] ((D, listOf vs.toArray m) :: (I, ito) :: (L, oL) :: σ) → CTurn w A b g d o ifs elt x cenv h t m i Inv D I L ito oL vs)
  (done : ∀ D C oC m h' t' vs σ' mC, h.objs.size ≤ D → Inv n σ' vs → Fm b env h' l ((D, listOf vs.toArray m) :: (C, oC) :: σ') → h'.Ns C mC → h'.get? C = some oC → compPost (model PR w) A Never use Q (.ref D) C (.ok .next) ⟨h', g, d, t', o⟩)
  (hcell : ∀ y ∈ scope.names, y.2 ≠ .cell := by decide +kernel) (hkind : scope.kind = .function := by rfl) (hnd : (scope.names.map (·.1)).Nodup := by decide +kernel) :
  CompIt w A elt x px iter ifs scope pos cl env use Q (.ref a) ⟨h, g, d, t, o⟩ := by
 have ea := V.at ha
 refine wpAny_pyIter_range (s := ⟨h, g, d, t, o⟩) ea (small_one (by decide) (by decide) (by (first | lia | omega)) (by (first | lia | omega))) ?_
 have hsz : Builtin.Range.rangeSize 0 (n : Int) 1 = (n : Int) := by rw [rangeSize_one]; split <;> (first | lia | omega)
 have V1 := V.push { cls := .type "range_iterator", data := .fields #[rawInt 0, rawInt (Builtin.Range.rangeSize 0 (n : Int) 1), rawInt 1] }
 refine comp_gen e (Walks.range hh h.objs.size 0 1 n) V1 ?_ (Nat.le_of_lt hn) Inv h0 hlen (fun c hc => .inl (List.mem_singleton.mp hc)) hcell hkind hnd hx hf (fun i h st => ⟨_, _, st, rfl, by decide⟩) (fun i v cenv h t m oL L D ito vs σ hi hP hI ec hc V => ?_) (fun D C oC m h' t' vs σ' mC hD hI V hns hoC => done D C oC m h' t' vs σ' mC (Nat.le_trans (by rw [Heap.size_push]; exact Nat.le_succ _) hD) hI V hns hoC)
 ·have e1 : (0 + ((0 : Nat) : Int) * 1) = 0 := by simp
  have e2 : ((n : Int) - ((0 : Nat) : Int)) = Builtin.Range.rangeSize 0 (n : Int) 1 := by rw [hsz]; simp
  rw [e1, e2]
  exact (V1.nw _ (.head _)).1
 ·obtain ⟨u, rfl⟩ := hP
  have e3 : (0 + (i : Int) * 1) = (i : Int) := by (first | lia | omega)
  rw [e3] at V
  exact turn i u cenv h t m oL L D _ ito vs σ hi hI ec hc V
end
end
section
variable {w : World} {b₀ h : Heap} {A : Around} {g : Array GenState} {d : Drawn} {t : Nat} {o : OsState}
theorem enterC {f : Addr} (fn : FnAt f) {body : List Stmt} {args : List Value} {Q : Value → Shared → Prop} {n : Nat} (binds : List (Str × Value)) (x : Str) (v : Value) (l : List (Str × Option Value)) (C : List (Addr × Obj))
  (G : Gd w b₀) (S : Sub b₀ h) (R : Rm A (n + 1)) (hbody : fn.fd.body = .stmts body) (hb : bindArgs fn.fd ⟨args, []⟩ = pure binds)
  (hcells : ∀ n, cellsFrom n fn.fd.scope.names [] = [(x, n)]) (hkind : ∀ p ∈ binds, fn.fd.scope.names.lookup p.1 = some .local ∨ (fn.fd.scope.names.lookup p.1 = some .cell ∧ p.1 = x))
  (hv : bindC (fun y => fn.fd.scope.names.lookup y) binds (fun _ => none) x = some v) (hl : ∀ p ∈ l, ∀ u, p.2 = some u → bindL (fun y => fn.fd.scope.names.lookup y) binds (fun _ => none) p.1 = some u) (hnd : (l.map (·.1)).Nodup)
  (hC : ∀ p ∈ C, h.get? p.1 = some p.2 ∧ b₀.get? p.1 = none) (hCn : (C.map (·.1)).Nodup)
  (k : ∀ b env h' t' ca oc, Gd w b → Sub b₀ b → Sub b h → (∀ a o, h.get? a = some o → a ∉ C.map (·.1) → b.get? a = some o) → h.objs.size ≤ env.locals → Sub h h' → Ev env fn.fd.scope.names → env.cells = [(x, ca)] → oc.data = .cell (some v) → Fm b env h' l ((ca, oc) :: C) → Rm (A.deeper env) n →
   wpAny (model PR w) (A.deeper env) (execs body env) (fun fl s' => Q (retOf fl) s') Never ⟨h', g, d, t', o⟩)
  (hgl : fn.fd.globals = mainGlobals := by rfl) (hbl : fn.fd.builtins = builtinsNs := by rfl) (hclo : fn.fd.closure = [] := by rfl) (hknd : (fn.fd.scope.names.map (·.1)).Nodup := by decide +kernel)
  (hco : fn.fd.scope.isCoroutine = false := by rfl) (hgen : fn.fd.scope.isGenerator = false := by rfl) (hk : fn.fd.scope.kind = .function := by rfl) :
  wpAny (model PR w) A (call (.ref f) args) Q Never ⟨h, g, d, t, o⟩ := by
 have G' : Gd w h := G.mono S
 obtain ⟨mg, mb, T⟩ := G'.T
 refine wpAny_call (codeAny_call_cells (fd := fn.fd) (by have := R.d; (first | lia | omega)) (G'.X _ _ (fn.at_ w)) rfl T.nolimit (codeRec_of G'.X (fn.code w)) hbody hb hclo (fun p hp => ?_) (fun s₁ X => ?_) hco hgen hk)
 ·rcases hkind p hp with q | ⟨q, e⟩
  ·exact .inl q
  ·refine .inr ⟨q, ?_⟩
   rw [hcells, e]; simp
 have St : Sub b₀ (hideAll h (C.map (·.1))) := fun a o e => hideAll_get _ (S a o e) fun q => by
  obtain ⟨p, hp, rfl⟩ := List.mem_map.mp q
  rw [(hC p hp).2] at e; cases e
 have Sb : Sub (hideAll h (C.map (·.1))) h := fun a o e => of_hideAll _ e
 obtain ⟨h', t', rfl⟩ := X.toInCall.same
 have hs : Sub h h' := X.toInCall.keep
 have hce : (callEnvC fn.fd h.objs.size f).cells = [(x, h.objs.size + 1)] := hcells _
 obtain ⟨oc, hoc, hod⟩ := X.cell x (h.objs.size + 1) (by rw [hce]; simp)
 have hod' : oc.data = .cell (some v) := hod.trans (congrArg Data.cell hv)
 refine wpAny_mono (k (hideAll h (C.map (·.1))) (callEnvC fn.fd h.objs.size f) h' t' (h.objs.size + 1) oc (G.mono St) St Sb (fun a o e n => hideAll_get _ e n) (Nat.le_refl _) hs ?_ hce hod' ?_ (R.deeper _)) (fun fl s' q => ?_) (fun _ _ q => q.elim)
 ·refine ⟨hk, hgl, hbl, ?_, fun p hp => lookup_names hknd p hp⟩
  show (fn.fd.scope.kind == .module && _) = false
  rw [hk]; rfl
 ·have hlow : ∀ p ∈ C, p.1 < h.objs.size := fun p hp => Heap.lt_size (hC p hp).1
  refine ⟨⟨_, ⟨X.toInCall.ns, fun a o e => hs _ _ (Sb _ _ e), Nat.le_of_eq (hideAll_size _ _)⟩, fun y u hy => hl _ hy u rfl⟩, fun p hp => ?_, hnd, ?_⟩
  ·rcases List.mem_cons.mp hp with rfl | hp
   ·exact ⟨hoc, Nat.succ_ne_self _, below_none (by rw [hideAll_size]; exact Nat.le_succ _)⟩
   ·exact ⟨hs _ _ (hC p hp).1, Nat.ne_of_lt (hlow p hp), hideAll_none _ (List.mem_map_of_mem hp)⟩
  ·rw [List.map_cons, List.nodup_cons]
   refine ⟨fun q => ?_, hCn⟩
   obtain ⟨p, hp, e⟩ := List.mem_map.mp q
   have h1 := hlow p hp
   rw [e] at h1
   exact absurd h1 (Nat.not_lt.mpr (Nat.le_succ _))
 ·cases fl <;> exact q
end
end
section
noncomputable def KeyIn (b : Heap) (kt : List (Addr × Obj)) (k : List KI) (a : Addr) : Prop := ∀ h, Sub b h → (∀ p ∈ kt, h.get? p.1 = some p.2) → IsKey h k a
theorem KeyIn.more {b : Heap} {kt kt' : List (Addr × Obj)} {k : List KI} {a : Addr} (x : KeyIn b kt k a) (h : ∀ p ∈ kt, p ∈ kt') : KeyIn b kt' k a := fun hh s e => x hh s fun p hp => e p (h p hp)
theorem KeyIn.sub {b b' : Heap} {kt : List (Addr × Obj)} {k : List KI} {a : Addr} (x : KeyIn b kt k a) (s : Sub b b') : KeyIn b' kt k a := fun hh s' e => x hh (s.trans s') e
noncomputable def KMap {β : Type} (w : World) (P : Value → β → Prop) (b : Heap) (kt : List (Addr × Obj)) (o : Obj) (f : List KI → Option β) (n : Nat) : Prop :=
 ∃ (xs : List (List KI × Addr × Value)) (es : Array DictEntry) (ep : Nat), o.ExactDict ∧ o.data = .dict es ep ∧ es.toList = xs.map (entryOfKey (keyKind w)) ∧ (∀ x ∈ xs, KeyIn b kt x.1 x.2.1) ∧ (xs.map (·.1)).Nodup ∧ xs.length ≤ n ∧
  ∀ k, match f k with | none => atKey xs k = none | some y => ∃ p, atKey xs k = some p ∧ P p.2 y
section
variable {w : World} {b h : Heap} {env : Env} {l l' : List (Str × Option Value)} {σ : List (Addr × Obj)} {σ' : Obj → List (Addr × Obj)} {ks : List (Str × NameKind)} {A : Around} {g : Array GenState} {d : Drawn} {t : Nat} {o : OsState}
variable {β : Type} {P : Value → β → Prop} {kt kt' : List (Addr × Obj)} {oo : Obj} {f : List KI → Option β} {n : Nat}
theorem KMap.nil (w : World) (P : Value → β → Prop) (b : Heap) (kt : List (Addr × Obj)) : KMap w P b kt { cls := .type "dict", data := .dict #[] } (fun _ => none) 0 :=
 ⟨[], #[], 0, ⟨rfl, rfl, rfl⟩, rfl, rfl, fun x hx => by simp at hx, List.nodup_nil, Nat.le_refl _, fun _ => rfl⟩
theorem KMap.congr {f' : List KI → Option β} (M : KMap w P b kt oo f n) (h : ∀ k, f k = f' k) : KMap w P b kt oo f' n := (funext h : f = f') ▸ M
theorem KMap.le {m : Nat} (M : KMap w P b kt oo f n) (h : n ≤ m) : KMap w P b kt oo f m :=
 let ⟨xs, es, ep, a1, a2, a3, a4, a5, a6, a7⟩ := M; ⟨xs, es, ep, a1, a2, a3, a4, a5, Nat.le_trans a6 h, a7⟩
theorem KMap.move {b' : Heap} (M : KMap w P b kt oo f n) (h : ∀ k a, KeyIn b kt k a → KeyIn b' kt' k a) : KMap w P b' kt' oo f n :=
 let ⟨xs, es, ep, a1, a2, a3, a4, a5, a6, a7⟩ := M; ⟨xs, es, ep, a1, a2, a3, fun x hx => h _ _ (a4 x hx), a5, a6, a7⟩
theorem Fm.key (V : Fm b env h l σ) {k : List KI} {a : Addr} (x : KeyIn b kt k a) (hk : ∀ p ∈ kt, p ∈ σ) : IsKey h k a := x h V.sub fun p hp => (V.nw p (hk p hp)).1
theorem atKey_stored {K : Type} [DecidableEq K] (xs : List (K × Addr × Value)) (k : K) (a : Addr) (v : Value) (j : K) : (j ≠ k → atKey (storedH xs k a v) j = atKey xs j) ∧ ∃ c, atKey (storedH xs k a v) k = some (c, v) := by
 cases hk : atKey xs k with
 | none =>
  rw [storedH_new hk]
  constructor
  ·intro hj
   unfold atKey
   rw [List.find?_append]
   have hj' : ¬ k = j := fun e => hj e.symm
   simp [hj']
  ·refine ⟨a, ?_⟩
   unfold atKey at hk ⊢
   rw [List.find?_append]
   cases q : xs.find? (fun x => decide (x.1 = k)) with
   | none => simp
   | some y => rw [q] at hk; cases hk
 | some p =>
  rw [storedH_old hk]
  constructor
  ·intro hj
   clear hk
   unfold atKey
   induction xs with
   | nil => rfl
   | cons x r ih =>
    by_cases hx : x.1 = j
    ·have h2 : ¬ x.1 = k := fun e => hj (hx.symm.trans e)
     have e1 : putAt k v x = x := if_neg h2
     rw [List.map_cons, List.find?_cons, List.find?_cons, e1, decide_eq_true hx]
    ·by_cases h2 : x.1 = k
     ·have h3 : ¬ k = j := fun e => hj e.symm
      simp only [List.map_cons, putAt, h2, if_true, List.find?_cons, h3, decide_false]
      simpa [h2, h3] using ih
     ·simp only [List.map_cons, putAt, h2, if_false, List.find?_cons, hx, decide_false]
      exact ih
  ·unfold atKey at hk ⊢
   induction xs with
   | nil => cases hk
   | cons x r ih =>
    by_cases h2 : x.1 = k
    ·exact ⟨x.2.1, by simp [putAt, h2]⟩
    ·simp only [List.find?_cons, h2, decide_false] at hk
     obtain ⟨c, hc⟩ := ih hk
     exact ⟨c, by simpa [putAt, h2] using hc⟩
theorem storedH_keys {K : Type} [DecidableEq K] {xs : List (K × Addr × Value)} {k : K} {a : Addr} {v : Value} : ∀ x ∈ storedH xs k a v, (x.1 = k ∧ x.2.1 = a) ∨ ∃ y ∈ xs, y.1 = x.1 ∧ y.2.1 = x.2.1 := by
 intro x hx
 unfold storedH at hx
 split at hx
 ·obtain ⟨y, hy, rfl⟩ := List.mem_map.mp hx
  refine .inr ⟨y, hy, ?_⟩
  unfold putAt; split <;> exact ⟨rfl, rfl⟩
 ·rcases List.mem_append.mp hx with hx | hx
  ·exact .inr ⟨x, hx, rfl, rfl⟩
  ·rw [List.mem_singleton.mp hx]; exact .inl ⟨rfl, rfl⟩
theorem KMap.dictOf (M : KMap w P b kt oo f n) (V : Fm b env h l σ) (hk : ∀ p ∈ kt, p ∈ σ) {a : Addr} (ha : h.get? a = some oo) :
  ∃ xs, h.DictOfH (keyKind w) a xs ∧ xs.length ≤ n ∧ (∀ x ∈ xs, KeyIn b kt x.1 x.2.1) ∧ ∀ k, match f k with | none => atKey xs k = none | some y => ∃ p, atKey xs k = some p ∧ P p.2 y := by
 obtain ⟨xs, es, ep, a1, a2, a3, a4, a5, a6, a7⟩ := M
 exact ⟨xs, ⟨_, es, ep, ha, a1, a2, a3, fun x hx => V.key (a4 x hx) hk, a5⟩, a6, a4, a7⟩
theorem r_inK {a ka : Addr} {k : List KI} {Q : Value → Shared → Prop} (V : Fm b env h l σ) (H : At b σ a oo) (M : KMap w P b kt oo f n) (hk : ∀ p ∈ kt, p ∈ σ) (hka : IsKey h k ka) (hu : A.units + 100 < cLine) (hs : (a == sysModules) = false)
  (q : ∀ t', Q (.bool (f k).isSome) ⟨h, g, d, t', o⟩) : wpAny (model PR w) A (compareOp .In (.ref ka) (.ref a)) Q Never ⟨h, g, d, t, o⟩ := by
 obtain ⟨xs, hd, _, _, hv⟩ := M.dictOf V hk (V.at H)
 refine wpAny_in_heap (s := ⟨h, g, d, t, o⟩) (show A.units + 1 + 2 < cLine by (first | lia | omega)) hka hs hd ?_
 have hv := hv k
 cases hf : f k with
 | none => rw [hf] at hv q; rw [hv]; exact q _
 | some y => rw [hf] at hv q; obtain ⟨p, e, _⟩ := hv; rw [e]; exact q _
theorem r_getK {value slice : Expr} {a ka : Addr} {k : List KI} {y : β} {Q : Value → Shared → Prop} (V : Fm b env h l σ) (H : At b σ a oo) (M : KMap w P b kt oo f n) (hk : ∀ p ∈ kt, p ∈ σ) (hka : IsKey h k ka) (hu : A.units + 100 < cLine) (hf : f k = some y)
  (q : ∀ v t', P v y → Q v ⟨h, g, d, t', o⟩) (hs : subscripted slice false (.ref a) (.ref ka) = operate [.ref a, .ref ka] (getItem (.ref a) (.ref ka)) := by with_unfolding_all rfl) :
  wpAny (model PR w) A (subscriptTail value slice (.ref a) (.ref ka)) Q Never ⟨h, g, d, t, o⟩ := by
 obtain ⟨xs, hd, _, _, hv⟩ := M.dictOf V hk (V.at H)
 have hv := hv k
 rw [hf] at hv
 obtain ⟨p, e1, e2⟩ := hv
 exact tail_any (s := ⟨h, g, d, t, o⟩) hd.typeIs slot_dict_getitem.lookup (wpAny_getItem_heap (show A.units + 1 + 2 < cLine by (first | lia | omega)) hka hd e1 (q _ _ e2)) hs
theorem r_getdK {a ka : Addr} {k : List KI} {dv : Value} {Q : Value → Shared → Prop} (V : Fm b env h l σ) (H : At b σ a oo) (M : KMap w P b kt oo f n) (hk : ∀ p ∈ kt, p ∈ σ) (hka : IsKey h k ka) (hu : A.units + 100 < cLine) (hs : (a == sysModules) = false)
  (q : ∀ v t', (match f k with | none => v = dv | some y => P v y) → Q v ⟨h, g, d, t', o⟩) : wpAny (model PR w) A (call (.builtin "dict.get") [.ref a, .ref ka, dv]) Q Never ⟨h, g, d, t, o⟩ := by
 obtain ⟨xs, hd, _, _, hv⟩ := M.dictOf V hk (V.at H)
 refine call_meetsIn (s := ⟨h, g, d, t, o⟩) F.slot_dict_get hd.typeIs F.entry_dict_get (F.args_dict_get_3 _ _ _) (meetsH_dict_get_default (keyKind w) a ka hs dv) ⟨show A.units + 1 + 2 < cLine by (first | lia | omega), k, xs, hka, hd, ?_⟩
 have hv := hv k
 cases hf : f k with
 | none => rw [hf] at hv q; rw [hv]; exact q _ _ rfl
 | some y => rw [hf] at hv q; obtain ⟨p, e, e2⟩ := hv; rw [e]; exact q _ _ e2
noncomputable def setK (f : List KI → Option β) (k : List KI) (y : β) : List KI → Option β := fun j => if j = k then some y else f j
theorem r_setK {a ka : Addr} {k : List KI} {v : Value} {y : β} {Q : Unit → Shared → Prop} (V : Fm b env h l σ) (U : ∀ o', PutS a oo o' σ (σ' o')) (M : KMap w P b kt oo f n) (hk : ∀ p ∈ kt, p ∈ σ) (hkk : ∀ p ∈ kt, p ∈ kt') (hk' : ∀ p ∈ kt', p ∈ σ) (hka : KeyIn b kt' k ka)
  (hv : P v y) (hu : A.units + 100 < cLine) (hz : n ≤ 1000000)
  (q : ∀ o' h' t', KMap w P b kt' o' (setK f k y) (n + 1) → Fm b env h' l (σ' o') → Kept [a] h h' → h'.get? a = some o' → Q () ⟨h', g, d, t', o⟩) : wpAny (model PR w) A (setItem (.ref a) (.ref ka) v) Q Never ⟨h, g, d, t, o⟩ := by
 have ha := (V.nw _ (U oo).mem).1
 obtain ⟨xs, hd, hn, hks, hf⟩ := M.dictOf V hk ha
 refine wpAny_setItem_heap (s := ⟨h, g, d, t, o⟩) (show A.units + 1 + 2 < cLine by (first | lia | omega)) (V.key hka hk') hd (fun h' hd' hs => ?_) (by rw [sizeLine_eq]; (first | lia | omega))
 obtain ⟨o', es, ep, ho', a1, a2, a3, a4, a5⟩ := hd'
 have hkept : Kept [a] h h' := fun c oc e n => (hs.2 c fun q => n (q ▸ .head _)).trans e
 refine q o' h' _ ⟨_, es, ep, a1, a2, a3, fun x hx => ?_, a5, ?_, fun j => ?_⟩ (V.put (U o') hkept ho') hkept ho'
 ·rcases storedH_keys x hx with ⟨e1, e2⟩ | ⟨y, hy, e1, e2⟩
  ·rw [e1, e2]; exact hka
  ·rw [← e1, ← e2]; exact (hks y hy).more hkk
 ·unfold storedH; split
  ·rw [List.length_map]; (first | lia | omega)
  ·rw [List.length_append, List.length_singleton]; (first | lia | omega)
 ·unfold setK
  by_cases hj : j = k
  ·subst hj
   rw [if_pos rfl]
   obtain ⟨c, hc⟩ := (atKey_stored xs j ka v j).2
   exact ⟨_, hc, hv⟩
  ·rw [if_neg hj, (atKey_stored xs k ka v j).1 hj]; exact hf j
end
theorem intsAre_of {vs : List Value} {ns : List Nat} (N : Nums vs ns) : IntsAre vs (ns.map fun n : Nat => (n : Int)) := by
 induction N with
 | nil => exact .nil
 | cons h _ ih => obtain ⟨u, rfl⟩ := h; exact .cons _ _ ih
theorem nums_of : ∀ {vs : List Value} {ms : List Int}, IntsAre vs ms → (∀ m ∈ ms, 0 ≤ m) → Nums vs (ms.map Int.toNat)
 | _, _, .nil, _ => .nil
 | _, _, .cons n t r, hm => by
  rw [List.map_cons]
  refine .cons ⟨t, ?_⟩ (nums_of r fun m h => hm m (.tail _ h))
  have := hm n (.head _)
  rw [Int.toNat_of_nonneg this]
section
variable {w : World} {b h : Heap} {env : Env} {l l' : List (Str × Option Value)} {σ : List (Addr × Obj)} {ks : List (Str × NameKind)} {A : Around} {g : Array GenState} {d : Drawn} {t : Nat} {o : OsState}
theorem r_sort {a : Addr} {vs : Array Value} {ns : List Nat} {k : Nat} {σ' : Obj → List (Addr × Obj)} {Q : Value → Shared → Prop} (V : Fm b env h l σ) (U : ∀ o', PutS a (listOf vs k) o' σ (σ' o')) (N : Nums vs.toList ns) (hz : ns.length < 64)
  (q : ∀ us ms c h', Fm b env h' l (σ' (listOf us c)) → Nums us.toList ms → ms.Perm ns → ms.Pairwise (·≤ ·) → Kept [a] h h' → h'.get? a = some (listOf us c) → Q .none ⟨h', g, d, t, o⟩) : wpAny (model PR w) A (call (.builtin "list.sort") [.ref a]) Q Never ⟨h, g, d, t, o⟩ := by
 have ha := (V.nw _ (U (listOf vs k)).mem).1
 have ho : h.get? a = some (seqObj "list" vs.toList.toArray k) := by rw [Array.toArray_toList]; exact ha
 have hl : vs.toList.length < 64 := by rw [N.length]; exact hz
 refine wpAny_call_entry PyProof.Rows.slot_list_sort (s := ⟨h, g, d, t, o⟩) ⟨_, ha, rfl⟩ PyProof.Rows.entry_list_sort (list_sort_tree (n := k) (vs := vs.toList) ho (intsAre_of N) hl fun out ns' hI hp hP => ⟨.none, rfl, ?_⟩) (PyProof.Rows.args_list_sort _)
 obtain ⟨c, hc⟩ := sortedHeap_at (vs := vs.toList) (out := out) ho
 have hc' : (sortedHeap h a vs.toList out).get? a = some (listOf out c) := by simpa using hc
 have hkept : Kept [a] h (sortedHeap h a vs.toList out) := fun x ox e n => (sortedHeap_old (by first | exact n | simpa using n) (Heap.lt_size e)).trans e
 have h0 : ∀ m ∈ ns', 0 ≤ m := fun m hm => by
  obtain ⟨y, _, rfl⟩ := List.mem_map.mp (hp.mem_iff.mp hm); (first | lia | omega)
 refine q out (ns'.map Int.toNat) c _ (V.put (U _) hkept hc') (nums_of hI h0) ?_ ?_ hkept hc'
 ·have := hp.map Int.toNat
  simpa [List.map_map, Function.comp_def] using this
 ·rw [List.pairwise_map]
  refine hP.imp_of_mem fun {x y} hx hy hxy => ?_
  have := h0 x hx; have := h0 y hy; (first | lia | omega)
theorem isList_of {a : Addr} {vs : Array Value} {k : Nat} (e : h.get? a = some (listOf vs k)) : h.IsList a vs := ⟨_, e, rfl, k, rfl⟩
theorem isTup_of {a : Addr} {vs : List Value} (e : h.get? a = some (tupOf vs)) : IsTup h a vs.toArray := ⟨_, e, rfl, 0, rfl⟩
theorem r_tuplelist {a : Addr} {vs : Array Value} {k : Nat} {Q : Value → Shared → Prop} (V : Fm b env h l σ) (H : At b σ a (listOf vs k)) (hz : vs.size ≤ 1000000)
  (q : ∀ x h', Sub h h' → Fm b env h' l ((x, tupOf vs.toList) :: σ) → Q (.ref x) ⟨h', g, d, t, o⟩) : wpAny (model PR w) A (call (.type "tuple") [.ref a]) Q Never ⟨h, g, d, t, o⟩ := by
 refine call_tuple_list (s := ⟨h, g, d, t, o⟩) (isList_of (V.at H)) (fun h' hs => ?_) (by rw [sizeLine_eq]; (first | lia | omega))
 have V1 := (V.mono (show Sub h h' from hs)).push (tupOf vs.toList)
 rw [show tupOf vs.toList = { cls := .type "tuple", data := .seq vs } by rw [tupOf]] at V1
 exact q _ _ (fun x ox e => Heap.get?_push_of_some _ (hs x ox e)) (by rw [show tupOf vs.toList = { cls := .type "tuple", data := .seq vs } by rw [tupOf]]; exact V1)
theorem r_lent {a : Addr} {vs : List Value} {Q : Value → Shared → Prop} (ha : h.get? a = some (tupOf vs)) (hz : vs.length ≤ 1000000) (q : ∀ u t', Q (.int vs.length u) ⟨h, g, d, t', o⟩) : wpAny (model PR w) A (call (.builtin "len") [.ref a]) Q Never ⟨h, g, d, t, o⟩ := by
 refine len_tuple (s := ⟨h, g, d, t, o⟩) (isTup_of ha) (by rw [List.size_toArray]; (first | lia | omega)) ?_
 rw [List.size_toArray]; exact q _ _
theorem r_lenl {a : Addr} {vs : Array Value} {k : Nat} {Q : Value → Shared → Prop} (ha : h.get? a = some (listOf vs k)) (hz : vs.size ≤ 1000000) (q : ∀ u t', Q (.int vs.size u) ⟨h, g, d, t', o⟩) : wpAny (model PR w) A (call (.builtin "len") [.ref a]) Q Never ⟨h, g, d, t, o⟩ :=
 len_list (s := ⟨h, g, d, t, o⟩) (isList_of ha) (by (first | lia | omega)) (q _ _)
theorem r_item_tup {value slice : Expr} {a : Addr} {vs : List Value} {i : Nat} {u : Tok} {v : Value} {Q : Value → Shared → Prop} (ha : h.get? a = some (tupOf vs)) (hx : vs[i]? = some v) (hi : vs.length ≤ 1000000)
  (k : Q v ⟨h, g, d, t, o⟩) (hs : subscripted slice false (.ref a) (.int (i : Int) u) = operate [.ref a, .int (i : Int) u] (getItem (.ref a) (.int (i : Int) u)) := by with_unfolding_all rfl) :
  wpAny (model PR w) A (subscriptTail value slice (.ref a) (.int (i : Int) u)) Q Never ⟨h, g, d, t, o⟩ := by
 have hlt : i < vs.length := (List.getElem?_eq_some_iff.mp hx).1
 refine tail_any (s := ⟨h, g, d, t, o⟩) (isTup_of ha).typeIs slot_tuple_getitem.lookup (getItem_tuple (j := i) (x := v) (isTup_of ha) (by (first | lia | omega)) (by (first | lia | omega)) ?_ (by first | exact hx | simpa using hx) k) hs
 rw [List.size_toArray, seqIndex_of (by (first | lia | omega)) (by (first | lia | omega))]
 rfl
theorem r_and {values : List Expr} {pos : Pos} {whole : Sem Value} {Q : Bool → Shared → Prop} {op : BoolOp} (k : wpAny (model PR w) A (allTrue op values env) Q Never ⟨h, g, d, t, o⟩) : wpAny (model PR w) A (isTrue (.BoolOp op values pos) env whole) Q Never ⟨h, g, d, t, o⟩ := wpAny_isTrue_BoolOp k
theorem r_and1 {x : Expr} {rest : List Expr} {Q : Bool → Shared → Prop}
  (k : wpAny (model PR w) A (isTrue x env (eval x env)) (fun b s₁ => if b then wpAny (model PR w) A (allTrue .And rest env) Q Never s₁ else Q false s₁) Never ⟨h, g, d, t, o⟩) : wpAny (model PR w) A (allTrue .And (x :: rest) env) Q Never ⟨h, g, d, t, o⟩ := wpAny_allTrue_And_cons k
theorem r_and0 {Q : Bool → Shared → Prop} (k : Q true ⟨h, g, d, t, o⟩) : wpAny (model PR w) A (allTrue .And [] env) Q Never ⟨h, g, d, t, o⟩ := wpAny_allTrue_And_nil k
theorem r_or1 {x : Expr} {rest : List Expr} {Q : Bool → Shared → Prop}
  (k : wpAny (model PR w) A (isTrue x env (eval x env)) (fun b s₁ => if b then Q true s₁ else wpAny (model PR w) A (allTrue .Or rest env) Q Never s₁) Never ⟨h, g, d, t, o⟩) : wpAny (model PR w) A (allTrue .Or (x :: rest) env) Q Never ⟨h, g, d, t, o⟩ := wpAny_allTrue_Or_cons k
theorem r_or0 {Q : Bool → Shared → Prop} (k : Q false ⟨h, g, d, t, o⟩) : wpAny (model PR w) A (allTrue .Or [] env) Q Never ⟨h, g, d, t, o⟩ := wpAny_allTrue_Or_nil k
theorem r_not {x : Expr} {pos : Pos} {whole : Sem Value} {Q : Bool → Shared → Prop} (k : wpAny (model PR w) A (isTrue x env (eval x env)) (fun b s₁ => Q (!b) s₁) Never ⟨h, g, d, t, o⟩) : wpAny (model PR w) A (isTrue (.UnaryOp .Not x pos) env whole) Q Never ⟨h, g, d, t, o⟩ := wpAny_isTrue_Not k
theorem r_ifexp {test body orelse : Expr} {pos : Pos} {Q : Value → Shared → Prop}
  (k : wpAny (model PR w) A (isTrue test env (eval test env)) (fun c s₂ => if c then wpAny (model PR w) A (eval body env) Q Never s₂ else wpAny (model PR w) A (eval orelse env) Q Never s₂) Never ⟨h, g, d, t, o⟩) : wpAny (model PR w) A (eval (.IfExp test body orelse pos) env) Q Never ⟨h, g, d, t, o⟩ := IfExp_ k
theorem r_andv {x y : Expr} {pos : Pos} {Q : Value → Shared → Prop} (k : wpAny (model PR w) A (eval x env) (fun v s₁ => wpAny (model PR w) A (truthy v) (fun c s₂ => if c then wpAny (model PR w) A (eval y env) Q Never s₂ else Q v s₂) Never s₁) Never ⟨h, g, d, t, o⟩) :
  wpAny (model PR w) A (eval (.BoolOp .And [x, y] pos) env) Q Never ⟨h, g, d, t, o⟩ := wpAny_And2 k
theorem r_orv {x y : Expr} {pos : Pos} {Q : Value → Shared → Prop} (k : wpAny (model PR w) A (eval x env) (fun v s₁ => wpAny (model PR w) A (truthy v) (fun c s₂ => if c then Q v s₂ else wpAny (model PR w) A (eval y env) Q Never s₂) Never s₁) Never ⟨h, g, d, t, o⟩) :
  wpAny (model PR w) A (eval (.BoolOp .Or [x, y] pos) env) Q Never ⟨h, g, d, t, o⟩ := wpAny_Or2 k
theorem r_bin {x y : Expr} {op : Operator} {pos : Pos} {Q : Value → Shared → Prop} (k : wpAny (model PR w) A (eval x env) (fun a s₁ => wpAny (model PR w) A (eval y env) (fun c s₂ => wpAny (model PR w) A (binaryOp op a c) Q Never s₂) Never s₁) Never ⟨h, g, d, t, o⟩) :
  wpAny (model PR w) A (eval (.BinOp x op y pos) env) Q Never ⟨h, g, d, t, o⟩ := wpAny_BinOp k
end
end
section
noncomputable def LOf (oo : Obj) (vs : Array Value) : Prop := oo.cls = .type "list" ∧ ∃ n, oo.data = .seq vs n
noncomputable def IsI (v : Value) : Prop := ∃ i u, v = .int i u
noncomputable def fn494 : FnAt 494 := ⟨_, _, _, _, fun _ => rfl, fun _ => by kernel_rfl⟩
noncomputable def body494 : List Stmt := match fn494.fd.body with | .stmts b => b | _ => []
noncomputable abbrev LL (sa : Addr) (x1 x2 x3 x4 x5 x6 x7 x8 x9 x10 x11 x12 x13 x14 x15 x16 x17 : Option Value) : List (Str × Option Value) := [("script", some (.ref sa)), ("truths", x1), ("yes", x2), ("no", x3), ("terms", x4), ("t", x5), ("built", x6), ("closing", x7), ("groups", x8), ("home", x9), ("pairs", x10), ("lap", x11), ("some", x12), ("x", x13), ("y", x14), ("apart", x15), ("due", x16), ("back", x17)]
noncomputable abbrev N0 : Option Value := none
noncomputable abbrev LawIn : Prop := ∀ {w : World} {b h : Heap} {env : Env} {A : Around} {g : Array GenState} {d : Drawn} {t : Nat} {o : OsState} {n : Nat} {Q : Flow → Shared → Prop} {sa kf kb ki : Addr} {of' ob oi oS : Obj} {vs : Array Value} (G : Gd w b) (e : Ev env fn494.fd.scope.names) (hf : env.cells.lookup ("feed" : Str) = some kf) (hbk : env.cells.lookup ("bank" : Str) = some kb) (hi : env.cells.lookup ("ints" : Str) = some ki) (R : Rm A (n + 20))
  (V : Fm b env h (LL sa N0 N0 N0 N0 N0 N0 N0 N0 N0 N0 N0 N0 N0 N0 N0 N0 N0) [(ki, oi), (kb, ob), (kf, of')]) (ho1 : of'.data = .cell none) (ho2 : ob.data = .cell none) (ho3 : oi.data = .cell none)
  (hS : b.get? sa = some oS) (hL : LOf oS vs) (hI : ∀ v ∈ vs.toList, IsI v) (hz : vs.size ≤ 63)
  (k : ∀ h' t', Sub b h' → Q (.ret (.bool true)) ⟨h', g, d, t', o⟩),
  wpAny (model PR w) A (execs body494 env) Q Never ⟨h, g, d, t, o⟩
section
variable {w : World} {b h : Heap} {env : Env} {A : Around} {g : Array GenState} {d : Drawn} {t : Nat} {o : OsState} {n : Nat} {Q : Flow → Shared → Prop}
theorem law_in {p : Program} {bd : List Stmt} {sa kf kb ki : Addr} {of' ob oi oS : Obj} {vs : Array Value} (H : LawIn) (hp : p = PR) (hb : bd = body494) (G : Gd w b) (e : Ev env fn494.fd.scope.names) (hf : env.cells.lookup ("feed" : Str) = some kf) (hbk : env.cells.lookup ("bank" : Str) = some kb) (hi : env.cells.lookup ("ints" : Str) = some ki) (R : Rm A (n + 20))
  (V : Fm b env h (LL sa N0 N0 N0 N0 N0 N0 N0 N0 N0 N0 N0 N0 N0 N0 N0 N0 N0) [(ki, oi), (kb, ob), (kf, of')]) (ho1 : of'.data = .cell none) (ho2 : ob.data = .cell none) (ho3 : oi.data = .cell none)
  (hS : b.get? sa = some oS) (hL : LOf oS vs) (hI : ∀ v ∈ vs.toList, IsI v) (hz : vs.size ≤ 63)
  (k : ∀ h' t', Sub b h' → Q (.ret (.bool true)) ⟨h', g, d, t', o⟩) : wpAny (model p w) A (execs bd env) Q Never ⟨h, g, d, t, o⟩ := by
 subst hp hb
 with_reducible exact H G e hf hbk hi R V ho1 ho2 ho3 hS hL hI hz k
end
theorem left_ok : LeftO PW VQ [] (fun s => xlAt VQ [] s && recOk (RowW.records RWr) s) (Hook.obs hook) (Hook.val hook) 6224 :=
 LeftO.of_pieces (M := 12 + (1 + (1004 + (1151 + (897 + 2))))) open_ok size_ok run_ok (by kernel_rfl) looks_ok
theorem ints_isI : ∀ {vs : List Value} {ms : List Int}, IntsAre vs ms → ∀ v ∈ vs, IsI v
 | _, _, .nil, v, h => nomatch h
 | _, _, .cons n t r, v, h => by
  rcases List.mem_cons.mp h with rfl | h
  ·exact ⟨n, t, rfl⟩
  ·exact ints_isI r v h
theorem ints_len : ∀ {vs : List Value} {ms : List Int}, IntsAre vs ms → vs.length = ms.length
 | _, _, .nil => rfl
 | _, _, .cons n t r => by rw [List.length_cons, List.length_cons, ints_len r]
theorem ll_mem {sa : Addr} {x : Str} {v : Value} (hm : (x, some v) ∈ LL sa N0 N0 N0 N0 N0 N0 N0 N0 N0 N0 N0 N0 N0 N0 N0 N0 N0) : x = "script" ∧ v = .ref sa := by
 simp only [List.mem_cons, List.not_mem_nil, or_false, Prod.mk.injEq, reduceCtorEq, and_false, Option.some.injEq] at hm
 exact hm
theorem lawH0 (H : LawIn) : PySem.Challenge.rw_no0008_01.Holds := by
 refine holds_law (by kernel_rfl) fun said => ?_
 refine holds_open (q := VQ) (loose := []) (Xt := fun s => xlAt VQ [] s && recOk (RowW.records RWr) s) (XP := XL VQ []) (Yf := Hook.obs hook) (Ya := Hook.val hook) (YP := Hook.says hook) (N := 6224) left_ok (Hook.of hook) (Hook.keeps hook) (fun s e => xl_of s (Bool.and_eq_true_iff.mp e).1) XL.keeps (by rfl) (by rfl) (by rfl) (fun s e => recFacts_of (Bool.and_eq_true_iff.mp e).2) (by rfl) said (by decide +kernel) ⟨rfl, rfl, rfl, rfl, rfl, by decide +kernel⟩ ?hw ?hc
 case hw => w_witness2
 case hc =>
  intro w s₀ s₁ mg mb G Y fa o pm cd doc dV kV ho hdd hcd hD hmg hg args vals as hpre hlay hrd hwl hlo
  have KX : (frag w.params).In s₁.heap := kIn_of Y
  clear Y
  refine Ground.open G ?_
  intro T B D TE TW
  refine guard_noD D (by decide +kernel) ?_
  clear D B TE TW
  have TA := at_of_top T
  obtain ⟨_, _, he, B0⟩ := based_of_top T rfl hmg ho hdd
  have he' : cd = _ := he
  subst he'
  clear he
  clear hmg
  wrow_args hpre hlay hrd hwl hlo
  refine enter_call ?_
  w_top on
  refine codeAny_mono ?_ (fun _ _ g => GoodW.toG g)
  have K0 := below_caller (Top.heap T)
  w_call any ho hdd hcd hD T F
  rename_i w11 w10 ns hs hlay0 hL1 hr1 hl2 w7 w6 sa vs w3 hL ra w1 r0 hI hr hcond hc' h₁ tk₁ o2 o1 o0 c2 c1 c0 N0 X0
  clear hD hcd ho X0 K0 B0 TA hdd
  have Gb : Gd w s₁.heap := ⟨KX, mg, mb, topRead_of T⟩
  obtain ⟨oS, eS, hS1, hS2⟩ := hL
  have hLO : LOf oS vs.toArray := ⟨hS1, hS2⟩
  with_reducible refine wpAny_mono (Q := fun v s => v = .ret (.bool true) ∧ (∀ a o, s₁.heap.get? a = some o → s.heap.get? a = some o) ∧ s.gens = s₁.gens ∧ s.os = s₁.os) (E := Never) (law_in H (n := 0) (sa := sa) (b := s₁.heap) (vs := vs.toArray) (kf := s₁.heap.objs.size + 1) (kb := s₁.heap.objs.size + 1 + 1) (ki := s₁.heap.objs.size + 1 + 1 + 1) ?p1 ?p2 Gb ?e1 ?e2 ?e3 ?e4 ?e5 ?e6 c0 c1 c2 eS hLO ?e7 ?e8 ?e9) ?_ ?_
  case p1 => with_reducible rfl
  case p2 => kernel_rfl
  case e9 => exact fun h' t' s => ⟨rfl, s, rfl, rfl⟩
  case e8 => rw [List.size_toArray, ints_len hI]; (first | lia | omega)
  case e7 => exact fun v hv => ints_isI hI v hv
  case e6 => exact ⟨⟨_, F, fun x v hm => by
   obtain ⟨rfl, rfl⟩ := ll_mem hm
   kernel_rfl⟩, N0, by show (["script", "truths", "yes", "no", "terms", "t", "built", "closing", "groups", "home", "pairs", "lap", "some", "x", "y", "apart", "due", "back"] : List Str).Nodup; decide +kernel, by simp; (first | lia | omega)⟩
  case e5 => exact ⟨rfl, (by show callerA.depth + 1 + (0 + 20) < recursionLimit; decide +kernel), (by show callerA.units + 3 + 8 * (0 + 20) + 100 < cLine; decide +kernel)⟩
  case e4 => kernel_rfl
  case e3 => kernel_rfl
  case e2 => kernel_rfl
  case e1 => exact ⟨rfl, rfl, rfl, rfl, lookup_names (by decide +kernel)⟩
  ·rintro _ s ⟨rfl, k1, k2, k3⟩
   exact ⟨.inl ⟨.bool true, .bool true, [], rfl, fun _ => rfl, .bool _, (by wrow_post), fun _ => ⟨.nil, fun a h => nomatch h⟩⟩, k1, k3, k2.trans hg⟩
  ·exact fun _ _ f => f.elim
end
section
theorem ml_op (w : World) : Meth w 442 "op" 229 := ⟨by kernel_rfl, by kernel_rfl, by kernel_rfl, by kernel_rfl⟩
theorem ml_args (w : World) : Meth w 442 "args" 236 := ⟨by kernel_rfl, by kernel_rfl, by kernel_rfl, by kernel_rfl⟩
theorem ml_sort (w : World) : Meth w 442 "sort" 243 := ⟨by kernel_rfl, by kernel_rfl, by kernel_rfl, by kernel_rfl⟩
theorem ml_data (w : World) : Meth w 442 "data" 250 := ⟨by kernel_rfl, by kernel_rfl, by kernel_rfl, by kernel_rfl⟩
theorem ml_true (w : World) : Meth w 442 "true_term" 306 := ⟨by kernel_rfl, by kernel_rfl, by kernel_rfl, by kernel_rfl⟩
theorem ml_false (w : World) : Meth w 442 "false_term" 313 := ⟨by kernel_rfl, by kernel_rfl, by kernel_rfl, by kernel_rfl⟩
theorem ml_join (w : World) : Meth w 72 "join" 43 := ⟨by kernel_rfl, by kernel_rfl, by kernel_rfl, by kernel_rfl⟩
theorem ml_are_one (w : World) : Meth w 72 "are_one" 50 := ⟨by kernel_rfl, by kernel_rfl, by kernel_rfl, by kernel_rfl⟩
theorem ml_close (w : World) : Meth w 72 "close" 55 := ⟨by kernel_rfl, by kernel_rfl, by kernel_rfl, by kernel_rfl⟩
theorem ml_join_truth (w : World) : Meth w 72 "join_truth" 62 := ⟨by kernel_rfl, by kernel_rfl, by kernel_rfl, by kernel_rfl⟩
theorem ml_has_clash (w : World) : Meth w 72 "has_clash" 69 := ⟨by kernel_rfl, by kernel_rfl, by kernel_rfl, by kernel_rfl⟩
section
variable {w : World} {b h : Heap} {env : Env} {A : Around} {g : Array GenState} {d : Drawn} {t : Nat} {o : OsState}
theorem r_consJ {st : Stmt} {rest : List Stmt} {Q : Flow → Shared → Prop} (J : Shared → Prop) (k1 : wpAny (model PR w) A (exec st env) (fun f s' => match f with | .next => J s' | f => Q f s') Never ⟨h, g, d, t, o⟩)
  (k2 : ∀ s, J s → wpAny (model PR w) A (execs rest env) Q Never s) : wpAny (model PR w) A (execs (st :: rest) env) Q Never ⟨h, g, d, t, o⟩ :=
 wpAny_execs_cons (wpAny_mono k1 (fun f s' q => by cases f with
  | next => exact k2 s' q
  | _ => exact q) fun _ _ q => q)
noncomputable def KJ (J : Shared → Prop) (Q K : Flow → Shared → Prop) : Prop := ∀ f s', (match f with | .next => J s' | f => Q f s') → K f s'
theorem r_consJK {st : Stmt} {rest : List Stmt} {Q : Flow → Shared → Prop} (J : Shared → Prop) (k1 : ∀ K : Flow → Shared → Prop, KJ J Q K → wpAny (model PR w) A (exec st env) K Never ⟨h, g, d, t, o⟩)
  (k2 : ∀ s, J s → wpAny (model PR w) A (execs rest env) Q Never s) : wpAny (model PR w) A (execs (st :: rest) env) Q Never ⟨h, g, d, t, o⟩ := r_consJ J (k1 _ fun _ _ q => q) k2
theorem KJ.next {J : Shared → Prop} {Q K : Flow → Shared → Prop} {s : Shared} (H : KJ J Q K) (k : J s) : K .next s := H .next s k
theorem KJ.ret {J : Shared → Prop} {Q K : Flow → Shared → Prop} {s : Shared} {v : Value} (H : KJ J Q K) (k : Q (.ret v) s) : K (.ret v) s := H (.ret v) s k
theorem KJ.retW {J : Shared → Prop} {Q K : Flow → Shared → Prop} {s : Shared} {m : Sem Value} (H : KJ J Q K) (k : wpAny (model PR w) A m (fun v => Q (.ret v)) Never s) : wpAny (model PR w) A m (fun v => K (.ret v)) Never s := wpAny_mono k (fun _ _ q => H.ret q) fun _ _ q => q
theorem KJ.retE {J : Shared → Prop} {env' : Env} {Q K : Flow → Shared → Prop} {p : Addr × Obj} {b : Heap} {I : Nat → List (Str × Option Value) → List (Addr × Obj) → Prop} {i : Nat} {v : Value} {s : Shared} (H : KJ J Q K) (k : Q (.ret v) s) : TurnE K g d o b env' p I i (.ret v) s := H.ret k
theorem KJ.retEW {J : Shared → Prop} {env' : Env} {Q K : Flow → Shared → Prop} {p : Addr × Obj} {b : Heap} {I : Nat → List (Str × Option Value) → List (Addr × Obj) → Prop} {i : Nat} {s : Shared} {m : Sem Value} (H : KJ J Q K) (k : wpAny (model PR w) A m (fun v => Q (.ret v)) Never s) : wpAny (model PR w) A m (fun v => TurnE K g d o b env' p I i (.ret v)) Never s := wpAny_mono k (fun _ _ q => H.ret q) fun _ _ q => q
theorem opq2 {m : Sem Unit} {m2 : Sem Flow} {s : Shared} {Q : Flow → Shared → Prop} (k : ∀ R : Flow → Shared → Prop, (∀ f s, Q f s → R f s) → wpAny (model PR w) A m (fun _ s₂ => wpAny (model PR w) A m2 R Never s₂) Never s) : wpAny (model PR w) A m (fun _ s₂ => wpAny (model PR w) A m2 Q Never s₂) Never s := k Q fun _ _ q => q
theorem r_cont {pos : Pos} {Q : Flow → Shared → Prop} (k : Q .cont ⟨h, g, d, t, o⟩) : wpAny (model PR w) A (exec (.Continue pos) env) Q Never ⟨h, g, d, t, o⟩ := wpAny_Continue k
end
end
section
section
variable {w : World} {b h : Heap} {env : Env} {l l' : List (Str × Option Value)} {σ σ' : List (Addr × Obj)} {ks : List (Str × NameKind)} {A : Around} {g : Array GenState} {d : Drawn} {t : Nat} {o : OsState}
theorem r_gti {a c : Int} {u v : Tok} {Q : Value → Shared → Prop} (k : Q (.bool (decide (a > c))) ⟨h, g, d, t, o⟩) : wpAny (model PR w) A (compareOp .Gt (.int a u) (.int c v)) Q Never ⟨h, g, d, t, o⟩ := PyProof.Rows.gt_int k
theorem r_lti {a c : Int} {u v : Tok} {Q : Value → Shared → Prop} (k : Q (.bool (decide (a < c))) ⟨h, g, d, t, o⟩) : wpAny (model PR w) A (compareOp .Lt (.int a u) (.int c v)) Q Never ⟨h, g, d, t, o⟩ := PyProof.Rows.lt_int k
theorem r_nei {a c : Int} {u v : Tok} {Q : Value → Shared → Prop} (k : Q (.bool (a != c)) ⟨h, g, d, t, o⟩) : wpAny (model PR w) A (compareOp .NotEq (.int a u) (.int c v)) Q Never ⟨h, g, d, t, o⟩ := PyProof.Rows.ne_int k
theorem r_neb {a c : Bool} {Q : Value → Shared → Prop} (k : Q (.bool (a != c)) ⟨h, g, d, t, o⟩) : wpAny (model PR w) A (compareOp .NotEq (.bool a) (.bool c)) Q Never ⟨h, g, d, t, o⟩ := by
 refine PySem.EqBoolInt.of_rcne (SeqAt.RcNeAt.bool_bool a c) ?_
 exact k
theorem r_addi {a c : Int} {u v : Tok} {Q : Value → Shared → Prop} (k : ∀ z t', Q (.int (a + c) z) ⟨h, g, d, t', o⟩) : wpAny (model PR w) A (binaryOp .Add (.int a u) (.int c v)) Q Never ⟨h, g, d, t, o⟩ := PyProof.Rows.add_int (k _ _)
theorem r_addb {a : Int} {c : Bool} {u : Tok} {Q : Value → Shared → Prop} (k : ∀ z t', Q (.int (a + if c = true then (1 : Int) else 0) z) ⟨h, g, d, t', o⟩) : wpAny (model PR w) A (binaryOp .Add (.int a u) (.bool c)) Q Never ⟨h, g, d, t, o⟩ := by
 first
  | exact add_int_bool (k _ _)
  | exact PySem.TwoTypes.add_int_bool (k _ _)
  | exact PySem.TwoTypesSub.add_int_bool (k _ _)
theorem r_modi {a c : Int} {u v : Tok} {Q : Value → Shared → Prop} (hc : c ≠ 0) (k : ∀ z t', Q (.int (a.fmod c) z) ⟨h, g, d, t', o⟩) : wpAny (model PR w) A (binaryOp .Mod (.int a u) (.int c v)) Q Never ⟨h, g, d, t, o⟩ := by
 first
  | exact mod_int' hc (k _ _)
  | exact PyProof.Rows.mod_int' hc (k _ _)
theorem Fm.rot {x y z : List (Addr × Obj)} (V : Fm b env h l (x ++ (y ++ z))) : Fm b env h l (y ++ (x ++ z)) := V.perm (List.perm_append_comm_assoc _ _ _)
end
end
section
theorem gl_VALUES (w : World) : nsIn (KF w) mainGlobals "VALUES" = some (some (.ref 22)) := by with_unfolding_all rfl
theorem gl_BOOL (w : World) : nsIn (KF w) mainGlobals "BOOL" = some (some (.int 0 352)) := by with_unfolding_all rfl
theorem gl_INT (w : World) : nsIn (KF w) mainGlobals "INT" = some (some (.int 1 354)) := by with_unfolding_all rfl
theorem gl_draw (w : World) : nsIn (KF w) mainGlobals "_law_draw" = some (some (.ref 451)) := by with_unfolding_all rfl
theorem gl_pick (w : World) : nsIn (KF w) mainGlobals "_law_pick" = some (some (.ref 458)) := by with_unfolding_all rfl
theorem gl_pools (w : World) : nsIn (KF w) mainGlobals "_law_pools" = some (some (.ref 463)) := by with_unfolding_all rfl
theorem gl_tied (w : World) : nsIn (KF w) mainGlobals "_law_tied" = some (some (.ref 470)) := by with_unfolding_all rfl
theorem gl_truths (w : World) : nsIn (KF w) mainGlobals "_law_truths_tied" = some (some (.ref 477)) := by with_unfolding_all rfl
theorem gl_closed (w : World) : nsIn (KF w) mainGlobals "_law_closed" = some (some (.ref 482)) := by with_unfolding_all rfl
theorem gl_alike (w : World) : nsIn (KF w) mainGlobals "_law_are_alike" = some (some (.ref 489)) := by with_unfolding_all rfl
theorem gl_closing (w : World) : nsIn (KF w) mainGlobals "PlainClosing" = some (some (.ref 72)) := by with_unfolding_all rfl
theorem gl_bank (w : World) : nsIn (KF w) mainGlobals "BoolBank" = some (some (.ref 442)) := by with_unfolding_all rfl
theorem at22 (w : World) : ∃ u v, (KF w).lookup 22 = some (tupOf [.str "num" u, .str "bvnum" v]) := ⟨_, _, by with_unfolding_all rfl⟩
end
section
noncomputable def fn36 : FnAt 36 := ⟨_, _, _, _, fun _ => rfl, fun _ => by kernel_rfl⟩
section
variable {w : World} {b₀ h : Heap} {A : Around} {g : Array GenState} {d : Drawn} {t : Nat} {o : OsState}
theorem enterR {f : Addr} (fn : FnAt f) {body : List Stmt} {args : List Value} {R : Result → Shared → Prop} {n : Nat} (binds : List (Str × Value)) (names rest : List Str) (l : List (Str × Option Value)) (C : List (Addr × Obj))
  (G : Gd w b₀) (S : Sub b₀ h) (R' : Rm A (n + 1)) (hbody : fn.fd.body = .stmts body) (hb : bindArgs fn.fd ⟨args, []⟩ = pure binds)
  (hnames : binds.map (·.1) = names) (hslots : binds.map (fun p => (p.1, some p.2)) ++ rest.map (fun n => (n, none)) = l)
  (hcell : ∀ x ∈ fn.fd.scope.names, x.2 ≠ .cell) (hloc : ∀ x ∈ names, fn.fd.scope.names.lookup x = some .local) (hnd : (names ++ rest).Nodup)
  (hC : ∀ p ∈ C, h.get? p.1 = some p.2 ∧ b₀.get? p.1 = none) (hCn : (C.map (·.1)).Nodup)
  (k : ∀ b env h' t', Gd w b → Sub b₀ b → Sub b h → (∀ a o, h.get? a = some o → a ∉ C.map (·.1) → b.get? a = some o) → h.objs.size ≤ env.locals → Sub h h' → Ev env fn.fd.scope.names → Fm b env h' l C → Rm (A.deeper env) n →
   wpAny (model PR w) (A.deeper env) (execs body env) (fun fl s' => R (.ok (.ret (retOf fl))) s') Never ⟨h', g, d, t', o⟩)
  (hgl : fn.fd.globals = mainGlobals := by rfl) (hbl : fn.fd.builtins = builtinsNs := by rfl) (hknd : (fn.fd.scope.names.map (·.1)).Nodup := by decide +kernel)
  (hco : fn.fd.scope.isCoroutine = false := by rfl) (hgen : fn.fd.scope.isGenerator = false := by rfl) (hk : fn.fd.scope.kind = .function := by rfl) :
  codeAny (model PR w) A (.call (.ref f) ⟨args, []⟩) R ⟨h, g, d, t, o⟩ := by
 have G' : Gd w h := G.mono S
 have hnd1 : (binds.map (·.1)).Nodup := hnames ▸ (List.nodup_append.mp hnd).1
 have hl : ∀ x v, (x, some v) ∈ l → binds.reverse.lookup x = some v := hslots ▸ slots_lookup hnd1
 have hndl : (l.map (·.1)).Nodup := by
  rw [← hslots, List.map_append, List.map_map, List.map_map]
  have e1 : binds.map ((fun x : Str × Option Value => x.1) ∘ fun p : Str × Value => (p.1, some p.2)) = names := hnames
  have e2 : rest.map ((fun x : Str × Option Value => x.1) ∘ fun n : Str => (n, none)) = rest := by clear hslots hnd; induction rest with
   | nil => rfl
   | cons _ _ ih => rw [List.map_cons, ih]; rfl
  rw [e1, e2]; exact hnd
 obtain ⟨mg, mb, T⟩ := G'.T
 refine codeAny_call_def (fd := fn.fd) (by have := R'.d; (first | lia | omega)) (G'.X _ _ (fn.at_ w)) rfl T.nolimit (codeRec_of G'.X (fn.code w)) hbody (.of_eq hb) hcell (fun x hx => hloc x.1 (hnames ▸ List.mem_map_of_mem hx)) (fun h' hns hs => ?_) hco hgen hk
 have St : Sub b₀ (hideAll h (C.map (·.1))) := fun a o e => hideAll_get _ (S a o e) fun q => by
  obtain ⟨p, hp, rfl⟩ := List.mem_map.mp q
  rw [(hC p hp).2] at e; cases e
 have Sb : Sub (hideAll h (C.map (·.1))) h := fun a o e => of_hideAll _ e
 refine wpAny_mono (k (hideAll h (C.map (·.1))) (callEnv fn.fd h.objs.size f) h' _ (G.mono St) St Sb (fun a o e n => hideAll_get _ e n) (Nat.le_refl _) hs ⟨hk, hgl, hbl, ?_, fun p hp => lookup_names hknd p hp⟩ ?_ (R'.deeper _)) (fun fl s' q => ?_) (fun _ _ q => q.elim)
 ·show (fn.fd.scope.kind == .module && _) = false
  rw [hk]; rfl
 ·refine ⟨⟨_, ⟨hns, fun a o e => hs _ _ (Sb _ _ e), Nat.le_of_eq (hideAll_size _ _)⟩, hl⟩, fun p hp => ⟨hs _ _ (hC p hp).1, Nat.ne_of_lt (Heap.lt_size (hC p hp).1), hideAll_none _ (List.mem_map_of_mem hp)⟩, hndl, hCn⟩
 ·cases fl <;> exact q
theorem Rm.under {n k : Nat} {c : Code} (R : Rm A (n + k)) (hw : c.weight ≤ k) (hu : c.cUnits ≤ 8 * k) : Rm (A.under c) n :=
 ⟨R.h, by have := R.d; show A.depth + c.weight + n < _; (first | lia | omega), by have := R.u; show A.units + c.cUnits + 8 * n + 100 < _; (first | lia | omega)⟩
theorem weight_tc (args : Args) : (Code.builtin "type.__call__" args).weight ≤ 1 := by
 unfold Code.weight
 have h1 : (Code.builtin "type.__call__" args).frames = 0 := by rfl
 have h2 : (Code.builtin "type.__call__" args).isGuard = false := by rfl
 have h3 : (Code.builtin "type.__call__" args).isCaller = false := by rfl
 rw [h1, h2, h3]
 simp only [Bool.false_eq_true, if_false]
 split <;> (first | lia | omega)
theorem units_tc (args : Args) : (Code.builtin "type.__call__" args).cUnits ≤ 8 := by
 show 1 + 3 * (Code.builtin "type.__call__" args).frames ≤ 8
 have h1 : (Code.builtin "type.__call__" args).frames = 0 := by rfl
 rw [h1]; (first | lia | omega)
end
noncomputable def DF (o : Obj) (fl : List (Str × Value)) : Prop := ∃ es n, o = dictOf es n ∧ EsAre es fl
theorem DF.nil : DF (dictOf [] 0) [] := ⟨_, _, rfl, .nil⟩
theorem EsAre.put {name : Str} {hs : Int} {u : Tok} {v : Value} {es : List DictEntry} {fl : List (Str × Value)} (E : EsAre es fl) (h : fl.lookup name = none) : EsAre (putL name hs (.str name u) v es) (fl ++ [(name, v)]) := by
 induction E with
 | nil => exact .cons .nil
 | @cons hs' n u' v' es l E ih =>
  rw [List.lookup_cons] at h
  by_cases hn : n = name
  ·subst hn; simp at h
  ·have h1 : (n == name) = false := beq_eq_false_iff_ne.mpr hn
   have h2 : (name == n) = false := beq_eq_false_iff_ne.mpr (Ne.symm hn)
   rw [h2] at h
   have e1 : (Value.str n u').isStr name = false := h1
   unfold putL
   first | refine ite_f (by rw [e1]; exact Bool.false_ne_true) ?_ | rw [if_neg (by rw [e1]; exact Bool.false_ne_true)]
   exact .cons (ih h)
structure SetOk (w : World) (C : Addr) (name : Str) : Prop where
 set : findIn (KF w) (.ref C) "__setattr__" = some (some (.builtin "object.__setattr__"))
 over : plainOver (KF w) C = true
 take : takerIn (KF w) C name = some none
 dict : hasDictIn (KF w) C = true
theorem PutS.upd {d : Addr} {o o' : Obj} {σ σ' : List (Addr × Obj)} (U : PutS d o o' σ σ') (hn : (σ.map (·.1)).Nodup) : Upd d o o' σ σ' := by
 induction U with
 | head =>
  rename_i r
  simp only [List.map_cons, List.nodup_cons] at hn
  exact .head fun p hp e => hn.1 (e ▸ List.mem_map_of_mem hp)
 | tail q ih =>
  simp only [List.map_cons, List.nodup_cons] at hn
  refine .tail (fun e => hn.1 ?_) (ih hn.2)
  rw [e]
  exact List.mem_map_of_mem (f := (·.1)) q.mem
section
variable {w : World} {b h : Heap} {env : Env} {l l' : List (Str × Option Value)} {σ : List (Addr × Obj)} {σ' : Obj → List (Addr × Obj)} {ks : List (Str × NameKind)} {A : Around} {g : Array GenState} {d : Drawn} {t : Nat} {o : OsState}
theorem r_setattr {x C dx : Addr} {od : Obj} {fl : List (Str × Value)} {name : Str} {v : Value} {Q : Unit → Shared → Prop} (G : Gd w b) (V : Fm b env h l σ) (hx : At b σ x (instObj C dx)) (U : ∀ o', PutS dx od o' σ (σ' o')) (D : DF od fl) (P : SetOk w C name)
  (hn : fl.lookup name = none) (hlen : fl.length ≤ 900)
  (k : ∀ o' h' t', DF o' (fl ++ [(name, v)]) → Fm b env h' l (σ' o') → Q () ⟨h', g, d, t', o⟩) : wpAny (model PR w) A (setAttr (.ref x) name v) Q Never ⟨h, g, d, t, o⟩ := by
 obtain ⟨es, n, rfl, E⟩ := D
 obtain ⟨m, F, hm⟩ := V.fr
 have E' := E.put (hs := PyData.keyHash w.params name) (u := t + 1) (v := v) hn
 have hz : (putL name (PyData.keyHash w.params name) (.str name (t + 1)) v es).length ≤ 1000 := by rw [E'.length, List.length_append, List.length_singleton]; (first | lia | omega)
 refine set_dict (s := ⟨h, g, d, t, o⟩) F G.X V.nw ⟨V.at hx, rfl, rfl, (V.nw _ (U (dictOf es n)).mem).1⟩ rfl P.set P.over P.take P.dict (by rw [E.getL]; rfl) rfl ((U _).upd V.na) hz fun h' F' N' => ?_
 exact k _ _ _ ⟨_, _, rfl, E'⟩ ⟨⟨m, F', hm⟩, N', V.nd, by rw [(U _).names]; exact V.na⟩
theorem r_asgattr {ob : Expr} {attr : Str} {pos' pos : Pos} {value : Expr} {Q : Flow → Shared → Prop}
  (k : wpAny (model PR w) A (eval value env) (fun v s₁ => wpAny (model PR w) A (eval ob env) (fun ov s₂ => wpAny (model PR w) A (setAttr ov attr v) (fun _ => Q .next) Never s₂) Never s₁) Never ⟨h, g, d, t, o⟩)
  (hs : swapsWith value (some (.Attribute ob attr pos')) pos.line env = pure false := by with_unfolding_all rfl) : wpAny (model PR w) A (exec (.Assign [.Attribute ob attr pos'] value pos) env) Q Never ⟨h, g, d, t, o⟩ := by
 first
  | exact plainObj_wpAny_Assign_Attribute k hs
  | exact PlainObj.plainObj_wpAny_Assign_Attribute k hs
theorem r_new {C fI : Addr} {args : List Value} {n : Nat} {Q : Value → Shared → Prop} (G : Gd w b) (V : Fm b env h l σ) (R : Rm A (n + 1)) (hm : makesIn (KF w) C = true) (hi : findIn (KF w) (.ref C) "__init__" = some (some (.ref fI))) (hf : typeIn (KF w) (.ref fI) = some (.type "function"))
  (k : ∀ x dx h' A', Rm A' n → x ≠ dx → (∀ a oo, h.get? a = some oo → a ≠ x ∧ a ≠ dx) → Sub h h' → Fm b env h' l ((x, instObj C dx) :: (dx, dictOf [] 0) :: σ) →
   codeAny (model PR w) A' (.call (.ref fI) ⟨.ref x :: args, []⟩) (fun r s' => match r with | .ok (.ret v) => v = .none ∧ Q (.ref x) s' | _ => False) ⟨h', g, d, t, o⟩) :
  wpAny (model PR w) A (call (.ref C) args) Q Never ⟨h, g, d, t, o⟩ := by
 have X := G.X.keeps V.sub
 refine wpAny_call (make_core (makes_of X hm) (looks_findIn X hi) (fun self => bind_fn X self hf) (.inl rfl) ?_)
 have V1 := (V.push (dictOf [] 0)).push (instObj C h.objs.size)
 rw [Heap.size_push] at V1
 refine codeAny_mono (k (h.objs.size + 1) h.objs.size _ _ (R.under (weight_tc _) (units_tc _)) (Nat.succ_ne_self _) (fun a oo e => ⟨Nat.ne_of_lt (Nat.lt_succ_of_lt (Heap.lt_size e)), Nat.ne_of_lt (Heap.lt_size e)⟩) (fun a oo e => Heap.get?_push_of_some _ (Heap.get?_push_of_some _ e)) V1) fun r s' q => ?_
 rcases r with e | (v | _ | _ | _)
 ·exact q.elim
 all_goals first | exact q.elim | exact q
end
end
section
theorem LOf.list (vs : Array Value) (n : Nat) : LOf (listOf vs n) vs := ⟨rfl, n, rfl⟩
theorem LOf.isList {h : Heap} {a : Addr} {oo : Obj} {vs : Array Value} (L : LOf oo vs) (e : h.get? a = some oo) : h.IsList a vs := ⟨oo, e, L.1, L.2⟩
section
variable {w : World} {b h : Heap} {env : Env} {l l' : List (Str × Option Value)} {σ : List (Addr × Obj)} {σ' : Obj → List (Addr × Obj)} {ks : List (Str × NameKind)} {A : Around} {g : Array GenState} {d : Drawn} {t : Nat} {o : OsState}
theorem r_item_L {value slice : Expr} {a : Addr} {oo : Obj} {vs : Array Value} {i : Int} {u : Tok} {v : Value} {Q : Value → Shared → Prop} (V : Fm b env h l σ) (H : At b σ a oo) (L : LOf oo vs) (h0 : 0 ≤ i) (h1 : i < 2 ^ 63) (hx : vs[i.toNat]? = some v)
  (k : Q v ⟨h, g, d, t, o⟩) (hs : subscripted slice false (.ref a) (.int i u) = operate [.ref a, .int i u] (getItem (.ref a) (.int i u)) := by with_unfolding_all rfl) :
  wpAny (model PR w) A (subscriptTail value slice (.ref a) (.int i u)) Q Never ⟨h, g, d, t, o⟩ :=
 have hl := L.isList (V.at H)
 tail_any (s := ⟨h, g, d, t, o⟩) hl.typeIs slot_list_getitem.lookup (wpAny_getItem_list hl h0 h1 hx k) hs
theorem r_set_L {a : Addr} {oo : Obj} {vs : Array Value} {i : Nat} {u : Tok} {v : Value} {Q : Unit → Shared → Prop} (V : Fm b env h l σ) (U : ∀ o', PutS a oo o' σ (σ' o')) (L : LOf oo vs) (hi : i < vs.size) (hz : vs.size ≤ 1000000)
  (k : ∀ o' h', LOf o' (vs.setIfInBounds i v) → Fm b env h' l (σ' o') → Kept [a] h h' → h'.get? a = some o' → Q () ⟨h', g, d, t, o⟩) : wpAny (model PR w) A (setItem (.ref a) (.int (i : Int) u) v) Q Never ⟨h, g, d, t, o⟩ := by
 refine wpAny_setItem_list (s := ⟨h, g, d, t, o⟩) (L.isList (V.nw _ (U oo).mem).1) (by (first | lia | omega)) (by (first | lia | omega)) (by (first | lia | omega)) fun h' hl hs => ?_
 obtain ⟨o', eo, ec, ed⟩ := hl
 have hkept : Kept [a] h h' := fun c oc e n => hs.extBut _ _ (by first | exact n | simpa using n) e
 exact k o' h' ⟨ec, by simpa using ed⟩ (V.put (U o') hkept eo) hkept eo
theorem Fm.newtop {h' : Heap} {m : Str → Option Value} {x : Addr} {ox : Obj} (V : Fm b env h l σ) (hx : h.objs.size ≤ x) (F : ∃ m, Fr b env.locals h' m ∧ ∀ y v, (y, some v) ∈ l → m y = some v) (N : News b env.locals h' ((x, ox) :: σ)) : Fm b env h' l ((x, ox) :: σ) := by
 refine ⟨F, N, V.nd, ?_⟩
 rw [List.map_cons, List.nodup_cons]
 refine ⟨fun q => ?_, V.na⟩
 obtain ⟨p, hp, e⟩ := List.mem_map.mp q
 have h1 := Heap.lt_size (V.nw p hp).1
 rw [e] at h1
 exact absurd h1 (Nat.not_lt.mpr hx)
theorem r_addL {a c : Addr} {oa oc : Obj} {vs ws : Array Value} {Q : Value → Shared → Prop} (V : Fm b env h l σ) (Ha : At b σ a oa) (La : LOf oa vs) (Hc : At b σ c oc) (Lc : LOf oc ws) (hz : vs.size + ws.size ≤ 1000000)
  (k : ∀ x h', Fm b env h' l ((x, listOf (vs ++ ws) 0) :: σ) → Q (.ref x) ⟨h', g, d, t, o⟩) : wpAny (model PR w) A (binaryOp .Add (.ref a) (.ref c)) Q Never ⟨h, g, d, t, o⟩ := by
 obtain ⟨m, F, hm⟩ := V.fr
 have la := La.isList (V.at Ha)
 have lc := Lc.isList (V.at Hc)
 refine add_lists (s := ⟨h, g, d, t, o⟩) (vs := vs.toList) (ws := ws.toList) F V.nw (by first | exact la | simpa using la) (by first | exact lc | simpa using lc) (fun h' F' N' => ?_) (by rw [sizeLine_eq]; simp; (first | lia | omega))
 have e : (vs.toList ++ ws.toList).toArray = vs ++ ws := by simp
 rw [e] at N'
 exact k _ _ (V.newtop (m := m) (Nat.le_refl _) ⟨m, F', hm⟩ N')
theorem r_eqL {a c : Addr} {oa oc : Obj} {vs ws : Array Value} {ns ms : List Nat} {Q : Value → Shared → Prop} (V : Fm b env h l σ) (Ha : At b σ a oa) (La : LOf oa vs) (Hc : At b σ c oc) (Lc : LOf oc ws) (Na : Nums vs.toList ns) (Nc : Nums ws.toList ms) (hu : A.units + 100 < cLine)
  (k : Q (.bool (decide (ns = ms))) ⟨h, g, d, t, o⟩) : wpAny (model PR w) A (compareOp .Eq (.ref a) (.ref c)) Q Never ⟨h, g, d, t, o⟩ := by
 have la := La.isList (V.at Ha)
 have lc := Lc.isList (V.at Hc)
 refine eq_intsK (s := ⟨h, g, d, t, o⟩) (vs := vs.toList) (us := ws.toList) (by first | exact la | simpa using la) (intsAre_of Na) (by first | exact lc | simpa using lc) (intsAre_of Nc) (by (first | lia | omega)) ?_
 have e : decide (ns.map (fun n : Nat => (n : Int)) = ms.map (fun n : Nat => (n : Int))) = decide (ns = ms) := by
  refine decide_eq_decide.mpr ⟨fun q => ?_, fun q => by rw [q]⟩
  have := congrArg (List.map Int.toNat) q
  simpa [List.map_map, Function.comp_def] using this
 rw [e]; exact k
theorem r_slice {lower upper step : Option Expr} {p : Pos} {Q : Value → Shared → Prop} (k : wpAny (model PR w) A (evalPart lower env) (fun l s₁ => wpAny (model PR w) A (evalPart upper env) (fun u s₂ => wpAny (model PR w) A (evalPart step env) (fun st s₃ =>
   Q (.ref s₃.heap.objs.size) { s₃ with heap := s₃.heap.push { cls := .type "slice", data := .fields #[l, u, st] } }) Never s₂) Never s₁) Never ⟨h, g, d, t, o⟩) : wpAny (model PR w) A (eval (.Slice lower upper step p) env) Q Never ⟨h, g, d, t, o⟩ := wpAny_Slice k
theorem r_part0 {Q : Value → Shared → Prop} (k : Q .none ⟨h, g, d, t, o⟩) : wpAny (model PR w) A (evalPart none env) Q Never ⟨h, g, d, t, o⟩ := evalPart_none_step k
theorem r_part1 {e : Expr} {Q : Value → Shared → Prop} (k : wpAny (model PR w) A (eval e env) Q Never ⟨h, g, d, t, o⟩) : wpAny (model PR w) A (evalPart (some e) env) Q Never ⟨h, g, d, t, o⟩ := evalPart_some_step k
theorem r_slicel {value slice : Expr} {a : Addr} {oo : Obj} {its : Array Value} {vl vu vk : Value} {lo hi st : Option Int} {ops : List Value} {Q : Value → Shared → Prop} (V : Fm b env h l σ) (H : At b σ a oo) (L : LOf oo its) (pl : IsPart vl lo) (pu : IsPart vu hi) (pk : IsPart vk st) (h0 : st ≠ some 0) (hz : its.size ≤ 1000000)
  (k : ∀ x h', Fm b env h' l ((x, listOf (slicePick its lo hi st) 0) :: σ) → Q (.ref x) ⟨h', g, d, t, o⟩)
  (hs : subscripted slice false (.ref a) (.ref h.objs.size) = operate ops (getItem (.ref a) (.ref h.objs.size)) := by with_unfolding_all rfl)
  (ht : ∀ r, letTemporaryGo value (.ref a) r = pure () := by intro _; with_unfolding_all rfl) :
  wpAny (model PR w) A (subscriptTail value slice (.ref a) (.ref h.objs.size)) Q Never ⟨h.push { cls := .type "slice", data := .fields #[vl, vu, vk] }, g, d, t, o⟩ := by
 obtain ⟨m, F, hm⟩ := V.fr
 refine slice_list3 (s := ⟨h, g, d, t, o⟩) F V.nw (L.isList (V.at H)) pl pu pk h0 (fun h' F' N' => ?_) hs ht (by rw [sizeLine_eq]; (first | lia | omega))
 exact k _ _ (V.newtop (m := m) (Nat.le_succ _) ⟨m, F', hm⟩ N')
theorem fm_congr {α β : Type} {f g : α → Option β} {l : List α} (h : ∀ k ∈ l, f k = g k) : l.filterMap f = l.filterMap g := by
 induction l with
 | nil => rfl
 | cons a r ih => rw [List.filterMap_cons, List.filterMap_cons, h a (.head _), ih fun k hk => h k (.tail _ hk)]
theorem slice_rev (its : Array Value) : slicePick its none none (some (-1)) = its.toList.reverse.toArray := by
 have hb : sliceBounds none none (some (-1)) its.size = ((its.size : Int) - 1, -1, -1) := by
  unfold sliceBounds; simp
 unfold slicePick
 rw [hb]
 congr 1
 unfold sliceRange
 have hc : (if (-1 : Int) > 0 then (if ((its.size : Int) - 1) < -1 then ((-1) - ((its.size : Int) - 1) + (-1) - 1) / (-1) else 0) else (if ((its.size : Int) - 1) > -1 then (((its.size : Int) - 1) - (-1) - (-1) - 1) / (-(-1)) else 0)) = (its.size : Int) := by
  rw [if_neg (by (first | lia | omega)), show (-(-1 : Int)) = 1 from rfl, Int.ediv_one]
  split <;> (first | lia | omega)
 dsimp only
 rw [hc, Int.toNat_natCast, List.filterMap_map]
 have hf : ∀ k ∈ List.range its.size, ((fun x : Nat => its[x]?) ∘ fun k : Nat => ((its.size : Int) - 1 + -1 * (k : Int)).toNat) k = (some ∘ fun k => its.toList.reverse.getD k .none) k := by
  intro k hk
  have hk := List.mem_range.mp hk
  have e1 : ((its.size : Int) - 1 + -1 * (k : Int)).toNat = its.size - 1 - k := by (first | lia | omega)
  simp only [Function.comp_def, e1]
  have e2 : its.size - 1 - k < its.size := by (first | lia | omega)
  rw [List.getD_eq_getElem?_getD, List.getElem?_reverse (by first | exact hk | simpa using hk)]
  simp [e2]
 rw [fm_congr hf, List.filterMap_eq_map]
 apply List.ext_getElem
 ·simp
 ·intro i h1 h2
  have h3 : i < its.toList.reverse.length := h2
  rw [List.getElem_map, List.getElem_range, List.getD_eq_getElem?_getD, List.getElem?_eq_getElem h3]
  rfl
end
end
section
theorem pl_num (w : World) : Plain w 442 "numbers" := ⟨by kernel_rfl, by kernel_rfl, ⟨none, by kernel_rfl, by kernel_rfl⟩⟩
theorem pl_fn (w : World) : Plain w 442 "fun_names" := ⟨by kernel_rfl, by kernel_rfl, ⟨none, by kernel_rfl, by kernel_rfl⟩⟩
theorem pl_fa (w : World) : Plain w 442 "fun_args" := ⟨by kernel_rfl, by kernel_rfl, ⟨none, by kernel_rfl, by kernel_rfl⟩⟩
theorem pl_fr (w : World) : Plain w 442 "fun_results" := ⟨by kernel_rfl, by kernel_rfl, ⟨none, by kernel_rfl, by kernel_rfl⟩⟩
theorem pl_sn (w : World) : Plain w 442 "sort_names" := ⟨by kernel_rfl, by kernel_rfl, ⟨none, by kernel_rfl, by kernel_rfl⟩⟩
theorem ml_make (w : World) : Meth w 442 "make" 271 := ⟨by kernel_rfl, by kernel_rfl, by kernel_rfl, by kernel_rfl⟩
theorem ml_declare (w : World) : Meth w 442 "declare_fun" 180 := ⟨by kernel_rfl, by kernel_rfl, by kernel_rfl, by kernel_rfl⟩
theorem ml_fresh (w : World) : Meth w 442 "fresh_const" 194 := ⟨by kernel_rfl, by kernel_rfl, by kernel_rfl, by kernel_rfl⟩
theorem ml_want (w : World) : Meth w 442 "want" 292 := ⟨by kernel_rfl, by kernel_rfl, by kernel_rfl, by kernel_rfl⟩
theorem ml_want_all (w : World) : Meth w 442 "want_all" 299 := ⟨by kernel_rfl, by kernel_rfl, by kernel_rfl, by kernel_rfl⟩
theorem ml_parts (w : World) : Meth w 442 "parts_of_all" 334 := ⟨by kernel_rfl, by kernel_rfl, by kernel_rfl, by kernel_rfl⟩
theorem ml_not (w : World) : Meth w 442 "not_of" 355 := ⟨by kernel_rfl, by kernel_rfl, by kernel_rfl, by kernel_rfl⟩
theorem ml_and (w : World) : Meth w 442 "and_of" 362 := ⟨by kernel_rfl, by kernel_rfl, by kernel_rfl, by kernel_rfl⟩
theorem ml_eq (w : World) : Meth w 442 "eq" 397 := ⟨by kernel_rfl, by kernel_rfl, by kernel_rfl, by kernel_rfl⟩
theorem ml_ite (w : World) : Meth w 442 "ite" 411 := ⟨by kernel_rfl, by kernel_rfl, by kernel_rfl, by kernel_rfl⟩
theorem ml_app (w : World) : Meth w 442 "app" 418 := ⟨by kernel_rfl, by kernel_rfl, by kernel_rfl, by kernel_rfl⟩
theorem nd9 {x1 x2 x3 x4 x5 x6 x7 x8 x9 : Addr} (h : [x1, x2, x3, x4, x5, x6, x7, x8, x9].Nodup) : (¬ x1 = x2 ∧ ¬ x1 = x3 ∧ ¬ x1 = x4 ∧ ¬ x1 = x5 ∧ ¬ x1 = x6 ∧ ¬ x1 = x7 ∧ ¬ x1 = x8 ∧ ¬ x1 = x9) ∧ (¬ x2 = x3 ∧ ¬ x2 = x4 ∧ ¬ x2 = x5 ∧ ¬ x2 = x6 ∧ ¬ x2 = x7 ∧ ¬ x2 = x8 ∧ ¬ x2 = x9) ∧ (¬ x3 = x4 ∧ ¬ x3 = x5 ∧ ¬ x3 = x6 ∧ ¬ x3 = x7 ∧ ¬ x3 = x8 ∧ ¬ x3 = x9) ∧ (¬ x4 = x5 ∧ ¬ x4 = x6 ∧ ¬ x4 = x7 ∧ ¬ x4 = x8 ∧ ¬ x4 = x9) ∧ (¬ x5 = x6 ∧ ¬ x5 = x7 ∧ ¬ x5 = x8 ∧ ¬ x5 = x9) ∧ (¬ x6 = x7 ∧ ¬ x6 = x8 ∧ ¬ x6 = x9) ∧ (¬ x7 = x8 ∧ ¬ x7 = x9) ∧ (¬ x8 = x9) := by
 simp only [List.nodup_cons, List.mem_cons, List.not_mem_nil, or_false, not_or, not_false_eq_true, List.nodup_nil, and_true] at h
 exact h
end
theorem plL (w : World) : AllL (fun p => Plain w p.1 p.2) ([(442, "numbers"), (442, "fun_names"), (442, "fun_args"), (442, "fun_results"), (442, "sort_names"), (442, "term_ops"), (442, "term_args"), (442, "term_sorts"), (442, "term_datas"), (442, "true_number"), (442, "false_number"), (72, "bank"), (72, "terms"), (72, "least")] : List (Addr × Str)) := .cons (pl_num w) (.cons (pl_fn w) (.cons (pl_fa w) (.cons (pl_fr w) (.cons (pl_sn w) (.cons (pl_ops w) (.cons (pl_args w) (.cons (pl_sorts w) (.cons (pl_datas w) (.cons (pl_true w) (.cons (pl_false w) (.cons (pl_bank w) (.cons (pl_terms w) (.cons (pl_least w) .nil)))))))))))))
theorem plA (w : World) {C : Addr} {n : Str} (h : (C, n) ∈ ([(442, "numbers"), (442, "fun_names"), (442, "fun_args"), (442, "fun_results"), (442, "sort_names"), (442, "term_ops"), (442, "term_args"), (442, "term_sorts"), (442, "term_datas"), (442, "true_number"), (442, "false_number"), (72, "bank"), (72, "terms"), (72, "least")] : List (Addr × Str))) : Plain w C n := (plL w).mem h
theorem mlL (w : World) : AllL (fun p => Meth w p.1 p.2.1 p.2.2) ([(442, "op", 229), (442, "args", 236), (442, "sort", 243), (442, "data", 250), (442, "true_term", 306), (442, "false_term", 313), (72, "join", 43), (72, "are_one", 50), (72, "close", 55), (72, "join_truth", 62), (72, "has_clash", 69), (442, "make", 271), (442, "declare_fun", 180), (442, "fresh_const", 194), (442, "want", 292), (442, "want_all", 299), (442, "parts_of_all", 334), (442, "not_of", 355), (442, "and_of", 362), (442, "eq", 397), (442, "ite", 411), (442, "app", 418)] : List (Addr × Str × Addr)) := .cons (ml_op w) (.cons (ml_args w) (.cons (ml_sort w) (.cons (ml_data w) (.cons (ml_true w) (.cons (ml_false w) (.cons (ml_join w) (.cons (ml_are_one w) (.cons (ml_close w) (.cons (ml_join_truth w) (.cons (ml_has_clash w) (.cons (ml_make w) (.cons (ml_declare w) (.cons (ml_fresh w) (.cons (ml_want w) (.cons (ml_want_all w) (.cons (ml_parts w) (.cons (ml_not w) (.cons (ml_and w) (.cons (ml_eq w) (.cons (ml_ite w) (.cons (ml_app w) .nil)))))))))))))))))))))
theorem mlA (w : World) {C f : Addr} {n : Str} (h : (C, n, f) ∈ ([(442, "op", 229), (442, "args", 236), (442, "sort", 243), (442, "data", 250), (442, "true_term", 306), (442, "false_term", 313), (72, "join", 43), (72, "are_one", 50), (72, "close", 55), (72, "join_truth", 62), (72, "has_clash", 69), (442, "make", 271), (442, "declare_fun", 180), (442, "fresh_const", 194), (442, "want", 292), (442, "want_all", 299), (442, "parts_of_all", 334), (442, "not_of", 355), (442, "and_of", 362), (442, "eq", 397), (442, "ite", 411), (442, "app", 418)] : List (Addr × Str × Addr))) : Meth w C n f := (mlL w).mem h
theorem glL (w : World) : AllL (fun p => nsIn (KF w) mainGlobals p.1 = some (some p.2)) ([("VALUES", .ref 22), ("BOOL", .int 0 352), ("INT", .int 1 354), ("_law_draw", .ref 451), ("_law_pick", .ref 458), ("_law_pools", .ref 463), ("_law_tied", .ref 470), ("_law_truths_tied", .ref 477), ("_law_closed", .ref 482), ("_law_are_alike", .ref 489), ("PlainClosing", .ref 72), ("BoolBank", .ref 442)] : List (Str × Value)) := .cons (gl_VALUES w) (.cons (gl_BOOL w) (.cons (gl_INT w) (.cons (gl_draw w) (.cons (gl_pick w) (.cons (gl_pools w) (.cons (gl_tied w) (.cons (gl_truths w) (.cons (gl_closed w) (.cons (gl_alike w) (.cons (gl_closing w) (.cons (gl_bank w) .nil)))))))))))
theorem glA (w : World) {n : Str} {v : Value} (h : (n, v) ∈ ([("VALUES", .ref 22), ("BOOL", .int 0 352), ("INT", .int 1 354), ("_law_draw", .ref 451), ("_law_pick", .ref 458), ("_law_pools", .ref 463), ("_law_tied", .ref 470), ("_law_truths_tied", .ref 477), ("_law_closed", .ref 482), ("_law_are_alike", .ref 489), ("PlainClosing", .ref 72), ("BoolBank", .ref 442)] : List (Str × Value))) : nsIn (KF w) mainGlobals n = some (some v) := (glL w).mem h
local macro_rules | `(tactic| wtm_at "qmem") => `(tactic| with_reducible first | exact List.mem_cons_self | exact mem1 | exact mem2 | exact mem3 | (refine memt ?_; wtm_at "qmem"))
local macro_rules | `(tactic| wtm_at "qat") => `(tactic| first | exact .inl (by wtm_at "qmem") | exact .inr (by with_reducible assumption))
local macro_rules | `(tactic| wtm_at "qput") => `(tactic| with_reducible first | exact PutL.head | exact putl1 | exact putl2 | exact putl3 | (apply putlt; wtm_at "qput"))
local macro_rules | `(tactic| wtm_at "qputs") => `(tactic| with_reducible first | exact PutS.head | exact puts1 | exact puts2 | exact puts3 | (apply putst; wtm_at "qputs"))
local macro_rules | `(tactic| wtm_at "qnm") => `(tactic| ((with_reducible show wpAny _ _ (eval (Expr.Name _ _) _) _ _ _); refine r_name (by with_reducible assumption) (by with_reducible assumption) (by decide +kernel) (by wtm_at "qmem") ?_))
local macro_rules | `(tactic| wtm_at "qst") => `(tactic| (refine r_store (by with_reducible assumption) (by with_reducible assumption) (by decide +kernel) (by wtm_at "qput") ?_))
local macro_rules | `(tactic| wtm_at "qkt") => `(tactic| first | ((with_reducible show wpAny _ _ _ _ _ _); (with_reducible first | refine KJ.retEW (by assumption) ?_ | refine Kt.retW (by assumption) ?_ | refine KJ.retW (by assumption) ?_)) | (with_reducible first | refine KJ.next (by assumption) ?_ | (refine Kt.next (by assumption) ?_; try refine r_nil ?_) | refine KJ.retE (by assumption) ?_ | refine KJ.ret (by assumption) ?_ | refine Kt.retE (by assumption) ?_ | refine Kt.ret (by assumption) ?_ | refine Kt.cont (by assumption) ?_))
local macro_rules | `(tactic| wtm_at "qbn") => `(tactic| ((with_reducible show wpAny _ _ (eval (Expr.Name _ _) _) _ _ _); refine r_builtin (by with_reducible assumption) (by with_reducible assumption) (by with_reducible assumption) (by decide +kernel) (by kernel_rfl) (by with_reducible first | exact boot_min | exact boot_max | exact boot_len | exact boot_range | exact PyProof.Rows.boot_tuple | exact PyProof.Rows.boot_list | exact PyProof.Rows.boot_int | exact PyProof.Rows.boot_reversed | exact PyProof.Rows.boot_zip) ?_))
local macro_rules | `(tactic| wtm_at "qpl") => `(tactic| exact plA _ (by wtm_at "qmem"))
local macro_rules | `(tactic| wtm_at "qself") => `(tactic| ((with_reducible show wpAny _ _ (getAttr _ _ _) _ _ _); refine r_self (by with_reducible assumption) (by with_reducible assumption) (by with_reducible assumption) (by wtm_at "qpl") (by rfl) ?_; intro _))
local macro_rules | `(tactic| wtm_at "qml") => `(tactic| exact mlA _ (by wtm_at "qmem"))
local macro_rules | `(tactic| wtm_at "qmeth") => `(tactic| ((with_reducible show wpAny _ _ (getMethod _ _ _) _ _ _); refine r_smeth (by with_reducible assumption) (by with_reducible assumption) (by with_reducible assumption) (by wtm_at "qml") (by rfl) ?_; dsimp only))
local macro_rules | `(tactic| wtm_at "qcw") => `(tactic| ((with_reducible show wpAny _ _ (callWith _ _ _ _ _) _ _ _); first | ((with_reducible show wpAny _ _ (callWith _ _ _ (backTo _ (starEach [] _)) _) _ _ _); refine r_cw0 (by with_reducible assumption) (by with_reducible assumption) (by kernel_rfl) ?_) | refine r_cw (by with_reducible assumption) (by kernel_rfl) ?_))
local macro_rules | `(tactic| wtm_at "qce") => `(tactic| ((with_reducible show wpAny _ _ (eval (Expr.Name _ _) _) _ _ _); refine r_cell (by with_reducible assumption) (by with_reducible assumption) (by decide +kernel) (by with_reducible assumption) (.inl (by wtm_at "qmem")) (by with_reducible assumption) ?_))
local macro_rules | `(tactic| wtm_at "qlit") => `(tactic| ((with_reducible show wpAny _ _ (execs (bodyOf _) _) _ _ _); show wpAny _ _ (execs (_ :: _) _) _ _ _))
local macro_rules | `(tactic| wtm_at "qge") => `(tactic| first | wtm_at "qnm" | wtm_at "qce" | (with_reducible first | refine r_mcall ?_ | refine r_call ?_ | refine r_attr ?_ | (refine r_int ?_; intro _ _) | refine r_sub ?_ | refine r_cmp ?_ | (refine r_str ?_; intro _ _) | refine r_tuple ?_ | refine r_list ?_ | refine r_bool ?_ | refine r_ifexp ?_ | refine r_bin ?_ | refine r_slice ?_))
local macro_rules | `(tactic| wtm_at "qgs") => `(tactic| first | (with_reducible first | ((show wpAny _ _ (execs _ _) (TurnE _ _ _ _ _ _ _ _ _) _ _); refine r_consK ?_; intro _ _) | ((show wpAny _ _ (execs _ _) (TurnW _ _ _ _ _ _ _ _) _ _); refine r_consK ?_; intro _ _) | refine r_one ?_ | (refine r_consK ?_; intro _ _) | refine r_nil ?_) | wtm_at "qlit")
local macro_rules | `(tactic| wtm_at "qgx") => `(tactic| with_reducible first | refine r_assign ?_ | refine r_if ?_ | refine r_return ?_ | refine r_expr (by with_reducible assumption) ?_ | refine r_asgattr ?_ | refine r_for ?_ | refine r_setsub ?_ | refine r_cont ?_)
local macro_rules | `(tactic| wtm_at "qgc") => `(tactic| with_reducible first | refine r_tcmp ?_ | refine r_and ?_ | refine r_not ?_ | refine r_tany ?_)
local macro_rules | `(tactic| wtm_at "qgo1") => `(tactic| with_reducible first | refine r_true ?_ | refine r_eqi ?_ | refine r_eqs ?_ | refine r_gti ?_ | refine r_lti ?_ | refine r_nei ?_ | refine r_neb ?_ | refine r_and1 ?_ | refine r_and0 ?_ | refine r_or1 ?_ | refine r_or0 ?_ | (refine r_addi ?_; intro _ _) | (refine r_addb ?_; intro _ _) | refine r_part0 ?_ | refine r_part1 ?_)
local macro_rules | `(tactic| wtm_at "qgo") => `(tactic| repeat (first | ((with_reducible show wpAny _ _ (eval _ _) _ _ _); wtm_at "qge") | ((with_reducible show wpAny _ _ (spliced _) _ _ _); (with_reducible first | refine r_sp ?_ | refine r_sp0 ?_)) | ((with_reducible show wpAny _ _ (execs _ _) _ _ _); wtm_at "qgs") | ((with_reducible show wpAny _ _ (exec _ _) _ _ _); wtm_at "qgx") | ((with_reducible show wpAny _ _ (callWith _ _ _ _ _) _ _ _); first | (with_reducible first | refine r_cwb ?_ | refine r_cwt ?_) | wtm_at "qcw") | wtm_at "qmeth" | wtm_at "qself" | ((with_reducible show wpAny _ _ (isTrue _ _ _) _ _ _); wtm_at "qgc") | wtm_at "qgo1" | wtm_at "qkt"))
local macro_rules | `(tactic| wtm_at "qgl") => `(tactic| ((with_reducible show wpAny _ _ (eval (Expr.Name _ _) _) _ _ _); refine r_global (by with_reducible assumption) (by with_reducible assumption) (by with_reducible assumption) (by decide +kernel) (glA _ (by wtm_at "qmem")) ?_))
section
section
variable {w : World} {b₀ h : Heap} {A : Around} {g : Array GenState} {d : Drawn} {t : Nat} {o : OsState} {B : BankL} {ts : List Tm} {v : Value} {i : Nat} {m : Tm} {n : Nat} {Q : Value → Shared → Prop}
theorem op_ok (G : Gd w b₀) (S : Sub b₀ h) (R : Rm A (n + 1)) (K : BankR h B ts) (hv : IsN v i) (hi : ts[i]? = some m) (hz : i < 1000)
  (k : ∀ u t' h', Sub h h' → Q (.str m.op u) ⟨h', g, d, t', o⟩) : wpAny (model PR w) A (call (.ref 229) [.ref B.x, v]) Q Never ⟨h, g, d, t, o⟩ := by
 obtain ⟨u, rfl⟩ := hv
 refine enter fn229 [("self", .ref B.x), ("t", .int i u)] ["self", "t"] [] [("self", some (.ref B.x)), ("t", some (.int i u))] [] G S R rfl rfl rfl rfl (by decide +kernel) (by decide +kernel) (by decide +kernel) (fun _ h => nomatch h) .nil (fun b env h' t' G' Sb Sh Kb Lo Sh' e V R' => ?_)
 have K' : BankR b B ts := K.sub fun a o e => Kb a o e (fun q => nomatch q)
 have I := K'.self
 wtm_at "qgo"
 obtain ⟨vs, kk, e1, e2⟩ := K'.ops
 obtain ⟨y, e3, e4⟩ := e2.get hi
 refine r_item_list V (.inr e1) (by (first | lia | omega)) (by (first | lia | omega)) (by first | exact e3 | simpa using e3) ?_
 obtain ⟨u', rfl⟩ := e4
 repeat wtm_at "qkt"
 exact k _ _ _ Sh'
theorem args_ok (G : Gd w b₀) (S : Sub b₀ h) (R : Rm A (n + 1)) (K : BankR h B ts) (hv : IsN v i) (hi : ts[i]? = some m) (hz : i < 1000)
  (k : ∀ a t' h', TupN h a m.args → Sub h h' → Q (.ref a) ⟨h', g, d, t', o⟩) : wpAny (model PR w) A (call (.ref 236) [.ref B.x, v]) Q Never ⟨h, g, d, t, o⟩ := by
 obtain ⟨u, rfl⟩ := hv
 refine enter fn236 [("self", .ref B.x), ("t", .int i u)] ["self", "t"] [] [("self", some (.ref B.x)), ("t", some (.int i u))] [] G S R rfl rfl rfl rfl (by decide +kernel) (by decide +kernel) (by decide +kernel) (fun _ h => nomatch h) .nil (fun b env h' t' G' Sb Sh Kb Lo Sh' e V R' => ?_)
 have K' : BankR b B ts := K.sub fun a o e => Kb a o e (fun q => nomatch q)
 have I := K'.self
 wtm_at "qgo"
 obtain ⟨vs, kk, e1, e2⟩ := K'.args
 obtain ⟨y, e3, e4⟩ := e2.get hi
 refine r_item_list V (.inr e1) (by (first | lia | omega)) (by (first | lia | omega)) (by first | exact e3 | simpa using e3) ?_
 obtain ⟨a, rfl, e5⟩ := e4
 repeat wtm_at "qkt"
 exact k _ _ _ (e5.sub Sh) Sh'
theorem sort_ok (G : Gd w b₀) (S : Sub b₀ h) (R : Rm A (n + 1)) (K : BankR h B ts) (hv : IsN v i) (hi : ts[i]? = some m) (hz : i < 1000)
  (k : ∀ u t' h', Sub h h' → Q (.int m.sort u) ⟨h', g, d, t', o⟩) : wpAny (model PR w) A (call (.ref 243) [.ref B.x, v]) Q Never ⟨h, g, d, t, o⟩ := by
 obtain ⟨u, rfl⟩ := hv
 refine enter fn243 [("self", .ref B.x), ("t", .int i u)] ["self", "t"] [] [("self", some (.ref B.x)), ("t", some (.int i u))] [] G S R rfl rfl rfl rfl (by decide +kernel) (by decide +kernel) (by decide +kernel) (fun _ h => nomatch h) .nil (fun b env h' t' G' Sb Sh Kb Lo Sh' e V R' => ?_)
 have K' : BankR b B ts := K.sub fun a o e => Kb a o e (fun q => nomatch q)
 have I := K'.self
 wtm_at "qgo"
 obtain ⟨vs, kk, e1, e2⟩ := K'.sorts
 obtain ⟨y, e3, e4⟩ := e2.get hi
 refine r_item_list V (.inr e1) (by (first | lia | omega)) (by (first | lia | omega)) (by first | exact e3 | simpa using e3) ?_
 obtain ⟨u', rfl⟩ := e4
 repeat wtm_at "qkt"
 exact k _ _ _ Sh'
theorem true_ok (G : Gd w b₀) (S : Sub b₀ h) (R : Rm A (n + 1)) (K : BankR h B ts)
  (k : ∀ u t' h', Sub h h' → Q (.int 1 u) ⟨h', g, d, t', o⟩) : wpAny (model PR w) A (call (.ref 306) [.ref B.x]) Q Never ⟨h, g, d, t, o⟩ := by
 refine enter fn306 [("self", .ref B.x)] ["self"] [] [("self", some (.ref B.x))] [] G S R rfl rfl rfl rfl (by decide +kernel) (by decide +kernel) (by decide +kernel) (fun _ h => nomatch h) .nil (fun b env h' t' G' Sb Sh Kb Lo Sh' e V R' => ?_)
 have K' : BankR b B ts := K.sub fun a o e => Kb a o e (fun q => nomatch q)
 have I := K'.self
 wtm_at "qgo"
 repeat wtm_at "qkt"
 exact k _ _ _ Sh'
theorem false_ok (G : Gd w b₀) (S : Sub b₀ h) (R : Rm A (n + 1)) (K : BankR h B ts)
  (k : ∀ u t' h', Sub h h' → Q (.int 2 u) ⟨h', g, d, t', o⟩) : wpAny (model PR w) A (call (.ref 313) [.ref B.x]) Q Never ⟨h, g, d, t, o⟩ := by
 refine enter fn313 [("self", .ref B.x)] ["self"] [] [("self", some (.ref B.x))] [] G S R rfl rfl rfl rfl (by decide +kernel) (by decide +kernel) (by decide +kernel) (fun _ h => nomatch h) .nil (fun b env h' t' G' Sb Sh Kb Lo Sh' e V R' => ?_)
 have K' : BankR b B ts := K.sub fun a o e => Kb a o e (fun q => nomatch q)
 have I := K'.self
 wtm_at "qgo"
 repeat wtm_at "qkt"
 exact k _ _ _ Sh'
theorem are_one_ok {C : ClL} {terms : List Nat} {oL : Obj} {c : Nat → Nat} {z x y : Nat} {v u : Value} (G : Gd w b₀) (S : Sub b₀ h) (R : Rm A (n + 1)) (K : Cls h C B ts terms) (hL : h.get? C.ld = some oL) (M : NMap w IsN oL (onT terms c) z)
  (hv : IsN v x) (hu : IsN u y) (hx : x ∈ terms) (hy : y ∈ terms)
  (k : ∀ t' h', Sub h h' → Q (.bool (c x == c y)) ⟨h', g, d, t', o⟩) : wpAny (model PR w) A (call (.ref 50) [.ref C.c, v, u]) Q Never ⟨h, g, d, t, o⟩ := by
 refine enter fn50 [("self", .ref C.c), ("a", v), ("b", u)] ["self", "a", "b"] [] [("self", some (.ref C.c)), ("a", some v), ("b", some u)] [] G S R rfl rfl rfl rfl (by decide +kernel) (by decide +kernel) (by decide +kernel) (fun _ h => nomatch h) .nil (fun b env h' t' G' Sb Sh Kb Lo Sh' e V R' => ?_)
 have Hb : Sub h b := fun a o e => Kb a o e (fun q => nomatch q)
 have K' := K.sub Hb
 have I := K'.self
 wtm_at "qgo"
 refine r_getN V (.inr (Hb _ _ hL)) M hv (onT_mem hx) ?_
 rintro _ t1 ⟨u1, rfl⟩
 wtm_at "qgo"
 refine r_getN V (.inr (Hb _ _ hL)) M hu (onT_mem hy) ?_
 rintro _ t2 ⟨u2, rfl⟩
 wtm_at "qgo"
 have e : ((c x : Int) == (c y : Int)) = (c x == c y) := by
  by_cases q : c x = c y
  ·simp [q]
  ·have : ¬ (c x : Int) = (c y : Int) := by (first | lia | omega)
   rw [beq_eq_false_iff_ne.mpr this, beq_eq_false_iff_ne.mpr q]
 rw [e]
 repeat wtm_at "qkt"
 exact k _ _ Sh'
end
end
section
noncomputable def joinC (c : Nat → Nat) (x y : Nat) : Nat → Nat := if c x = c y then c else fun t => if c t = max (c x) (c y) then min (c x) (c y) else c t
section
variable {w : World} {b₀ h : Heap} {A : Around} {g : Array GenState} {d : Drawn} {t : Nat} {o : OsState} {B : BankL} {ts : List Tm} {n : Nat} {Q : Value → Shared → Prop}
theorem join_ok {C : ClL} {terms : List Nat} {oL : Obj} {c : Nat → Nat} {z x y : Nat} {v u : Value} (G : Gd w b₀) (S : Sub b₀ h) (R : Rm A (n + 3)) (K : Cls h C B ts terms) (hL : h.get? C.ld = some oL) (hb0 : b₀.get? C.ld = none) (M : NMap w IsN oL (onT terms c) z) (hz : z ≤ 1000)
  (hv : IsN v x) (hu : IsN u y) (hx : x ∈ terms) (hy : y ∈ terms)
  (k : ∀ oL' t' h', NMap w IsN oL' (onT terms (joinC c x y)) z → Kept [C.ld] h h' → h'.get? C.ld = some oL' → Q (.bool (c x != c y)) ⟨h', g, d, t', o⟩) : wpAny (model PR w) A (call (.ref 43) [.ref C.c, v, u]) Q Never ⟨h, g, d, t, o⟩ := by
 refine enter fn43 [("self", .ref C.c), ("a", v), ("b", u)] ["self", "a", "b"] ["one", "other", "low", "high", "t"] [("self", some (.ref C.c)), ("a", some v), ("b", some u), ("one", none), ("other", none), ("low", none), ("high", none), ("t", none)] [(C.ld, oL)] G S R rfl rfl rfl rfl (by decide +kernel) (by decide +kernel) (by decide +kernel) (fun p hp => by rw [List.mem_singleton.mp hp]; exact ⟨hL, hb0⟩) (by simp) (fun b env h' t' G' Sb Sh Kb Lo Sh' e V R' => ?_)
 have K' : Cls b C B ts terms := K.keptN hL M (fun a o e n => Kb a o e (by first | exact n | simpa using n))
 have I := K'.self
 have kk : ∀ {l : List (Str × Option Value)} {σ : List (Addr × Obj)} {h'' : Heap}, Fm b env h'' l σ → Kept [C.ld] h h'' := fun V => kept_of Kb V
 repeat wtm_at "qkt"
 refine r_consK fun _ _ => r_assign2 R'.h e (by decide +kernel) (by decide +kernel) (by decide +kernel) ?_
 wtm_at "qgo"
 refine r_getN V (.inl (by wtm_at "qmem")) M hv (onT_mem hx) ?_
 rintro _ t1 ⟨u1, rfl⟩
 wtm_at "qgo"
 refine r_getN V (.inl (by wtm_at "qmem")) M hu (onT_mem hy) ?_
 rintro _ t2 ⟨u2, rfl⟩
 refine later fun h1 t1 s1 => ?_
 replace V := V.mono s1
 wtm_at "qst"; clear V; intro h2 t2 V
 wtm_at "qst"; clear V; intro h3 t3 V
 wtm_at "qgo"
 rw [nat_beq]
 by_cases q : c x = c y
 ·first | refine ite_t (by first | exact q | simpa using q) ?_ | rw [if_pos (by first | exact q | simpa using q)]
  wtm_at "qgo"
  have := k oL t3 h3 (by rw [show joinC c x y = c from if_pos q]; exact M) (kk V) (V.nw _ (.head _)).1
  rw [show (c x != c y) = false by simp [q]] at this
  exact this
 ·first | refine ite_f (by first | exact q | simpa using q) ?_ | rw [if_neg (by first | exact q | simpa using q)]
  wtm_at "qgo"
  refine r_assign2 R'.h e (by decide +kernel) (by decide +kernel) (by decide +kernel) ?_
  wtm_at "qgo"; wtm_at "qbn"; wtm_at "qgo"
  refine r_min R'.h V ?_; clear V; intro h4 t4 z1 V
  wtm_at "qgo"; wtm_at "qbn"; wtm_at "qgo"
  refine r_max R'.h V ?_; clear V; intro h5 t5 z2 V
  refine later fun h6 t6 s6 => ?_
  replace V := V.mono s6
  wtm_at "qst"; clear V; intro h7 t7 V
  wtm_at "qst"; clear V; intro h8 t8 V
  wtm_at "qgo"
  obtain ⟨vs, kv, et, nt⟩ := K'.terms
  let Jx1 : Nat → List (Str × Option Value) → List (Addr × Obj) → Prop := fun i l σ => ∃ oL' tv, l = ([("self", some (.ref C.c)), ("a", some v), ("b", some u), ("one", some (.int (c x) u1)), ("other", some (.int (c y) u2)), ("low", some (.int (min (c x) (c y) : Nat) z1)), ("high", some (.int (max (c x) (c y) : Nat) z2)), ("t", tv)] : List (Str × Option Value)) ∧ σ = [(C.ld, oL')] ∧ NMap w IsN oL' (fun k => if k ∈ terms then some (if k ∈ terms.take i ∧ c k = max (c x) (c y) then min (c x) (c y) else c k) else none) z
  refine loop_list (vs := vs) R'.h V Jx1 ?_ ?_ ?_ ?_
  ·exact ⟨oL, _, rfl, rfl, M.congr fun k => by simp [onT]⟩
  ·rintro i l σ ⟨_, _, _, _, _⟩; exact ⟨kv, .inr et⟩
  ·rintro i tv it ito h9 t9 l σ hi ⟨oL', tv', rfl, rfl, M'⟩ V
   obtain ⟨tn, htn, ⟨ut, rfl⟩⟩ := nt.back (by first | exact hi | simpa using hi)
   have hmem : tn ∈ terms := List.mem_of_getElem? htn
   refine wpAny_assign_Name ?_
   wtm_at "qst"; clear V; intro h10 t10 V
   wtm_at "qgo"
   refine r_getN V (.inl (by wtm_at "qmem")) M' ⟨_, rfl⟩ (if_pos hmem) ?_
   rintro _ t11 ⟨u11, rfl⟩
   wtm_at "qgo"
   rw [nat_beq]
   have hlt : i < terms.length := (List.getElem?_eq_some_iff.mp htn).1
   have htake : terms.take (i + 1) = terms.take i ++ [tn] := by rw [List.take_add_one, htn]; rfl
   by_cases hq : c tn = max (c x) (c y) ∧ tn ∉ terms.take i
   ·have hpos : (if tn ∈ terms.take i ∧ c tn = max (c x) (c y) then min (c x) (c y) else c tn) = max (c x) (c y) := by rw [if_neg (fun z => hq.2 z.1)]; exact hq.1
    first | refine ite_t (beq_iff_eq.mpr hpos) ?_ | rw [if_pos (beq_iff_eq.mpr hpos)]
    wtm_at "qgo"
    refine r_setN V (fun o' => by wtm_at "qputs") M' ⟨_, rfl⟩ ⟨z1, rfl⟩ (by (first | lia | omega)) ?_
    clear V
    intro o12 h12 t12 M12 V _ _
    wtm_at "qgo"
    refine ⟨_, _, _, _, rfl, V, o12, _, rfl, rfl, ?_⟩
    rw [if_pos hmem] at M12
    refine M12.congr fun k => ?_
    unfold setF
    rw [htake]
    by_cases hk : k = tn
    ·subst hk; simp [hmem, hq.1]
    ·first | refine ite_f hk ?_ | rw [if_neg hk]
     simp [hk]
   ·have hne : ¬ (if tn ∈ terms.take i ∧ c tn = max (c x) (c y) then min (c x) (c y) else c tn) = max (c x) (c y) := by
     split
     ·(first | lia | omega)
     ·rename_i hz; exact fun z => hq ⟨z, fun y => hz ⟨y, z⟩⟩
    first | refine ite_f (fun z => hne (beq_iff_eq.mp z)) ?_ | rw [if_neg (fun z => hne (beq_iff_eq.mp z))]
    wtm_at "qgo"
    refine ⟨_, _, _, _, rfl, V, oL', _, rfl, rfl, ?_⟩
    refine M'.congr fun k => ?_
    rw [htake]
    by_cases hk : k = tn
    ·subst hk
     by_cases h1 : k ∈ terms.take i
     ·simp [h1]
     ·have : ¬ c k = max (c x) (c y) := fun z => hq ⟨z, h1⟩
      simp [this]
    ·simp [hk]
  ·rintro h9 t9 l σ ⟨oL', tv', rfl, rfl, M'⟩ V
   wtm_at "qgo"
   have := k oL' t9 h9 (M'.congr fun k => by
    unfold onT joinC
    first | refine ite_f q ?_ | rw [if_neg q]
    have e1 : terms.take vs.size = terms := List.take_of_length_le (by rw [← nt.length]; simp)
    rw [e1]
    by_cases hk : k ∈ terms <;> simp [hk]) (kk V) (V.nw _ (.head _)).1
   rw [show (c x != c y) = true by simp [q]] at this
   exact this
end
end
section
noncomputable def fn62 : FnAt 62 := ⟨_, _, _, _, fun _ => rfl, fun _ => by kernel_rfl⟩
noncomputable def truthP (c : Nat → Nat) (m : Tm) (ends : List Nat) (x : Nat) : Option (Nat × Nat) :=
 if m.op = "=" ∧ ends[0]? = ends[1]? then some (x, 1)
 else if m.op = "not" then
  match m.args with
  | [] => none
  | p :: _ => if c p = c 1 then some (x, 2) else if c x = c 1 then some (p, 2) else if c p = c 2 then some (x, 1) else if c x = c 2 then some (p, 1) else none
 else none
noncomputable def joinP (c : Nat → Nat) : Option (Nat × Nat) → Nat → Nat
 | none => c
 | some (x, y) => joinC c x y
noncomputable def newP (c : Nat → Nat) : Option (Nat × Nat) → Bool
 | none => false
 | some (x, y) => c x != c y
section
variable {w : World} {b₀ h : Heap} {A : Around} {g : Array GenState} {d : Drawn} {t : Nat} {o : OsState} {B : BankL} {ts : List Tm} {n : Nat} {Q : Value → Shared → Prop}
theorem join_truth_ok {C : ClL} {terms : List Nat} {oL : Obj} {c : Nat → Nat} {z x : Nat} {m : Tm} {v : Value} {ea : Addr} {ends : List Nat} (G : Gd w b₀) (S : Sub b₀ h) (R : Rm A (n + 5)) (K : Cls h C B ts terms) (hL : h.get? C.ld = some oL) (hb0 : b₀.get? C.ld = none) (M : NMap w IsN oL (onT terms c) z) (hz : z ≤ 1000)
  (hv : IsN v x) (hx : x ∈ terms) (hy1 : 1 ∈ terms) (hy2 : 2 ∈ terms) (hm : ts[x]? = some m) (hxz : x < 1000) (he : ListN h ea ends) (hlen : m.op = "=" → ends.length = 2) (hnot : m.op = "not" → ∃ p, m.args = [p] ∧ p ∈ terms)
  (k : ∀ oL' t' h', NMap w IsN oL' (onT terms (joinP c (truthP c m ends x))) z → Kept [C.ld] h h' → h'.get? C.ld = some oL' → Q (.bool (newP c (truthP c m ends x))) ⟨h', g, d, t', o⟩) : wpAny (model PR w) A (call (.ref 62) [.ref C.c, v, .ref ea]) Q Never ⟨h, g, d, t, o⟩ := by
 refine enter fn62 [("self", .ref C.c), ("t", v), ("ends", .ref ea)] ["self", "t", "ends"] ["yes", "no", "part", "one", "other"] [("self", some (.ref C.c)), ("t", some v), ("ends", some (.ref ea)), ("yes", none), ("no", none), ("part", none), ("one", none), ("other", none)] [(C.ld, oL)] G S R rfl rfl rfl rfl (by decide +kernel) (by decide +kernel) (by decide +kernel) (fun p hp => by rw [List.mem_singleton.mp hp]; exact ⟨hL, hb0⟩) (by simp) (fun b env h' t' G' Sb Sh Kb Lo Sh' e V R' => ?_)
 have K' : Cls b C B ts terms := K.keptN hL M (fun a o e n => Kb a o e (by first | exact n | simpa using n))
 have I := K'.self
 have J := K'.bank.self
 have he' : ListN b ea ends := he.kept (C := [C.ld]) (fun a o e n => Kb a o e (by first | exact n | simpa using n)) (he.off hL M)
 have kk : ∀ {l : List (Str × Option Value)} {σ : List (Addr × Obj)} {h'' : Heap}, Fm b env h'' l σ → Kept [C.ld] h h'' := fun V => kept_of Kb V
 repeat wtm_at "qkt"
 refine r_consK fun _ _ => r_assign2 R'.h e (by decide +kernel) (by decide +kernel) (by decide +kernel) ?_
 wtm_at "qgo"
 refine true_ok G' V.sub R' (K'.bank.sub V.sub) ?_
 intro u1 t1 h1 s1
 replace V := V.mono s1
 wtm_at "qgo"
 refine false_ok G' V.sub R' (K'.bank.sub V.sub) ?_
 intro u2 t2 h2 s2
 replace V := V.mono s2
 refine later fun h3 t3 s3 => ?_
 replace V := V.mono s3
 wtm_at "qst"; clear V; intro h4 t4 V
 wtm_at "qst"; clear V; intro h5 t5 V
 obtain ⟨ev, ek, eo, en⟩ := he'
 have finish : ∀ {h7 : Heap} {t7 : Nat} {l : List (Str × Option Value)}, Fm b env h7 l [(C.ld, oL)] → truthP c m ends x = none → Q (.bool false) ⟨h7, g, d, t7, o⟩ := fun {h7 t7 l} V e => by
  have := k oL t7 h7 (by rw [e]; exact M) (kk V) (V.nw _ (.head _)).1
  rwa [e] at this
 have joins : ∀ {h7 : Heap} {t7 : Nat} {l : List (Str × Option Value)} {p q : Nat} {pv qv : Value}, Fm b env h7 l [(C.ld, oL)] → IsN pv p → IsN qv q → p ∈ terms → q ∈ terms → truthP c m ends x = some (p, q) →
   wpAny (model PR w) (A.deeper env) (call (.ref 43) [.ref C.c, pv, qv]) Q Never ⟨h7, g, d, t7, o⟩ := fun {h7 t7 l p q pv qv} V hp hq hpt hqt e => by
  refine join_ok (C := C) (oL := oL) (z := z) (terms := terms) (c := c) G' V.sub R' (K'.sub V.sub) (V.nw _ (.head _)).1 (V.nw _ (.head _)).2.2 M hz hp hq hpt hqt ?_
  intro oL' t8 h8 M8 s8 e8
  have := k oL' t8 h8 (by rw [e]; exact M8) (fun a oo ea n => s8 _ _ (kk V _ _ ea n) n) e8
  rwa [e] at this
 let Jx1 : Shared → Prop := fun s => Ex2 fun h t => Al3 (s = ⟨h, g, d, t, o⟩) (Fm b env h [("self", some (.ref C.c)), ("t", some v), ("ends", some (.ref ea)), ("yes", some (.int 1 u1)), ("no", some (.int 2 u2)), ("part", none), ("one", none), ("other", none)] [(C.ld, oL)]) (¬ (m.op = "=" ∧ ends[0]? = ends[1]?))
 repeat wtm_at "qkt"
 refine r_consJK Jx1 (fun _ _ => ?_) ?_
 ·wtm_at "qgo"
  refine ⟨V.sub, ?_⟩
  refine op_ok G' V.sub R' (K'.bank.sub V.sub) hv hm hxz ?_
  intro u6 t6 h6 s6
  replace V := V.mono s6
  wtm_at "qgo"
  by_cases q : m.op = "="
  ·first | refine ite_t (beq_iff_eq.mpr q) ?_ | rw [if_pos (beq_iff_eq.mpr q)]
   have hl := hlen q
   obtain ⟨e0, e1, hee⟩ : ∃ e0 e1, ends = [e0, e1] := by
    match ends, hl with
    | [e0, e1], _ => exact ⟨e0, e1, rfl⟩
   subst hee
   obtain ⟨v0, hv0, ⟨w0, rfl⟩⟩ := en.get (i := 0) (y := e0) rfl
   obtain ⟨v1, hv1, ⟨w1, rfl⟩⟩ := en.get (i := 1) (y := e1) rfl
   wtm_at "qgo"
   refine r_item_list V (.inr eo) (by (first | lia | omega)) (by (first | lia | omega)) (by first | exact hv0 | simpa using hv0) ?_
   wtm_at "qgo"
   refine r_item_list V (.inr eo) (by (first | lia | omega)) (by (first | lia | omega)) (by first | exact hv1 | simpa using hv1) ?_
   wtm_at "qgo"
   rw [nat_beq]
   by_cases q1 : e0 = e1
   ·first | refine ite_t (beq_iff_eq.mpr q1) ?_ | rw [if_pos (beq_iff_eq.mpr q1)]
    wtm_at "qgo"
    first | refine ite_t rfl ?_ | rw [if_pos rfl]
    wtm_at "qgo"
    refine ⟨V.sub, ?_⟩
    repeat wtm_at "qkt"
    refine wpAny_mono (joins V hv ⟨_, rfl⟩ hx hy1 ?_) (fun _ _ q => q) fun _ _ q => q
    unfold truthP
    first | refine ite_t ⟨q, by simp [q1]⟩ ?_ | rw [if_pos ⟨q, by simp [q1]⟩]
   ·first | refine ite_f (by first | exact q1 | simpa using q1) ?_ | rw [if_neg (by first | exact q1 | simpa using q1)]
    first | refine ite_f Bool.false_ne_true ?_ | rw [if_neg Bool.false_ne_true]
    wtm_at "qgo"
    repeat wtm_at "qkt"
    exact ⟨_, _, rfl, V, fun z => q1 (by simpa using z.2)⟩
  ·first | refine ite_f (by first | exact q | simpa using q) ?_ | rw [if_neg (by first | exact q | simpa using q)]
   first | refine ite_f Bool.false_ne_true ?_ | rw [if_neg Bool.false_ne_true]
   wtm_at "qgo"
   repeat wtm_at "qkt"
   exact ⟨_, _, rfl, V, fun z => q z.1⟩
 rintro _ ⟨h6, t6, rfl, V6, nq⟩
 clear V
 let Jx2 : Shared → Prop := fun s => Ex3 fun h t l => Al3 (s = ⟨h, g, d, t, o⟩) (Fm b env h l [(C.ld, oL)]) (truthP c m ends x = none)
 repeat wtm_at "qkt"
 refine r_consJK Jx2 (fun _ _ => ?_) ?_
 ·wtm_at "qgo"
  refine ⟨V6.sub, ?_⟩
  refine op_ok G' V6.sub R' (K'.bank.sub V6.sub) hv hm hxz ?_
  intro u7 t7 h7 s7
  have V := V6.mono s7
  clear V6
  wtm_at "qgo"
  by_cases q : m.op = "not"
  ·first | refine ite_t (beq_iff_eq.mpr q) ?_ | rw [if_pos (beq_iff_eq.mpr q)]
   obtain ⟨p, hp, hpt⟩ := hnot q
   have hT : truthP c m ends x = if c p = c 1 then some (x, 2) else if c x = c 1 then some (p, 2) else if c p = c 2 then some (x, 1) else if c x = c 2 then some (p, 1) else none := by
    unfold truthP
    rw [if_neg nq, if_pos q, hp]
   wtm_at "qgo"
   refine ⟨V.sub, ?_⟩
   refine args_ok G' V.sub R' (K'.bank.sub V.sub) hv hm hxz ?_
   intro pa t8 h8 hpa s8
   replace V := V.mono s8
   wtm_at "qgo"
   rw [hp] at hpa
   obtain ⟨pvs, epv, Npv⟩ := hpa
   obtain ⟨pv, hpv, Ip⟩ := Npv.get (i := 0) (y := p) rfl
   refine r_item_tup (i := 0) (s8 _ _ epv) hpv (by rw [Npv.length]; simp) ?_
   wtm_at "qst"; clear V; intro h9 t9 V
   wtm_at "qgo"
   refine r_newtuple V ?_; clear V; intro a1 h10 l10 s10 V
   wtm_at "qgo"
   refine r_newtuple V ?_; clear V; intro a2 h11 l11 s11 V
   wtm_at "qgo"
   refine r_newtuple V ?_; clear V; intro a3 h12 l12 s12 V
   wtm_at "qgo"
   let Jx3 : Nat → List (Str × Option Value) → List (Addr × Obj) → Prop := fun i l σ => Ex2 fun w1 w2 => Al4 (l = ([("self", some (.ref C.c)), ("t", some v), ("ends", some (.ref ea)), ("yes", some (.int 1 u1)), ("no", some (.int 2 u2)), ("part", some pv), ("one", w1), ("other", w2)] : List (Str × Option Value))) (σ = [(a3, tupOf [.ref a1, .ref a2]), (a2, tupOf [.int 2 u2, .int 1 u1]), (a1, tupOf [.int 1 u1, .int 2 u2]), (C.ld, oL)]) ((0 < i → ¬ c p = c 1 ∧ ¬ c x = c 1)) ((1 < i → ¬ c p = c 2 ∧ ¬ c x = c 2))
   refine loop_tuple (vs := [.ref a1, .ref a2]) R'.h V Jx3 ?_ ?_ ?_ ?_
   ·repeat wtm_at "qkt"
    exact ⟨_, _, rfl, rfl, by (first | lia | omega), by (first | lia | omega)⟩
   ·rintro i l σ ⟨_, _, rfl, rfl, _, _⟩; exact .inl (by wtm_at "qmem")
   ·rintro i tv it ito h13 t13 l σ hi ⟨w1, w2, rfl, rfl, hi1, hi2⟩ V
    obtain ⟨ta, p1, p2, z1, z2, rfl, hat, hcase⟩ : ∃ ta p1 p2 z1 z2, tv = .ref ta ∧ h13.get? ta = some (tupOf [.int (p1 : Nat) z1, .int (p2 : Nat) z2]) ∧ ((i = 0 ∧ p1 = 1 ∧ p2 = 2) ∨ (i = 1 ∧ p1 = 2 ∧ p2 = 1)) := by
     match i, hi with
     | 0, hi => exact ⟨a1, 1, 2, u1, u2, by simpa using hi.symm, V.at (o := tupOf [.int 1 u1, .int 2 u2]) (.inl (by wtm_at "qmem")), .inl ⟨rfl, rfl, rfl⟩⟩
     | 1, hi => exact ⟨a2, 2, 1, u2, u1, by simpa using hi.symm, V.at (o := tupOf [.int 2 u2, .int 1 u1]) (.inl (by wtm_at "qmem")), .inr ⟨rfl, rfl, rfl⟩⟩
    have hp1 : p1 ∈ terms := by rcases hcase with ⟨_, e1, _⟩ | ⟨_, e1, _⟩ <;> rw [e1] <;> assumption
    have hp2 : p2 ∈ terms := by rcases hcase with ⟨_, _, e1⟩ | ⟨_, _, e1⟩ <;> rw [e1] <;> assumption
    refine r_target2 R'.h hat (later fun h14 t14 s14 => ?_)
    replace V := V.mono s14
    wtm_at "qst"; clear V; intro h15 t15 V
    wtm_at "qst"; clear V; intro h16 t16 V
    wtm_at "qgo"
    refine ⟨V.sub, ?_⟩
    refine are_one_ok (C := C) G' V.sub R' (K'.sub V.sub) (V.nw (C.ld, oL) (by wtm_at "qmem")).1 M Ip ⟨_, rfl⟩ hpt hp1 ?_
    intro t17 h17 s17
    replace V := V.mono s17
    wtm_at "qgo"
    by_cases q1 : c p = c p1
    ·first | refine ite_t (beq_iff_eq.mpr q1) ?_ | rw [if_pos (beq_iff_eq.mpr q1)]
     wtm_at "qgo"
     refine ⟨V.sub, ?_⟩
     repeat wtm_at "qkt"
     refine joins (V.drop (by simp)) hv ⟨_, rfl⟩ hx hp2 ?_
     rw [hT]
     rcases hcase with ⟨e1, e2, e3⟩ | ⟨e1, e2, e3⟩
     ·rw [e2] at q1; rw [if_pos q1, e3]
     ·rw [e2] at q1
      have := hi1 (by (first | lia | omega))
      rw [if_neg this.1, if_neg this.2, if_pos q1, e3]
    ·first | refine ite_f (by first | exact q1 | simpa using q1) ?_ | rw [if_neg (by first | exact q1 | simpa using q1)]
     wtm_at "qgo"
     refine ⟨V.sub, ?_⟩
     refine are_one_ok (C := C) G' V.sub R' (K'.sub V.sub) (V.nw (C.ld, oL) (by wtm_at "qmem")).1 M hv ⟨_, rfl⟩ hx hp1 ?_
     intro t18 h18 s18
     replace V := V.mono s18
     wtm_at "qgo"
     by_cases q2 : c x = c p1
     ·first | refine ite_t (beq_iff_eq.mpr q2) ?_ | rw [if_pos (beq_iff_eq.mpr q2)]
      wtm_at "qgo"
      refine ⟨V.sub, ?_⟩
      repeat wtm_at "qkt"
      refine joins (V.drop (by simp)) Ip ⟨_, rfl⟩ hpt hp2 ?_
      rw [hT]
      rcases hcase with ⟨e1, e2, e3⟩ | ⟨e1, e2, e3⟩
      ·rw [e2] at q1 q2; rw [if_neg q1, if_pos q2, e3]
      ·rw [e2] at q1 q2
       have := hi1 (by (first | lia | omega))
       rw [if_neg this.1, if_neg this.2, if_neg q1, if_pos q2, e3]
     ·first | refine ite_f (by first | exact q2 | simpa using q2) ?_ | rw [if_neg (by first | exact q2 | simpa using q2)]
      wtm_at "qgo"
      repeat wtm_at "qkt"
      refine ⟨_, _, _, _, rfl, V, _, _, rfl, rfl, ?_, ?_⟩
      ·intro _
       rcases hcase with ⟨e1, e2, e3⟩ | ⟨e1, e2, e3⟩
       ·rw [e2] at q1 q2; exact ⟨q1, q2⟩
       ·exact hi1 (by (first | lia | omega))
      ·intro _
       rcases hcase with ⟨e1, e2, e3⟩ | ⟨e1, e2, e3⟩
       ·(first | lia | omega)
       ·rw [e2] at q1 q2; exact ⟨q1, q2⟩
   ·rintro h13 t13 l σ ⟨_, _, rfl, rfl, hi1, hi2⟩ V
    wtm_at "qgo"
    repeat wtm_at "qkt"
    refine ⟨_, _, _, rfl, V.drop (by simp), ?_⟩
    rw [hT]
    have a1 := hi1 (by simp)
    have a2 := hi2 (by simp)
    first | refine ite_f a1.1 ?_ | rw [if_neg a1.1]
    first | refine ite_f a1.2 ?_ | rw [if_neg a1.2]
    first | refine ite_f a2.1 ?_ | rw [if_neg a2.1]
    first | refine ite_f a2.2 ?_ | rw [if_neg a2.2]
  ·first | refine ite_f (by first | exact q | simpa using q) ?_ | rw [if_neg (by first | exact q | simpa using q)]
   wtm_at "qgo"
   repeat wtm_at "qkt"
   refine ⟨_, _, _, rfl, V, ?_⟩
   unfold truthP
   first | refine ite_f nq ?_ | rw [if_neg nq]
   first | refine ite_f q ?_ | rw [if_neg q]
 ·rintro _ ⟨h7, t7, l7, rfl, V7, nn⟩
  wtm_at "qgo"
  exact finish V7 nn
end
end
section
structure WfT (ts : List Tm) (terms : List Nat) : Prop where
 tm : ∀ x ∈ terms, x < 1000 ∧ ∃ m, ts[x]? = some m ∧ (∀ a ∈ m.args, a ∈ terms) ∧ m.args.length < 64 ∧ (m.op = "=" → m.args.length = 2) ∧ (m.op = "not" → m.args.length = 1)
 one : 1 ∈ terms
 two : 2 ∈ terms
 len : terms.length ≤ 1000
noncomputable def sortE (op : Str) (l : List Nat) : List Nat := if op = "=" then (match l with | [a, c] => [min a c, max a c] | l => l) else l
noncomputable def dtKI : Dt → KI
 | .i n => .i n
 | .t l => .t l
noncomputable def headOf (m : Tm) (e : List Nat) : List KI := [.s m.op, dtKI m.data, .i m.sort, .t e]
structure PS where
 c : Nat → Nat
 fw : List KI → Option Nat
 nw : Bool
noncomputable def stepHead (m : Tm) (x : Nat) (S : PS) : PS :=
 match S.fw (headOf m (sortE m.op (m.args.map S.c))) with
 | some u => ⟨joinC S.c u x, S.fw, S.nw || (S.c u != S.c x)⟩
 | none => ⟨S.c, setK S.fw (headOf m (sortE m.op (m.args.map S.c))) x, S.nw⟩
noncomputable def stepTruth (m : Tm) (e : List Nat) (x : Nat) (S : PS) : PS := ⟨joinP S.c (truthP S.c m e x), S.fw, S.nw || newP S.c (truthP S.c m e x)⟩
noncomputable def stepT (m : Tm) (x : Nat) (S : PS) : PS := if m.args = [] then S else stepTruth m (sortE m.op (m.args.map S.c)) x (stepHead m x S)
noncomputable def tmAt (ts : List Tm) (x : Nat) : Tm := ts.getD x ⟨"", [], 0, .i 0⟩
noncomputable def passC (ts : List Tm) (l : List Nat) (S : PS) : PS := l.foldl (fun S x => stepT (tmAt ts x) x S) S
noncomputable def pass0 (ts : List Tm) (l : List Nat) (c : Nat → Nat) : PS := passC ts l ⟨c, fun _ => none, false⟩
inductive CloseR (ts : List Tm) (terms : List Nat) : (Nat → Nat) → (Nat → Nat) → Prop
 | last {c} : (pass0 ts terms c).nw = false → CloseR ts terms c (pass0 ts terms c).c
 | more {c c'} : (pass0 ts terms c).nw = true → CloseR ts terms (pass0 ts terms c).c c' → CloseR ts terms c c'
noncomputable def meas (terms : List Nat) (c : Nat → Nat) : Nat := (terms.map c).sum
theorem meas_le {terms : List Nat} {c c' : Nat → Nat} (h : ∀ x ∈ terms, c' x ≤ c x) : meas terms c' ≤ meas terms c := by
 unfold meas
 induction terms with
 | nil => exact Nat.le_refl _
 | cons a r ih =>
  have h1 := h a (.head _)
  have h2 := ih fun x hx => h x (.tail _ hx)
  simp only [List.map_cons, List.sum_cons]; (first | lia | omega)
theorem meas_lt {terms : List Nat} {c c' : Nat → Nat} (h : ∀ x ∈ terms, c' x ≤ c x) {x : Nat} (hx : x ∈ terms) (hl : c' x < c x) : meas terms c' < meas terms c := by
 induction terms with
 | nil => cases hx
 | cons a r ih =>
  have h1 := h a (.head _)
  have h2 := meas_le fun x hx => h x (.tail _ hx)
  unfold meas at *
  simp only [List.map_cons, List.sum_cons]
  rcases List.mem_cons.mp hx with rfl | hx
  ·(first | lia | omega)
  ·have := ih (fun x hx => h x (.tail _ hx)) hx; (first | lia | omega)
theorem joinC_le (c : Nat → Nat) (x y t : Nat) : joinC c x y t ≤ c t := by
 unfold joinC
 split
 ·exact Nat.le_refl _
 ·dsimp only; split <;> (first | lia | omega)
theorem joinC_meas {terms : List Nat} {c : Nat → Nat} {x y : Nat} (hx : x ∈ terms) (hy : y ∈ terms) (h : c x ≠ c y) : meas terms (joinC c x y) < meas terms c := by
 rcases Nat.lt_or_ge (c x) (c y) with q | q
 ·refine meas_lt (fun t _ => joinC_le c x y t) hy ?_
  unfold joinC; rw [if_neg h]; rw [if_pos (by (first | lia | omega))]; (first | lia | omega)
 ·refine meas_lt (fun t _ => joinC_le c x y t) hx ?_
  unfold joinC; rw [if_neg h]; rw [if_pos (by (first | lia | omega))]; (first | lia | omega)
theorem joinC_same {c : Nat → Nat} {x y : Nat} (h : c x = c y) : joinC c x y = c := if_pos h
noncomputable def OkP (terms : List Nat) : Option (Nat × Nat) → Prop
 | none => True
 | some (x, y) => x ∈ terms ∧ y ∈ terms
theorem joinP_meas {terms : List Nat} {c : Nat → Nat} {P : Option (Nat × Nat)} (h : OkP terms P) : meas terms (joinP c P) ≤ meas terms c ∧ (newP c P = true → meas terms (joinP c P) < meas terms c) := by
 cases P with
 | none => exact ⟨Nat.le_refl _, fun h => by cases h⟩
 | some p =>
  obtain ⟨x, y⟩ := p
  refine ⟨meas_le fun t _ => joinC_le c x y t, fun q => joinC_meas h.1 h.2 (by simpa [newP] using q)⟩
theorem truthP_ok {ts : List Tm} {terms : List Nat} (W : WfT ts terms) {x : Nat} (hx : x ∈ terms) (c : Nat → Nat) (e : List Nat) : OkP terms (truthP c (tmAt ts x) e x) := by
 obtain ⟨_, m, hm, ha, _⟩ := W.tm x hx
 have em : tmAt ts x = m := by unfold tmAt; rw [List.getD_eq_getElem?_getD, hm]; rfl
 rw [em]
 have h1 := W.one; have h2 := W.two
 unfold truthP
 split
 ·exact ⟨hx, h1⟩
 ·split
  ·cases hargs : m.args with
   | nil => trivial
   | cons p r =>
    have hp : p ∈ terms := ha p (by rw [hargs]; exact .head _)
    dsimp only
    split
    ·exact ⟨hx, h2⟩
    ·split
     ·exact ⟨hp, h2⟩
     ·split
      ·exact ⟨hx, h1⟩
      ·split
       ·exact ⟨hp, h1⟩
       ·trivial
  ·trivial
structure PsOk (terms : List Nat) (c₀ : Nat → Nat) (S : PS) : Prop where
 fw : ∀ k u, S.fw k = some u → u ∈ terms
 le : meas terms S.c ≤ meas terms c₀
 lt : S.nw = true → meas terms S.c < meas terms c₀
theorem stepT_ok {ts : List Tm} {terms : List Nat} (W : WfT ts terms) {c₀ : Nat → Nat} {S : PS} (K : PsOk terms c₀ S) {x : Nat} (hx : x ∈ terms) : PsOk terms c₀ (stepT (tmAt ts x) x S) := by
 unfold stepT
 split
 ·exact K
 ·have K1 : PsOk terms c₀ (stepHead (tmAt ts x) x S) := by
   unfold stepHead
   split
   ·rename_i u hu
    have hut := K.fw _ _ hu
    have J := joinP_meas (c := S.c) (P := some (u, x)) ⟨hut, hx⟩
    refine ⟨K.fw, Nat.le_trans J.1 K.le, fun q => ?_⟩
    rcases Bool.or_eq_true_iff.mp q with q | q
    ·exact Nat.lt_of_le_of_lt J.1 (K.lt q)
    ·exact Nat.lt_of_lt_of_le (J.2 q) K.le
   ·refine ⟨fun k u q => ?_, K.le, K.lt⟩
    unfold setK at q
    dsimp only at q
    split at q
    ·injection q with q; rw [← q]; exact hx
    ·exact K.fw _ _ q
  have J := joinP_meas (c := (stepHead (tmAt ts x) x S).c) (truthP_ok W hx (stepHead (tmAt ts x) x S).c (sortE (tmAt ts x).op ((tmAt ts x).args.map S.c)))
  refine ⟨K1.fw, Nat.le_trans J.1 K1.le, fun q => ?_⟩
  rcases Bool.or_eq_true_iff.mp q with q | q
  ·exact Nat.lt_of_le_of_lt J.1 (K1.lt q)
  ·exact Nat.lt_of_lt_of_le (J.2 q) K1.le
theorem passC_ok {ts : List Tm} {terms : List Nat} (W : WfT ts terms) {c₀ : Nat → Nat} : ∀ (l : List Nat) {S : PS}, PsOk terms c₀ S → (∀ x ∈ l, x ∈ terms) → PsOk terms c₀ (passC ts l S)
 | [], S, K, _ => K
 | x :: r, S, K, h => passC_ok W r (stepT_ok W K (h x (.head _))) fun y hy => h y (.tail _ hy)
theorem pass0_ok {ts : List Tm} {terms : List Nat} (W : WfT ts terms) (c : Nat → Nat) (l : List Nat) (h : ∀ x ∈ l, x ∈ terms) : PsOk terms c (pass0 ts l c) :=
 passC_ok W l (S := ⟨c, fun _ => none, false⟩) ⟨(fun _ _ q => nomatch q), Nat.le_refl _, (fun q => nomatch q)⟩ h
theorem pass0_snoc (ts : List Tm) (l : List Nat) (x : Nat) (c : Nat → Nat) : pass0 ts (l ++ [x]) c = stepT (tmAt ts x) x (pass0 ts l c) := by
 unfold pass0 passC; rw [List.foldl_append]; rfl
end
section
noncomputable def fn55 : FnAt 55 := ⟨_, _, _, _, fun _ => rfl, fun _ => by kernel_rfl⟩
theorem sorted2 {a c : Nat} {ms : List Nat} (hp : ms.Perm [a, c]) (hs : ms.Pairwise (·≤ ·)) : ms = [min a c, max a c] := by
 have hl := hp.length_eq
 match ms, hl with
 | [x, y], _ =>
  have hxy : x ≤ y := by simpa using hs
  have hx : x = a ∨ x = c := by simpa using hp.mem_iff.mp (show x ∈ [x, y] by simp)
  have one : ∀ {u v : Nat}, [u].Perm [v] → u = v := fun h => List.mem_singleton.mp (h.mem_iff.mp (.head _))
  rcases hx with rfl | rfl
  ·rw [← one ((List.perm_cons x).mp hp), Nat.min_eq_left hxy, Nat.max_eq_right hxy]
  ·rw [← one ((List.perm_cons x).mp (hp.trans (.swap _ _ _))), Nat.min_eq_right hxy, Nat.max_eq_left hxy]
theorem isKI_dt {h : Heap} {v : Value} {d : Dt} (x : IsDt h v d) : IsKI h v (dtKI d) := by cases d <;> exact x
section
variable {w : World} {b₀ h : Heap} {A : Around} {g : Array GenState} {d : Drawn} {t : Nat} {o : OsState} {B : BankL} {ts : List Tm} {n : Nat} {Q : Value → Shared → Prop}
theorem r_cwm0 {env : Env} {pos : Pos} {id : String} {first : List Value} {Q : Value → Shared → Prop} (k : wpAny (model PR w) A (call (.builtin id) first) Q Never ⟨h, g, d, t, o⟩) :
  wpAny (model PR w) A (callWith pos (.builtin id) first (backTo pos (starEach [] env)) []) Q Never ⟨h, g, d, t, o⟩ := PyProof.Rows.callWith_method0 k
theorem args_ok2 {b' : Heap} {v : Value} {i : Nat} {m : Tm} (G : Gd w b₀) (S : Sub b₀ h) (R : Rm A (n + 1)) (K : BankR b' B ts) (S' : Sub b' h) (hv : IsN v i) (hi : ts[i]? = some m) (hz : i < 1000)
  (k : ∀ a t' h', TupN b' a m.args → Sub h h' → Q (.ref a) ⟨h', g, d, t', o⟩) : wpAny (model PR w) A (call (.ref 236) [.ref B.x, v]) Q Never ⟨h, g, d, t, o⟩ := by
 obtain ⟨u, rfl⟩ := hv
 refine enter fn236 [("self", .ref B.x), ("t", .int i u)] ["self", "t"] [] [("self", some (.ref B.x)), ("t", some (.int i u))] [] G S R rfl rfl rfl rfl (by decide +kernel) (by decide +kernel) (by decide +kernel) (fun _ h => nomatch h) .nil (fun b env h' t' G' Sb Sh Kb Lo Sh' e V R' => ?_)
 have Hb : Sub b' b := S'.trans fun a o e => Kb a o e (fun q => nomatch q)
 have K' : BankR b B ts := K.sub Hb
 have I := K'.self
 wtm_at "qgo"
 obtain ⟨vs, kk, e1, e2⟩ := K.args
 obtain ⟨y, e3, e4⟩ := e2.get hi
 refine r_item_list V (.inr (Hb _ _ e1)) (by (first | lia | omega)) (by (first | lia | omega)) (by first | exact e3 | simpa using e3) ?_
 obtain ⟨a, rfl, e5⟩ := e4
 repeat wtm_at "qkt"
 exact k _ _ _ e5 Sh'
theorem data_ok2 {b' : Heap} {v : Value} {i : Nat} {m : Tm} (G : Gd w b₀) (S : Sub b₀ h) (R : Rm A (n + 1)) (K : BankR b' B ts) (S' : Sub b' h) (hv : IsN v i) (hi : ts[i]? = some m) (hz : i < 1000)
  (k : ∀ y t' h', IsDt b' y m.data → Sub h h' → Q y ⟨h', g, d, t', o⟩) : wpAny (model PR w) A (call (.ref 250) [.ref B.x, v]) Q Never ⟨h, g, d, t, o⟩ := by
 obtain ⟨u, rfl⟩ := hv
 refine enter fn250 [("self", .ref B.x), ("t", .int i u)] ["self", "t"] [] [("self", some (.ref B.x)), ("t", some (.int i u))] [] G S R rfl rfl rfl rfl (by decide +kernel) (by decide +kernel) (by decide +kernel) (fun _ h => nomatch h) .nil (fun b env h' t' G' Sb Sh Kb Lo Sh' e V R' => ?_)
 have Hb : Sub b' b := S'.trans fun a o e => Kb a o e (fun q => nomatch q)
 have K' : BankR b B ts := K.sub Hb
 have I := K'.self
 wtm_at "qgo"
 obtain ⟨vs, kk, e1, e2⟩ := K.datas
 obtain ⟨y, e3, e4⟩ := e2.get hi
 refine r_item_list V (.inr (Hb _ _ e1)) (by (first | lia | omega)) (by (first | lia | omega)) (by first | exact e3 | simpa using e3) ?_
 repeat wtm_at "qkt"
 exact k _ _ _ e4 Sh'
theorem close_ok {C : ClL} {terms : List Nat} {oL : Obj} {c : Nat → Nat} {z : Nat} (W : WfT ts terms) (G : Gd w b₀) (S : Sub b₀ h) (R : Rm A (n + 7)) (K : Cls h C B ts terms) (hL : h.get? C.ld = some oL) (hb0 : b₀.get? C.ld = none) (M : NMap w IsN oL (onT terms c) z) (hz : z ≤ 1000)
  (k : ∀ oL' c' t' h', CloseR ts terms c c' → NMap w IsN oL' (onT terms c') z → Kept [C.ld] h h' → h'.get? C.ld = some oL' → Q .none ⟨h', g, d, t', o⟩) : wpAny (model PR w) A (call (.ref 55) [.ref C.c]) Q Never ⟨h, g, d, t, o⟩ := by
 refine enterC fn55 [("self", .ref C.c)] "self" (.ref C.c) [("is_new", none), ("first_with", none), ("t", none), ("some", none), ("ends", none), ("head", none)] [(C.ld, oL)] G S R rfl rfl (fun _ => rfl) (fun p hp => by rw [List.mem_singleton.mp hp]; exact .inr ⟨show fn55.fd.scope.names.lookup ("self" : Str) = some .cell by decide +kernel, rfl⟩) (by kernel_rfl) (fun p hp u hu => ?_) (by decide +kernel) (fun p hp => by rw [List.mem_singleton.mp hp]; exact ⟨hL, hb0⟩) (by simp) (fun b env h' t' ca oc G' Sb Sh Kb Lo Sh' e hcs hoc V R' => ?_)
 ·first | replace hp := in1 hp | replace hp := in2 hp | replace hp := in3 hp | replace hp := in4 hp | replace hp := in5 hp | simp only [List.mem_cons, List.not_mem_nil, or_false] at hp
  rcases hp with rfl | rfl | rfl | rfl | rfl | rfl <;> cases hu
 have K' : Cls b C B ts terms := K.keptN hL M (fun a o e n => Kb a o e (by first | exact n | simpa using n))
 have I := K'.self
 have J := K'.bank.self
 have hce : env.cells.lookup ("self" : Str) = some ca := by rw [hcs]; simp
 have kk : ∀ {l : List (Str × Option Value)} {σ : List (Addr × Obj)} {h'' : Heap}, Fm b env h'' l σ → Kept [C.ld] h h'' := fun V => kept_of Kb V
 have hun : A.units + 100 < cLine := by have := R.u; (first | lia | omega)
 wtm_at "qgo"
 wtm_at "qst"; clear V; intro h1 t1 V
 wtm_at "qgo"
 obtain ⟨vs, kv, et, nt⟩ := K'.terms
 have hsz : vs.size = terms.length := by rw [← nt.length]; simp
 let Jx1 : Nat → List (Str × Option Value) → List (Addr × Obj) → Prop := fun n l σ => Ex8 fun nb cc oL' x1 x2 x3 x4 x5 => Al4 (l = ([("is_new", some (.bool nb)), ("first_with", x1), ("t", x2), ("some", x3), ("ends", x4), ("head", x5)] : List (Str × Option Value))) (σ = [(ca, oc), (C.ld, oL')]) (NMap w IsN oL' (onT terms cc) z) (((nb = false ∧ CloseR ts terms c cc ∧ n = 0) ∨ (nb = true ∧ (∀ c', CloseR ts terms cc c' → CloseR ts terms c c') ∧ n = meas terms cc + 1)))
 repeat wtm_at "qkt"
 refine r_while V Jx1 (meas terms c + 1) ?_ ?_
 ·exact ⟨true, c, oL, _, _, _, _, _, rfl, rfl, M, .inr ⟨rfl, fun _ q => q, rfl⟩⟩
 clear V
 rintro nm h2 t2 l σ ⟨nb, cc, oL', x1, x2, x3, x4, x5, rfl, rfl, M', hcase⟩ V
 wtm_at "qgo"
 rcases hcase with ⟨rfl, hR, rfl⟩ | ⟨rfl, hR, rfl⟩
 ·first | refine ite_f Bool.false_ne_true ?_ | rw [if_neg Bool.false_ne_true]
  wtm_at "qgo"
  repeat wtm_at "qkt"
  exact k oL' cc _ _ hR M' (kk V) (V.nw (C.ld, oL') (by wtm_at "qmem")).1
 first | refine ite_t rfl ?_ | rw [if_pos rfl]
 wtm_at "qgo"
 wtm_at "qst"; clear V; intro h3 t3 V
 wtm_at "qgo"
 refine r_dict0 G' V ?_; clear V; intro fa h4 lo4 s4 hfa V
 wtm_at "qst"; clear V; intro h5 t5 V
 wtm_at "qgo"
 refine loop_list (vs := vs) R'.h V (fun i l σ => Ex7 fun oL2 oF y2 y3 y4 y5 kt => Al4 (l = ([("is_new", some (.bool (pass0 ts (terms.take i) cc).nw)), ("first_with", some (.ref fa)), ("t", y2), ("some", y3), ("ends", y4), ("head", y5)] : List (Str × Option Value))) (σ = (fa, oF) :: (ca, oc) :: (C.ld, oL2) :: kt) (NMap w IsN oL2 (onT terms (pass0 ts (terms.take i) cc).c) z) (KMap w IsN b kt oF (pass0 ts (terms.take i) cc).fw i)) ?_ ?_ ?_ ?_
 ·exact ⟨oL', _, _, _, _, _, [], rfl, rfl, M', KMap.nil _ _ _ _⟩
 ·rintro i l σ ⟨_, _, _, _, _, _, _, _, _, _, _⟩; exact ⟨kv, .inr et⟩
 ·clear V
  intro i tv it ito h6 t6 l σ hi hI V
  refine opq2 fun Rq hRq => ?_
  obtain ⟨oL2, oF, y2, y3, y4, y5, kt, rfl, rfl, M2, M3⟩ := hI
  obtain ⟨x, hx, hv⟩ := nt.back (by first | exact hi | simpa using hi)
  have hxt : x ∈ terms := List.mem_of_getElem? hx
  obtain ⟨hxz, m, hm, hma, hml, hme, hmn⟩ := W.tm x hxt
  have htm : tmAt ts x = m := by unfold tmAt; rw [List.getD_eq_getElem?_getD, hm]; rfl
  have htake : pass0 ts (terms.take (i + 1)) cc = stepT m x (pass0 ts (terms.take i) cc) := by rw [List.take_add_one, hx, ← htm]; exact pass0_snoc _ _ _ _
  have hiz : i < 1000 := by have := (List.getElem?_eq_some_iff.mp hx).1; have := W.len; (first | lia | omega)
  have okfw : ∀ kk u, (pass0 ts (terms.take i) cc).fw kk = some u → u ∈ terms := (pass0_ok W cc (terms.take i) fun y hy => List.mem_of_mem_take hy).fw
  dsimp only [TurnE] at hRq
  rw [htake] at hRq
  generalize pass0 ts (terms.take i) cc = P0 at *
  refine wpAny_assign_Name ?_
  wtm_at "qst"; clear V; intro h7 t7 V
  wtm_at "qgo"
  refine ⟨V.sub, ?_⟩
  refine args_ok2 G' V.sub R' K'.bank V.sub hv hm hxz ?_
  intro pa t8 h8 hpa s8
  replace V := V.mono s8
  wtm_at "qst"; clear V; intro h9 t9 V
  wtm_at "qgo"
  obtain ⟨us, epa, Nus⟩ := hpa
  wtm_at "qbn"
  wtm_at "qgo"
  refine r_lent (V.sub _ _ epa) (by rw [Nus.length]; (first | lia | omega)) fun u10 t10 => ?_
  wtm_at "qgo"
  rw [Nus.length]
  by_cases hne : m.args = []
  ·rw [hne, if_neg (by simp)]
   wtm_at "qgo"
   refine hRq _ _ ?_
   rw [show stepT m x P0 = P0 from if_pos hne]
   repeat wtm_at "qkt"
   exact ⟨_, _, _, _, rfl, V, oL2, oF, _, _, _, _, kt, rfl, rfl, M2, M3.le (Nat.le_succ _)⟩
  first | refine ite_t (by have : m.args.length ≠ 0 := fun q => hne (List.length_eq_zero_iff.mp q); simp; (first | lia | omega)) ?_ | rw [if_pos (by have : m.args.length ≠ 0 := fun q => hne (List.length_eq_zero_iff.mp q); simp; (first | lia | omega))]
  have hstep : stepT m x P0 = stepTruth m (sortE m.op (m.args.map P0.c)) x (stepHead m x P0) := by unfold stepT; rw [if_neg hne]
  wtm_at "qgo"
  refine r_compA [("self", ca)] e (by decide +kernel) (by rw [hcs]; rfl) ?_
  wtm_at "qgo"
  let Jx3 : Nat → List (Addr × Obj) → List Value → Prop := fun i σ vs => σ = (it, ito) :: (fa, oF) :: (ca, oc) :: (C.ld, oL2) :: kt ∧ Nums vs ((m.args.take i).map P0.c)
  refine compit_tuple (us := us) R'.h e V (by rw [Nus.length]; (first | lia | omega)) Jx3 ⟨rfl, .nil⟩ (fun _ _ _ _ => .inr epa) (fun i σ vs q => by have := q.2.length; rw [List.length_map, List.length_take] at this; (first | lia | omega)) (by decide +kernel) (by decide +kernel) ?_ ?_
  ·clear V
   rintro j v cenv h10 t10 mm oL' L D I' ito' vs' σ hj ⟨rfl, hvs⟩ ec hc V
   refine compTurn_plain ?_
   have hce : cenv.cells.lookup ("self" : Str) = some ca := by rw [hc]; simp
   wtm_at "qgo"
   obtain ⟨y, hy, hyv⟩ := Nus.back hj
   refine r_getN V (.inl (by wtm_at "qmem")) M2 hyv (onT_mem (hma y (List.mem_of_getElem? hy))) ?_
   rintro _ t11 ⟨u11, rfl⟩
   repeat wtm_at "qkt"
   refine ⟨_, _, _, _, rfl, V, rfl, rfl, ?_⟩
   rw [List.take_add_one, hy, List.map_append]
   exact hvs.snoc ⟨u11, rfl⟩
  ·clear V
   rintro D CC oC mm h10 t10 vs' σ mC hD ⟨rfl, hvs⟩ V hns hoC
   rw [List.take_of_length_le (by rw [Nus.length]; exact Nat.le_refl _)] at hvs
   refine fin_store e V hns hoC (by decide +kernel) (by wtm_at "qput") ?_
   clear V hns hoC; intro h11 t11 V
   let Jx4 : Shared → Prop := fun s => Ex4 fun h t us k => Al3 (s = ⟨h, g, d, t, o⟩) (Fm b env h [("is_new", some (.bool P0.nw)), ("first_with", some (.ref fa)), ("t", some tv), ("some", some (.ref pa)), ("ends", some (.ref D)), ("head", y5)] ((D, listOf us k) :: (it, ito) :: (fa, oF) :: (ca, oc) :: (C.ld, oL2) :: kt)) (Nums us.toList (sortE m.op (m.args.map P0.c)))
   repeat wtm_at "qkt"
   refine r_consJK Jx4 (fun _ _ => ?_) ?_
   ·wtm_at "qgo"
    refine ⟨V.sub, ?_⟩
    refine op_ok G' V.sub R' (K'.bank.sub V.sub) hv hm hxz ?_
    intro u12 t12 h12 s12
    replace V := V.mono s12
    wtm_at "qgo"
    by_cases q : m.op = "="
    ·first | refine ite_t (beq_iff_eq.mpr q) ?_ | rw [if_pos (beq_iff_eq.mpr q)]
     wtm_at "qgo"
     refine r_lmeth V (.inl (by wtm_at "qmem")) PyProof.Rows.slot_list_sort F.type_list_sort ?_
     dsimp only
     refine r_cwm0 ?_
     refine r_sort V (fun o' => by wtm_at "qputs") hvs (by rw [List.length_map]; exact hml) ?_
     clear V; intro us' ms' c' h13 V hN hp hs _ _
     wtm_at "qgo"
     repeat wtm_at "qkt"
     refine ⟨_, _, _, _, rfl, V, ?_⟩
     unfold sortE
     first | refine ite_t q ?_ | rw [if_pos q]
     have h2 := hme q
     match hma' : m.args, h2 with
     | [a1, a2], _ =>
      rw [hma'] at hp
      have := sorted2 hp hs
      rw [this] at hN
      exact hN
    ·first | refine ite_f (by first | exact q | simpa using q) ?_ | rw [if_neg (by first | exact q | simpa using q)]
     wtm_at "qgo"
     repeat wtm_at "qkt"
     refine ⟨_, _, _, _, rfl, V, ?_⟩
     unfold sortE
     first | refine ite_f q ?_ | rw [if_neg q]
     exact hvs
   rintro _ ⟨h12, t12, us', k', rfl, V', hN⟩
   clear V; have V := V'; clear V'
   generalize hE : sortE m.op (m.args.map P0.c) = E at *
   wtm_at "qgo"
   refine ⟨V.sub, ?_⟩
   refine op_ok G' V.sub R' (K'.bank.sub V.sub) hv hm hxz ?_
   intro uo t13 h13 s13
   replace V := V.mono s13
   wtm_at "qgo"
   refine ⟨V.sub, ?_⟩
   refine data_ok2 G' V.sub R' K'.bank V.sub hv hm hxz ?_
   intro dv t14 h14 hdv s14
   replace V := V.mono s14
   wtm_at "qgo"
   refine ⟨V.sub, ?_⟩
   refine sort_ok G' V.sub R' (K'.bank.sub V.sub) hv hm hxz ?_
   intro uso t15 h15 s15
   replace V := V.mono s15
   wtm_at "qgo"
   wtm_at "qbn"
   wtm_at "qgo"
   have hEl : E.length = m.args.length := by
    rw [← hE]
    unfold sortE
    split
    ·split <;> simp_all
    ·rw [List.length_map]
   refine r_tuplelist V (.inl (by wtm_at "qmem")) (by have := hN.length; rw [Array.length_toList] at this; (first | lia | omega)) ?_
   clear V; intro ta h16 s16 V
   wtm_at "qgo"
   refine r_newtuple V ?_
   clear V; intro ha h17 lo17 s17 V
   wtm_at "qst"; clear V; intro h18 t18 V
   have hkey : KeyIn b ((ha, tupOf [.str m.op uo, dv, .int m.sort uso, .ref ta]) :: (ta, tupOf us'.toList) :: kt) (headOf m E) ha := fun hh s e => ⟨_, e _ (.head _), .cons ⟨uo, rfl⟩ (.cons (isKI_dt (hdv.sub s)) (.cons ⟨_, rfl⟩ (.cons ⟨ta, rfl, us'.toList, e _ (.tail _ (.head _)), hN⟩ .nil)))⟩
   let Jx5 : Shared → Prop := fun s => Ex5 fun h t oL3 oF3 kt3 => Al4 (s = ⟨h, g, d, t, o⟩) (Fm b env h [("is_new", some (.bool (stepHead m x P0).nw)), ("first_with", some (.ref fa)), ("t", some tv), ("some", some (.ref pa)), ("ends", some (.ref D)), ("head", some (.ref ha))] ((D, listOf us' k') :: (it, ito) :: (fa, oF3) :: (ca, oc) :: (C.ld, oL3) :: kt3)) (NMap w IsN oL3 (onT terms (stepHead m x P0).c) z) (KMap w IsN b kt3 oF3 (stepHead m x P0).fw (i + 1))
   repeat wtm_at "qkt"
   refine r_consJK Jx5 (fun _ _ => ?_) ?_
   ·wtm_at "qgo"
    have hsub : ∀ p ∈ kt, p ∈ (ha, tupOf [.str m.op uo, dv, .int m.sort uso, .ref ta]) :: (ta, tupOf us'.toList) :: (D, listOf us' k') :: (it, ito) :: (fa, oF) :: (ca, oc) :: (C.ld, oL2) :: kt := fun p hp => List.mem_append_right [_, _, _, _, _, _, _] hp
    have hsub' : ∀ p ∈ (ha, tupOf [.str m.op uo, dv, .int m.sort uso, .ref ta]) :: (ta, tupOf us'.toList) :: kt, p ∈ (ha, tupOf [.str m.op uo, dv, .int m.sort uso, .ref ta]) :: (ta, tupOf us'.toList) :: (D, listOf us' k') :: (it, ito) :: (fa, oF) :: (ca, oc) :: (C.ld, oL2) :: kt := fun p hp => by
     rcases List.mem_cons.mp hp with rfl | hp
     ·exact .head _
     ·rcases List.mem_cons.mp hp with rfl | hp
      ·exact .tail _ (.head _)
      ·exact hsub p hp
    have hun' : (A.deeper env).units + 100 < cLine := by have := R'.u; (first | lia | omega)
    refine r_inK V (.inl (by wtm_at "qmem")) M3 hsub (V.key hkey hsub') hun' hfa ?_
    intro t19
    wtm_at "qgo"
    cases hf : P0.fw (headOf m E) with
    | some u =>
     have hS1 : stepHead m x P0 = ⟨joinC P0.c u x, P0.fw, P0.nw || (P0.c u != P0.c x)⟩ := by unfold stepHead; rw [hE, hf]
     first | refine ite_t (show (some u).isSome = true from rfl) ?_ | rw [if_pos (show (some u).isSome = true from rfl)]
     wtm_at "qgo"
     refine r_getK V (.inl (by wtm_at "qmem")) M3 hsub (V.key hkey hsub') hun' hf ?_
     intro uv t20 huv
     wtm_at "qgo"
     refine ⟨V.sub, ?_⟩
     refine join_ok (C := C) (oL := oL2) (z := z) (terms := terms) (c := P0.c) G' V.sub R' (K'.sub V.sub) (V.nw (C.ld, oL2) (by wtm_at "qmem")).1 (V.nw (C.ld, oL2) (by wtm_at "qmem")).2.2 M2 hz huv hv (okfw _ _ hf) hxt ?_
     intro oL3 t21 h21 M21 s21 e21
     replace V := V.put (by wtm_at "qputs") s21 e21
     wtm_at "qgo"
     by_cases q : P0.c u = P0.c x
     ·first | refine ite_f (by first | exact q | simpa using q) ?_ | rw [if_neg (by first | exact q | simpa using q)]
      wtm_at "qgo"
      have e0 : (P0.nw || (P0.c u != P0.c x)) = P0.nw := by simp [q]
      dsimp only [Jx5]
      rw [hS1]
      dsimp only
      rw [e0]
      repeat wtm_at "qkt"
      exact ⟨_, _, oL3, oF, kt, rfl, V.tail.tail, M21, M3.le (Nat.le_succ _)⟩
     ·first | refine ite_t (by first | exact q | simpa using q) ?_ | rw [if_pos (by first | exact q | simpa using q)]
      wtm_at "qgo"
      wtm_at "qst"; clear V; intro h22 t22 V
      wtm_at "qgo"
      have e0 : (P0.nw || (P0.c u != P0.c x)) = true := by simp [q]
      dsimp only [Jx5]
      rw [hS1]
      dsimp only
      rw [e0]
      repeat wtm_at "qkt"
      exact ⟨_, _, oL3, oF, kt, rfl, V.tail.tail, M21, M3.le (Nat.le_succ _)⟩
    | none =>
     have hS1 : stepHead m x P0 = ⟨P0.c, setK P0.fw (headOf m E) x, P0.nw⟩ := by unfold stepHead; rw [hE, hf]
     simp only [Option.isSome_none]
     first | refine ite_f Bool.false_ne_true ?_ | rw [if_neg Bool.false_ne_true]
     wtm_at "qgo"
     refine r_setK (kt' := (ha, tupOf [.str m.op uo, dv, .int m.sort uso, .ref ta]) :: (ta, tupOf us'.toList) :: kt) V (fun o' => by wtm_at "qputs") M3 hsub (fun p hp => .tail _ (.tail _ hp)) hsub' hkey hv hun' (by (first | lia | omega)) ?_
     clear V; intro oF3 h20 t20 M20 V _ _
     wtm_at "qgo"
     dsimp only [Jx5]
     rw [hS1]
     repeat wtm_at "qkt"
     exact ⟨_, _, oL2, oF3, _, rfl, Fm.rot (x := [_, _]) (y := [_, _, _, _, _]) V, M2, M20⟩
   rintro _ ⟨h19, t19, oL3, oF3, kt3, rfl, V', M4, M5⟩
   clear V; have V := V'; clear V'
   rw [hstep] at hRq
   generalize stepHead m x P0 = S1 at *
   wtm_at "qgo"
   refine ⟨V.sub, ?_⟩
   have hEq : m.op = "=" → E.length = 2 := fun q => by
    rw [← hE]
    unfold sortE
    first | refine ite_t q ?_ | rw [if_pos q]
    have h2 := hme q
    match m.args, h2 with
    | [a1, a2], _ => rfl
   have hnt : m.op = "not" → ∃ p, m.args = [p] ∧ p ∈ terms := fun q => by
    have h2 := hmn q
    match hma' : m.args, h2 with
    | [a1], _ => exact ⟨a1, rfl, hma a1 (by rw [hma']; exact .head _)⟩
   refine join_truth_ok (C := C) (oL := oL3) (z := z) (terms := terms) (c := S1.c) (ends := E) G' V.sub R' (K'.sub V.sub) (V.nw (C.ld, oL3) (by wtm_at "qmem")).1 (V.nw (C.ld, oL3) (by wtm_at "qmem")).2.2 M4 hz hv hxt W.one W.two hm hxz ⟨us', k', (V.nw (D, listOf us' k') (by wtm_at "qmem")).1, hN⟩ hEq hnt ?_
   intro oL4 t20 h20 M20 s20 e20
   replace V := V.put (by wtm_at "qputs") s20 e20
   wtm_at "qgo"
   have fin : stepTruth m E x S1 = ⟨joinP S1.c (truthP S1.c m E x), S1.fw, S1.nw || newP S1.c (truthP S1.c m E x)⟩ := rfl
   rw [fin] at hRq
   by_cases q : newP S1.c (truthP S1.c m E x) = true
   ·first | refine ite_t q ?_ | rw [if_pos q]
    wtm_at "qgo"
    wtm_at "qst"; clear V; intro h21 t21 V
    wtm_at "qgo"
    refine hRq _ _ ?_
    rw [q, Bool.or_true]
    repeat wtm_at "qkt"
    exact ⟨_, _, _, _, rfl, V.tail, oL4, oF3, _, _, _, _, kt3, rfl, rfl, M20, M5⟩
   ·first | refine ite_f q ?_ | rw [if_neg q]
    wtm_at "qgo"
    refine hRq _ _ ?_
    rw [show newP S1.c (truthP S1.c m E x) = false by simpa using q, Bool.or_false]
    repeat wtm_at "qkt"
    exact ⟨_, _, _, _, rfl, V.tail, oL4, oF3, _, _, _, _, kt3, rfl, rfl, M20, M5⟩
 ·clear V
  rintro h6 t6 l σ ⟨oL2, oF, y2, y3, y4, y5, kt, rfl, rfl, M2, M3⟩ V
  rw [List.take_of_length_le (by rw [hsz]; exact Nat.le_refl _)] at M2 V
  wtm_at "qgo"
  have okm := pass0_ok W cc terms (fun y hy => hy)
  have V' : Fm b env h6 [("is_new", some (.bool (pass0 ts terms cc).nw)), ("first_with", some (.ref fa)), ("t", y2), ("some", y3), ("ends", y4), ("head", y5)] [(ca, oc), (C.ld, oL2)] := V.drop (by simp)
  by_cases q : (pass0 ts terms cc).nw = true
  ·repeat wtm_at "qkt"
   refine ⟨_, _, _, _, _, rfl, V', ?_, _, (pass0 ts terms cc).c, oL2, _, _, _, _, _, rfl, rfl, M2, .inr ⟨q, fun c' hc' => hR c' (.more q hc'), rfl⟩⟩
   have := okm.lt q; (first | lia | omega)
  ·have q' : (pass0 ts terms cc).nw = false := by simpa using q
   repeat wtm_at "qkt"
   refine ⟨_, _, _, _, _, rfl, V', ?_, _, (pass0 ts terms cc).c, oL2, _, _, _, _, _, rfl, rfl, M2, .inl ⟨q', hR _ (.last q'), rfl⟩⟩
   (first | lia | omega)
end
end
section
noncomputable def fn69 : FnAt 69 := ⟨_, _, _, _, fun _ => rfl, fun _ => by kernel_rfl⟩
noncomputable def isVal (m : Tm) : Bool := ["num", "bvnum"].any (·== m.op)
noncomputable def valsOf (ts : List Tm) (l : List Nat) : List Nat := l.filter fun x => isVal (tmAt ts x)
section
variable {w : World} {b₀ h : Heap} {A : Around} {g : Array GenState} {d : Drawn} {t : Nat} {o : OsState} {B : BankL} {ts : List Tm} {n : Nat} {Q : Value → Shared → Prop}
noncomputable def IsPr (h : Heap) (v : Value) (p : Nat × Nat) : Prop := ∃ a, v = .ref a ∧ TupN h a [p.1, p.2]
theorem IsPr.sub {h h' : Heap} {v : Value} {p : Nat × Nat} (x : IsPr h v p) (s : Sub h h') : IsPr h' v p := let ⟨a, e, y⟩ := x; ⟨a, e, y.sub s⟩
theorem has_clash_ok {C : ClL} {terms : List Nat} {oL : Obj} {c : Nat → Nat} {z : Nat} {pa : Addr} {apart : List (Nat × Nat)} (W : WfT ts terms) (G : Gd w b₀) (S : Sub b₀ h) (R : Rm A (n + 7)) (K : Cls h C B ts terms) (hL : h.get? C.ld = some oL) (M : NMap w IsN oL (onT terms c) z) (hz : z ≤ 1000)
  (hp : ListP (IsPr h) h pa apart) (hpt : ∀ p ∈ apart, p.1 ∈ terms ∧ p.2 ∈ terms)
  (k : ∀ (r : Bool) t' h', (r = true ↔ (∃ p ∈ apart, c p.1 = c p.2) ∨ c 1 = c 2 ∨ ¬ ((valsOf ts terms).map c).Nodup) → Sub h h' → Q (.bool r) ⟨h', g, d, t', o⟩) : wpAny (model PR w) A (call (.ref 69) [.ref C.c, .ref pa]) Q Never ⟨h, g, d, t, o⟩ := by
 refine enter fn69 [("self", .ref C.c), ("apart", .ref pa)] ["self", "apart"] ["a", "b", "value_of", "t"] [("self", some (.ref C.c)), ("apart", some (.ref pa)), ("a", none), ("b", none), ("value_of", none), ("t", none)] [] G S R rfl rfl rfl rfl (by decide +kernel) (by decide +kernel) (by decide +kernel) (fun _ h => nomatch h) .nil (fun b env h' t' G' Sb Sh Kb Lo Sh' e V R' => ?_)
 have Hb : Sub h b := fun a o e => Kb a o e (fun q => nomatch q)
 have K' := K.sub Hb
 have I := K'.self
 have J := K'.bank.self
 have hL' := Hb _ _ hL
 obtain ⟨avs, akv, aet, ant⟩ := hp
 have aet' := Hb _ _ aet
 have asz : avs.size = apart.length := by rw [← ant.length]; simp
 let Jx1 : Shared → Prop := fun s => Ex4 fun h t y1 y2 => Al3 (s = ⟨h, g, d, t, o⟩) (Fm b env h [("self", some (.ref C.c)), ("apart", some (.ref pa)), ("a", y1), ("b", y2), ("value_of", none), ("t", none)] []) (∀ p ∈ apart, c p.1 ≠ c p.2)
 repeat wtm_at "qkt"
 refine r_consJK Jx1 (fun _ _ => ?_) ?_
 ·wtm_at "qgo"
  let Jx2 : Nat → List (Str × Option Value) → List (Addr × Obj) → Prop := fun i l σ => Ex2 fun y1 y2 => Al3 (l = ([("self", some (.ref C.c)), ("apart", some (.ref pa)), ("a", y1), ("b", y2), ("value_of", none), ("t", none)] : List (Str × Option Value))) (σ = []) (∀ p ∈ apart.take i, c p.1 ≠ c p.2)
  refine loop_listT (vs := avs) (k := akv) R'.h V Jx2 ⟨_, _, rfl, rfl, fun p hp => by simp at hp⟩ (fun _ _ _ _ => .inr aet') ?_ ?_
  ·clear V
   rintro i tv it ito h6 t6 l σ hi ⟨y1, y2, rfl, rfl, hq⟩ V
   obtain ⟨p, hpi, ta, rfl, pvs, ep, Np⟩ := ant.back (by first | exact hi | simpa using hi)
   have hpm := hpt p (List.mem_of_getElem? hpi)
   cases Np with
   | @cons v1 _ _ _ hv1 Np =>
   cases Np with
   | @cons v2 _ _ _ hv2 Np =>
   cases Np
   refine r_target2 R'.h (V.sub _ _ (Hb _ _ ep)) (later fun h7 t7 s7 => ?_)
   replace V := V.mono s7
   wtm_at "qst"; clear V; intro h8 t8 V
   wtm_at "qst"; clear V; intro h9 t9 V
   wtm_at "qgo"
   refine ⟨V.sub, ?_⟩
   refine are_one_ok (C := C) G' V.sub R' (K'.sub V.sub) (V.sub _ _ hL') M hv1 hv2 hpm.1 hpm.2 ?_
   intro t10 h10 s10
   replace V := V.mono s10
   wtm_at "qgo"
   by_cases q : c p.1 = c p.2
   ·first | refine ite_t (beq_iff_eq.mpr q) ?_ | rw [if_pos (beq_iff_eq.mpr q)]
    wtm_at "qgo"
    repeat wtm_at "qkt"
    exact k true _ _ ⟨fun _ => .inl ⟨p, List.mem_of_getElem? hpi, q⟩, fun _ => rfl⟩ (sub_of Hb V)
   ·first | refine ite_f (by first | exact q | simpa using q) ?_ | rw [if_neg (by first | exact q | simpa using q)]
    wtm_at "qgo"
    repeat wtm_at "qkt"
    refine ⟨_, _, _, _, rfl, V, _, _, rfl, rfl, fun p' hp' => ?_⟩
    rw [List.take_add_one, hpi] at hp'
    rcases List.mem_append.mp hp' with hp' | hp'
    ·exact hq p' hp'
    ·rw [List.mem_singleton.mp hp']; exact q
  ·clear V
   rintro h6 t6 l σ ⟨y1, y2, rfl, rfl, hq⟩ V
   rw [List.take_of_length_le (by rw [asz]; exact Nat.le_refl _)] at hq
   repeat wtm_at "qkt"
   exact ⟨_, _, _, _, rfl, V, hq⟩
 rintro _ ⟨h6, t6, y1, y2, rfl, V', hap⟩
 clear V; have V := V'; clear V'
 let Jx3 : Shared → Prop := fun s => Ex2 fun h t => Al3 (s = ⟨h, g, d, t, o⟩) (Fm b env h [("self", some (.ref C.c)), ("apart", some (.ref pa)), ("a", y1), ("b", y2), ("value_of", none), ("t", none)] []) (c 1 ≠ c 2)
 repeat wtm_at "qkt"
 refine r_consJK Jx3 (fun _ _ => ?_) ?_
 ·wtm_at "qgo"
  refine true_ok G' V.sub R' (K'.bank.sub V.sub) ?_
  intro u1 t1 h1 s1
  replace V := V.mono s1
  wtm_at "qgo"
  refine false_ok G' V.sub R' (K'.bank.sub V.sub) ?_
  intro u2 t2 h2 s2
  replace V := V.mono s2
  wtm_at "qgo"
  refine ⟨V.sub, ?_⟩
  refine are_one_ok (C := C) (x := 1) (y := 2) G' V.sub R' (K'.sub V.sub) (V.sub _ _ hL') M ⟨_, rfl⟩ ⟨_, rfl⟩ W.one W.two ?_
  intro t10 h10 s10
  replace V := V.mono s10
  wtm_at "qgo"
  by_cases q : c 1 = c 2
  ·first | refine ite_t (beq_iff_eq.mpr q) ?_ | rw [if_pos (beq_iff_eq.mpr q)]
   wtm_at "qgo"
   repeat wtm_at "qkt"
   exact k true _ _ ⟨fun _ => .inr (.inl q), fun _ => rfl⟩ (sub_of Hb V)
  ·first | refine ite_f (by first | exact q | simpa using q) ?_ | rw [if_neg (by first | exact q | simpa using q)]
   wtm_at "qgo"
   repeat wtm_at "qkt"
   exact ⟨_, _, rfl, V, q⟩
 rintro _ ⟨h7, t7, rfl, V', h12⟩
 clear V; have V := V'; clear V'
 obtain ⟨vs, kv, et, nt⟩ := K'.terms
 have hsz : vs.size = terms.length := by rw [← nt.length]; simp
 wtm_at "qgo"
 refine r_dict0 G' V ?_; clear V; intro fa h8 lo8 s8 hfa V
 wtm_at "qst"; clear V; intro h9 t9 V
 wtm_at "qgo"
 let Jx4 : Nat → List (Str × Option Value) → List (Addr × Obj) → Prop := fun i l σ => Ex2 fun oF y3 => Al4 (l = ([("self", some (.ref C.c)), ("apart", some (.ref pa)), ("a", y1), ("b", y2), ("value_of", some (.ref fa)), ("t", y3)] : List (Str × Option Value))) (σ = [(fa, oF)]) (NMap w (fun _ (_ : Unit) => True) oF (fun k => if k ∈ (valsOf ts (terms.take i)).map c then some () else none) i) (((valsOf ts (terms.take i)).map c).Nodup)
 refine loop_list (vs := vs) R'.h V Jx4 ?_ ?_ ?_ ?_
 ·repeat wtm_at "qkt"
  exact ⟨_, _, rfl, rfl, (NMap.nil _ _).congr fun k => by simp [valsOf], by simp [valsOf]⟩
 ·rintro i l σ _; exact ⟨kv, .inr et⟩
 ·clear V
  rintro i tv it ito h6 t6 l σ hi ⟨oF, y3, rfl, rfl, M2, hnd⟩ V
  obtain ⟨x, hx, hv⟩ := nt.back (by first | exact hi | simpa using hi)
  have hxt : x ∈ terms := List.mem_of_getElem? hx
  obtain ⟨hxz, m, hm, hma, hml, hme, hmn⟩ := W.tm x hxt
  have htm : tmAt ts x = m := by unfold tmAt; rw [List.getD_eq_getElem?_getD, hm]; rfl
  have htake : valsOf ts (terms.take (i + 1)) = valsOf ts (terms.take i) ++ (if isVal m = true then [x] else []) := by
   rw [List.take_add_one, hx]
   unfold valsOf
   rw [List.filter_append]
   congr 1
   show List.filter _ [x] = _
   rw [List.filter_cons, htm]
   rfl
  have hiz : i < 1000 := by have := (List.getElem?_eq_some_iff.mp hx).1; have := W.len; (first | lia | omega)
  refine wpAny_assign_Name ?_
  wtm_at "qst"; clear V; intro h7 t7 V
  wtm_at "qgo"
  refine ⟨V.sub, ?_⟩
  refine op_ok G' V.sub R' (K'.bank.sub V.sub) hv hm hxz ?_
  intro u10 t10 h10 s10
  replace V := V.mono s10
  wtm_at "qgo"
  wtm_at "qgl"
  obtain ⟨w1, w2, e22⟩ := at22 w
  refine in_tuple_strs (ys := ["num", "bvnum"]) (isTup_of (V.sub _ _ (G'.X _ _ e22))) (.cons _ _ (.cons _ _ .nil)) ?_
  wtm_at "qgo"
  show (if isVal m = true then _ else _)
  by_cases q : isVal m = true
  ·rw [if_pos q] at htake ⊢
   wtm_at "qgo"
   refine r_getN V (.inr hL') M hv (onT_mem hxt) ?_
   rintro _ t11 ⟨u11, rfl⟩
   wtm_at "qgo"
   refine r_inN V (.inl (by wtm_at "qmem")) M2 ⟨_, rfl⟩ hfa ?_
   intro t12
   wtm_at "qgo"
   by_cases q2 : c x ∈ (valsOf ts (terms.take i)).map c
   ·first | refine ite_t q2 ?_ | rw [if_pos q2]
    first | refine ite_t (show (some ()).isSome = true from rfl) ?_ | rw [if_pos (show (some ()).isSome = true from rfl)]
    wtm_at "qgo"
    repeat wtm_at "qkt"
    refine k true _ _ ⟨fun _ => .inr (.inr fun hn => ?_), fun _ => rfl⟩ (sub_of Hb V)
    have e1 : terms = terms.take (i + 1) ++ terms.drop (i + 1) := (List.take_append_drop _ _).symm
    have e2 : valsOf ts terms = valsOf ts (terms.take (i + 1)) ++ valsOf ts (terms.drop (i + 1)) := by
     unfold valsOf; rw [← List.filter_append, ← e1]
    rw [e2, htake, List.map_append, List.map_append] at hn
    have hn' := (List.nodup_append.mp (List.nodup_append.mp hn).1).2.2
    exact hn' _ q2 _ (by simp) rfl
   ·first | refine ite_f q2 ?_ | rw [if_neg q2]
    first | refine ite_f (by simp) ?_ | rw [if_neg (by simp)]
    wtm_at "qgo"
    refine r_getN V (.inr hL') M hv (onT_mem hxt) ?_
    rintro _ t13 ⟨u13, rfl⟩
    wtm_at "qgo"
    refine r_setN (y := ()) V (fun o' => by wtm_at "qputs") M2 ⟨_, rfl⟩ trivial (by (first | lia | omega)) ?_
    clear V; intro oF2 h14 t14 M14 V _ _
    wtm_at "qgo"
    repeat wtm_at "qkt"
    refine ⟨_, _, _, _, rfl, V, oF2, _, rfl, rfl, ?_, ?_⟩
    ·rw [if_neg q2] at M14
     refine M14.congr fun k => ?_
     rw [htake, List.map_append]
     unfold setF
     by_cases hk : k = c x
     ·simp [hk]
     ·simp [hk]
    ·rw [htake, List.map_append]
     refine List.nodup_append.mpr ⟨hnd, by simp, ?_⟩
     intro a ha b hb
     simp only [List.map_cons, List.map_nil, List.mem_singleton] at hb
     rw [hb]
     rintro rfl
     exact q2 ha
  ·rw [if_neg q] at htake ⊢
   wtm_at "qgo"
   rw [List.append_nil] at htake
   repeat wtm_at "qkt"
   exact ⟨_, _, _, _, rfl, V, oF, _, rfl, rfl, by rw [htake]; exact M2.le (Nat.le_succ _), by rw [htake]; exact hnd⟩
 ·clear V
  rintro h6 t6 l σ ⟨oF, y3, rfl, rfl, M2, hnd⟩ V
  rw [List.take_of_length_le (by rw [hsz]; exact Nat.le_refl _)] at hnd
  wtm_at "qgo"
  repeat wtm_at "qkt"
  refine k false _ _ ⟨(fun q => by cases q), fun q => ?_⟩ (sub_of Hb V)
  rcases q with ⟨p, hp, q⟩ | q | q
  ·exact absurd q (hap p hp)
  ·exact absurd q h12
  ·exact absurd hnd q
end
end
section
theorem so_bank (w : World) : SetOk w 72 "bank" := ⟨by kernel_rfl, by kernel_rfl, by kernel_rfl, by kernel_rfl⟩
theorem so_terms (w : World) : SetOk w 72 "terms" := ⟨by kernel_rfl, by kernel_rfl, by kernel_rfl, by kernel_rfl⟩
theorem so_least (w : World) : SetOk w 72 "least" := ⟨by kernel_rfl, by kernel_rfl, by kernel_rfl, by kernel_rfl⟩
section
variable {w : World} {b h : Heap} {env : Env} {l l' : List (Str × Option Value)} {σ : List (Addr × Obj)} {ks : List (Str × NameKind)} {A : Around} {g : Array GenState} {d : Drawn} {t : Nat} {o : OsState} {B : BankL} {ts : List Tm} {n : Nat} {Q : Value → Shared → Prop}
end
end
section
noncomputable def fn470 : FnAt 470 := ⟨_, _, _, _, fun _ => rfl, fun _ => by kernel_rfl⟩
noncomputable def tie (hm : Nat → Nat) (x y : Nat) : Nat → Nat := if hm x = hm y then hm else fun t => if hm t = hm y then hm x else hm t
noncomputable def tieG (hm : Nat → Nat) (gs : List (List Nat)) (x y : Nat) : List (List Nat) := if hm x = hm y then gs else (gs.set (hm x) (gs.getD (hm x) [] ++ gs.getD (hm y) [])).set (hm y) []
structure GOk (terms : List Nat) (hm : Nat → Nat) (gs : List (List Nat)) : Prop where
 lt : ∀ x ∈ terms, hm x < gs.length
 mem : ∀ k l, gs[k]? = some l → ∀ t, t ∈ l ↔ (t ∈ terms ∧ hm t = k)
 tot : (gs.map List.length).sum ≤ 1000
 len : gs.length ≤ 1000
theorem sum_set (ls : List (List Nat)) (k : Nat) (v : List Nat) (hk : k < ls.length) : ((ls.set k v).map List.length).sum + (ls.getD k []).length = (ls.map List.length).sum + v.length := by
 induction ls generalizing k with
 | nil => exact absurd hk (Nat.not_lt_zero _)
 | cons a r ih =>
  cases k with
  | zero => simp; (first | lia | omega)
  | succ k =>
   have := ih k (by first | exact hk | simpa using hk)
   simp only [List.set_cons_succ, List.map_cons, List.sum_cons, List.getD_cons_succ] at this ⊢
   (first | lia | omega)
theorem GOk.tie {terms : List Nat} {hm : Nat → Nat} {gs : List (List Nat)} (K : GOk terms hm gs) {x y : Nat} (hx : x ∈ terms) (hy : y ∈ terms) : GOk terms (tie hm x y) (tieG hm gs x y) := by
 unfold Mine.tie tieG
 by_cases q : hm x = hm y
 ·rw [if_pos q, if_pos q]; exact K
 ·first | refine ite_f q ?_ | rw [if_neg q]
  first | refine ite_f q ?_ | rw [if_neg q]
  have lx := K.lt x hx
  have ly := K.lt y hy
  have gx : gs[hm x]? = some (gs.getD (hm x) []) := by rw [List.getD_eq_getElem?_getD, List.getElem?_eq_getElem lx]; rfl
  have gy : gs[hm y]? = some (gs.getD (hm y) []) := by rw [List.getD_eq_getElem?_getD, List.getElem?_eq_getElem ly]; rfl
  have mx := K.mem _ _ gx
  have my := K.mem _ _ gy
  refine ⟨fun t ht => ?_, fun k l hl t => ?_, ?_, ?_⟩
  ·rw [List.length_set, List.length_set]
   split
   ·exact lx
   ·exact K.lt t ht
  ·rw [List.getElem?_set] at hl
   by_cases k2 : hm y = k
   ·subst k2
    rw [if_pos rfl] at hl
    rw [List.length_set, if_pos ly] at hl
    injection hl with hl
    rw [← hl]
    constructor
    ·intro h; cases h
    ·rintro ⟨_, h⟩
     split at h
     ·exact absurd h q
     ·exact absurd h (by assumption)
   ·rw [if_neg k2, List.getElem?_set] at hl
    by_cases k1 : hm x = k
    ·subst k1
     rw [if_pos rfl, if_pos lx] at hl
     injection hl with hl
     rw [← hl, List.mem_append, mx, my]
     constructor
     ·rintro (⟨h1, h2⟩ | ⟨h1, h2⟩)
      ·refine ⟨h1, ?_⟩; split
       ·rfl
       ·exact h2
      ·exact ⟨h1, if_pos h2⟩
     ·rintro ⟨h1, h2⟩
      by_cases h3 : hm t = hm y
      ·exact .inr ⟨h1, h3⟩
      ·rw [if_neg h3] at h2; exact .inl ⟨h1, h2⟩
    ·rw [if_neg k1] at hl
     rw [K.mem _ _ hl]
     constructor
     ·rintro ⟨h1, h2⟩
      exact ⟨h1, by rw [if_neg (by rw [h2]; exact fun e => k2 e.symm)]; exact h2⟩
     ·rintro ⟨h1, h2⟩
      split at h2
      ·exact absurd h2 k1
      ·exact ⟨h1, h2⟩
  ·have s1 := sum_set gs (hm x) (gs.getD (hm x) [] ++ gs.getD (hm y) []) lx
   have s2 := sum_set (gs.set (hm x) (gs.getD (hm x) [] ++ gs.getD (hm y) [])) (hm y) [] (by rw [List.length_set]; exact ly)
   have e : (gs.set (hm x) (gs.getD (hm x) [] ++ gs.getD (hm y) [])).getD (hm y) [] = gs.getD (hm y) [] := by
    rw [List.getD_eq_getElem?_getD, List.getElem?_set, if_neg q, ← List.getD_eq_getElem?_getD]
   rw [e] at s2
   have := K.tot
   simp only [List.length_append, List.length_nil] at s1 s2
   (first | lia | omega)
  ·rw [List.length_set, List.length_set]; exact K.len
noncomputable def GroupsH (X : List Addr) (h : Heap) (oG : Obj) (gs : List (List Nat)) : Prop := ∃ vs, LOf oG vs ∧ All2 (fun v l => ∃ a, v = .ref a ∧ a ∉ X ∧ ListN h a l) vs.toList gs
theorem GroupsH.kept {X C : List Addr} {h h' : Heap} {oG : Obj} {gs : List (List Nat)} (K : GroupsH X h oG gs) (s : Kept C h h') (hC : ∀ c ∈ C, c ∈ X ∨ ∀ vs k, h.get? c ≠ some (listOf vs k)) : GroupsH X h' oG gs := by
 obtain ⟨vs, L, N⟩ := K
 refine ⟨vs, L, N.mono fun v l ⟨a, e, n, us, k, ea, Na⟩ => ⟨a, e, n, us, k, s _ _ ea fun q => ?_, Na⟩⟩
 rcases hC a q with h1 | h1
 ·exact n h1
 ·exact h1 us k ea
theorem All2.set {α β : Type} {P : α → β → Prop} {xs : List α} {ys : List β} (N : All2 P xs ys) (k : Nat) {x : α} {y : β} (h : P x y) : All2 P (xs.set k x) (ys.set k y) := by
 induction N generalizing k with
 | nil => exact .nil
 | cons h' _ ih =>
  cases k with
  | zero => exact .cons h (by assumption)
  | succ k => exact .cons h' (ih k)
section
variable {w : World} {b₀ h : Heap} {A : Around} {g : Array GenState} {d : Drawn} {t : Nat} {o : OsState} {n : Nat} {Q : Value → Shared → Prop}
theorem tied_ok {X : List Addr} {ga ha : Addr} {oG oH : Obj} {terms : List Nat} {hm : Nat → Nat} {gs : List (List Nat)} {z x y : Nat} {v u : Value} (G : Gd w b₀) (S : Sub b₀ h) (R : Rm A (n + 1)) (hH : h.get? ha = some oH) (hG : h.get? ga = some oG) (b1 : b₀.get? ha = none) (b2 : b₀.get? ga = none) (hne : ha ≠ ga) (hX : ∀ c ∈ X, (h.get? c).isSome = true) (hXa : ha ∈ X) (hXg : ga ∈ X)
  (M : NMap w IsN oH (onT terms hm) z) (hz : z ≤ 1000) (K : GroupsH X h oG gs) (O : GOk terms hm gs) (hv : IsN v x) (hu : IsN u y) (hx : x ∈ terms) (hy : y ∈ terms)
  (k : ∀ oH' oG' t' h', NMap w IsN oH' (onT terms (tie hm x y)) z → GroupsH X h' oG' (tieG hm gs x y) → Kept [ha, ga] h h' → h'.get? ha = some oH' → h'.get? ga = some oG' → Q (.bool (hm x != hm y)) ⟨h', g, d, t', o⟩) :
  wpAny (model PR w) A (call (.ref 470) [.ref ga, .ref ha, v, u]) Q Never ⟨h, g, d, t, o⟩ := by
 refine enter fn470 [("groups", .ref ga), ("home", .ref ha), ("x", v), ("y", u)] ["groups", "home", "x", "y"] ["one", "two", "t"] [("groups", some (.ref ga)), ("home", some (.ref ha)), ("x", some v), ("y", some u), ("one", none), ("two", none), ("t", none)] [(ha, oH), (ga, oG)] G S R rfl rfl rfl rfl (by decide +kernel) (by decide +kernel) (by decide +kernel) (fun p hp => by
  first | replace hp := in1 hp | replace hp := in2 hp | replace hp := in3 hp | replace hp := in4 hp | replace hp := in5 hp | simp only [List.mem_cons, List.not_mem_nil, or_false] at hp
  rcases hp with rfl | rfl
  ·exact ⟨hH, b1⟩
  ·exact ⟨hG, b2⟩) (by first | exact hne | simpa using hne) (fun b env h' t' G' Sb Sh Kb Lo Sh' e V R' => ?_)
 have kb : Kept [ha, ga] h b := fun a o e n => Kb a o e (by first | exact n | simpa using n)
 have hX2 : ∀ c ∈ [ha, ga], c ∈ X := fun c hc => by
  first | replace hc := in1 hc | replace hc := in2 hc | replace hc := in3 hc | replace hc := in4 hc | replace hc := in5 hc | simp only [List.mem_cons, List.not_mem_nil, or_false] at hc
  rcases hc with rfl | rfl <;> assumption
 have K' : GroupsH X b oG gs := K.kept kb fun c hc => .inl (hX2 c hc)
 have kk : ∀ {l : List (Str × Option Value)} {σ : List (Addr × Obj)} {h'' : Heap}, Fm b env h'' l σ → Kept [ha, ga] h h'' := fun V => kept_of (C := [ha, ga]) (fun a o e n => kb a o e n) V
 obtain ⟨vs, L, N⟩ := K'
 have lx := O.lt x hx
 have ly := O.lt y hy
 have hlen := O.len
 have gx : gs[hm x]? = some (gs.getD (hm x) []) := by rw [List.getD_eq_getElem?_getD, List.getElem?_eq_getElem lx]; rfl
 have gy : gs[hm y]? = some (gs.getD (hm y) []) := by rw [List.getD_eq_getElem?_getD, List.getElem?_eq_getElem ly]; rfl
 have hvs : vs.size = gs.length := by rw [← N.length]; simp
 repeat wtm_at "qkt"
 refine r_consK fun _ _ => r_assign2 R'.h e (by decide +kernel) (by decide +kernel) (by decide +kernel) ?_
 wtm_at "qgo"
 refine r_getN V (.inl (by wtm_at "qmem")) M hv (onT_mem hx) ?_
 rintro _ t1 ⟨u1, rfl⟩
 wtm_at "qgo"
 refine r_getN V (.inl (by wtm_at "qmem")) M hu (onT_mem hy) ?_
 rintro _ t2 ⟨u2, rfl⟩
 refine later fun h3 t3 s3 => ?_
 replace V := V.mono s3
 wtm_at "qst"; clear V; intro h4 t4 V
 wtm_at "qst"; clear V; intro h5 t5 V
 wtm_at "qgo"
 rw [nat_beq]
 by_cases q : hm x = hm y
 ·first | refine ite_t (by first | exact q | simpa using q) ?_ | rw [if_pos (by first | exact q | simpa using q)]
  wtm_at "qgo"
  have := k oH oG t5 h5 (by rw [show tie hm x y = hm from if_pos q]; exact M) (by rw [show tieG hm gs x y = gs from if_pos q]; exact K.kept (kk V) fun c hc => .inl (hX2 c hc)) (kk V) (V.nw (ha, oH) (by wtm_at "qmem")).1 (V.nw (ga, oG) (by wtm_at "qmem")).1
  rw [show (hm x != hm y) = false by simp [q]] at this
  exact this
 ·first | refine ite_f (by first | exact q | simpa using q) ?_ | rw [if_neg (by first | exact q | simpa using q)]
  obtain ⟨_, ey, ay, rfl, nay, ys, ky, eay, Nay⟩ := N.get gy
  obtain ⟨_, ex, ax, rfl, nax, xs, kx, eax, Nax⟩ := N.get gx
  wtm_at "qgo"
  refine r_item_L V (.inl (by wtm_at "qmem")) L (by (first | lia | omega)) (by (first | lia | omega)) (by first | exact ey | simpa using ey) ?_
  have mt : ∀ t, t ∈ gs.getD (hm y) [] ↔ t ∈ terms ∧ hm t = hm y := O.mem _ _ gy
  have ysz : ys.size = (gs.getD (hm y) []).length := by rw [← Nay.length]; simp
  have xsz : xs.size = (gs.getD (hm x) []).length := by rw [← Nax.length]; simp
  let Jx1 : Nat → List (Str × Option Value) → List (Addr × Obj) → Prop := fun i l σ => Ex2 fun oH' tv => Al3 (l = ([("groups", some (.ref ga)), ("home", some (.ref ha)), ("x", some v), ("y", some u), ("one", some (.int (hm x) u1)), ("two", some (.int (hm y) u2)), ("t", tv)] : List (Str × Option Value))) (σ = [(ha, oH'), (ga, oG)]) (NMap w IsN oH' (fun k => if k ∈ terms then some (if k ∈ (gs.getD (hm y) []).take i then hm x else hm k) else none) z)
  refine loop_list (vs := ys) R'.h V Jx1 ?_ ?_ ?_ ?_
  ·exact ⟨oH, _, rfl, rfl, M.congr fun k => by simp [onT]⟩
  ·rintro i l σ _; exact ⟨ky, .inr eay⟩
  ·clear V
   rintro i tv it ito h9 t9 l σ hi ⟨oH', tv', rfl, rfl, M'⟩ V
   obtain ⟨tn, htn, hvn⟩ := Nay.back (by first | exact hi | simpa using hi)
   have hmem : tn ∈ terms := ((mt tn).mp (List.mem_of_getElem? htn)).1
   refine wpAny_assign_Name ?_
   wtm_at "qst"; clear V; intro h10 t10 V
   wtm_at "qgo"
   refine r_setN V (fun o' => by wtm_at "qputs") M' hvn ⟨u1, rfl⟩ (by (first | lia | omega)) ?_
   clear V; intro oH2 h11 t11 M11 V _ _
   wtm_at "qgo"
   rw [if_pos hmem] at M11
   repeat wtm_at "qkt"
   refine ⟨_, _, _, _, rfl, V, oH2, _, rfl, rfl, (M11 : NMap w IsN oH2 _ z).congr fun k => ?_⟩
   rw [List.take_add_one, htn]
   unfold setF
   by_cases hk : k = tn
   ·subst hk; simp [hmem]
   ·simp [hk]
  ·clear V
   rintro h9 t9 l σ ⟨oH', tv', rfl, rfl, M'⟩ V
   have hfin : NMap w IsN oH' (onT terms (tie hm x y)) z := M'.congr fun k => by
    rw [List.take_of_length_le (by rw [ysz]; exact Nat.le_refl _)]
    unfold onT tie
    first | refine ite_f q ?_ | rw [if_neg q]
    by_cases hk : k ∈ terms
    ·simp only [if_pos hk]
     by_cases h2 : hm k = hm y
     ·first | refine ite_t ((mt k).mpr ⟨hk, h2⟩) ?_ | rw [if_pos ((mt k).mpr ⟨hk, h2⟩)]
      first | refine ite_t h2 ?_ | rw [if_pos h2]
     ·first | refine ite_f (fun z => h2 ((mt k).mp z).2) ?_ | rw [if_neg (fun z => h2 ((mt k).mp z).2)]
      first | refine ite_f h2 ?_ | rw [if_neg h2]
    ·simp only [if_neg hk]
   wtm_at "qgo"
   refine r_item_L V (.inl (by wtm_at "qmem")) L (by (first | lia | omega)) (by (first | lia | omega)) (by first | exact ex | simpa using ex) ?_
   wtm_at "qgo"
   refine r_item_L V (.inl (by wtm_at "qmem")) L (by (first | lia | omega)) (by (first | lia | omega)) (by first | exact ey | simpa using ey) ?_
   have hsum : xs.size + ys.size ≤ 1000000 := by
    have h1 := sum_set gs (hm x) [] lx
    have h2 := sum_set (gs.set (hm x) []) (hm y) [] (by rw [List.length_set]; exact ly)
    have e3 : (gs.set (hm x) []).getD (hm y) [] = gs.getD (hm y) [] := by rw [List.getD_eq_getElem?_getD, List.getElem?_set, if_neg q, ← List.getD_eq_getElem?_getD]
    rw [e3] at h2
    have := O.tot
    simp only [List.length_nil] at h1 h2
    (first | lia | omega)
   refine r_addL V (.inr eax) (LOf.list _ _) (.inr eay) (LOf.list _ _) hsum ?_
   clear V; intro nx h10 V
   wtm_at "qgo"
   refine r_set_L V (fun o' => by wtm_at "qputs") L (by (first | lia | omega)) (by (first | lia | omega)) ?_
   clear V; intro oG2 h11 L2 V _ _
   wtm_at "qgo"
   refine r_newlist V ?_
   clear V; intro ne h12 lo12 s12 V
   wtm_at "qgo"
   refine r_set_L V (fun o' => by wtm_at "qputs") L2 (by rw [Array.size_setIfInBounds]; (first | lia | omega)) (by rw [Array.size_setIfInBounds]; (first | lia | omega)) ?_
   clear V; intro oG3 h13 L3 V _ _
   wtm_at "qgo"
   have na := V.na
   simp only [List.map_cons, List.map_nil, List.nodup_cons, List.mem_cons, List.not_mem_nil, or_false, not_or] at na
   have hfresh : ∀ a, b.get? a = none → a ≠ ha → a ≠ ga → a ∉ X := fun a e1 e2 e3 q => by
    obtain ⟨oc, hoc⟩ := Option.isSome_iff_exists.mp (hX a q)
    have := kb a oc hoc (by simp only [List.mem_cons, List.not_mem_nil, or_false, not_or]; exact ⟨e2, e3⟩)
    rw [e1] at this; cases this
   have hK : GroupsH X h13 oG3 (tieG hm gs x y) := by
    repeat wtm_at "qkt"
    refine ⟨_, L3, ?_⟩
    unfold tieG
    rw [if_neg q, Array.toList_setIfInBounds, Array.toList_setIfInBounds]
    refine All2.set (All2.set (N.mono fun v l ⟨a, e1, n1, us, kk, ea, Na⟩ => ⟨a, e1, n1, us, kk, V.sub _ _ ea, Na⟩) _ ?_) _ ?_
    ·refine ⟨nx, rfl, ?_, _, _, (V.nw (nx, listOf (xs ++ ys) 0) (by wtm_at "qmem")).1, ?_⟩
     ·exact hfresh nx (V.nw (nx, listOf (xs ++ ys) 0) (by wtm_at "qmem")).2.2 na.2.1.1 na.2.1.2
     ·rw [Array.toList_append]; exact Nax.append Nay
    ·refine ⟨ne, rfl, ?_, #[], 0, (V.nw (ne, listOf #[] 0) (by wtm_at "qmem")).1, .nil⟩
     exact hfresh ne (V.nw (ne, listOf #[] 0) (by wtm_at "qmem")).2.2 na.1.2.1 na.1.2.2
   have := k oH' oG3 t9 h13 hfin hK (kk V) (V.nw (ha, oH') (by wtm_at "qmem")).1 (V.nw (ga, oG3) (by wtm_at "qmem")).1
   rw [show (hm x != hm y) = true by simp [q]] at this
   exact this
end
end
section
noncomputable def GroupsL (X : List Addr) (b : Heap) (kt : List (Addr × Obj)) (oG : Obj) (gs : List (List Nat)) : Prop :=
 ∃ vs, LOf oG vs ∧ All2 (fun v l => ∃ a us k, v = .ref a ∧ a ∉ X ∧ Nums us.toList l ∧ At b kt a (listOf us k)) vs.toList gs
section
variable {w : World} {b h : Heap} {env : Env} {l l' : List (Str × Option Value)} {σ pre kt : List (Addr × Obj)} {ks : List (Str × NameKind)} {A : Around} {g : Array GenState} {d : Drawn} {t : Nat} {o : OsState} {X : List Addr} {oG : Obj} {gs : List (List Nat)}
theorem Fm.all (V : Fm b env h l σ) : ∃ kt, Fm b env h l (σ ++ kt) ∧ ∀ a o, h.get? a = some o → a ≠ env.locals → a ∉ σ.map (·.1) → (a, o) ∈ kt ∨ b.get? a = some o := by
 classical
 obtain ⟨m, F, hm⟩ := V.fr
 let p : Nat → Bool := fun a => decide (a ≠ env.locals ∧ a ∉ σ.map (·.1) ∧ b.get? a = none ∧ (h.get? a).isSome = true)
 refine ⟨((List.range h.objs.size).filter p).map fun a => (a, (h.get? a).getD (tupOf [])), ⟨⟨m, F, hm⟩, fun q hq => ?_, V.nd, ?_⟩, fun a oo ea hL hσ => ?_⟩
 ·rcases List.mem_append.mp hq with hq | hq
  ·exact V.nw q hq
  ·obtain ⟨a, ha, rfl⟩ := List.mem_map.mp hq
   have hp := of_decide_eq_true (List.mem_filter.mp ha).2
   obtain ⟨oo, ho⟩ := Option.isSome_iff_exists.mp hp.2.2.2
   refine ⟨?_, hp.1, hp.2.2.1⟩
   show h.get? a = some ((h.get? a).getD (tupOf []))
   rw [ho]; rfl
 ·rw [List.map_append]
  refine List.nodup_append.mpr ⟨V.na, ?_, ?_⟩
  ·rw [List.map_map]
   have : ((fun x : Addr × Obj => x.1) ∘ fun a : Nat => ((a, (h.get? a).getD (tupOf [])) : Addr × Obj)) = id := rfl
   rw [this, List.map_id]
   exact List.nodup_range.filter _
  ·intro a ha c hc e
   obtain ⟨q, hq, rfl⟩ := List.mem_map.mp hc
   obtain ⟨a', ha', rfl⟩ := List.mem_map.mp hq
   have hp := of_decide_eq_true (List.mem_filter.mp ha').2
   exact hp.2.1 (by rw [show a' = a from e.symm]; exact ha)
 ·cases hb : b.get? a with
  | some o2 =>
   have := V.sub _ _ hb
   rw [ea] at this; cases this
   exact .inr rfl
  | none =>
   refine .inl (List.mem_map.mpr ⟨a, List.mem_filter.mpr ⟨List.mem_range.mpr (Heap.lt_size ea), decide_eq_true ⟨hL, hσ, hb, by rw [ea]; rfl⟩⟩, ?_⟩)
   show (a, (h.get? a).getD (tupOf [])) = (a, oo)
   rw [ea]; rfl
theorem GroupsL.toH (K : GroupsL X b kt oG gs) (V : Fm b env h l (pre ++ kt)) : GroupsH (env.locals :: pre.map (·.1) ++ X) h oG gs := by
 obtain ⟨vs, L, N⟩ := K
 refine ⟨vs, L, N.mono fun v l ⟨a, us, k, e, n, Na, H⟩ => ⟨a, e, fun q => ?_, us, k, V.at (H.imp (fun m => List.mem_append_right _ m) id), Na⟩⟩
 rcases List.mem_cons.mp q with q | q
 ·rcases H with H | H
  ·exact (V.nw _ (List.mem_append_right _ H)).2.1 q
  ·have := V.size_le
   rw [q, below_none this] at H; cases H
 ·rcases List.mem_append.mp q with q | q
  ·rcases H with H | H
   ·have na := V.na
    rw [List.map_append] at na
    exact (List.nodup_append.mp na).2.2 _ q _ (List.mem_map_of_mem (f := (·.1)) H) rfl
   ·obtain ⟨p, hp, rfl⟩ := List.mem_map.mp q
    rw [(V.nw p (List.mem_append_left _ hp)).2.2] at H; cases H
  ·exact n q
theorem GroupsH.toL (K : GroupsH (env.locals :: pre.map (·.1) ++ X) h oG gs) (V : Fm b env h l pre) : ∃ kt, Fm b env h l (pre ++ kt) ∧ GroupsL X b kt oG gs := by
 obtain ⟨kt, V', hall⟩ := V.all
 obtain ⟨vs, L, N⟩ := K
 refine ⟨kt, V', vs, L, N.mono fun v l ⟨a, e, n, us, k, ea, Na⟩ => ?_⟩
 rw [List.cons_append, List.mem_cons, List.mem_append, not_or, not_or] at n
 exact ⟨a, us, k, e, n.2.2, Na, hall a _ ea n.1 n.2.1⟩
theorem GroupsH.less {Y : List Addr} (K : GroupsH X h oG gs) (h' : ∀ c ∈ Y, c ∈ X) : GroupsH Y h oG gs :=
 let ⟨vs, L, N⟩ := K; ⟨vs, L, N.mono fun v l ⟨a, e, n, r⟩ => ⟨a, e, fun q => n (h' a q), r⟩⟩
theorem GroupsH.base (K : GroupsH X h oG gs) {C : List Addr} (s : Kept C h b) (hC : ∀ c ∈ C, c ∈ X) : GroupsL X b [] oG gs :=
 let ⟨vs, L, N⟩ := K.kept s fun c hc => .inl (hC c hc)
 ⟨vs, L, N.mono fun v l ⟨a, e, n, us, k, ea, Na⟩ => ⟨a, us, k, e, n, Na, .inr ea⟩⟩
theorem Fm.two {h' : Heap} {ha ga : Addr} {oH oG oH' oG' : Obj} (V : Fm b env h l (pre ++ (ha, oH) :: (ga, oG) :: kt)) (s : Kept [ha, ga] h h') (e1 : h'.get? ha = some oH') (e2 : h'.get? ga = some oG') : Fm b env h' l (pre ++ [(ha, oH'), (ga, oG')]) := by
 have na := V.na
 rw [List.map_append, List.map_cons, List.map_cons] at na
 have n1 := List.nodup_append.mp na
 have m1 := V.nw (ha, oH) (List.mem_append_right _ (.head _))
 have m2 := V.nw (ga, oG) (List.mem_append_right _ (.tail _ (.head _)))
 refine V.step (C := [ha, ga]) s (fun c hc => ?_) (fun p hp => ?_) ?_
 ·first | replace hc := in1 hc | replace hc := in2 hc | replace hc := in3 hc | replace hc := in4 hc | replace hc := in5 hc | simp only [List.mem_cons, List.not_mem_nil, or_false] at hc
  rcases hc with rfl | rfl
  ·exact ⟨m1.2.2, m1.2.1⟩
  ·exact ⟨m2.2.2, m2.2.1⟩
 ·rcases List.mem_append.mp hp with hp | hp
  ·refine .inl ⟨List.mem_append_left _ hp, fun q => ?_⟩
   first | replace q := in1 q | replace q := in2 q | replace q := in3 q | replace q := in4 q | replace q := in5 q | simp only [List.mem_cons, List.not_mem_nil, or_false] at q
   rcases q with q | q
   ·exact n1.2.2 _ (List.mem_map_of_mem (f := (·.1)) hp) _ (.head _) q
   ·exact n1.2.2 _ (List.mem_map_of_mem (f := (·.1)) hp) _ (.tail _ (.head _)) q
  ·first | replace hp := in1 hp | replace hp := in2 hp | replace hp := in3 hp | replace hp := in4 hp | replace hp := in5 hp | simp only [List.mem_cons, List.not_mem_nil, or_false] at hp
   rcases hp with rfl | rfl
   ·exact .inr ⟨e1, m1.2.2, m1.2.1⟩
   ·exact .inr ⟨e2, m2.2.2, m2.2.1⟩
 ·rw [List.map_append]
  refine na.sublist (List.Sublist.append_left ?_ _)
  exact ((List.nil_sublist _).cons₂ _).cons₂ _
theorem Fm.tied {h' : Heap} {ha ga : Addr} {oH oG oH' oG' : Obj} (V : Fm b env h l (pre ++ (ha, oH) :: (ga, oG) :: kt)) (s : Kept [ha, ga] h h') (e1 : h'.get? ha = some oH') (e2 : h'.get? ga = some oG')
  (K : GroupsH (env.locals :: (pre ++ [(ha, oH'), (ga, oG')]).map (·.1) ++ X) h' oG' gs) : ∃ kt', Fm b env h' l (pre ++ (ha, oH') :: (ga, oG') :: kt') ∧ GroupsL X b kt' oG' gs := by
 obtain ⟨kt', V', K'⟩ := K.toL (V.two s e1 e2)
 refine ⟨kt', ?_, K'⟩
 rw [List.append_assoc] at V'
 exact V'
theorem Fm.isSome (V : Fm b env h l σ) {Y : List Addr} (hY : ∀ c ∈ Y, (b.get? c).isSome = true ∨ c ∈ σ.map (·.1) ∨ c = env.locals) : ∀ c ∈ Y, (h.get? c).isSome = true := fun c hc => by
 rcases hY c hc with q | q | q
 ·obtain ⟨oc, e⟩ := Option.isSome_iff_exists.mp q
  rw [V.sub _ _ e]; rfl
 ·obtain ⟨p, hp, rfl⟩ := List.mem_map.mp q
  rw [(V.nw p hp).1]; rfl
 ·obtain ⟨m, F, _⟩ := V.fr
  obtain ⟨oL, _, _, hL, _⟩ := F.ns
  rw [q, hL]; rfl
theorem r_asgt {elts : List Expr} {n : Nat} {tpos pos : Pos} {value : Expr} {Q : Flow → Shared → Prop} (k : wpAny (model PR w) A (eval value env) (fun v s₁ => wpAny (model PR w) A (assign (.Tuple elts n tpos) env v) (fun _ => Q .next) Never s₁) Never ⟨h, g, d, t, o⟩)
  (hs : swapsWithSole [.Tuple elts n tpos] value pos.line env = pure false := by with_unfolding_all rfl) (hw : swappedStores [.Tuple elts n tpos] value env = pure none := by with_unfolding_all rfl) :
  wpAny (model PR w) A (exec (.Assign [.Tuple elts n tpos] value pos) env) Q Never ⟨h, g, d, t, o⟩ := Assign_Tuple k hs hw
theorem r_target4 {x y z u : Str} {p1 p2 p3 p4 tp : Pos} {n : Nat} {a : Addr} {v1 v2 v3 v4 : Value} {Q : Unit → Shared → Prop} (hh : A.handled = none) (ha : h.get? a = some (tupOf [v1, v2, v3, v4]))
  (k : Later ⟨h, g, d, t, o⟩ fun s₁ => wpAny (model PR w) A (storeName env x v1) (fun _ s₂ => wpAny (model PR w) A (storeName env y v2) (fun _ s₃ => wpAny (model PR w) A (storeName env z v3) (fun _ s₄ => wpAny (model PR w) A (storeName env u v4) Q Never s₄) Never s₃) Never s₂) Never s₁) :
  wpAny (model PR w) A (assign (.Tuple [.Name x p1, .Name y p2, .Name z p3, .Name u p4] n tp) env (.ref a)) Q Never ⟨h, g, d, t, o⟩ := by
 refine wpAny_assign_Tuple (s := ⟨h, g, d, t, o⟩) (items := [v1, v2, v3, v4].toArray) hh ⟨_, ha, rfl, 0, rfl⟩ rfl rfl fun h' he => ?_
 refine wpAny_assignInOrder_more (wpAny_assign_Name (wpAny_mono (k h' t (ext_sub he)) (fun _ s₂ q => ?_) fun _ _ q => q))
 refine wpAny_assignInOrder_more (wpAny_assign_Name (wpAny_mono q (fun _ s₃ q => ?_) fun _ _ q => q))
 refine wpAny_assignInOrder_more (wpAny_assign_Name (wpAny_mono q (fun _ s₄ q => ?_) fun _ _ q => q))
 exact wpAny_assignInOrder_more (wpAny_assign_Name (wpAny_mono q (fun _ _ q => wpAny_assignInOrder_none q) fun _ _ q => q))
end
structure HS where
 hm : Nat → Nat
 n : Nat
noncomputable def tieS (S : HS) (x y : Nat) : HS := ⟨tie S.hm x y, S.n + if S.hm x = S.hm y then 0 else 1⟩
noncomputable def notS (S : HS) (p x one other : Nat) : HS :=
 let S1 := if S.hm p = S.hm one then tieS S x other else S
 if S1.hm x = S1.hm one then tieS S1 p other else S1
noncomputable def eqS (m : Tm) (x : Nat) (S : HS) : HS := if m.op = "=" ∧ S.hm (m.args.getD 0 0) = S.hm (m.args.getD 1 0) then tieS S x 1 else S
noncomputable def truthsS (m : Tm) (x : Nat) (S : HS) : HS :=
 if m.op = "not" then notS (notS (eqS m x S) (m.args.getD 0 0) x 1 2) (m.args.getD 0 0) x 2 1 else eqS m x S
end
section
open Classical
noncomputable def truthsA (ts : List Tm) (S : HS) (x : Nat) : HS := ⟨(truthsS (tmAt ts x) x ⟨S.hm, 0⟩).hm, S.n + (truthsS (tmAt ts x) x ⟨S.hm, 0⟩).n⟩
noncomputable def PairC (ts : List Tm) (hm : Nat → Nat) (t u : Nat) : Prop :=
 hm t ≠ hm u ∧ (tmAt ts t).op = (tmAt ts u).op ∧ (tmAt ts t).data = (tmAt ts u).data ∧ ((tmAt ts t).args.map hm = (tmAt ts u).args.map hm ∨ ((tmAt ts t).op = "=" ∧ (tmAt ts t).args.map hm = ((tmAt ts u).args.map hm).reverse))
noncomputable def pairS (ts : List Tm) (S : HS) (t u : Nat) : HS := if PairC ts S.hm t u then tieS S t u else S
noncomputable def rowS (ts : List Tm) (built : List Nat) (k : Nat) (js : List Nat) (S : HS) : HS := js.foldl (fun S j => pairS ts S (built.getD k 0) (built.getD j 0)) S
noncomputable def allS (ts : List Tm) (built : List Nat) (kl : List Nat) (S : HS) : HS := kl.foldl (fun S k => rowS ts built k (List.range k) S) S
noncomputable def firstS (ts : List Tm) (l : List Nat) (hm : Nat → Nat) : HS := l.foldl (truthsA ts) ⟨hm, 0⟩
noncomputable def passH (ts : List Tm) (built : List Nat) (hm : Nat → Nat) : HS := allS ts built (List.range built.length) (firstS ts built hm)
inductive HCloseR (ts : List Tm) (built : List Nat) : (Nat → Nat) → (Nat → Nat) → Prop
 | last {hm} : (passH ts built hm).n = 0 → HCloseR ts built hm (passH ts built hm).hm
 | more {hm hm'} : (passH ts built hm).n ≠ 0 → HCloseR ts built (passH ts built hm).hm hm' → HCloseR ts built hm hm'
noncomputable def usedN (terms : List Nat) (hm : Nat → Nat) : Nat := ((List.range 1000).filter fun k => decide (∃ t ∈ terms, hm t = k)).length
theorem filter_lt {l : List Nat} {p q : Nat → Bool} (h : ∀ x, q x = true → p x = true) {y : Nat} (hy : y ∈ l) (h1 : p y = true) (h2 : q y = false) : (l.filter q).length < (l.filter p).length := by
 induction l with
 | nil => cases hy
 | cons a r ih =>
  have le : (r.filter q).length ≤ (r.filter p).length := by
   clear ih hy
   induction r with
   | nil => exact Nat.le_refl _
   | cons b s ih =>
    rw [List.filter_cons, List.filter_cons]
    by_cases hb : q b = true
    ·rw [if_pos hb, if_pos (h b hb)]; simpa using ih
    ·rw [if_neg hb]
     split
     ·exact Nat.le_succ_of_le ih
     ·exact ih
  rw [List.filter_cons, List.filter_cons]
  by_cases ha : q a = true
  ·rw [if_pos ha, if_pos (h a ha)]
   rcases List.mem_cons.mp hy with rfl | hy
   ·rw [h2] at ha; cases ha
   ·simpa using ih hy
  ·rw [if_neg ha]
   rcases List.mem_cons.mp hy with rfl | hy
   ·rw [if_pos h1]; exact Nat.lt_succ_of_le le
   ·have := ih hy
    split
    ·exact Nat.lt_succ_of_lt this
    ·exact this
theorem usedN_tie {terms : List Nat} {hm : Nat → Nat} {x y : Nat} (hx : x ∈ terms) (hy : y ∈ terms) (hz : hm y < 1000) (h : hm x ≠ hm y) : usedN terms (tie hm x y) < usedN terms hm := by
 unfold usedN
 refine filter_lt (y := hm y) (fun k hk => ?_) (List.mem_range.mpr hz) (decide_eq_true ⟨y, hy, rfl⟩) (decide_eq_false ?_)
 ·obtain ⟨t, ht, e⟩ := of_decide_eq_true hk
  unfold tie at e
  rw [if_neg h] at e
  refine decide_eq_true ?_
  split at e
  ·exact ⟨x, hx, e⟩
  ·exact ⟨t, ht, e⟩
 ·rintro ⟨t, ht, e⟩
  unfold tie at e
  rw [if_neg h] at e
  split at e
  ·exact h e
  ·rename_i hn; exact hn e
structure HsOk (terms : List Nat) (u0 : Nat) (S : HS) : Prop where
 lt : ∀ t ∈ terms, S.hm t < 1000
 us : usedN terms S.hm + S.n ≤ u0
theorem HsOk.tie {terms : List Nat} {u0 : Nat} {S : HS} (K : HsOk terms u0 S) {x y : Nat} (hx : x ∈ terms) (hy : y ∈ terms) : HsOk terms u0 (tieS S x y) := by
 unfold tieS
 by_cases q : S.hm x = S.hm y
 ·have e : Mine.tie S.hm x y = S.hm := if_pos q
  rw [e, if_pos q]; exact K
 ·refine ⟨fun t ht => ?_, ?_⟩
  ·show Mine.tie S.hm x y t < 1000
   unfold Mine.tie
   rw [if_neg q]
   split
   ·exact K.lt x hx
   ·exact K.lt t ht
  ·have := usedN_tie hx hy (K.lt y hy) q
   have := K.us
   show usedN terms (Mine.tie S.hm x y) + (S.n + _) ≤ u0
   rw [if_neg q]; (first | lia | omega)
theorem HsOk.notS {terms : List Nat} {u0 : Nat} {S : HS} (K : HsOk terms u0 S) {p x a c : Nat} (hp : p ∈ terms) (hx : x ∈ terms) (ha : a ∈ terms) (hc : c ∈ terms) : HsOk terms u0 (notS S p x a c) := by
 unfold Mine.notS
 have K1 : HsOk terms u0 (if S.hm p = S.hm a then tieS S x c else S) := by
  split
  ·exact K.tie hx hc
  ·exact K
 dsimp only
 generalize (if S.hm p = S.hm a then tieS S x c else S) = S1 at K1 ⊢
 split
 ·exact K1.tie hp hc
 ·exact K1
structure BuiltOk (ts : List Tm) (terms built : List Nat) : Prop where
 sub : ∀ x ∈ built, x ∈ terms
 args : ∀ x ∈ built, (tmAt ts x).args ≠ []
 data : ∀ x ∈ built, ∃ i, (tmAt ts x).data = .i i
theorem tmAt_of {ts : List Tm} {x : Nat} {m : Tm} (h : ts[x]? = some m) : tmAt ts x = m := by unfold tmAt; rw [List.getD_eq_getElem?_getD, h]; rfl
theorem HsOk.truths {ts : List Tm} {terms : List Nat} {u0 : Nat} {S : HS} (W : WfT ts terms) (K : HsOk terms u0 S) {x : Nat} (hx : x ∈ terms) (hn : (tmAt ts x).args ≠ []) : HsOk terms u0 (truthsS (tmAt ts x) x S) := by
 obtain ⟨_, m, hm, ha, _⟩ := W.tm x hx
 rw [tmAt_of hm] at hn ⊢
 have hp : m.args.getD 0 0 ∈ terms := by
  match h : m.args, hn with
  | p :: r, _ => exact ha p (by rw [h]; exact .head _)
 have K1 : HsOk terms u0 (eqS m x S) := by
  unfold eqS; split
  ·exact K.tie hx W.one
  ·exact K
 unfold truthsS
 split
 ·exact (K1.notS hp hx W.one W.two).notS hp hx W.two W.one
 ·exact K1
theorem HsOk.truthsA {ts : List Tm} {terms : List Nat} {u0 : Nat} {S : HS} (W : WfT ts terms) (K : HsOk terms u0 S) {x : Nat} (hx : x ∈ terms) (hn : (tmAt ts x).args ≠ []) : HsOk terms u0 (truthsA ts S x) := by
 have K0 : HsOk terms (u0 - S.n) ⟨S.hm, 0⟩ := ⟨K.lt, by have := K.us; show usedN terms S.hm + 0 ≤ _; (first | lia | omega)⟩
 have K1 := K0.truths W hx hn
 refine ⟨K1.lt, ?_⟩
 have h1 := K1.us
 have h2 := K.us
 show usedN terms (truthsS (tmAt ts x) x ⟨S.hm, 0⟩).hm + (S.n + (truthsS (tmAt ts x) x ⟨S.hm, 0⟩).n) ≤ u0
 (first | lia | omega)
theorem HsOk.first {ts : List Tm} {terms : List Nat} {u0 : Nat} (W : WfT ts terms) : ∀ (l : List Nat) {S : HS}, HsOk terms u0 S → (∀ x ∈ l, x ∈ terms ∧ (tmAt ts x).args ≠ []) → HsOk terms u0 (l.foldl (Mine.truthsA ts) S)
 | [], S, K, _ => K
 | x :: r, S, K, h => HsOk.first W r (K.truthsA W (h x (.head _)).1 (h x (.head _)).2) fun y hy => h y (.tail _ hy)
theorem HsOk.pair {ts : List Tm} {terms : List Nat} {u0 : Nat} {S : HS} (K : HsOk terms u0 S) {x y : Nat} (hx : x ∈ terms) (hy : y ∈ terms) : HsOk terms u0 (pairS ts S x y) := by
 unfold pairS; split
 ·exact K.tie hx hy
 ·exact K
theorem getD_mem {l : List Nat} {k : Nat} (h : k < l.length) : l.getD k 0 ∈ l := by
 rw [List.getD_eq_getElem?_getD, List.getElem?_eq_getElem h]; exact List.getElem_mem h
theorem HsOk.row {ts : List Tm} {terms built : List Nat} {u0 : Nat} {k : Nat} (hb : ∀ x ∈ built, x ∈ terms) (hk : k < built.length) : ∀ (js : List Nat) {S : HS}, HsOk terms u0 S → (∀ j ∈ js, j < built.length) → HsOk terms u0 (rowS ts built k js S)
 | [], S, K, _ => K
 | j :: r, S, K, h => HsOk.row hb hk r (K.pair (hb _ (getD_mem hk)) (hb _ (getD_mem (h j (.head _))))) fun y hy => h y (.tail _ hy)
theorem HsOk.all {ts : List Tm} {terms built : List Nat} {u0 : Nat} (hb : ∀ x ∈ built, x ∈ terms) : ∀ (kl : List Nat) {S : HS}, HsOk terms u0 S → (∀ k ∈ kl, k < built.length) → HsOk terms u0 (allS ts built kl S)
 | [], S, K, _ => K
 | k :: r, S, K, h => HsOk.all hb r (HsOk.row hb (h k (.head _)) (List.range k) K fun j hj => Nat.lt_trans (List.mem_range.mp hj) (h k (.head _))) fun y hy => h y (.tail _ hy)
theorem passH_ok {ts : List Tm} {terms built : List Nat} (W : WfT ts terms) (B : BuiltOk ts terms built) {hm : Nat → Nat} (h : ∀ t ∈ terms, hm t < 1000) : HsOk terms (usedN terms hm) (passH ts built hm) :=
 HsOk.all B.sub _ (HsOk.first W built (S := ⟨hm, 0⟩) ⟨h, Nat.le_refl _⟩ fun x hx => ⟨B.sub x hx, B.args x hx⟩) fun k hk => List.mem_range.mp hk
theorem firstS_snoc (ts : List Tm) (l : List Nat) (x : Nat) (hm : Nat → Nat) : firstS ts (l ++ [x]) hm = truthsA ts (firstS ts l hm) x := by unfold firstS; rw [List.foldl_append]; rfl
theorem rowS_succ (ts : List Tm) (built : List Nat) (k j : Nat) (S : HS) : rowS ts built k (List.range (j + 1)) S = pairS ts (rowS ts built k (List.range j) S) (built.getD k 0) (built.getD j 0) := by unfold rowS; rw [List.range_succ, List.foldl_append]; rfl
theorem allS_succ (ts : List Tm) (built : List Nat) (k : Nat) (S : HS) : allS ts built (List.range (k + 1)) S = rowS ts built k (List.range k) (allS ts built (List.range k) S) := by unfold allS; rw [List.range_succ, List.foldl_append]; rfl
end
section
noncomputable def fn477 : FnAt 477 := ⟨_, _, _, _, fun _ => rfl, fun _ => by kernel_rfl⟩
theorem addb_nat (n : Nat) (a c : Nat) : ((n : Int) + if (a != c) = true then (1 : Int) else 0) = ((n + if a = c then 0 else 1 : Nat) : Int) := by
 by_cases q : a = c
 ·simp [q]
 ·simp [q]
theorem addb_zero (a c : Nat) : ((0 : Int) + if (a != c) = true then (1 : Int) else 0) = ((0 + if a = c then 0 else 1 : Nat) : Int) := addb_nat 0 a c
section
variable {w : World} {b₀ b h : Heap} {env : Env} {l : List (Str × Option Value)} {A : Around} {g : Array GenState} {d : Drawn} {t : Nat} {o : OsState} {B : BankL} {ts : List Tm} {n : Nat} {Q : Value → Shared → Prop} {X : List Addr} {ga ha : Addr} {oG oH : Obj} {terms : List Nat} {hm : Nat → Nat} {gs : List (List Nat)} {z : Nat}
theorem tied_in {pre kt : List (Addr × Obj)} {x y : Nat} {v u : Value} (G : Gd w b) (R : Rm A (n + 1)) (V : Fm b env h l (pre ++ (ha, oH) :: (ga, oG) :: kt)) (hX : ∀ c ∈ X, (b.get? c).isSome = true ∨ c = ha ∨ c = ga) (M : NMap w IsN oH (onT terms hm) z) (hz : z ≤ 1000) (K : GroupsL X b kt oG gs) (O : GOk terms hm gs)
  (hv : IsN v x) (hu : IsN u y) (hx : x ∈ terms) (hy : y ∈ terms)
  (k : ∀ oH' oG' kt' t' h', Fm b env h' l (pre ++ (ha, oH') :: (ga, oG') :: kt') → NMap w IsN oH' (onT terms (tie hm x y)) z → GroupsL X b kt' oG' (tieG hm gs x y) → GOk terms (tie hm x y) (tieG hm gs x y) → Q (.bool (hm x != hm y)) ⟨h', g, d, t', o⟩) :
  wpAny (model PR w) A (call (.ref 470) [.ref ga, .ref ha, v, u]) Q Never ⟨h, g, d, t, o⟩ := by
 have m1 := V.nw (ha, oH) (List.mem_append_right _ (.head _))
 have m2 := V.nw (ga, oG) (List.mem_append_right _ (.tail _ (.head _)))
 have na := V.na
 rw [List.map_append, List.map_cons, List.map_cons] at na
 have n2 := (List.nodup_append.mp na).2.1
 rw [List.nodup_cons] at n2
 have hne : ha ≠ ga := fun e => n2.1 (e ▸ .head _)
 have V' : Fm b env h l ((pre ++ [(ha, oH), (ga, oG)]) ++ kt) := by rw [List.append_assoc]; exact V
 have KH := K.toH V'
 refine tied_ok (X := env.locals :: (pre ++ [(ha, oH), (ga, oG)]).map (·.1) ++ X) (z := z) G V.sub R m1.1 m2.1 m1.2.2 m2.2.2 hne ?_ ?_ ?_ M hz KH O hv hu hx hy ?_
 ·refine V.isSome fun c hc => ?_
  rw [List.cons_append, List.mem_cons, List.mem_append] at hc
  rcases hc with q | q | q
  ·exact .inr (.inr q)
  ·refine .inr (.inl ?_)
   rw [List.map_append] at q ⊢
   rcases List.mem_append.mp q with q | q
   ·exact List.mem_append_left _ q
   ·refine List.mem_append_right _ ?_
    simp only [List.map_cons, List.map_nil, List.mem_cons, List.not_mem_nil, or_false] at q ⊢
    rcases q with q | q
    ·exact .inl q
    ·exact .inr (.inl q)
  ·rcases hX c q with q | q | q
   ·exact .inl q
   ·exact .inr (.inl (by rw [q, List.map_append]; exact List.mem_append_right _ (.head _)))
   ·exact .inr (.inl (by rw [q, List.map_append]; exact List.mem_append_right _ (.tail _ (.head _))))
 ·simp
 ·simp
 ·intro oH' oG' t' h' M' K' s e1 e2
  obtain ⟨kt', V3, K3⟩ := V.tied (X := X) (gs := tieG hm gs x y) s e1 e2 (by simpa using K')
  repeat wtm_at "qkt"
  exact k oH' oG' kt' t' h' V3 M' K3 (O.tie hx hy)
theorem truths_ok {cc : Heap} {x : Nat} {m : Tm} {v : Value} (G : Gd w b₀) (S : Sub b₀ h) (R : Rm A (n + 5)) (hH : h.get? ha = some oH) (hG : h.get? ga = some oG) (b1 : b₀.get? ha = none) (b2 : b₀.get? ga = none) (hne : ha ≠ ga) (hX : ∀ c ∈ X, (h.get? c).isSome = true) (hXa : ha ∈ X) (hXg : ga ∈ X)
  (BK : BankR cc B ts) (Sc : Sub cc h) (c1 : cc.get? ha = none) (c2 : cc.get? ga = none) (M : NMap w IsN oH (onT terms hm) z) (hz : z ≤ 1000) (K : GroupsH X h oG gs) (O : GOk terms hm gs) (hv : IsN v x) (hx : x ∈ terms) (hy1 : 1 ∈ terms) (hy2 : 2 ∈ terms) (hmt : ts[x]? = some m) (hxz : x < 1000) (hargs : ∀ a ∈ m.args, a ∈ terms) (hne0 : m.args ≠ []) (hl64 : m.args.length < 64) (heq : m.op = "=" → m.args.length = 2)
  (k : ∀ oH' oG' gs' u t' h', NMap w IsN oH' (onT terms (truthsS m x ⟨hm, 0⟩).hm) z → GroupsH X h' oG' gs' → GOk terms (truthsS m x ⟨hm, 0⟩).hm gs' → Kept [ha, ga] h h' → h'.get? ha = some oH' → h'.get? ga = some oG' → Q (.int ((truthsS m x ⟨hm, 0⟩).n : Nat) u) ⟨h', g, d, t', o⟩) :
  wpAny (model PR w) A (call (.ref 477) [.ref B.x, .ref ga, .ref ha, v]) Q Never ⟨h, g, d, t, o⟩ := by
 refine enter fn477 [("bank", .ref B.x), ("groups", .ref ga), ("home", .ref ha), ("t", v)] ["bank", "groups", "home", "t"] ["yes", "no", "part", "new", "one", "other"] [("bank", some (.ref B.x)), ("groups", some (.ref ga)), ("home", some (.ref ha)), ("t", some v), ("yes", none), ("no", none), ("part", none), ("new", none), ("one", none), ("other", none)] [(ha, oH), (ga, oG)] G S R rfl rfl rfl rfl (by decide +kernel) (by decide +kernel) (by decide +kernel) (fun p hp => by
  first | replace hp := in1 hp | replace hp := in2 hp | replace hp := in3 hp | replace hp := in4 hp | replace hp := in5 hp | simp only [List.mem_cons, List.not_mem_nil, or_false] at hp
  rcases hp with rfl | rfl
  ·exact ⟨hH, b1⟩
  ·exact ⟨hG, b2⟩) (by first | exact hne | simpa using hne) (fun b env h' t' G' Sb Sh Kb Lo Sh' e V R' => ?_)
 have kb : Kept [ha, ga] h b := fun a o e n => Kb a o e (by first | exact n | simpa using n)
 have hX2 : ∀ c ∈ [ha, ga], c ∈ X := fun c hc => by
  first | replace hc := in1 hc | replace hc := in2 hc | replace hc := in3 hc | replace hc := in4 hc | replace hc := in5 hc | simp only [List.mem_cons, List.not_mem_nil, or_false] at hc
  rcases hc with rfl | rfl <;> assumption
 have hXb : ∀ c ∈ X, (b.get? c).isSome = true ∨ c = ha ∨ c = ga := fun c hc => by
  by_cases q1 : c = ha
  ·exact .inr (.inl q1)
  ·by_cases q2 : c = ga
   ·exact .inr (.inr q2)
   ·obtain ⟨oc, hoc⟩ := Option.isSome_iff_exists.mp (hX c hc)
    rw [kb _ _ hoc (by simp [q1, q2])]; exact .inl rfl
 have K0 : GroupsL X b [] oG gs := K.base kb hX2
 have kk : ∀ {l : List (Str × Option Value)} {σ : List (Addr × Obj)} {h'' : Heap}, Fm b env h'' l σ → Kept [ha, ga] h h'' := fun V => kept_of (C := [ha, ga]) (fun a o e n => kb a o e n) V
 have BK' : BankR b B ts := BK.sub fun a oo ea => kb a oo (Sc _ _ ea) fun q => by
  first | replace q := in1 q | replace q := in2 q | replace q := in3 q | replace q := in4 q | replace q := in5 q | simp only [List.mem_cons, List.not_mem_nil, or_false] at q
  rcases q with rfl | rfl
  ·rw [c1] at ea; cases ea
  ·rw [c2] at ea; cases ea
 have J := BK'.self
 obtain ⟨p, ar, hpa⟩ : ∃ p ar, m.args = p :: ar := List.exists_cons_of_ne_nil hne0
 have hp : p ∈ terms := hargs p (by rw [hpa]; exact .head _)
 have hgd : m.args.getD 0 0 = p := by rw [hpa]; rfl
 repeat wtm_at "qkt"
 refine r_consK fun _ _ => r_asgt ?_
 wtm_at "qgo"
 refine true_ok G' V.sub R' (BK'.sub V.sub) ?_
 intro u1 t1 h1 s1
 replace V := V.mono s1
 wtm_at "qgo"
 refine false_ok G' V.sub R' (BK'.sub V.sub) ?_
 intro u2 t2 h2 s2
 replace V := V.mono s2
 wtm_at "qgo"
 refine ⟨V.sub, ?_⟩
 refine args_ok2 G' V.sub R' BK' V.sub hv hmt hxz ?_
 intro pa t3 h3 hpt s3
 replace V := V.mono s3
 obtain ⟨us, epa, Nus⟩ := hpt
 wtm_at "qgo"
 obtain ⟨pv, hpv, Ip⟩ := Nus.get (i := 0) (y := p) (by rw [hpa]; rfl)
 refine r_item_tup (i := 0) (V.sub _ _ epa) hpv (by rw [Nus.length]; (first | lia | omega)) ?_
 wtm_at "qgo"
 refine r_newtuple V ?_; clear V; intro a0 h4 lo4 s4 V
 refine r_target4 R'.h (V.nw (a0, _) (.head _)).1 (later fun h5 t5 s5 => ?_)
 replace V := (V.mono s5).tail
 wtm_at "qst"; clear V; intro h6 t6 V
 wtm_at "qst"; clear V; intro h7 t7 V
 wtm_at "qst"; clear V; intro h8 t8 V
 wtm_at "qst"; clear V; intro h9 t9 V
 have hcut : ∀ {kt : List (Addr × Obj)}, Kept [ha, ga] h h → True := fun _ => trivial
 let Jx1 : Shared → Prop := fun s => Ex7 fun h t oH' oG' gs' kt u => Al5 (s = ⟨h, g, d, t, o⟩) (Fm b env h [("bank", some (.ref B.x)), ("groups", some (.ref ga)), ("home", some (.ref ha)), ("t", some v), ("yes", some (.int 1 u1)), ("no", some (.int 2 u2)), ("part", some pv), ("new", some (.int ((eqS m x ⟨hm, 0⟩).n : Nat) u)), ("one", none), ("other", none)] ((ha, oH') :: (ga, oG') :: kt)) (NMap w IsN oH' (onT terms (eqS m x ⟨hm, 0⟩).hm) z) (GroupsL X b kt oG' gs') (GOk terms (eqS m x ⟨hm, 0⟩).hm gs')
 repeat wtm_at "qkt"
 refine r_consJK Jx1 (fun _ _ => ?_) ?_
 ·have same : ∀ {q : ¬ (m.op = "=" ∧ hm (m.args.getD 0 0) = hm (m.args.getD 1 0))}, eqS m x ⟨hm, 0⟩ = ⟨hm, 0⟩ := fun {q} => if_neg q
  wtm_at "qgo"
  refine ⟨V.sub, ?_⟩
  refine op_ok G' V.sub R' (BK'.sub V.sub) hv hmt hxz ?_
  intro u10 t10 h10 s10
  replace V := V.mono s10
  wtm_at "qgo"
  by_cases q : m.op = "="
  ·first | refine ite_t (beq_iff_eq.mpr q) ?_ | rw [if_pos (beq_iff_eq.mpr q)]
   obtain ⟨p1, hp1⟩ : ∃ p1, m.args = [p, p1] := by
    have := heq q
    rw [hpa] at this
    match ar, this with
    | [p1], _ => exact ⟨p1, hpa⟩
   have hpt1 : p1 ∈ terms := hargs p1 (by rw [hp1]; simp)
   have hgd1 : m.args.getD 1 0 = p1 := by rw [hp1]; rfl
   wtm_at "qgo"
   refine r_getN V (.inl (by wtm_at "qmem")) M Ip (onT_mem hp) ?_
   rintro _ t11 ⟨u11, rfl⟩
   wtm_at "qgo"
   refine ⟨V.sub, ?_⟩
   refine args_ok2 G' V.sub R' BK' V.sub hv hmt hxz ?_
   intro pa2 t12 h12 hpt2 s12
   replace V := V.mono s12
   obtain ⟨us2, epa2, Nus2⟩ := hpt2
   wtm_at "qgo"
   obtain ⟨pv2, hpv2, Ip2⟩ := Nus2.get (i := 1) (y := p1) (by rw [hp1]; rfl)
   refine r_item_tup (i := 1) (V.sub _ _ epa2) hpv2 (by rw [Nus2.length]; (first | lia | omega)) ?_
   wtm_at "qgo"
   refine r_getN V (.inl (by wtm_at "qmem")) M Ip2 (onT_mem hpt1) ?_
   rintro _ t13 ⟨u13, rfl⟩
   wtm_at "qgo"
   rw [nat_beq]
   by_cases q1 : hm p = hm p1
   ·first | refine ite_t (beq_iff_eq.mpr q1) ?_ | rw [if_pos (beq_iff_eq.mpr q1)]
    wtm_at "qgo"
    first | refine ite_t rfl ?_ | rw [if_pos rfl]
    wtm_at "qgo"
    wtm_at "qgl"
    wtm_at "qgo"
    refine ⟨V.sub, ?_⟩
    refine tied_in (pre := []) (kt := []) (x := x) (y := 1) G' R' V hXb M hz K0 O hv ⟨_, rfl⟩ hx hy1 ?_
    clear V; intro oH' oG' kt' t14 h14 V M' K' O'
    wtm_at "qgo"
    rw [addb_zero]
    wtm_at "qst"; clear V; intro h15 t15 V
    wtm_at "qgo"
    have e1 : eqS m x ⟨hm, 0⟩ = tieS ⟨hm, 0⟩ x 1 := if_pos ⟨q, by rw [hgd, hgd1]; exact q1⟩
    dsimp only [Jx1]
    rw [e1]
    repeat wtm_at "qkt"
    exact ⟨_, _, oH', oG', _, kt', _, rfl, V, M', K', O'⟩
   ·first | refine ite_f (by first | exact q1 | simpa using q1) ?_ | rw [if_neg (by first | exact q1 | simpa using q1)]
    first | refine ite_f Bool.false_ne_true ?_ | rw [if_neg Bool.false_ne_true]
    wtm_at "qgo"
    dsimp only [Jx1]
    first | refine ite_f (show ¬ (m.op = "=" ∧ (⟨hm, 0⟩ : HS).hm (m.args.getD 0 0) = (⟨hm, 0⟩ : HS).hm (m.args.getD 1 0)) from fun z => q1 (by have := z.2; rw [hgd, hgd1] at this; exact this)) |> (fun e => (e : eqS m x ⟨hm, 0⟩ = ⟨hm, 0⟩)) ?_ | rw [if_neg (show ¬ (m.op = "=" ∧ (⟨hm, 0⟩ : HS).hm (m.args.getD 0 0) = (⟨hm, 0⟩ : HS).hm (m.args.getD 1 0)) from fun z => q1 (by have := z.2; rw [hgd, hgd1] at this; exact this)) |> (fun e => (e : eqS m x ⟨hm, 0⟩ = ⟨hm, 0⟩))]
    repeat wtm_at "qkt"
    exact ⟨_, _, oH, oG, gs, [], _, rfl, V, M, K0, O⟩
  ·first | refine ite_f (by first | exact q | simpa using q) ?_ | rw [if_neg (by first | exact q | simpa using q)]
   first | refine ite_f Bool.false_ne_true ?_ | rw [if_neg Bool.false_ne_true]
   wtm_at "qgo"
   have e1 : eqS m x ⟨hm, 0⟩ = ⟨hm, 0⟩ := if_neg fun z => q z.1
   dsimp only [Jx1]
   rw [e1]
   repeat wtm_at "qkt"
   exact ⟨_, _, oH, oG, gs, [], _, rfl, V, M, K0, O⟩
 rintro _ ⟨h10, t10, oH1, oG1, gs1, kt1, un1, rfl, V', M1, K1, O1⟩
 clear V; have V := V'; clear V'
 have fin : ∀ {S' : HS} {h11 : Heap} {t11 : Nat} {l : List (Str × Option Value)} {oH2 oG2 : Obj} {gs2 : List (List Nat)} {kt2 : List (Addr × Obj)} {u : Tok}, S' = truthsS m x ⟨hm, 0⟩ → Fm b env h11 l ((ha, oH2) :: (ga, oG2) :: kt2) → NMap w IsN oH2 (onT terms S'.hm) z → GroupsL X b kt2 oG2 gs2 → GOk terms S'.hm gs2 → Q (.int (S'.n : Nat) u) ⟨h11, g, d, t11, o⟩ := by
  intro S' h11 t11 l oH2 oG2 gs2 kt2 u eS V2 M2 K2 O2
  subst eS
  repeat wtm_at "qkt"
  exact k oH2 oG2 gs2 u t11 h11 M2 ((K2.toH (pre := [(ha, oH2), (ga, oG2)]) V2).less fun c hc => by simp [hc]) O2 (kk V2) (V2.nw _ (.head _)).1 (V2.nw _ (.tail _ (.head _))).1
 generalize hS1 : eqS m x ⟨hm, 0⟩ = S1 at *
 let Jx2 : Shared → Prop := fun s => Ex10 fun h t oH' oG' gs' kt u l w1 w2 => Al6 (s = ⟨h, g, d, t, o⟩) (l = ([("bank", some (.ref B.x)), ("groups", some (.ref ga)), ("home", some (.ref ha)), ("t", some v), ("yes", some (.int 1 u1)), ("no", some (.int 2 u2)), ("part", some pv), ("new", some (.int ((truthsS m x ⟨hm, 0⟩).n : Nat) u)), ("one", w1), ("other", w2)] : List (Str × Option Value))) (Fm b env h l ((ha, oH') :: (ga, oG') :: kt)) (NMap w IsN oH' (onT terms (truthsS m x ⟨hm, 0⟩).hm) z) (GroupsL X b kt oG' gs') (GOk terms (truthsS m x ⟨hm, 0⟩).hm gs')
 repeat wtm_at "qkt"
 refine r_consJK Jx2 (fun _ _ => ?_) ?_
 ·wtm_at "qgo"
  refine ⟨V.sub, ?_⟩
  refine op_ok G' V.sub R' (BK'.sub V.sub) hv hmt hxz ?_
  intro u11 t11 h11 s11
  replace V := V.mono s11
  wtm_at "qgo"
  by_cases q : m.op = "not"
  ·first | refine ite_t (beq_iff_eq.mpr q) ?_ | rw [if_pos (beq_iff_eq.mpr q)]
   have hT : truthsS m x ⟨hm, 0⟩ = notS (notS S1 p x 1 2) p x 2 1 := by unfold truthsS; rw [if_pos q, hS1, hgd]
   wtm_at "qgo"
   refine r_newtuple V ?_; clear V; intro a1 h12 l12 s12 V
   wtm_at "qgo"
   refine r_newtuple V ?_; clear V; intro a2 h13 l13 s13 V
   wtm_at "qgo"
   refine r_newtuple V ?_; clear V; intro a3 h14 l14 s14 V
   wtm_at "qgo"
   let Jx3 : Nat → List (Str × Option Value) → List (Addr × Obj) → Prop := fun i l σ => Ex8 fun w1 w2 u S2 oH' oG' gs' kt => Al8 (l = ([("bank", some (.ref B.x)), ("groups", some (.ref ga)), ("home", some (.ref ha)), ("t", some v), ("yes", some (.int 1 u1)), ("no", some (.int 2 u2)), ("part", some pv), ("new", some (.int (S2.n : Nat) u)), ("one", w1), ("other", w2)] : List (Str × Option Value))) (σ = (a3, tupOf [.ref a1, .ref a2]) :: (a2, tupOf [.int 2 u2, .int 1 u1]) :: (a1, tupOf [.int 1 u1, .int 2 u2]) :: (ha, oH') :: (ga, oG') :: kt) (NMap w IsN oH' (onT terms S2.hm) z) (GroupsL X b kt oG' gs') (GOk terms S2.hm gs') ((i = 0 → S2 = S1)) ((i = 1 → S2 = notS S1 p x 1 2)) ((i = 2 → S2 = notS (notS S1 p x 1 2) p x 2 1))
   refine loop_tuple (vs := [.ref a1, .ref a2]) R'.h V Jx3 ?_ ?_ ?_ ?_
   ·repeat wtm_at "qkt"
    exact ⟨_, _, _, S1, oH1, oG1, gs1, kt1, rfl, rfl, M1, K1, O1, fun _ => rfl, (fun q => by cases q), (fun q => by cases q)⟩
   ·rintro i l σ ⟨_, _, _, _, _, _, _, _, rfl, rfl, _⟩; exact .inl (by wtm_at "qmem")
   ·clear V
    rintro i tv it ito h15 t15 l σ hi ⟨w1, w2, u, S2, oH2, oG2, gs2, kt2, rfl, rfl, M2, K2, O2, hi0, hi1, hi2⟩ V
    obtain ⟨ta, p1, p2, z1, z2, rfl, hat, hp1, hp2, hS2⟩ : ∃ ta p1 p2 z1 z2, tv = .ref ta ∧ h15.get? ta = some (tupOf [.int (p1 : Nat) z1, .int (p2 : Nat) z2]) ∧ p1 ∈ terms ∧ p2 ∈ terms ∧ ((i + 1 = 1 → notS S2 p x p1 p2 = notS S1 p x 1 2) ∧ (i + 1 = 2 → notS S2 p x p1 p2 = notS (notS S1 p x 1 2) p x 2 1)) := by
     match i, hi with
     | 0, hi => exact ⟨a1, 1, 2, u1, u2, by simpa using hi.symm, V.at (o := tupOf [.int 1 u1, .int 2 u2]) (.inl (by wtm_at "qmem")), hy1, hy2, fun _ => by rw [hi0 rfl], fun q => absurd q (by (first | lia | omega))⟩
     | 1, hi => exact ⟨a2, 2, 1, u2, u1, by simpa using hi.symm, V.at (o := tupOf [.int 2 u2, .int 1 u1]) (.inl (by wtm_at "qmem")), hy2, hy1, fun q => absurd q (by (first | lia | omega)), fun _ => by rw [hi1 rfl]⟩
    refine r_target2 R'.h hat (later fun h16 t16 s16 => ?_)
    replace V := V.mono s16
    wtm_at "qst"; clear V; intro h17 t17 V
    wtm_at "qst"; clear V; intro h18 t18 V
    let Jx4 : Shared → Prop := fun s => Ex8 fun h t oH' oG' gs' kt u S3 => Al6 (s = ⟨h, g, d, t, o⟩) (S3 = (if S2.hm p = S2.hm p1 then tieS S2 x p2 else S2)) (Fm b env h [("bank", some (.ref B.x)), ("groups", some (.ref ga)), ("home", some (.ref ha)), ("t", some v), ("yes", some (.int 1 u1)), ("no", some (.int 2 u2)), ("part", some pv), ("new", some (.int (S3.n : Nat) u)), ("one", some (.int (p1 : Nat) z1)), ("other", some (.int (p2 : Nat) z2))]
     ((it, ito) :: (a3, tupOf [.ref a1, .ref a2]) :: (a2, tupOf [.int 2 u2, .int 1 u1]) :: (a1, tupOf [.int 1 u1, .int 2 u2]) :: (ha, oH') :: (ga, oG') :: kt)) (NMap w IsN oH' (onT terms S3.hm) z) (GroupsL X b kt oG' gs') (GOk terms S3.hm gs')
    repeat wtm_at "qkt"
    refine r_consJK Jx4 (fun _ _ => ?_) ?_
    ·wtm_at "qgo"
     refine r_getN V (.inl (by wtm_at "qmem")) M2 Ip (onT_mem hp) ?_
     rintro _ t19 ⟨u19, rfl⟩
     wtm_at "qgo"
     refine r_getN V (.inl (by wtm_at "qmem")) M2 ⟨z1, rfl⟩ (onT_mem hp1) ?_
     rintro _ t20 ⟨u20, rfl⟩
     wtm_at "qgo"
     rw [nat_beq]
     by_cases q1 : S2.hm p = S2.hm p1
     ·first | refine ite_t (beq_iff_eq.mpr q1) ?_ | rw [if_pos (beq_iff_eq.mpr q1)]
      wtm_at "qgo"
      wtm_at "qgl"
      wtm_at "qgo"
      refine ⟨V.sub, ?_⟩
      refine tied_in (pre := [(it, ito), (a3, _), (a2, _), (a1, _)]) (x := x) (y := p2) G' R' V hXb M2 hz K2 O2 hv ⟨_, rfl⟩ hx hp2 ?_
      clear V; intro oH' oG' kt' t21 h21 V M' K' O'
      wtm_at "qgo"
      rw [addb_nat]
      wtm_at "qst"; clear V; intro h22 t22 V
      wtm_at "qgo"
      repeat wtm_at "qkt"
      exact ⟨_, _, oH', oG', _, kt', _, tieS S2 x p2, rfl, (if_pos q1).symm, V, M', K', O'⟩
     ·first | refine ite_f (by first | exact q1 | simpa using q1) ?_ | rw [if_neg (by first | exact q1 | simpa using q1)]
      wtm_at "qgo"
      repeat wtm_at "qkt"
      exact ⟨_, _, oH2, oG2, gs2, kt2, _, S2, rfl, (if_neg q1).symm, V, M2, K2, O2⟩
    rintro _ ⟨h19, t19, oH3, oG3, gs3, kt3, un3, S3, rfl, eS3, V', M3, K3, O3⟩
    clear V; have V := V'; clear V'
    have eN : notS S2 p x p1 p2 = if S3.hm x = S3.hm p1 then tieS S3 p p2 else S3 := by rw [eS3]; rfl
    wtm_at "qgo"
    refine r_getN V (.inl (by wtm_at "qmem")) M3 hv (onT_mem hx) ?_
    rintro _ t20 ⟨u20, rfl⟩
    wtm_at "qgo"
    refine r_getN V (.inl (by wtm_at "qmem")) M3 ⟨z1, rfl⟩ (onT_mem hp1) ?_
    rintro _ t21 ⟨u21, rfl⟩
    wtm_at "qgo"
    rw [nat_beq]
    by_cases q1 : S3.hm x = S3.hm p1
    ·first | refine ite_t (beq_iff_eq.mpr q1) ?_ | rw [if_pos (beq_iff_eq.mpr q1)]
     rw [if_pos q1] at eN
     wtm_at "qgo"
     wtm_at "qgl"
     wtm_at "qgo"
     refine ⟨V.sub, ?_⟩
     refine tied_in (pre := [(it, ito), (a3, _), (a2, _), (a1, _)]) (x := p) (y := p2) G' R' V hXb M3 hz K3 O3 Ip ⟨_, rfl⟩ hp hp2 ?_
     clear V; intro oH' oG' kt' t22 h22 V M' K' O'
     wtm_at "qgo"
     rw [addb_nat]
     wtm_at "qst"; clear V; intro h23 t23 V
     wtm_at "qgo"
     repeat wtm_at "qkt"
     exact ⟨_, _, _, _, rfl, V, _, _, _, tieS S3 p p2, oH', oG', _, kt', rfl, rfl, M', K', O', fun q => absurd q (Nat.succ_ne_zero _), fun q => eN.symm.trans (hS2.1 q), fun q => eN.symm.trans (hS2.2 q)⟩
    ·first | refine ite_f (by first | exact q1 | simpa using q1) ?_ | rw [if_neg (by first | exact q1 | simpa using q1)]
     rw [if_neg q1] at eN
     wtm_at "qgo"
     repeat wtm_at "qkt"
     exact ⟨_, _, _, _, rfl, V, _, _, _, S3, oH3, oG3, gs3, kt3, rfl, rfl, M3, K3, O3, fun q => absurd q (Nat.succ_ne_zero _), fun q => eN.symm.trans (hS2.1 q), fun q => eN.symm.trans (hS2.2 q)⟩
   ·clear V
    rintro h15 t15 l σ ⟨w1, w2, u, S2, oH2, oG2, gs2, kt2, rfl, rfl, M2, K2, O2, hi0, hi1, hi2⟩ V
    wtm_at "qgo"
    have e2 := hi2 rfl
    dsimp only [Jx2]
    rw [hT, ← e2]
    repeat wtm_at "qkt"
    exact ⟨_, _, oH2, oG2, gs2, kt2, _, _, _, _, rfl, rfl, V.tail.tail.tail, M2, K2, O2⟩
  ·first | refine ite_f (by first | exact q | simpa using q) ?_ | rw [if_neg (by first | exact q | simpa using q)]
   have hT : truthsS m x ⟨hm, 0⟩ = S1 := by unfold truthsS; rw [if_neg q, hS1]
   wtm_at "qgo"
   dsimp only [Jx2]
   rw [hT]
   repeat wtm_at "qkt"
   exact ⟨_, _, oH1, oG1, gs1, kt1, _, _, _, _, rfl, rfl, V, M1, K1, O1⟩
 ·rintro _ ⟨h11, t11, oH2, oG2, gs2, kt2, u, l2, w1, w2, rfl, rfl, V2, M2, K2, O2⟩
  wtm_at "qgo"
  repeat wtm_at "qkt"
  exact fin rfl V2 M2 K2 O2
end
end
section
noncomputable def fn482 : FnAt 482 := ⟨_, _, _, _, fun _ => rfl, fun _ => by kernel_rfl⟩
noncomputable def fn489 : FnAt 489 := ⟨_, _, _, _, fun _ => rfl, fun _ => by kernel_rfl⟩
theorem beq_of_iff {a b c d : Nat} (h : a = b ↔ c = d) : (a == b) = (c == d) := by
 by_cases q : c = d
 ·rw [beq_iff_eq.mpr (h.mpr q), beq_iff_eq.mpr q]
 ·rw [beq_eq_false_iff_ne.mpr (fun z => q (h.mp z)), beq_eq_false_iff_ne.mpr q]
section
variable {w : World} {b₀ b h : Heap} {env : Env} {l : List (Str × Option Value)} {A : Around} {g : Array GenState} {d : Drawn} {t : Nat} {o : OsState} {B : BankL} {ts : List Tm} {n : Nat} {Q : Value → Shared → Prop} {X : List Addr} {ga ha : Addr} {oG oH : Obj} {terms : List Nat} {hm : Nat → Nat} {gs : List (List Nat)} {z : Nat}
theorem alike_ok {C : ClL} {oL : Obj} {c : Nat → Nat} {zz : Nat} {tl : Addr} (W : WfT ts terms) (G : Gd w b₀) (S : Sub b₀ h) (R : Rm A (n + 3)) (K : Cls h C B ts terms) (hL : h.get? C.ld = some oL) (ML : NMap w IsN oL (onT terms c) zz) (hT : ListN h tl terms)
  (hH : h.get? ha = some oH) (M : NMap w IsN oH (onT terms hm) z) (heq : ∀ x ∈ terms, ∀ y ∈ terms, (c x = c y ↔ hm x = hm y))
  (k : ∀ t' h', Sub h h' → Q (.bool true) ⟨h', g, d, t', o⟩) : wpAny (model PR w) A (call (.ref 489) [.ref C.c, .ref ha, .ref tl]) Q Never ⟨h, g, d, t, o⟩ := by
 refine enter fn489 [("closing", .ref C.c), ("home", .ref ha), ("terms", .ref tl)] ["closing", "home", "terms"] ["k", "j"] [("closing", some (.ref C.c)), ("home", some (.ref ha)), ("terms", some (.ref tl)), ("k", none), ("j", none)] [] G S R rfl rfl rfl rfl (by decide +kernel) (by decide +kernel) (by decide +kernel) (fun _ h => nomatch h) .nil (fun b env h' t' G' Sb Sh Kb Lo Sh' e V R' => ?_)
 have Hb : Sub h b := fun a o e => Kb a o e (fun q => nomatch q)
 have K' := K.sub Hb
 have I := K'.self
 have hL' := Hb _ _ hL
 have hH' := Hb _ _ hH
 obtain ⟨vs, kv, et0, nt⟩ := hT
 have et := Hb _ _ et0
 have hsz : vs.size = terms.length := by rw [← nt.length]; simp
 have hlen := W.len
 wtm_at "qgo"; wtm_at "qbn"; wtm_at "qgo"; wtm_at "qbn"; wtm_at "qgo"
 refine r_lenl (V.sub _ _ et) (by (first | lia | omega)) fun u1 t1 => ?_
 wtm_at "qgo"
 refine r_range V ?_; clear V; intro ra h2 t2 v1 v2 v3 lo2 s2 V
 wtm_at "qgo"
 let Jx1 : Nat → List (Str × Option Value) → List (Addr × Obj) → Prop := fun i l σ => Ex2 fun y1 y2 => Al2 (l = ([("closing", some (.ref C.c)), ("home", some (.ref ha)), ("terms", some (.ref tl)), ("k", y1), ("j", y2)] : List (Str × Option Value))) (σ = [(ra, rangeOf vs.size v1 v2 v3)])
 refine loop_range R'.h V (.inl (by wtm_at "qmem")) (by (first | lia | omega)) Jx1 ⟨_, _, rfl, rfl⟩ ?_ ?_
 ·clear V
  rintro i u I0 ito h3 t3 l σ hi ⟨y1, y2, rfl, rfl⟩ V
  obtain ⟨xi, hxi, hvi⟩ := nt.back (i := i) (x := vs[i]) (by simp)
  have hxt : xi ∈ terms := List.mem_of_getElem? hxi
  refine wpAny_assign_Name ?_
  wtm_at "qst"; clear V; intro h4 t4 V
  wtm_at "qgo"; wtm_at "qbn"; wtm_at "qgo"
  refine r_range V ?_; clear V; intro rb h5 t5 v4 v5 v6 lo5 s5 V
  wtm_at "qgo"
  let Jx2 : Nat → List (Str × Option Value) → List (Addr × Obj) → Prop := fun j l σ => ∃ y2, l = ([("closing", some (.ref C.c)), ("home", some (.ref ha)), ("terms", some (.ref tl)), ("k", some (.int (i : Nat) u)), ("j", y2)] : List (Str × Option Value)) ∧ σ = [(rb, rangeOf i v4 v5 v6), (I0, ito), (ra, rangeOf vs.size v1 v2 v3)]
  refine loop_range R'.h V (.inl (by wtm_at "qmem")) (by (first | lia | omega)) Jx2 ⟨_, rfl, rfl⟩ ?_ ?_
  ·clear V
   rintro j u' J0 jto h6 t6 l σ hj ⟨y2, rfl, rfl⟩ V
   have hjs : j < vs.size := by (first | lia | omega)
   obtain ⟨xj, hxj, hvj⟩ := nt.back (i := j) (x := vs[j]) (by simp)
   have hyt : xj ∈ terms := List.mem_of_getElem? hxj
   have ei : vs[((i : Nat) : Int).toNat]? = some vs[i] := by rw [Int.toNat_natCast]; exact Array.getElem?_eq_getElem hi
   have ej : vs[((j : Nat) : Int).toNat]? = some vs[j] := by rw [Int.toNat_natCast]; exact Array.getElem?_eq_getElem hjs
   refine wpAny_assign_Name ?_
   wtm_at "qst"; clear V; intro h7 t7 V
   wtm_at "qgo"
   refine r_item_list V (.inr et) (by (first | lia | omega)) (by (first | lia | omega)) ei ?_
   wtm_at "qgo"
   refine r_item_list V (.inr et) (by (first | lia | omega)) (by (first | lia | omega)) ej ?_
   wtm_at "qgo"
   refine ⟨V.sub, ?_⟩
   refine are_one_ok (C := C) G' V.sub R' (K'.sub V.sub) (V.sub _ _ hL') ML hvi hvj hxt hyt ?_
   intro t8 h8 s8
   replace V := V.mono s8
   wtm_at "qgo"
   refine r_item_list V (.inr et) (by (first | lia | omega)) (by (first | lia | omega)) ei ?_
   wtm_at "qgo"
   refine r_getN V (.inr hH') M hvi (onT_mem hxt) ?_
   rintro _ t9 ⟨u9, rfl⟩
   wtm_at "qgo"
   refine r_item_list V (.inr et) (by (first | lia | omega)) (by (first | lia | omega)) ej ?_
   wtm_at "qgo"
   refine r_getN V (.inr hH') M hvj (onT_mem hyt) ?_
   rintro _ t10 ⟨u10, rfl⟩
   wtm_at "qgo"
   rw [nat_beq, beq_of_iff (heq xi hxt xj hyt), if_neg (by simp)]
   wtm_at "qgo"
   repeat wtm_at "qkt"
   exact ⟨_, _, _, _, rfl, V, _, rfl, rfl⟩
  ·clear V
   rintro h6 t6 l σ ⟨y2, rfl, rfl⟩ V
   wtm_at "qgo"
   repeat wtm_at "qkt"
   exact ⟨_, _, _, _, rfl, V.tail, _, _, rfl, rfl⟩
 ·clear V
  rintro h3 t3 l σ ⟨y1, y2, rfl, rfl⟩ V
  wtm_at "qgo"
  repeat wtm_at "qkt"
  exact k _ _ (sub_of Hb V)
end
end
section
section
variable {w : World} {b₀ b h : Heap} {env : Env} {l : List (Str × Option Value)} {A : Around} {g : Array GenState} {d : Drawn} {t : Nat} {o : OsState} {B : BankL} {ts : List Tm} {n : Nat} {Q : Value → Shared → Prop} {X : List Addr} {ga ha : Addr} {oG oH : Obj} {terms : List Nat} {hm : Nat → Nat} {gs : List (List Nat)} {z : Nat}
theorem nat_bne (a c : Nat) : ((a : Int) != (c : Int)) = (a != c) := by
 show (!((a : Int) == (c : Int))) = !(a == c)
 rw [nat_beq]
theorem r_neg1 {k : Nat} {p1 p2 : Pos} {Q : Value → Shared → Prop} (q : ∀ u t', Q (.int (-1) u) ⟨h, g, d, t', o⟩) : wpAny (model PR w) A (eval (.UnaryOp .USub (.Constant (.int 1) k p1) p2) env) Q Never ⟨h, g, d, t, o⟩ :=
 UnaryOp_ (wpAny_Constant_int (PyProof.Rows.neg_int (q _ _)))
theorem truths_in {pre kt : List (Addr × Obj)} {x : Nat} {v : Value} (W : WfT ts terms) (G : Gd w b) (R : Rm A (n + 5)) (V : Fm b env h l (pre ++ (ha, oH) :: (ga, oG) :: kt)) (hX : ∀ c ∈ X, (b.get? c).isSome = true ∨ c = ha ∨ c = ga) (BK : BankR b B ts) (M : NMap w IsN oH (onT terms hm) z) (hz : z ≤ 1000) (K : GroupsL X b kt oG gs) (O : GOk terms hm gs)
  (hv : IsN v x) (hx : x ∈ terms) (hne : (tmAt ts x).args ≠ [])
  (k : ∀ oH' oG' gs' kt' u t' h', Fm b env h' l (pre ++ (ha, oH') :: (ga, oG') :: kt') → NMap w IsN oH' (onT terms (truthsS (tmAt ts x) x ⟨hm, 0⟩).hm) z → GroupsL X b kt' oG' gs' → GOk terms (truthsS (tmAt ts x) x ⟨hm, 0⟩).hm gs' → Q (.int ((truthsS (tmAt ts x) x ⟨hm, 0⟩).n : Nat) u) ⟨h', g, d, t', o⟩) :
  wpAny (model PR w) A (call (.ref 477) [.ref B.x, .ref ga, .ref ha, v]) Q Never ⟨h, g, d, t, o⟩ := by
 obtain ⟨hxz, m, hmt, hma, hml, hme, hmn⟩ := W.tm x hx
 rw [tmAt_of hmt] at hne k
 have m1 := V.nw (ha, oH) (List.mem_append_right _ (.head _))
 have m2 := V.nw (ga, oG) (List.mem_append_right _ (.tail _ (.head _)))
 have na := V.na
 rw [List.map_append, List.map_cons, List.map_cons] at na
 have n2 := (List.nodup_append.mp na).2.1
 rw [List.nodup_cons] at n2
 have hne' : ha ≠ ga := fun e => n2.1 (e ▸ .head _)
 have V' : Fm b env h l ((pre ++ [(ha, oH), (ga, oG)]) ++ kt) := by rw [List.append_assoc]; exact V
 have KH := K.toH V'
 refine truths_ok (cc := b) (X := env.locals :: (pre ++ [(ha, oH), (ga, oG)]).map (·.1) ++ X) (z := z) G V.sub R m1.1 m2.1 m1.2.2 m2.2.2 hne' ?_ ?_ ?_ BK V.sub m1.2.2 m2.2.2 M hz KH O hv hx W.one W.two hmt hxz hma hne hml hme ?_
 ·refine V.isSome fun c hc => ?_
  rw [List.cons_append, List.mem_cons, List.mem_append] at hc
  rcases hc with q | q | q
  ·exact .inr (.inr q)
  ·refine .inr (.inl ?_)
   rw [List.map_append] at q ⊢
   rcases List.mem_append.mp q with q | q
   ·exact List.mem_append_left _ q
   ·refine List.mem_append_right _ ?_
    simp only [List.map_cons, List.map_nil, List.mem_cons, List.not_mem_nil, or_false] at q ⊢
    rcases q with q | q
    ·exact .inl q
    ·exact .inr (.inl q)
  ·rcases hX c q with q | q | q
   ·exact .inl q
   ·exact .inr (.inl (by rw [q, List.map_append]; exact List.mem_append_right _ (.head _)))
   ·exact .inr (.inl (by rw [q, List.map_append]; exact List.mem_append_right _ (.tail _ (.head _))))
 ·simp
 ·simp
 ·intro oH' oG' gs' u t' h' M' K' O' s e1 e2
  obtain ⟨kt', V3, K3⟩ := V.tied (X := X) (gs := gs') s e1 e2 (by simpa using K')
  repeat wtm_at "qkt"
  exact k oH' oG' gs' kt' u t' h' V3 M' K3 O'
theorem closed_ok {cc : Heap} {bl : Addr} {built : List Nat} (W : WfT ts terms) (BO : BuiltOk ts terms built) (hbl : built.length ≤ 1000) (G : Gd w b₀) (S : Sub b₀ h) (R : Rm A (n + 7)) (hH : h.get? ha = some oH) (hG : h.get? ga = some oG) (b1 : b₀.get? ha = none) (b2 : b₀.get? ga = none) (hne : ha ≠ ga) (hX : ∀ c ∈ X, (h.get? c).isSome = true) (hXa : ha ∈ X) (hXg : ga ∈ X)
  (BK : BankR cc B ts) (hT : ListN cc bl built) (Sc : Sub cc h) (c1 : cc.get? ha = none) (c2 : cc.get? ga = none) (M : NMap w IsN oH (onT terms hm) z) (hz : z ≤ 1000) (K : GroupsH X h oG gs) (O : GOk terms hm gs)
  (k : ∀ oH' oG' gs' hm' t' h', HCloseR ts built hm hm' → NMap w IsN oH' (onT terms hm') z → GroupsH X h' oG' gs' → GOk terms hm' gs' → Kept [ha, ga] h h' → h'.get? ha = some oH' → h'.get? ga = some oG' → Q .none ⟨h', g, d, t', o⟩) :
  wpAny (model PR w) A (call (.ref 482) [.ref B.x, .ref ga, .ref ha, .ref bl]) Q Never ⟨h, g, d, t, o⟩ := by
 refine enterC fn482 [("bank", .ref B.x), ("groups", .ref ga), ("home", .ref ha), ("built", .ref bl)] "home" (.ref ha) [("bank", some (.ref B.x)), ("groups", some (.ref ga)), ("built", some (.ref bl)), ("new", none), ("t", none), ("k", none), ("j", none), ("u", none), ("left", none), ("right", none)] [(ha, oH), (ga, oG)] G S R rfl rfl (fun _ => rfl) (fun p hp => ?_) (by kernel_rfl) (fun p hp u hu => ?_) (by show (["bank", "groups", "built", "new", "t", "k", "j", "u", "left", "right"] : List Str).Nodup; decide +kernel) (fun p hp => by
  first | replace hp := in1 hp | replace hp := in2 hp | replace hp := in3 hp | replace hp := in4 hp | replace hp := in5 hp | simp only [List.mem_cons, List.not_mem_nil, or_false] at hp
  rcases hp with rfl | rfl
  ·exact ⟨hH, b1⟩
  ·exact ⟨hG, b2⟩) (by first | exact hne | simpa using hne) (fun b env h' t' ca oc G' Sb Sh Kb Lo Sh' e hcs hoc V R' => ?_)
 ·first | replace hp := in1 hp | replace hp := in2 hp | replace hp := in3 hp | replace hp := in4 hp | replace hp := in5 hp | simp only [List.mem_cons, List.not_mem_nil, or_false] at hp
  rcases hp with rfl | rfl | rfl | rfl
  ·exact .inl (show fn482.fd.scope.names.lookup ("bank" : Str) = some .local by decide +kernel)
  ·exact .inl (show fn482.fd.scope.names.lookup ("groups" : Str) = some .local by decide +kernel)
  ·exact .inr ⟨show fn482.fd.scope.names.lookup ("home" : Str) = some .cell by decide +kernel, rfl⟩
  ·exact .inl (show fn482.fd.scope.names.lookup ("built" : Str) = some .local by decide +kernel)
 ·first | replace hp := in1 hp | replace hp := in2 hp | replace hp := in3 hp | replace hp := in4 hp | replace hp := in5 hp | simp only [List.mem_cons, List.not_mem_nil, or_false] at hp
  rcases hp with rfl | rfl | rfl | rfl | rfl | rfl | rfl | rfl | rfl | rfl <;> first | (injection hu with hu; subst hu; kernel_rfl) | cases hu
 have kb : Kept [ha, ga] h b := fun a o e n => Kb a o e (by first | exact n | simpa using n)
 have hX2 : ∀ c ∈ [ha, ga], c ∈ X := fun c hc => by
  first | replace hc := in1 hc | replace hc := in2 hc | replace hc := in3 hc | replace hc := in4 hc | replace hc := in5 hc | simp only [List.mem_cons, List.not_mem_nil, or_false] at hc
  rcases hc with rfl | rfl <;> assumption
 have hXb : ∀ c ∈ X, (b.get? c).isSome = true ∨ c = ha ∨ c = ga := fun c hc => by
  by_cases q1 : c = ha
  ·exact .inr (.inl q1)
  ·by_cases q2 : c = ga
   ·exact .inr (.inr q2)
   ·obtain ⟨oc, hoc⟩ := Option.isSome_iff_exists.mp (hX c hc)
    rw [kb _ _ hoc (by simp [q1, q2])]; exact .inl rfl
 have K0 : GroupsL X b [] oG gs := K.base kb hX2
 have kk : ∀ {l : List (Str × Option Value)} {σ : List (Addr × Obj)} {h'' : Heap}, Fm b env h'' l σ → Kept [ha, ga] h h'' := fun V => kept_of (C := [ha, ga]) (fun a o e n => kb a o e n) V
 have Scb : Sub cc b := fun a oo ea => kb a oo (Sc _ _ ea) fun q => by
  first | replace q := in1 q | replace q := in2 q | replace q := in3 q | replace q := in4 q | replace q := in5 q | simp only [List.mem_cons, List.not_mem_nil, or_false] at q
  rcases q with rfl | rfl
  ·rw [c1] at ea; cases ea
  ·rw [c2] at ea; cases ea
 have BK' : BankR b B ts := BK.sub Scb
 have J := BK'.self
 obtain ⟨vs, kv, et, nt⟩ := hT.sub Scb
 have hsz : vs.size = built.length := by rw [← nt.length]; simp
 have hce : env.cells.lookup ("home" : Str) = some ca := by rw [hcs]; simp
 have hun : (A.deeper env).units + 100 < cLine := by have := R'.u; (first | lia | omega)
 have fin : ∀ {hm' : Nat → Nat} {h11 : Heap} {t11 : Nat} {l : List (Str × Option Value)} {oH2 oG2 : Obj} {gs2 : List (List Nat)} {kt2 : List (Addr × Obj)}, HCloseR ts built hm hm' → Fm b env h11 l ((ca, oc) :: (ha, oH2) :: (ga, oG2) :: kt2) → NMap w IsN oH2 (onT terms hm') z → GroupsL X b kt2 oG2 gs2 → GOk terms hm' gs2 → Q .none ⟨h11, g, d, t11, o⟩ := by
  intro hm' h11 t11 l oH2 oG2 gs2 kt2 hR V2 M2 K2 O2
  repeat wtm_at "qkt"
  exact k oH2 oG2 gs2 hm' t11 h11 hR M2 ((K2.toH (pre := [(ca, oc), (ha, oH2), (ga, oG2)]) V2).less fun c hc => by simp [hc]) O2 (kk V2) (V2.nw (ha, oH2) (by wtm_at "qmem")).1 (V2.nw (ga, oG2) (by wtm_at "qmem")).1
 wtm_at "qgo"
 wtm_at "qst"; clear V; intro h1 t1 V
 wtm_at "qgo"
 let Jx1 : Nat → List (Str × Option Value) → List (Addr × Obj) → Prop := fun n l σ => Ex13 fun N u cc oH' oG' gs' kt x1 x2 x3 x4 x5 x6 => Al6 (l = ([("bank", some (.ref B.x)), ("groups", some (.ref ga)), ("built", some (.ref bl)), ("new", some (.int (N : Nat) u)), ("t", x1), ("k", x2), ("j", x3), ("u", x4), ("left", x5), ("right", x6)] : List (Str × Option Value))) (σ = (ca, oc) :: (ha, oH') :: (ga, oG') :: kt) (NMap w IsN oH' (onT terms cc) z) (GroupsL X b kt oG' gs') (GOk terms cc gs') (((N = 0 ∧ HCloseR ts built hm cc ∧ n = 0) ∨ (N ≠ 0 ∧ (∀ c', HCloseR ts built cc c' → HCloseR ts built hm c') ∧ n = usedN terms cc + 1)))
 repeat wtm_at "qkt"
 refine r_while V Jx1 (usedN terms hm + 1) ?_ ?_
 ·exact ⟨1, _, hm, oH, oG, gs, [], _, _, _, _, _, _, rfl, rfl, M, K0, O, .inr ⟨by decide, fun _ q => q, rfl⟩⟩
 clear V
 rintro nm h2 t2 l σ ⟨N, un, hc, oH', oG', gs', kt, x1, x2, x3, x4, x5, x6, rfl, rfl, M', K', O', hcase⟩ V
 wtm_at "qgo"
 rcases hcase with ⟨rfl, hR, rfl⟩ | ⟨hN, hR, rfl⟩
 ·first | refine ite_f (by simp) ?_ | rw [if_neg (by simp)]
  wtm_at "qgo"
  repeat wtm_at "qkt"
  exact fin hR V M' K' O'
 first | refine ite_t (by simp; (first | lia | omega)) ?_ | rw [if_pos (by simp; (first | lia | omega))]
 have hlt : ∀ t ∈ terms, hc t < 1000 := fun t ht => Nat.lt_of_lt_of_le (O'.lt t ht) O'.len
 have hpass := passH_ok W BO hlt
 wtm_at "qgo"
 wtm_at "qst"; clear V; intro h3 t3 V
 let Jx2 : Shared → Prop := fun s => Ex8 fun h t oH' oG' gs' kt u x1 => Al5 (s = ⟨h, g, d, t, o⟩) (Fm b env h [("bank", some (.ref B.x)), ("groups", some (.ref ga)), ("built", some (.ref bl)), ("new", some (.int ((firstS ts built hc).n : Nat) u)), ("t", x1), ("k", x2), ("j", x3), ("u", x4), ("left", x5), ("right", x6)] ((ca, oc) :: (ha, oH') :: (ga, oG') :: kt)) (NMap w IsN oH' (onT terms (firstS ts built hc).hm) z) (GroupsL X b kt oG' gs') (GOk terms (firstS ts built hc).hm gs')
 repeat wtm_at "qkt"
 refine r_consJK Jx2 (fun _ _ => ?_) ?_
 ·wtm_at "qgo"
  refine loop_list (vs := vs) R'.h V (fun i l σ => Ex6 fun oH' oG' gs' kt u x1 => Al5 (l = ([("bank", some (.ref B.x)), ("groups", some (.ref ga)), ("built", some (.ref bl)), ("new", some (.int ((firstS ts (built.take i) hc).n : Nat) u)), ("t", x1), ("k", x2), ("j", x3), ("u", x4), ("left", x5), ("right", x6)] : List (Str × Option Value))) (σ = (ca, oc) :: (ha, oH') :: (ga, oG') :: kt) (NMap w IsN oH' (onT terms (firstS ts (built.take i) hc).hm) z) (GroupsL X b kt oG' gs') (GOk terms (firstS ts (built.take i) hc).hm gs')) ?_ ?_ ?_ ?_
  ·exact ⟨oH', oG', gs', kt, _, _, rfl, rfl, M', K', O'⟩
  ·rintro i l σ _; exact ⟨kv, .inr et⟩
  ·clear V
   intro i tv it ito h4 t4 l σ hi hI V
   refine opq2 fun Rq hRq => ?_
   obtain ⟨oH2, oG2, gs2, kt2, u2, y1, rfl, rfl, M2, K2, O2⟩ := hI
   obtain ⟨x, hx, hv⟩ := nt.back (by first | exact hi | simpa using hi)
   have hxb : x ∈ built := List.mem_of_getElem? hx
   have htake : firstS ts (built.take (i + 1)) hc = truthsA ts (firstS ts (built.take i) hc) x := by rw [List.take_add_one, hx]; exact firstS_snoc _ _ _ _
   dsimp only [TurnE] at hRq
   rw [htake] at hRq
   generalize firstS ts (built.take i) hc = S2 at *
   refine wpAny_assign_Name ?_
   wtm_at "qst"; clear V; intro h5 t5 V
   wtm_at "qgo"
   wtm_at "qgl"
   wtm_at "qgo"
   refine ⟨V.sub, ?_⟩
   refine truths_in (pre := [(it, ito), (ca, oc)]) W G' R' V hXb BK' M2 hz K2 O2 hv (BO.sub x hxb) (BO.args x hxb) ?_
   clear V; intro oH3 oG3 gs3 kt3 u3 t6 h6 V M3 K3 O3
   wtm_at "qgo"
   rw [show ((S2.n : Int) + ((truthsS (tmAt ts x) x ⟨S2.hm, 0⟩).n : Int)) = ((truthsA ts S2 x).n : Int) from (Int.natCast_add _ _).symm]
   wtm_at "qst"; clear V; intro h7 t7 V
   wtm_at "qgo"
   exact hRq _ _ ⟨_, _, _, _, rfl, V, oH3, oG3, gs3, kt3, _, _, rfl, rfl, M3, K3, O3⟩
  ·clear V
   rintro h4 t4 l σ ⟨oH2, oG2, gs2, kt2, u2, y1, rfl, rfl, M2, K2, O2⟩ V
   rw [List.take_of_length_le (by rw [hsz]; exact Nat.le_refl _)] at M2 O2 V
   repeat wtm_at "qkt"
   exact ⟨_, _, oH2, oG2, gs2, kt2, _, _, rfl, V, M2, K2, O2⟩
 rintro _ ⟨h4, t4, oH1, oG1, gs1, kt1, u1, y1, rfl, V', M1, K1, O1⟩
 clear V; have V := V'; clear V'
 wtm_at "qgo"; wtm_at "qbn"; wtm_at "qgo"; wtm_at "qbn"; wtm_at "qgo"
 refine r_lenl (V.sub _ _ et) (by (first | lia | omega)) fun u5 t5 => ?_
 wtm_at "qgo"
 refine r_range V ?_; clear V; intro ra h6 t6 v1 v2 v3 lo6 s6 V
 wtm_at "qgo"
 have hvn : vs.size = built.length := hsz
 refine loop_range R'.h V (.inl (by wtm_at "qmem")) (by (first | lia | omega)) (fun i l σ => Ex11 fun oH' oG' gs' kt u x1 x2 x3 x4 x5 x6 => Al5 (l = ([("bank", some (.ref B.x)), ("groups", some (.ref ga)), ("built", some (.ref bl)), ("new", some (.int ((allS ts built (List.range i) (firstS ts built hc)).n : Nat) u)), ("t", x1), ("k", x2), ("j", x3), ("u", x4), ("left", x5), ("right", x6)] : List (Str × Option Value))) (σ = (ra, rangeOf vs.size v1 v2 v3) :: (ca, oc) :: (ha, oH') :: (ga, oG') :: kt) (NMap w IsN oH' (onT terms (allS ts built (List.range i) (firstS ts built hc)).hm) z) (GroupsL X b kt oG' gs') (GOk terms (allS ts built (List.range i) (firstS ts built hc)).hm gs')) ⟨oH1, oG1, gs1, kt1, _, _, _, _, _, _, _, rfl, rfl, M1, K1, O1⟩ ?_ ?_
 ·clear V
  intro i ui I0 ito h7 t7 l σ hi hI V
  refine opq2 fun Rq hRq => ?_
  obtain ⟨oH2, oG2, gs2, kt2, u2, y1, y2, y3, y4, y5, y6, rfl, rfl, M2, K2, O2⟩ := hI
  obtain ⟨xi, hxi, hvi⟩ := nt.back (i := i) (x := vs[i]) (by simp)
  have hxb : xi ∈ built := List.mem_of_getElem? hxi
  have hgi : built.getD i 0 = xi := by rw [List.getD_eq_getElem?_getD, hxi]; rfl
  dsimp only [TurnE] at hRq
  rw [allS_succ] at hRq
  generalize allS ts built (List.range i) (firstS ts built hc) = S2 at *
  refine wpAny_assign_Name ?_
  wtm_at "qst"; clear V; intro h8 t8 V
  wtm_at "qgo"; wtm_at "qbn"; wtm_at "qgo"
  refine r_range V ?_; clear V; intro rb h9 t9 v4 v5 v6 lo9 s9 V
  wtm_at "qgo"
  refine loop_range R'.h V (.inl (by wtm_at "qmem")) (by (first | lia | omega)) (fun j l σ => Ex10 fun oH' oG' gs' kt u x1 x3 x4 x5 x6 => Al5 (l = ([("bank", some (.ref B.x)), ("groups", some (.ref ga)), ("built", some (.ref bl)), ("new", some (.int ((rowS ts built i (List.range j) S2).n : Nat) u)), ("t", x1), ("k", some (.int (i : Nat) ui)), ("j", x3), ("u", x4), ("left", x5), ("right", x6)] : List (Str × Option Value))) (σ = (rb, rangeOf i v4 v5 v6) :: (I0, ito) :: (ra, rangeOf vs.size v1 v2 v3) :: (ca, oc) :: (ha, oH') :: (ga, oG') :: kt) (NMap w IsN oH' (onT terms (rowS ts built i (List.range j) S2).hm) z) (GroupsL X b kt oG' gs') (GOk terms (rowS ts built i (List.range j) S2).hm gs')) ⟨oH2, oG2, gs2, kt2, _, _, _, _, _, _, rfl, rfl, M2, K2, O2⟩ ?_ ?_
  ·clear V
   intro j uj J0 jto h10 t10 l σ hj hI V
   refine opq2 fun Rp hRp => ?_
   obtain ⟨oH3, oG3, gs3, kt3, u3, q1, q3, q4, q5, q6, rfl, rfl, M3, K3, O3⟩ := hI
   have hjs : j < vs.size := by (first | lia | omega)
   obtain ⟨xj, hxj, hvj⟩ := nt.back (i := j) (x := vs[j]) (by simp)
   have hyb : xj ∈ built := List.mem_of_getElem? hxj
   have hgj : built.getD j 0 = xj := by rw [List.getD_eq_getElem?_getD, hxj]; rfl
   dsimp only [TurnE] at hRp
   rw [rowS_succ, hgi, hgj] at hRp
   generalize rowS ts built i (List.range j) S2 = S3 at *
   have ei : vs[((i : Nat) : Int).toNat]? = some vs[i] := by rw [Int.toNat_natCast]; exact Array.getElem?_eq_getElem hi
   have ej : vs[((j : Nat) : Int).toNat]? = some vs[j] := by rw [Int.toNat_natCast]; exact Array.getElem?_eq_getElem hjs
   have hxt := BO.sub _ hxb
   have hyt := BO.sub _ hyb
   obtain ⟨hxz, mx, hmx, hmax, hmlx, hmex, hmnx⟩ := W.tm xi hxt
   obtain ⟨hyz, my, hmy, hmay, hmly, hmey, hmny⟩ := W.tm xj hyt
   have etx := tmAt_of hmx
   have ety := tmAt_of hmy
   refine wpAny_assign_Name ?_
   wtm_at "qst"; clear V; intro h11 t11 V
   repeat wtm_at "qkt"
   refine r_consK fun _ _ => r_assign2 R'.h e (by decide +kernel) (by decide +kernel) (by decide +kernel) ?_
   wtm_at "qgo"
   refine r_item_list V (.inr et) (by (first | lia | omega)) (by (first | lia | omega)) ei ?_
   wtm_at "qgo"
   refine r_item_list V (.inr et) (by (first | lia | omega)) (by (first | lia | omega)) ej ?_
   refine later fun h12 t12 s12 => ?_
   replace V := V.mono s12
   wtm_at "qst"; clear V; intro h13 t13 V
   wtm_at "qst"; clear V; intro h14 t14 V
   have skip : ∀ {h15 : Heap} {t15 : Nat} {x5 x6 : Option Value}, Fm b env h15 [("bank", some (.ref B.x)), ("groups", some (.ref ga)), ("built", some (.ref bl)), ("new", some (.int (S3.n : Nat) u3)), ("t", some vs[i]), ("k", some (.int (i : Nat) ui)), ("j", some (.int (j : Nat) uj)), ("u", some vs[j]), ("left", x5), ("right", x6)] ((J0, jto) :: (rb, rangeOf i v4 v5 v6) :: (I0, ito) :: (ra, rangeOf vs.size v1 v2 v3) :: (ca, oc) :: (ha, oH3) :: (ga, oG3) :: kt3) → ¬ PairC ts S3.hm xi xj →
     Ex4 fun h' t' l' σ' => Al3 ((⟨h15, g, d, t15, o⟩ : Shared) = ⟨h', g, d, t', o⟩) (Fm b env h' l' ((J0, jto) :: σ')) (Ex10 fun oH' oG' gs' kt u x1 x3 x4 x5 x6 => Al5 (l' = ([("bank", some (.ref B.x)), ("groups", some (.ref ga)), ("built", some (.ref bl)), ("new", some (.int ((pairS ts S3 xi xj).n : Nat) u)), ("t", x1), ("k", some (.int (i : Nat) ui)), ("j", x3), ("u", x4), ("left", x5), ("right", x6)] : List (Str × Option Value))) (σ' = (rb, rangeOf i v4 v5 v6) :: (I0, ito) :: (ra, rangeOf vs.size v1 v2 v3) :: (ca, oc) :: (ha, oH') :: (ga, oG') :: kt) (NMap w IsN oH' (onT terms (pairS ts S3 xi xj).hm) z) (GroupsL X b kt oG' gs') (GOk terms (pairS ts S3 xi xj).hm gs')) := by
    intro h15 t15 x5 x6 V nq
    rw [show pairS ts S3 xi xj = S3 from if_neg nq]
    repeat wtm_at "qkt"
    exact ⟨_, _, _, _, rfl, V, oH3, oG3, gs3, kt3, _, _, _, _, _, _, rfl, rfl, M3, K3, O3⟩
   wtm_at "qgo"
   refine r_getN V (.inl (by wtm_at "qmem")) M3 hvi (onT_mem hxt) ?_
   rintro _ t15 ⟨u15, rfl⟩
   wtm_at "qgo"
   refine r_getN V (.inl (by wtm_at "qmem")) M3 hvj (onT_mem hyt) ?_
   rintro _ t16 ⟨u16, rfl⟩
   wtm_at "qgo"
   rw [nat_bne]
   by_cases c1 : S3.hm xi = S3.hm xj
   ·first | refine ite_f (by simp [c1]) ?_ | rw [if_neg (by simp [c1])]
    first | refine ite_f Bool.false_ne_true ?_ | rw [if_neg Bool.false_ne_true]
    wtm_at "qgo"
    exact hRp _ _ (skip V (fun z => z.1 c1))
   first | refine ite_t (by first | exact c1 | simpa using c1) ?_ | rw [if_pos (by first | exact c1 | simpa using c1)]
   wtm_at "qgo"
   refine ⟨V.sub, ?_⟩
   refine op_ok G' V.sub R' (BK'.sub V.sub) hvi hmx hxz ?_
   intro u17 t17 h17 s17
   replace V := V.mono s17
   wtm_at "qgo"
   refine ⟨V.sub, ?_⟩
   refine op_ok G' V.sub R' (BK'.sub V.sub) hvj hmy hyz ?_
   intro u18 t18 h18 s18
   replace V := V.mono s18
   wtm_at "qgo"
   by_cases c2 : mx.op = my.op
   rotate_left
   ·first | refine ite_f (by first | exact c2 | simpa using c2) ?_ | rw [if_neg (by first | exact c2 | simpa using c2)]
    first | refine ite_f Bool.false_ne_true ?_ | rw [if_neg Bool.false_ne_true]
    wtm_at "qgo"
    exact hRp _ _ (skip V (fun z => c2 (by have := z.2.1; rw [etx, ety] at this; exact this)))
   first | refine ite_t (beq_iff_eq.mpr c2) ?_ | rw [if_pos (beq_iff_eq.mpr c2)]
   wtm_at "qgo"
   obtain ⟨dx, hdx⟩ := BO.data xi hxb
   obtain ⟨dy, hdy⟩ := BO.data xj hyb
   rw [etx] at hdx
   rw [ety] at hdy
   refine ⟨V.sub, ?_⟩
   refine data_ok2 G' V.sub R' BK' V.sub hvi hmx hxz ?_
   intro dv1 t19 h19 hdv1 s19
   replace V := V.mono s19
   rw [hdx] at hdv1
   obtain ⟨w1, rfl⟩ := hdv1
   wtm_at "qgo"
   refine ⟨V.sub, ?_⟩
   refine data_ok2 G' V.sub R' BK' V.sub hvj hmy hyz ?_
   intro dv2 t20 h20 hdv2 s20
   replace V := V.mono s20
   rw [hdy] at hdv2
   obtain ⟨w2, rfl⟩ := hdv2
   wtm_at "qgo"
   rw [nat_beq]
   by_cases c3 : dx = dy
   rotate_left
   ·first | refine ite_f (by first | exact c3 | simpa using c3) ?_ | rw [if_neg (by first | exact c3 | simpa using c3)]
    first | refine ite_f Bool.false_ne_true ?_ | rw [if_neg Bool.false_ne_true]
    wtm_at "qgo"
    exact hRp _ _ (skip V (fun z => c3 (by have := z.2.2.1; rw [etx, ety, hdx, hdy] at this; injection this)))
   first | refine ite_t (beq_iff_eq.mpr c3) ?_ | rw [if_pos (beq_iff_eq.mpr c3)]
   wtm_at "qgo"
   first | refine ite_t rfl ?_ | rw [if_pos rfl]
   wtm_at "qgo"
   refine r_compA [("home", ca)] e (by decide +kernel) (by rw [hcs]; rfl) ?_
   wtm_at "qgo"
   refine ⟨V.sub, ?_⟩
   refine args_ok2 G' V.sub R' BK' V.sub hvi hmx hxz ?_
   intro pa t21 h21 hpa s21
   replace V := V.mono s21
   obtain ⟨us, epa, Nus⟩ := hpa
   let Jx6 : Nat → List (Addr × Obj) → List Value → Prop := fun i' σ vs' => σ = (J0, jto) :: (rb, rangeOf i v4 v5 v6) :: (I0, ito) :: (ra, rangeOf vs.size v1 v2 v3) :: (ca, oc) :: (ha, oH3) :: (ga, oG3) :: kt3 ∧ Nums vs' ((mx.args.take i').map S3.hm)
   refine compit_tuple (us := us) R'.h e V (by rw [Nus.length]; (first | lia | omega)) Jx6 ⟨rfl, .nil⟩ (fun _ _ _ _ => .inr epa) (fun i σ vs q => by have := q.2.length; rw [List.length_map, List.length_take] at this; (first | lia | omega)) (by decide +kernel) (by decide +kernel) ?_ ?_
   ·clear V
    rintro jj v cenv h22 t22 mm oL' L D I' ito' vs' σ hj' ⟨rfl, hvs⟩ ec hcc V
    refine compTurn_plain ?_
    have hce : cenv.cells.lookup ("home" : Str) = some ca := by rw [hcc]; simp
    wtm_at "qgo"
    obtain ⟨y, hy, hyv⟩ := Nus.back hj'
    refine r_getN V (.inl (by wtm_at "qmem")) M3 hyv (onT_mem (hmax y (List.mem_of_getElem? hy))) ?_
    rintro _ t23 ⟨u23, rfl⟩
    repeat wtm_at "qkt"
    refine ⟨_, _, _, _, rfl, V, rfl, rfl, ?_⟩
    rw [List.take_add_one, hy, List.map_append]
    exact hvs.snoc ⟨u23, rfl⟩
   clear V
   rintro D1 CC oC m1 h22 t22 ls1 σ mC hD1 ⟨rfl, hls1⟩ V hns hoC
   rw [List.take_of_length_le (by rw [Nus.length]; exact Nat.le_refl _)] at hls1
   refine fin_store e V hns hoC (by decide +kernel) (by wtm_at "qput") ?_
   clear V hns hoC; intro h23 t23 V
   wtm_at "qgo"
   refine r_compA [("home", ca)] e (by decide +kernel) (by rw [hcs]; rfl) ?_
   wtm_at "qgo"
   refine ⟨V.sub, ?_⟩
   refine args_ok2 G' V.sub R' BK' V.sub hvj hmy hyz ?_
   intro pb t24 h24 hpb s24
   replace V := V.mono s24
   obtain ⟨us2, epb, Nus2⟩ := hpb
   let Jx7 : Nat → List (Addr × Obj) → List Value → Prop := fun i' σ vs' => σ = (D1, listOf ls1.toArray m1) :: (J0, jto) :: (rb, rangeOf i v4 v5 v6) :: (I0, ito) :: (ra, rangeOf vs.size v1 v2 v3) :: (ca, oc) :: (ha, oH3) :: (ga, oG3) :: kt3 ∧ Nums vs' ((my.args.take i').map S3.hm)
   refine compit_tuple (us := us2) R'.h e V (by rw [Nus2.length]; (first | lia | omega)) Jx7 ⟨rfl, .nil⟩ (fun _ _ _ _ => .inr epb) (fun i σ vs q => by have := q.2.length; rw [List.length_map, List.length_take] at this; (first | lia | omega)) (by decide +kernel) (by decide +kernel) ?_ ?_
   ·clear V
    rintro jj v cenv h25 t25 mm oL' L D I' ito' vs' σ hj' ⟨rfl, hvs⟩ ec hcc V
    refine compTurn_plain ?_
    have hce : cenv.cells.lookup ("home" : Str) = some ca := by rw [hcc]; simp
    wtm_at "qgo"
    obtain ⟨y, hy, hyv⟩ := Nus2.back hj'
    refine r_getN V (.inl (by wtm_at "qmem")) M3 hyv (onT_mem (hmay y (List.mem_of_getElem? hy))) ?_
    rintro _ t26 ⟨u26, rfl⟩
    repeat wtm_at "qkt"
    refine ⟨_, _, _, _, rfl, V, rfl, rfl, ?_⟩
    rw [List.take_add_one, hy, List.map_append]
    exact hvs.snoc ⟨u26, rfl⟩
   clear V
   rintro D2 CC2 oC2 m2 h25 t25 ls2 σ mC2 hD2 ⟨rfl, hls2⟩ V hns hoC
   rw [List.take_of_length_le (by rw [Nus2.length]; exact Nat.le_refl _)] at hls2
   refine fin_store e V hns hoC (by decide +kernel) (by wtm_at "qput") ?_
   clear V hns hoC; intro h26 t26 V
   have hl1 : ls1.length ≤ 64 := by have := hls1.length; rw [List.length_map] at this; (first | lia | omega)
   have hl2 : ls2.length ≤ 64 := by have := hls2.length; rw [List.length_map] at this; (first | lia | omega)
   repeat wtm_at "qkt"
   refine r_cons (r_if (wpAny_mono (Q := fun (c : Bool) s => Ex2 fun h t => Al3 (s = ⟨h, g, d, t, o⟩) (Fm b env h [("bank", some (.ref B.x)), ("groups", some (.ref ga)), ("built", some (.ref bl)), ("new", some (.int (S3.n : Nat) u3)), ("t", some vs[i]), ("k", some (.int (i : Nat) ui)), ("j", some (.int (j : Nat) uj)), ("u", some vs[j]), ("left", some (.ref D1)), ("right", some (.ref D2))] ((J0, jto) :: (rb, rangeOf i v4 v5 v6) :: (I0, ito) :: (ra, rangeOf vs.size v1 v2 v3) :: (ca, oc) :: (ha, oH3) :: (ga, oG3) :: kt3)) ((c = true ↔ PairC ts S3.hm xi xj))) (E := Never) ?_ ?_ fun _ _ q => q))
   ·wtm_at "qgo"
    refine r_eqL V (.inl (by wtm_at "qmem")) (LOf.list _ _) (.inl (by wtm_at "qmem")) (LOf.list _ _) (by first | exact hls1 | simpa using hls1) (by first | exact hls2 | simpa using hls2) hun ?_
    wtm_at "qgo"
    by_cases c4 : mx.args.map S3.hm = my.args.map S3.hm
    ·first | refine ite_t (decide_eq_true c4) ?_ | rw [if_pos (decide_eq_true c4)]
     repeat wtm_at "qkt"
     exact ⟨_, _, rfl, V.tail.tail, fun _ => ⟨c1, by rw [etx, ety]; exact c2, by rw [etx, ety, hdx, hdy, c3], .inl (by rw [etx, ety]; exact c4)⟩, fun _ => rfl⟩
    first | refine ite_f (by first | exact c4 | simpa using c4) ?_ | rw [if_neg (by first | exact c4 | simpa using c4)]
    wtm_at "qgo"
    refine ⟨V.sub, ?_⟩
    refine op_ok G' V.sub R' (BK'.sub V.sub) hvi hmx hxz ?_
    intro u27 t27 h27 s27
    replace V := V.mono s27
    wtm_at "qgo"
    by_cases c5 : mx.op = "="
    rotate_left
    ·first | refine ite_f (by first | exact c5 | simpa using c5) ?_ | rw [if_neg (by first | exact c5 | simpa using c5)]
     first | refine ite_f Bool.false_ne_true ?_ | rw [if_neg Bool.false_ne_true]
     wtm_at "qgo"
     repeat wtm_at "qkt"
     refine ⟨_, _, rfl, V.tail.tail, (fun z => by cases z), fun z => ?_⟩
     rcases z.2.2.2 with z | z
     ·rw [etx, ety] at z; exact absurd z c4
     ·rw [etx] at z; exact absurd z.1 c5
    first | refine ite_t (beq_iff_eq.mpr c5) ?_ | rw [if_pos (beq_iff_eq.mpr c5)]
    wtm_at "qgo"
    refine r_neg1 fun u28 t28 => ?_
    refine r_slicel V (.inl (by wtm_at "qmem")) (LOf.list _ _) .none .none (.int _ _) (by decide) (by rw [List.size_toArray]; (first | lia | omega)) ?_
    clear V; intro sl h28 V
    wtm_at "qgo"
    rw [slice_rev] at V
    have hrev : Nums ls2.reverse ((my.args.map S3.hm).reverse) := by
     have : ∀ {xs : List Value} {ys : List Nat}, Nums xs ys → Nums xs.reverse ys.reverse := by
      intro xs ys N
      induction N with
      | nil => exact .nil
      | cons h _ ih => rw [List.reverse_cons, List.reverse_cons]; exact ih.snoc h
     exact this hls2
    refine r_eqL V (.inl (by wtm_at "qmem")) (LOf.list _ _) (.inl (by wtm_at "qmem")) (LOf.list _ _) (by first | exact hls1 | simpa using hls1) (by first | exact hrev | simpa using hrev) hun ?_
    wtm_at "qgo"
    by_cases c6 : mx.args.map S3.hm = (my.args.map S3.hm).reverse
    ·first | refine ite_t (decide_eq_true c6) ?_ | rw [if_pos (decide_eq_true c6)]
     wtm_at "qgo"
     first | refine ite_t rfl ?_ | rw [if_pos rfl]
     repeat wtm_at "qkt"
     exact ⟨_, _, rfl, V.tail.tail.tail, fun _ => ⟨c1, by rw [etx, ety]; exact c2, by rw [etx, ety, hdx, hdy, c3], .inr ⟨by rw [etx]; exact c5, by rw [etx, ety]; exact c6⟩⟩, fun _ => rfl⟩
    ·first | refine ite_f (by first | exact c6 | simpa using c6) ?_ | rw [if_neg (by first | exact c6 | simpa using c6)]
     first | refine ite_f Bool.false_ne_true ?_ | rw [if_neg Bool.false_ne_true]
     wtm_at "qgo"
     repeat wtm_at "qkt"
     refine ⟨_, _, rfl, V.tail.tail.tail, (fun z => by cases z), fun z => ?_⟩
     rcases z.2.2.2 with z | z
     ·rw [etx, ety] at z; exact absurd z c4
     ·rw [etx, ety] at z; exact absurd z.2 c6
   rintro cb _ ⟨h27, t27, rfl, V', hcb⟩
   clear V; have V := V'; clear V'
   by_cases c7 : cb = true
   rotate_left
   ·first | refine ite_f c7 ?_ | rw [if_neg c7]
    wtm_at "qgo"
    exact hRp _ _ (skip V (fun z => c7 (hcb.mpr z)))
   first | refine ite_t c7 ?_ | rw [if_pos c7]
   have hp : pairS ts S3 xi xj = tieS S3 xi xj := if_pos (hcb.mp c7)
   rw [hp] at hRp
   wtm_at "qgo"
   wtm_at "qgl"
   wtm_at "qgo"
   refine ⟨V.sub, ?_⟩
   refine tied_in (pre := [(J0, jto), (rb, _), (I0, ito), (ra, _), (ca, oc)]) (x := xi) (y := xj) G' R' V hXb M3 hz K3 O3 hvi hvj hxt hyt ?_
   clear V; intro oH4 oG4 kt4 t28 h28 V M4 K4 O4
   wtm_at "qgo"
   rw [addb_nat]
   wtm_at "qst"; clear V; intro h29 t29 V
   wtm_at "qgo"
   exact hRp _ _ ⟨_, _, _, _, rfl, V, oH4, oG4, _, kt4, _, _, _, _, _, _, rfl, rfl, M4, K4, O4⟩
  ·clear V
   rintro h10 t10 l σ ⟨oH3, oG3, gs3, kt3, u3, q1, q3, q4, q5, q6, rfl, rfl, M3, K3, O3⟩ V
   wtm_at "qgo"
   exact hRq _ _ ⟨_, _, _, _, rfl, V.tail, oH3, oG3, gs3, kt3, _, _, _, _, _, _, _, rfl, rfl, M3, K3, O3⟩
 ·clear V
  rintro h7 t7 l σ ⟨oH2, oG2, gs2, kt2, u2, y1, y2, y3, y4, y5, y6, rfl, rfl, M2, K2, O2⟩ V
  wtm_at "qgo"
  rw [hvn] at M2 O2 V
  have hP : allS ts built (List.range built.length) (firstS ts built hc) = passH ts built hc := rfl
  rw [hP] at M2 O2 V
  by_cases q : (passH ts built hc).n = 0
  ·refine ⟨0, _, _, _, _, rfl, V.tail, Nat.succ_pos _, (passH ts built hc).n, _, (passH ts built hc).hm, oH2, oG2, gs2, kt2, _, _, _, _, _, _, rfl, rfl, M2, K2, O2, .inl ⟨q, hR _ (.last q), rfl⟩⟩
  ·refine ⟨usedN terms (passH ts built hc).hm + 1, _, _, _, _, rfl, V.tail, ?_, (passH ts built hc).n, _, (passH ts built hc).hm, oH2, oG2, gs2, kt2, _, _, _, _, _, _, rfl, rfl, M2, K2, O2, .inr ⟨q, fun c' hc' => hR c' (.more q hc'), rfl⟩⟩
   have := hpass.us; (first | lia | omega)
end
end
section
open Classical
noncomputable def grow (c h h' : Heap) : Heap := hideAll h' ((List.range h.objs.size).filter fun a => decide (c.get? a = none))
theorem grow_sub (c h h' : Heap) : Sub (grow c h h') h' := fun a o e => of_hideAll _ e
theorem grow_old {c h h' : Heap} {a : Addr} {o : Obj} (hc : (c.get? a).isSome = true) (e : h'.get? a = some o) : (grow c h h').get? a = some o := hideAll_get _ e fun q => by
 have := of_decide_eq_true (List.mem_filter.mp q).2
 rw [this] at hc; cases hc
theorem grow_new {c h h' : Heap} {a : Addr} {o : Obj} (hc : h.objs.size ≤ a) (e : h'.get? a = some o) : (grow c h h').get? a = some o := hideAll_get _ e fun q => by
 have := List.mem_range.mp (List.mem_filter.mp q).1
 exact absurd this (Nat.not_lt.mpr hc)
noncomputable def NewTo (c c' h : Heap) : Prop := ∀ a o, c'.get? a = some o → (c.get? a).isSome = true ∨ h.get? a = none
theorem grow_newTo (c h h' : Heap) : NewTo c (grow c h h') h := fun a o e => by
 rcases Nat.lt_or_ge a h.objs.size with q | q
 ·left
  cases hc : c.get? a with
  | some _ => rfl
  | none =>
   have : a ∉ (List.range h.objs.size).filter fun a => decide (c.get? a = none) := fun _ => by
    have hn := hideAll_none (h := h') _ (List.mem_filter.mpr ⟨List.mem_range.mpr q, decide_eq_true hc⟩ : a ∈ (List.range h.objs.size).filter fun a => decide (c.get? a = none))
    unfold grow at e
    rw [hn] at e; cases e
   exact absurd (List.mem_filter.mpr ⟨List.mem_range.mpr q, decide_eq_true hc⟩) this
 ·refine .inr ?_
  cases e : h.get? a with
  | none => rfl
  | some o' => exact absurd (Heap.lt_size e) (Nat.not_lt.mpr q)
theorem NewTo.trans {c c1 c2 h h1 : Heap} {C : List Addr} (x : NewTo c c1 h) (y : NewTo c1 c2 h1) (k : Kept C h h1) (hC : ∀ a ∈ C, (c.get? a).isSome = true) : NewTo c c2 h := fun a o e => by
 rcases y a o e with q | q
 ·obtain ⟨o1, e1⟩ := Option.isSome_iff_exists.mp q
  exact x a o1 e1
 ·cases e0 : h.get? a with
  | none => exact .inr rfl
  | some o' =>
   by_cases n : a ∈ C
   ·exact .inl (hC a n)
   ·rw [k a o' e0 n] at q; cases q
theorem NewTo.refl (c h : Heap) : NewTo c c h := fun a o e => .inl (by rw [e]; rfl)
theorem grow_kept {c h h' : Heap} {C : List Addr} (Sc : Sub c h) (k : Kept C h h') : Kept C c (grow c h h') := fun a o e n => grow_old (by rw [e]; rfl) (k a o (Sc a o e) n)
noncomputable def keyOf (m : Tm) : List KI := [.s m.op, .t m.args, .i m.sort, dtKI m.data]
theorem dtKI_inj {x y : Dt} (h : dtKI x = dtKI y) : x = y := by
 cases x <;> cases y <;> simp [dtKI] at h <;> simp [h]
theorem keyOf_inj {m m' : Tm} (h : keyOf m = keyOf m') : m = m' := by
 obtain ⟨a, b, c, d⟩ := m
 obtain ⟨a', b', c', d'⟩ := m'
 simp only [keyOf, List.cons.injEq, KI.s.injEq, KI.t.injEq, KI.i.injEq, and_true] at h
 obtain ⟨h1, h2, h3, h4⟩ := h
 rw [h1, h2, h3, dtKI_inj h4]
noncomputable def idxK (ts : List Tm) (k : List KI) : Option Nat := ((ts.drop 1).findIdx? fun m => decide (keyOf m = k)).map (·+ 1)
theorem idxK_snoc {ts : List Tm} (hn : ts ≠ []) (m : Tm) (k : List KI) : idxK (ts ++ [m]) k = match idxK ts k with | some i => some i | none => if keyOf m = k then some ts.length else none := by
 cases ts with
 | nil => exact absurd rfl hn
 | cons a r =>
  unfold idxK
  simp only [List.cons_append, List.drop_succ_cons, List.drop_zero, List.length_cons]
  rw [List.findIdx?_append]
  cases hf : r.findIdx? (fun m => decide (keyOf m = k)) with
  | some i => simp
  | none =>
   by_cases q : keyOf m = k
   ·simp [q]
   ·simp [q]
theorem idxK_spec {ts : List Tm} {k : List KI} {i : Nat} (h : idxK ts k = some i) : 1 ≤ i ∧ ∃ m, ts[i]? = some m ∧ keyOf m = k := by
 cases ts with
 | nil => simp [idxK] at h
 | cons a r =>
  unfold idxK at h
  simp only [List.drop_succ_cons, List.drop_zero] at h
  obtain ⟨j, hj, rfl⟩ := Option.map_eq_some_iff.mp h
  refine ⟨Nat.succ_le_succ (Nat.zero_le _), ?_⟩
  have := List.findIdx?_eq_some_iff_getElem.mp hj
  obtain ⟨h1, h2, _⟩ := this
  exact ⟨r[j], by simp [h1], of_decide_eq_true h2⟩
noncomputable def mk (ts : List Tm) (m : Tm) : Nat × List Tm := match idxK ts (keyOf m) with | some i => (i, ts) | none => (ts.length, ts ++ [m])
structure BankM (w : World) (c : Heap) (B : BankL) (ts : List Tm) (fs : List (List Nat × Nat)) : Prop where
 r : BankR c B ts
 num : ∃ o, c.get? B.ln = some o ∧ KMap w IsN c [] o (idxK ts) ts.length
 fn : ∃ vs k, c.get? B.lfn = some (listOf vs k) ∧ vs.size = fs.length
 fa : ListP (fun v (f : List Nat × Nat) => ∃ a, v = .ref a ∧ TupN c a f.1) c B.lfa fs
 fr : ListP (fun v (f : List Nat × Nat) => IsN v f.2) c B.lfr fs
 nd : [B.lo, B.la, B.ls, B.ld, B.ln, B.dx, B.lfn, B.lfa, B.lfr].Nodup
 ne : ts ≠ []
 sy : (B.ln == sysModules) = false
theorem BankM.sub {w : World} {c c' : Heap} {B : BankL} {ts : List Tm} {fs : List (List Nat × Nat)} (M : BankM w c B ts fs) (s : Sub c c') : BankM w c' B ts fs :=
 ⟨M.r.sub s, let ⟨o, e, k⟩ := M.num; ⟨o, s _ _ e, k.move fun _ _ x => x.sub s⟩, let ⟨vs, k, e, n⟩ := M.fn; ⟨vs, k, s _ _ e, n⟩, (M.fa.sub s).mono fun _ _ ⟨a, e, y⟩ => ⟨a, e, y.sub s⟩, M.fr.sub s, M.nd, M.ne, M.sy⟩
noncomputable def C8 (B : BankL) : List Addr := [B.lo, B.la, B.ls, B.ld, B.ln, B.lfn, B.lfa, B.lfr]
theorem c8_1 (B : BankL) : B.lo ∈ C8 B := by simp [C8]
theorem c8_2 (B : BankL) : B.la ∈ C8 B := by simp [C8]
theorem c8_3 (B : BankL) : B.ls ∈ C8 B := by simp [C8]
theorem c8_4 (B : BankL) : B.ld ∈ C8 B := by simp [C8]
theorem c8_5 (B : BankL) : B.ln ∈ C8 B := by simp [C8]
theorem c8_6 (B : BankL) : B.lfn ∈ C8 B := by simp [C8]
theorem c8_7 (B : BankL) : B.lfa ∈ C8 B := by simp [C8]
theorem c8_8 (B : BankL) : B.lfr ∈ C8 B := by simp [C8]
theorem BankM.some8 {w : World} {c : Heap} {B : BankL} {ts : List Tm} {fs : List (List Nat × Nat)} (M : BankM w c B ts fs) : ∀ a ∈ C8 B, ∃ oo, c.get? a = some oo ∧ oo.cls ≠ .type "tuple" := by
 obtain ⟨vo, ko, eo, No⟩ := M.r.ops
 obtain ⟨va, ka, ea, Na⟩ := M.r.args
 obtain ⟨vs, ks', es, Ns⟩ := M.r.sorts
 obtain ⟨vd, kd, ed, Nd⟩ := M.r.datas
 obtain ⟨on, en, Kn⟩ := M.num
 obtain ⟨vf, kf, ef, sf⟩ := M.fn
 obtain ⟨vg, kg, eg, sg⟩ := M.fa
 obtain ⟨vr, kr, er, sr⟩ := M.fr
 have ln : (Value.type "list") ≠ .type "tuple" := by decide
 intro a ha
 simp only [C8, List.mem_cons, List.not_mem_nil, or_false] at ha
 rcases ha with rfl | rfl | rfl | rfl | rfl | rfl | rfl | rfl
 ·exact ⟨_, eo, ln⟩
 ·exact ⟨_, ea, ln⟩
 ·exact ⟨_, es, ln⟩
 ·exact ⟨_, ed, ln⟩
 ·refine ⟨_, en, ?_⟩
  obtain ⟨_, _, _, x, _⟩ := Kn
  rw [x.1]; decide
 ·exact ⟨_, ef, ln⟩
 ·exact ⟨_, eg, ln⟩
 ·exact ⟨_, er, ln⟩
theorem BankM.objs {w : World} {c : Heap} {B : BankL} {ts : List Tm} {fs : List (List Nat × Nat)} (M : BankM w c B ts fs) : ∃ C : List (Addr × Obj), C.map (·.1) = C8 B ∧ ∀ p ∈ C, c.get? p.1 = some p.2 := by
 have : ∀ l : List Addr, (∀ a ∈ l, ∃ oo, c.get? a = some oo ∧ oo.cls ≠ .type "tuple") → ∃ C : List (Addr × Obj), C.map (·.1) = l ∧ ∀ p ∈ C, c.get? p.1 = some p.2 := by
  intro l
  induction l with
  | nil => intro _; exact ⟨[], rfl, fun _ h => nomatch h⟩
  | cons a r ih =>
   intro h
   obtain ⟨oo, e, _⟩ := h a (.head _)
   obtain ⟨C, e1, e2⟩ := ih fun b hb => h b (.tail _ hb)
   refine ⟨(a, oo) :: C, by rw [List.map_cons, e1], fun p hp => ?_⟩
   rcases List.mem_cons.mp hp with rfl | hp
   ·exact e
   ·exact e2 p hp
 exact this _ M.some8
theorem BankM.nd8 {w : World} {c : Heap} {B : BankL} {ts : List Tm} {fs : List (List Nat × Nat)} (M : BankM w c B ts fs) : (C8 B).Nodup := by
 exact M.nd.sublist (.cons_cons _ (.cons_cons _ (.cons_cons _ (.cons_cons _ (.cons_cons _ (.cons _ (.cons_cons _ (.cons_cons _ (.cons_cons _ .slnil)))))))))
theorem BankM.dx8 {w : World} {c : Heap} {B : BankL} {ts : List Tm} {fs : List (List Nat × Nat)} (M : BankM w c B ts fs) : B.dx ∉ C8 B ∧ B.x ∉ C8 B := by
 have nd : (B.dx :: C8 B).Nodup := (List.Perm.nodup_iff (l₂ := B.dx :: C8 B) (List.perm_middle (l₁ := [B.lo, B.la, B.ls, B.ld, B.ln]) (l₂ := [B.lfn, B.lfa, B.lfr]))).mp M.nd
 obtain ⟨es0, n0, ex, edx, eE⟩ := M.r.self.ex
 constructor
 ·exact (List.nodup_cons.mp nd).1
 ·obtain ⟨vo, ko, eo, No⟩ := M.r.ops
  obtain ⟨va, ka, ea, Na⟩ := M.r.args
  obtain ⟨vs, ks', es, Ns⟩ := M.r.sorts
  obtain ⟨vd, kd, ed, Nd⟩ := M.r.datas
  obtain ⟨on, en, Kn⟩ := M.num
  obtain ⟨vf, kf, ef, sf⟩ := M.fn
  obtain ⟨vg, kg, eg, sg⟩ := M.fa
  obtain ⟨vr, kr, er, sr⟩ := M.fr
  obtain ⟨_, _, _, X, _⟩ := Kn
  intro q
  simp only [C8, List.mem_cons, List.not_mem_nil, or_false] at q
  rcases q with q | q | q | q | q | q | q | q
  ·rw [q, eo] at ex; cases ex
  ·rw [q, ea] at ex; cases ex
  ·rw [q, es] at ex; cases ex
  ·rw [q, ed] at ex; cases ex
  ·rw [q, en] at ex; cases ex; have := X.1; cases this
  ·rw [q, ef] at ex; cases ex
  ·rw [q, eg] at ex; cases ex
  ·rw [q, er] at ex; cases ex
theorem tup_off {c : Heap} {a x : Addr} {vs : List Value} {oo : Obj} (e : c.get? a = some (tupOf vs)) (e' : c.get? x = some oo) (h : oo.cls ≠ .type "tuple") : a ≠ x := fun q => by
 rw [q, e'] at e; cases e; exact h rfl
end
section
noncomputable def fn271 : FnAt 271 := ⟨_, _, _, _, fun _ => rfl, fun _ => by kernel_rfl⟩
noncomputable def fn180 : FnAt 180 := ⟨_, _, _, _, fun _ => rfl, fun _ => by kernel_rfl⟩
section
variable {w : World} {b h : Heap} {env : Env} {l : List (Str × Option Value)} {σ : List (Addr × Obj)} {A : Around} {g : Array GenState} {d : Drawn} {t : Nat} {o : OsState}
theorem r_dget {a : Addr} {oo : Obj} {pl : Sem Bool} {Q : Value × List Value → Shared → Prop} (V : Fm b env h l σ) (H : At b σ a oo) (E : oo.ExactDict) (k : Q (.builtin "dict.get", [.ref a]) ⟨h, g, d, t, o⟩) : wpAny (model PR w) A (getMethod (.ref a) "get" pl) Q Never ⟨h, g, d, t, o⟩ :=
 getMethod_builtin (s := ⟨h, g, d, t, o⟩) ⟨_, V.at H, E.1⟩ F.plainAttrs_dict F.slot_dict_get F.type_dict_get (fun c e => by cases e; exact ⟨_, V.at H, E.2.1⟩) k
end
theorem Fm.lt {b h : Heap} {env : Env} {l : List (Str × Option Value)} {σ : List (Addr × Obj)} (V : Fm b env h l σ) : env.locals < h.objs.size := by
 obtain ⟨m, F, _⟩ := V.fr
 obtain ⟨oL, _, _, hL, _⟩ := F.ns
 exact Heap.lt_size hL
theorem r_setK2 {w : World} {b b₂ h : Heap} {env : Env} {l : List (Str × Option Value)} {σ : List (Addr × Obj)} {A : Around} {g : Array GenState} {d : Drawn} {t : Nat} {o : OsState} {σ' : Obj → List (Addr × Obj)} {β : Type} {P : Value → β → Prop} {kt kt' : List (Addr × Obj)} {oo : Obj} {f : List KI → Option β} {n : Nat}
  {a ka : Addr} {k : List KI} {v : Value} {y : β} {Q : Unit → Shared → Prop} (V : Fm b env h l σ) (s₂ : Sub b₂ b) (U : ∀ o', PutS a oo o' σ (σ' o')) (M : KMap w P b₂ kt oo f n) (hk : ∀ p ∈ kt, p ∈ σ) (hkk : ∀ p ∈ kt, p ∈ kt') (hk' : ∀ p ∈ kt', p ∈ σ) (hka : KeyIn b₂ kt' k ka)
  (hv : P v y) (hu : A.units + 100 < cLine) (hz : n ≤ 1000000)
  (q : ∀ o' h' t', KMap w P b₂ kt' o' (setK f k y) (n + 1) → Fm b env h' l (σ' o') → Kept [a] h h' → h'.get? a = some o' → Q () ⟨h', g, d, t', o⟩) : wpAny (model PR w) A (setItem (.ref a) (.ref ka) v) Q Never ⟨h, g, d, t, o⟩ := by
 have ha := (V.nw _ (U oo).mem).1
 obtain ⟨xs, es, ep, a1, a2, a3, hks, a5, hn, hf⟩ := M
 have hd : h.DictOfH (keyKind w) a xs := ⟨_, es, ep, ha, a1, a2, a3, fun x hx => V.key ((hks x hx).sub s₂) hk, a5⟩
 refine wpAny_setItem_heap (s := ⟨h, g, d, t, o⟩) (show A.units + 1 + 2 < cLine by (first | lia | omega)) (V.key (hka.sub s₂) hk') hd (fun h' hd' hs => ?_) (by rw [sizeLine_eq]; (first | lia | omega))
 obtain ⟨o', es', ep', ho', b1, b2, b3, b4, b5⟩ := hd'
 have hkept : Kept [a] h h' := fun c oc e n => (hs.2 c fun q => n (q ▸ .head _)).trans e
 refine q o' h' _ ⟨_, es', ep', b1, b2, b3, fun x hx => ?_, b5, ?_, fun j => ?_⟩ (V.put (U o') hkept ho') hkept ho'
 ·rcases storedH_keys x hx with ⟨e1, e2⟩ | ⟨y, hy, e1, e2⟩
  ·rw [e1, e2]; exact hka
  ·rw [← e1, ← e2]; exact (hks y hy).more hkk
 ·unfold storedH; split
  ·rw [List.length_map]; (first | lia | omega)
  ·rw [List.length_append, List.length_singleton]; (first | lia | omega)
 ·unfold setK
  by_cases hj : j = k
  ·subst hj
   first | refine ite_t rfl ?_ | rw [if_pos rfl]
   obtain ⟨c, hc⟩ := (atKey_stored xs j ka v j).2
   repeat wtm_at "qkt"
   exact ⟨_, hc, hv⟩
  ·rw [if_neg hj, (atKey_stored xs k ka v j).1 hj]; exact hf j
theorem KMap.exact {w : World} {β : Type} {P : Value → β → Prop} {b : Heap} {kt : List (Addr × Obj)} {o : Obj} {f : List KI → Option β} {n : Nat} (M : KMap w P b kt o f n) : o.ExactDict := let ⟨_, _, _, e, _⟩ := M; e
theorem keyIn_of {c h b : Heap} {C : List Addr} {k : List KI} {a : Addr} {o : Obj} (x : KeyIn c [] k a) (s : Kept C c b) (hC : ∀ x ∈ C, ∀ vs, c.get? x ≠ some (tupOf vs)) : KeyIn b [] k a := fun hh sh _ =>
 (x c (Sub.refl c) (fun _ h => nomatch h)).kept fun a' vs e => sh _ _ (s _ _ e fun q => hC _ q vs e)
structure BankF (w : World) (c : Heap) (B : BankL) (fl : List (Str × Value)) (ts : List Tm) (fs : List (List Nat × Nat)) : Prop where
 self : Self c B.x 442 B.dx fl
 ops : ListP (fun v (m : Tm) => IsS v m.op) c B.lo ts
 args : ListP (fun v (m : Tm) => ∃ a, v = .ref a ∧ TupN c a m.args) c B.la ts
 sorts : ListP (fun v (m : Tm) => IsN v m.sort) c B.ls ts
 datas : ListP (fun v (m : Tm) => IsDt c v m.data) c B.ld ts
 num : ∃ o, c.get? B.ln = some o ∧ KMap w IsN c [] o (idxK ts) ts.length
 fn : ∃ vs k, c.get? B.lfn = some (listOf vs k) ∧ vs.size = fs.length
 fa : ListP (fun v (f : List Nat × Nat) => ∃ a, v = .ref a ∧ TupN c a f.1) c B.lfa fs
 fr : ListP (fun v (f : List Nat × Nat) => IsN v f.2) c B.lfr fs
 nd : [B.lo, B.la, B.ls, B.ld, B.ln, B.dx, B.lfn, B.lfa, B.lfr].Nodup
 ne : ts ≠ []
 sy : (B.ln == sysModules) = false
theorem BankM.toF {w : World} {c : Heap} {B : BankL} {ts : List Tm} {fs : List (List Nat × Nat)} (M : BankM w c B ts fs) : BankF w c B B.fields ts fs := ⟨M.r.self, M.r.ops, M.r.args, M.r.sorts, M.r.datas, M.num, M.fn, M.fa, M.fr, M.nd, M.ne, M.sy⟩
theorem BankF.toM {w : World} {c : Heap} {B : BankL} {ts : List Tm} {fs : List (List Nat × Nat)} (M : BankF w c B B.fields ts fs) : BankM w c B ts fs := ⟨⟨M.self, M.ops, M.args, M.sorts, M.datas⟩, M.num, M.fn, M.fa, M.fr, M.nd, M.ne, M.sy⟩
local macro_rules | `(tactic| wtm_at "qself") => `(tactic| ((with_reducible show wpAny _ _ (getAttr _ _ _) _ _ _); refine r_self (by with_reducible assumption) (by with_reducible assumption) (by with_reducible assumption) (by wtm_at "qpl") (by with_reducible assumption) ?_; intro _))
section
variable {w : World} {b₀ c h : Heap} {A : Around} {g : Array GenState} {d : Drawn} {t : Nat} {o : OsState} {B : BankL} {ts : List Tm} {fs : List (List Nat × Nat)} {n : Nat} {Q : Value → Shared → Prop}
theorem make_core {fl : List (Str × Value)} (f1 : fl.lookup ("term_ops" : Str) = some (.ref B.lo)) (f2 : fl.lookup ("term_args" : Str) = some (.ref B.la)) (f3 : fl.lookup ("term_sorts" : Str) = some (.ref B.ls)) (f4 : fl.lookup ("term_datas" : Str) = some (.ref B.ld)) (f5 : fl.lookup ("numbers" : Str) = some (.ref B.ln)) {m : Tm} {v1 v3 v4 : Value} {pa : Addr} (G : Gd w b₀) (S : Sub b₀ h) (R : Rm A (n + 1)) (M : BankF w c B fl ts fs) (Sc : Sub c h) (hb : ∀ a ∈ C8 B, b₀.get? a = none) (hv1 : IsS v1 m.op) (hpa : TupN c pa m.args) (hv3 : IsN v3 m.sort) (hv4 : IsDt c v4 m.data) (hz : ts.length ≤ 900)
  (k : ∀ c' u t' h', BankF w c' B fl (mk ts m).2 fs → Sub c' h' → NewTo c c' h → Kept (C8 B) c c' → Kept (C8 B) h h' → Q (.int ((mk ts m).1 : Nat) u) ⟨h', g, d, t', o⟩) :
  wpAny (model PR w) A (call (.ref 271) [.ref B.x, v1, .ref pa, v3, v4]) Q Never ⟨h, g, d, t, o⟩ := by
 obtain ⟨vo, ko, eo, No⟩ := M.ops
 obtain ⟨va, ka, ea, Na⟩ := M.args
 obtain ⟨vs, ks', es, Ns⟩ := M.sorts
 obtain ⟨vd, kd, ed, Nd⟩ := M.datas
 obtain ⟨on, en, Kn⟩ := M.num
 have nd := nd9 M.nd
 have bno : b₀.get? B.lo = none := hb _ (by first | exact c8_1 _ | exact c8_2 _ | exact c8_3 _ | exact c8_4 _ | exact c8_5 _ | exact c8_6 _ | exact c8_7 _ | exact c8_8 _ | simp [C8])
 have bna : b₀.get? B.la = none := hb _ (by first | exact c8_1 _ | exact c8_2 _ | exact c8_3 _ | exact c8_4 _ | exact c8_5 _ | exact c8_6 _ | exact c8_7 _ | exact c8_8 _ | simp [C8])
 have bns : b₀.get? B.ls = none := hb _ (by first | exact c8_1 _ | exact c8_2 _ | exact c8_3 _ | exact c8_4 _ | exact c8_5 _ | exact c8_6 _ | exact c8_7 _ | exact c8_8 _ | simp [C8])
 have bnd : b₀.get? B.ld = none := hb _ (by first | exact c8_1 _ | exact c8_2 _ | exact c8_3 _ | exact c8_4 _ | exact c8_5 _ | exact c8_6 _ | exact c8_7 _ | exact c8_8 _ | simp [C8])
 have bnn : b₀.get? B.ln = none := hb _ (by first | exact c8_1 _ | exact c8_2 _ | exact c8_3 _ | exact c8_4 _ | exact c8_5 _ | exact c8_6 _ | exact c8_7 _ | exact c8_8 _ | simp [C8])
 refine enter fn271 [("self", .ref B.x), ("op", v1), ("args", .ref pa), ("sort", v3), ("data", v4)] ["self", "op", "args", "sort", "data"] ["key", "found"] [("self", some (.ref B.x)), ("op", some v1), ("args", some (.ref pa)), ("sort", some v3), ("data", some v4), ("key", none), ("found", none)] [(B.lo, listOf vo ko), (B.la, listOf va ka), (B.ls, listOf vs ks'), (B.ld, listOf vd kd), (B.ln, on)] G S R rfl rfl rfl rfl (by decide +kernel) (by decide +kernel) (by decide +kernel) (fun p hp => by
  first | replace hp := in1 hp | replace hp := in2 hp | replace hp := in3 hp | replace hp := in4 hp | replace hp := in5 hp | simp only [List.mem_cons, List.not_mem_nil, or_false] at hp
  rcases hp with rfl | rfl | rfl | rfl | rfl
  ·exact ⟨Sc _ _ eo, bno⟩
  ·exact ⟨Sc _ _ ea, bna⟩
  ·exact ⟨Sc _ _ es, bns⟩
  ·exact ⟨Sc _ _ ed, bnd⟩
  ·exact ⟨Sc _ _ en, bnn⟩) (by
  exact M.nd.sublist (.cons_cons _ (.cons_cons _ (.cons_cons _ (.cons_cons _ (.cons_cons _ (List.nil_sublist _))))))) (fun b env h' t' G' Sb Sh Kb Lo Sh' e V R' => ?_)
 have kb : Kept [B.lo, B.la, B.ls, B.ld, B.ln] h b := fun a o e n => Kb a o e (by first | exact n | simpa using n)
 have kc : Kept [B.lo, B.la, B.ls, B.ld, B.ln] c b := fun a o e n => kb a o (Sc _ _ e) n
 have kk : ∀ {l : List (Str × Option Value)} {σ : List (Addr × Obj)} {h'' : Heap}, Fm b env h'' l σ → Kept [B.lo, B.la, B.ls, B.ld, B.ln] h h'' := fun V => kept_of (C := [B.lo, B.la, B.ls, B.ld, B.ln]) (fun a o e n => kb a o e n) V
 have k8 : ∀ {h'' : Heap}, Kept [B.lo, B.la, B.ls, B.ld, B.ln] h h'' → Kept (C8 B) h h'' := fun k a o e n => k a o e fun q => n (by simp only [C8, List.mem_cons, List.not_mem_nil, or_false] at q ⊢; rcases q with q | q | q | q | q <;> simp [q])
 have notup : ∀ x ∈ [B.lo, B.la, B.ls, B.ld, B.ln], ∀ us, c.get? x ≠ some (tupOf us) := by
  intro x hx us q
  first | replace hx := in1 hx | replace hx := in2 hx | replace hx := in3 hx | replace hx := in4 hx | replace hx := in5 hx | simp only [List.mem_cons, List.not_mem_nil, or_false] at hx
  rcases hx with rfl | rfl | rfl | rfl | rfl
  ·exact tup_off q eo (show (Value.type "list") ≠ .type "tuple" by decide) rfl
  ·exact tup_off q ea (show (Value.type "list") ≠ .type "tuple" by decide) rfl
  ·exact tup_off q es (show (Value.type "list") ≠ .type "tuple" by decide) rfl
  ·exact tup_off q ed (show (Value.type "list") ≠ .type "tuple" by decide) rfl
  ·exact tup_off q en (by rw [Kn.exact.1]; decide) rfl
 have tk : ∀ {a : Addr} {us : List Value}, c.get? a = some (tupOf us) → b.get? a = some (tupOf us) := fun {a us} e => kc _ _ e fun q => notup _ q us e
 obtain ⟨es0, n0, ex, edx, eE⟩ := M.self.ex
 have hdx : B.dx ∉ [B.lo, B.la, B.ls, B.ld, B.ln] := fun q => by
  rcases in5 q with q | q | q | q | q
  ·exact nd.1.2.2.2.2.1 q.symm
  ·exact nd.2.1.2.2.2.1 q.symm
  ·exact nd.2.2.1.2.2.1 q.symm
  ·exact nd.2.2.2.1.2.1 q.symm
  ·exact nd.2.2.2.2.1.1 q.symm
 have hx5 : B.x ∉ [B.lo, B.la, B.ls, B.ld, B.ln] := fun q => by
  first | replace q := in1 q | replace q := in2 q | replace q := in3 q | replace q := in4 q | replace q := in5 q | simp only [List.mem_cons, List.not_mem_nil, or_false] at q
  rcases q with q | q | q | q | q
  ·rw [q, eo] at ex; cases ex
  ·rw [q, ea] at ex; cases ex
  ·rw [q, es] at ex; cases ex
  ·rw [q, ed] at ex; cases ex
  ·rw [q, en] at ex; cases ex; have := Kn.exact.1; cases this
 have J : Self b B.x 442 B.dx fl := ⟨es0, n0, kc _ _ ex hx5, kc _ _ edx hdx, eE⟩
 have KnB : KMap w IsN b [] on (idxK ts) ts.length := Kn.move fun _ _ x => keyIn_of (h := h) (o := on) x kc notup
 have loL : h.objs.size ≤ h'.objs.size := Nat.le_trans Lo (Nat.le_of_lt V.lt)
 obtain ⟨c5, hc5⟩ : ∃ c5, c5 = hideAll c [B.lo, B.la, B.ls, B.ld, B.ln] := ⟨_, rfl⟩
 have c5k : Kept [B.lo, B.la, B.ls, B.ld, B.ln] c c5 := fun a oo e n => by rw [hc5]; exact hideAll_get _ e n
 have c5of : ∀ a oo, c5.get? a = some oo → c.get? a = some oo ∧ a ∉ [B.lo, B.la, B.ls, B.ld, B.ln] := fun a oo e => by
  rw [hc5] at e
  refine ⟨of_hideAll _ e, fun q => ?_⟩
  rw [hideAll_none _ q] at e; cases e
 have c5b : Sub c5 b := fun a oo e => kc _ _ (c5of a oo e).1 (c5of a oo e).2
 have KnC : KMap w IsN c5 [] on (idxK ts) ts.length := Kn.move fun _ _ x => keyIn_of (h := h) (o := on) x c5k notup
 obtain ⟨pus, epa, Npa⟩ := hpa
 have epa' := tk epa
 have hv4' : IsDt b v4 m.data := by
  cases hm : m.data with
  | i n => rw [hm] at hv4; exact hv4
  | t l => rw [hm] at hv4; obtain ⟨a, e, us, e2, N⟩ := hv4; exact ⟨a, e, us, tk e2, N⟩
 have hun : (A.deeper env).units + 100 < cLine := by have := R'.u; (first | lia | omega)
 have hlow : ∀ {h'' : Heap} {l : List (Str × Option Value)} {σ : List (Addr × Obj)}, True := trivial
 wtm_at "qgo"
 refine r_newtuple V ?_; clear V; intro ky h1 lo1 s1 V
 wtm_at "qst"; clear V; intro h2 t2 V
 have epa5 : c5.get? pa = some (tupOf pus) := c5k _ _ epa fun q => notup _ q _ epa
 have hv45 : IsDt c5 v4 m.data := by
  cases hm : m.data with
  | i n => rw [hm] at hv4; exact hv4
  | t l => rw [hm] at hv4; obtain ⟨a, e, us, e2, N⟩ := hv4; exact ⟨a, e, us, c5k _ _ e2 fun q => notup _ q _ e2, N⟩
 have hkey5 : KeyIn c5 [(ky, tupOf [v1, .ref pa, v3, v4])] (keyOf m) ky := fun hh s e => ⟨_, e _ (.head _), .cons hv1 (.cons ⟨pa, rfl, pus, s _ _ epa5, Npa⟩ (.cons hv3 (.cons (isKI_dt (hv45.sub s)) .nil)))⟩
 have hkey : KeyIn b [(ky, tupOf [v1, .ref pa, v3, v4])] (keyOf m) ky := fun hh s e => ⟨_, e _ (.head _), .cons hv1 (.cons ⟨pa, rfl, pus, s _ _ epa', Npa⟩ (.cons hv3 (.cons (isKI_dt (hv4'.sub s)) .nil)))⟩
 have kmem : ∀ {σ : List (Addr × Obj)}, ∀ p ∈ [(ky, tupOf [v1, .ref pa, v3, v4])], p ∈ (ky, tupOf [v1, .ref pa, v3, v4]) :: σ := fun {σ} p hp => by rw [List.mem_singleton.mp hp]; exact .head _
 have knone : ∀ {σ : List (Addr × Obj)}, ∀ p ∈ ([] : List (Addr × Obj)), p ∈ σ := fun p hp => nomatch hp
 have hsys := M.sy
 wtm_at "qgo"
 refine r_dget V (.inl (by wtm_at "qmem")) Kn.exact ?_
 dsimp only
 refine r_cwm ?_
 wtm_at "qgo"
 refine r_getdK V (.inl (by wtm_at "qmem")) KnB knone (V.key hkey kmem) hun hsys ?_
 intro fv t3 hfv
 wtm_at "qst"; clear V; intro h4 t4 V
 cases hi : idxK ts (keyOf m) with
 | some i =>
  rw [hi] at hfv
  obtain ⟨ui, rfl⟩ := hfv
  have hi1 := (idxK_spec hi).1
  wtm_at "qgo"
  first | refine ite_f (by simp; (first | lia | omega)) ?_ | rw [if_neg (by simp; (first | lia | omega))]
  wtm_at "qgo"
  have hmk : mk ts m = (i, ts) := by unfold mk; rw [hi]
  rw [hmk] at k
  repeat wtm_at "qkt"
  refine k c ui _ h4 M (fun a oo e => by
   by_cases q : a ∈ [B.lo, B.la, B.ls, B.ld, B.ln]
   ·first | replace q := in1 q | replace q := in2 q | replace q := in3 q | replace q := in4 q | replace q := in5 q | simp only [List.mem_cons, List.not_mem_nil, or_false] at q
    rcases q with q | q | q | q | q
    ·rw [q, eo] at e; cases e; rw [q]; exact (V.nw (B.lo, _) (by wtm_at "qmem")).1
    ·rw [q, ea] at e; cases e; rw [q]; exact (V.nw (B.la, _) (by wtm_at "qmem")).1
    ·rw [q, es] at e; cases e; rw [q]; exact (V.nw (B.ls, _) (by wtm_at "qmem")).1
    ·rw [q, ed] at e; cases e; rw [q]; exact (V.nw (B.ld, _) (by wtm_at "qmem")).1
    ·rw [q, en] at e; cases e; rw [q]; exact (V.nw (B.ln, _) (by wtm_at "qmem")).1
   ·exact V.sub _ _ (kc _ _ e q)) (fun a oo e => .inl (by rw [e]; rfl)) (fun a oo e _ => e) (k8 (kk V))
 | none =>
  rw [hi] at hfv
  subst hfv
  have so : vo.size = ts.length := by rw [← No.length]; simp
  have sa : va.size = ts.length := by rw [← Na.length]; simp
  have ss : vs.size = ts.length := by rw [← Ns.length]; simp
  have sd : vd.size = ts.length := by rw [← Nd.length]; simp
  wtm_at "qgo"
  first | refine ite_t (by rfl) ?_ | rw [if_pos (by rfl)]
  wtm_at "qgo"; wtm_at "qbn"; wtm_at "qgo"
  refine r_lenl (V.nw (B.lo, _) (by wtm_at "qmem")).1 (by (first | lia | omega)) fun u5 t5 => ?_
  wtm_at "qgo"
  wtm_at "qst"; clear V; intro h6 t6 V
  wtm_at "qgo"
  refine r_lmeth V (.inl (by wtm_at "qmem")) F.slot_list_append F.type_list_append ?_
  dsimp only
  refine r_cwm ?_
  wtm_at "qgo"
  refine r_append V (by wtm_at "qputs") (by (first | lia | omega)) ?_
  clear V; intro h7 V _ _
  wtm_at "qgo"
  refine r_lmeth V (.inl (by wtm_at "qmem")) F.slot_list_append F.type_list_append ?_
  dsimp only
  refine r_cwm ?_
  wtm_at "qgo"
  refine r_append V (by wtm_at "qputs") (by (first | lia | omega)) ?_
  clear V; intro h8 V _ _
  wtm_at "qgo"
  refine r_lmeth V (.inl (by wtm_at "qmem")) F.slot_list_append F.type_list_append ?_
  dsimp only
  refine r_cwm ?_
  wtm_at "qgo"
  refine r_append V (by wtm_at "qputs") (by (first | lia | omega)) ?_
  clear V; intro h9 V _ _
  wtm_at "qgo"
  refine r_lmeth V (.inl (by wtm_at "qmem")) F.slot_list_append F.type_list_append ?_
  dsimp only
  refine r_cwm ?_
  wtm_at "qgo"
  refine r_append V (by wtm_at "qputs") (by (first | lia | omega)) ?_
  clear V; intro h10 V _ _
  wtm_at "qgo"
  rw [so]
  refine r_setK2 (kt' := [(ky, tupOf [v1, .ref pa, v3, v4])]) V c5b (fun o' => by wtm_at "qputs") KnC knone knone (fun p hp => by rw [List.mem_singleton.mp hp]; exact .head _) hkey5 (y := ts.length) ⟨u5, rfl⟩ hun (by (first | lia | omega)) ?_
  clear V; intro on2 h11 t11 Kn2 V _ _
  wtm_at "qgo"
  have hmk : mk ts m = (ts.length, ts ++ [m]) := by unfold mk; rw [hi]
  have hc : ∀ {a : Addr} {oo : Obj}, c.get? a = some oo → (c.get? a).isSome = true := fun {a oo} e => by rw [e]; rfl
  have big : Sub c h := Sc
  have inC : ∀ {a : Addr} {oo oo' : Obj}, c.get? a = some oo' → h11.get? a = some oo → (grow c h h11).get? a = some oo := fun {a oo oo'} e e' => grow_old (hc e) e'
  have keep : ∀ {a : Addr} {oo : Obj}, c.get? a = some oo → a ∉ [B.lo, B.la, B.ls, B.ld, B.ln] → (grow c h h11).get? a = some oo := fun {a oo} e n => inC e (V.sub _ _ (kc _ _ e n))
  have keepT : ∀ {a : Addr} {us : List Value}, c.get? a = some (tupOf us) → (grow c h h11).get? a = some (tupOf us) := fun {a us} e => keep e fun q => notup _ q us e
  have loky : h.objs.size ≤ ky := Nat.le_trans loL lo1
  have newk : (grow c h h11).get? ky = some (tupOf [v1, .ref pa, v3, v4]) := grow_new loky (V.nw (ky, _) (by wtm_at "qmem")).1
  have tp : ∀ {a : Addr} {l : List Nat}, TupN c a l → TupN (grow c h h11) a l := fun {a l} ⟨us, e, N⟩ => ⟨us, keepT e, N⟩
  have dtp : ∀ {v : Value} {dd : Dt}, IsDt c v dd → IsDt (grow c h h11) v dd := fun {v dd} x => by
   cases dd with
   | i n => exact x
   | t l => obtain ⟨a, e, y⟩ := x; exact ⟨a, e, tp y⟩
  have nfn : B.lfn ∉ [B.lo, B.la, B.ls, B.ld, B.ln] := by
   simp only [List.mem_cons, List.not_mem_nil, or_false, not_or]
   exact ⟨Ne.symm nd.1.2.2.2.2.2.1, Ne.symm nd.2.1.2.2.2.2.1, Ne.symm nd.2.2.1.2.2.2.1, Ne.symm nd.2.2.2.1.2.2.1, Ne.symm nd.2.2.2.2.1.2.1⟩
  have nfa : B.lfa ∉ [B.lo, B.la, B.ls, B.ld, B.ln] := by
   simp only [List.mem_cons, List.not_mem_nil, or_false, not_or]
   exact ⟨Ne.symm nd.1.2.2.2.2.2.2.1, Ne.symm nd.2.1.2.2.2.2.2.1, Ne.symm nd.2.2.1.2.2.2.2.1, Ne.symm nd.2.2.2.1.2.2.2.1, Ne.symm nd.2.2.2.2.1.2.2.1⟩
  have nfr : B.lfr ∉ [B.lo, B.la, B.ls, B.ld, B.ln] := by
   simp only [List.mem_cons, List.not_mem_nil, or_false, not_or]
   exact ⟨Ne.symm nd.1.2.2.2.2.2.2.2, Ne.symm nd.2.1.2.2.2.2.2.2, Ne.symm nd.2.2.1.2.2.2.2.2, Ne.symm nd.2.2.2.1.2.2.2.2, Ne.symm nd.2.2.2.2.1.2.2.2⟩
  have hM : BankF w (grow c h h11) B fl (ts ++ [m]) fs := by
   refine ⟨⟨es0, n0, keep ex hx5, keep edx hdx, eE⟩, ?_, ?_, ?_, ?_, ?_, ?_, ?_, ?_, M.nd, by simp, M.sy⟩
   ·repeat wtm_at "qkt"
    exact ⟨_, _, inC eo (V.nw (B.lo, _) (by wtm_at "qmem")).1, by rw [Array.toList_push]; exact No.snoc hv1⟩
   ·repeat wtm_at "qkt"
    exact ⟨_, _, inC ea (V.nw (B.la, _) (by wtm_at "qmem")).1, by rw [Array.toList_push]; exact (Na.mono fun _ _ ⟨a, e, y⟩ => ⟨a, e, tp y⟩).snoc ⟨pa, rfl, pus, keepT epa, Npa⟩⟩
   ·repeat wtm_at "qkt"
    exact ⟨_, _, inC es (V.nw (B.ls, _) (by wtm_at "qmem")).1, by rw [Array.toList_push]; exact Ns.snoc hv3⟩
   ·repeat wtm_at "qkt"
    exact ⟨_, _, inC ed (V.nw (B.ld, _) (by wtm_at "qmem")).1, by rw [Array.toList_push]; exact (Nd.mono fun _ _ y => dtp y).snoc (dtp hv4)⟩
   ·refine ⟨on2, inC en (V.nw (B.ln, _) (by wtm_at "qmem")).1, ?_⟩
    have s5 : Sub c5 (grow c h h11) := fun a oo e => keep (c5of a oo e).1 (c5of a oo e).2
    refine ((Kn2.move (b' := grow c h h11) (kt' := []) fun k' a' x hh sh _ => x hh (s5.trans sh) fun p hp => by rw [List.mem_singleton.mp hp]; exact sh _ _ newk).congr fun k' => ?_).le (by simp)
    rw [idxK_snoc M.ne]
    unfold setK
    by_cases q : k' = keyOf m
    ·rw [if_pos q, q, hi]; simp
    ·first | refine ite_f q ?_ | rw [if_neg q]
     cases idxK ts k' with
     | some _ => rfl
     | none => dsimp only; rw [if_neg (fun z => q z.symm)]
   ·obtain ⟨vf, kf, ef, sf⟩ := M.fn
    exact ⟨vf, kf, keep ef nfn, sf⟩
   ·obtain ⟨vf, kf, ef, Nf⟩ := M.fa
    exact ⟨vf, kf, keep ef nfa, Nf.mono fun _ _ ⟨a, e, y⟩ => ⟨a, e, tp y⟩⟩
   ·obtain ⟨vf, kf, ef, Nf⟩ := M.fr
    exact ⟨vf, kf, keep ef nfr, Nf⟩
  rw [hmk] at k
  show Q (.int (vo.size : Nat) u5) _
  rw [so]
  repeat wtm_at "qkt"
  exact k (grow c h h11) u5 _ h11 hM (grow_sub _ _ _) (grow_newTo _ _ _) (grow_kept Sc (k8 (kk V))) (k8 (kk V))
theorem make_ok {m : Tm} {v1 v3 v4 : Value} {pa : Addr} (G : Gd w b₀) (S : Sub b₀ h) (R : Rm A (n + 1)) (M : BankM w c B ts fs) (Sc : Sub c h) (hb : ∀ a ∈ C8 B, b₀.get? a = none) (hv1 : IsS v1 m.op) (hpa : TupN c pa m.args) (hv3 : IsN v3 m.sort) (hv4 : IsDt c v4 m.data) (hz : ts.length ≤ 900)
  (k : ∀ c' u t' h', BankM w c' B (mk ts m).2 fs → Sub c' h' → NewTo c c' h → Kept (C8 B) c c' → Kept (C8 B) h h' → Q (.int ((mk ts m).1 : Nat) u) ⟨h', g, d, t', o⟩) :
  wpAny (model PR w) A (call (.ref 271) [.ref B.x, v1, .ref pa, v3, v4]) Q Never ⟨h, g, d, t, o⟩ :=
 make_core (fl := B.fields) rfl rfl rfl rfl rfl G S R M.toF Sc hb hv1 hpa hv3 hv4 hz fun c' u t' h' M' => k c' u t' h' M'.toM
end
end
section
noncomputable def fn194 : FnAt 194 := ⟨_, _, _, _, fun _ => rfl, fun _ => by kernel_rfl⟩
noncomputable def fn292 : FnAt 292 := ⟨_, _, _, _, fun _ => rfl, fun _ => by kernel_rfl⟩
noncomputable def fn299 : FnAt 299 := ⟨_, _, _, _, fun _ => rfl, fun _ => by kernel_rfl⟩
noncomputable def fn355 : FnAt 355 := ⟨_, _, _, _, fun _ => rfl, fun _ => by kernel_rfl⟩
noncomputable def fn362 : FnAt 362 := ⟨_, _, _, _, fun _ => rfl, fun _ => by kernel_rfl⟩
noncomputable def fn397 : FnAt 397 := ⟨_, _, _, _, fun _ => rfl, fun _ => by kernel_rfl⟩
noncomputable def fn411 : FnAt 411 := ⟨_, _, _, _, fun _ => rfl, fun _ => by kernel_rfl⟩
section
variable {w : World} {b h : Heap} {env : Env} {l : List (Str × Option Value)} {σ : List (Addr × Obj)} {A : Around} {g : Array GenState} {d : Drawn} {t : Nat} {o : OsState}
theorem r_subi {a c : Int} {u v : Tok} {Q : Value → Shared → Prop} (k : ∀ z t', Q (.int (a - c) z) ⟨h, g, d, t', o⟩) : wpAny (model PR w) A (binaryOp .Sub (.int a u) (.int c v)) Q Never ⟨h, g, d, t, o⟩ := PyProof.Rows.sub_int' (k _ _)
theorem r_tuptup {a : Addr} {vs : List Value} {Q : Value → Shared → Prop} (ha : h.get? a = some (tupOf vs)) (k : Q (.ref a) ⟨h, g, d, t, o⟩) : wpAny (model PR w) A (call (.type "tuple") [.ref a]) Q Never ⟨h, g, d, t, o⟩ := call_tuple_tup (s := ⟨h, g, d, t, o⟩) (isTup_of ha) k
theorem sub_past {b h1 h2 : Heap} {C : List Addr} (s : Sub b h1) (k : Kept C h1 h2) (hb : ∀ a ∈ C, b.get? a = none) : Sub b h2 := fun a oo e => k a oo (s a oo e) fun q => by rw [hb a q] at e; cases e
end
section
variable {w : World} {b₀ c h : Heap} {A : Around} {g : Array GenState} {d : Drawn} {t : Nat} {o : OsState} {B : BankL} {ts : List Tm} {fs : List (List Nat × Nat)} {n : Nat} {Q : Value → Shared → Prop}
theorem enterB {f : Addr} (fn : FnAt f) {body : List Stmt} {args : List Value} (binds : List (Str × Value)) (names rest : List Str) (l : List (Str × Option Value)) (G : Gd w b₀) (S : Sub b₀ h) (R : Rm A (n + 1)) (M : BankM w c B ts fs) (Sc : Sub c h) (hb : ∀ a ∈ C8 B, b₀.get? a = none)
  (hbody : fn.fd.body = .stmts body) (hbd : bindArgs fn.fd ⟨args, []⟩ = pure binds) (hnames : binds.map (·.1) = names) (hslots : binds.map (fun p => (p.1, some p.2)) ++ rest.map (fun n => (n, none)) = l)
  (hcell : ∀ x ∈ fn.fd.scope.names, x.2 ≠ .cell) (hloc : ∀ x ∈ names, fn.fd.scope.names.lookup x = some .local) (hnd : (names ++ rest).Nodup)
  (k : ∀ b env h' t' C, Gd w b → Kept (C8 B) h b → (∀ a ∈ C8 B, b.get? a = none) → Self b B.x 442 B.dx B.fields → (∀ a us, c.get? a = some (tupOf us) → b.get? a = some (tupOf us)) → h.objs.size ≤ env.locals → C.map (·.1) = C8 B → (∀ p ∈ C, c.get? p.1 = some p.2) → Ev env fn.fd.scope.names → Fm b env h' l C → Rm (A.deeper env) n →
   (∀ {h'' : Heap} {l' : List (Str × Option Value)} {σ : List (Addr × Obj)}, Fm b env h'' l' σ → (∀ p ∈ C, p ∈ σ) → Sub h h'') →
   wpAny (model PR w) (A.deeper env) (execs body env) (fun fl s' => Q (retOf fl) s') Never ⟨h', g, d, t', o⟩)
  (hgl : fn.fd.globals = mainGlobals := by rfl) (hbl : fn.fd.builtins = builtinsNs := by rfl) (hknd : (fn.fd.scope.names.map (·.1)).Nodup := by decide +kernel)
  (hco : fn.fd.scope.isCoroutine = false := by rfl) (hgen : fn.fd.scope.isGenerator = false := by rfl) (hk : fn.fd.scope.kind = .function := by rfl) :
  wpAny (model PR w) A (call (.ref f) args) Q Never ⟨h, g, d, t, o⟩ := by
 obtain ⟨C, hC1, hC2⟩ := M.objs
 refine enter fn binds names rest l C G S R hbody hbd hnames hslots hcell hloc hnd (fun p hp => ⟨Sc _ _ (hC2 p hp), hb _ (hC1 ▸ List.mem_map_of_mem (f := (·.1)) hp)⟩) (by rw [hC1]; exact M.nd8) (fun b env h' t' G' Sb Sh Kb Lo Sh' e V R' => ?_) hgl hbl hknd hco hgen hk
 have kb : Kept (C8 B) h b := fun a o e n => Kb a o e (by rw [hC1]; exact n)
 have hb' : ∀ a ∈ C8 B, b.get? a = none := fun a ha => by
  rw [← hC1] at ha
  obtain ⟨p, hp, rfl⟩ := List.mem_map.mp ha
  exact (V.nw p hp).2.2
 obtain ⟨es0, n0, ex, edx, eE⟩ := M.r.self.ex
 repeat wtm_at "qkt"
 refine k b env h' t' C G' kb hb' ⟨es0, n0, kb _ _ (Sc _ _ ex) M.dx8.2, kb _ _ (Sc _ _ edx) M.dx8.1, eE⟩ (fun a us e => kb _ _ (Sc _ _ e) fun q => ?_) Lo hC1 hC2 e V R' (fun {h'' l' σ} V'' hσ a oo ea => ?_)
 ·obtain ⟨oo, e2, n2⟩ := M.some8 a q
  exact tup_off e e2 n2 rfl
 ·by_cases q : a ∈ C8 B
  ·rw [← hC1] at q
   obtain ⟨p, hp, rfl⟩ := List.mem_map.mp q
   have := Sc _ _ (hC2 p hp)
   rw [ea] at this; cases this
   exact (V''.nw p (hσ p hp)).1
  ·exact V''.sub _ _ (kb _ _ ea q)
theorem want_ok {i s : Nat} {m : Tm} {v sv wv : Value} (G : Gd w b₀) (S : Sub b₀ h) (R : Rm A (n + 1)) (K : BankR h B ts) (hv : IsN v i) (hs : IsN sv s) (hi : ts[i]? = some m) (hm : m.sort = s) (hz : i < 1000)
  (k : ∀ t' h', Sub h h' → Q .none ⟨h', g, d, t', o⟩) : wpAny (model PR w) A (call (.ref 292) [.ref B.x, v, sv, wv]) Q Never ⟨h, g, d, t, o⟩ := by
 obtain ⟨u, rfl⟩ := hv
 obtain ⟨us, rfl⟩ := hs
 refine enter fn292 [("self", .ref B.x), ("t", .int i u), ("s", .int s us), ("where", wv)] ["self", "t", "s", "where"] [] [("self", some (.ref B.x)), ("t", some (.int i u)), ("s", some (.int s us)), ("where", some wv)] [] G S R rfl rfl rfl rfl (by decide +kernel) (by decide +kernel) (by decide +kernel) (fun _ h => nomatch h) .nil (fun b env h' t' G' Sb Sh Kb Lo Sh' e V R' => ?_)
 have K' : BankR b B ts := K.sub fun a o e => Kb a o e (fun q => nomatch q)
 have I := K'.self
 wtm_at "qgo"
 obtain ⟨vs, kk, e1, e2⟩ := K'.sorts
 obtain ⟨y, e3, u', rfl⟩ := e2.get hi
 refine r_item_list V (.inr e1) (by (first | lia | omega)) (by (first | lia | omega)) (by first | exact e3 | simpa using e3) ?_
 wtm_at "qgo"
 rw [hm, if_neg (by simp)]
 wtm_at "qgo"
 repeat wtm_at "qkt"
 exact k _ _ Sh'
theorem want_all_ok {la : Addr} {ns : List Nat} {s : Nat} {sv wv : Value} (G : Gd w b₀) (S : Sub b₀ h) (R : Rm A (n + 2)) (K : BankR h B ts) (hl : ListN h la ns) (hs : IsN sv s) (hi : ∀ i ∈ ns, i < 1000 ∧ ∃ m, ts[i]? = some m ∧ m.sort = s)
  (k : ∀ t' h', Sub h h' → Q .none ⟨h', g, d, t', o⟩) : wpAny (model PR w) A (call (.ref 299) [.ref B.x, .ref la, sv, wv]) Q Never ⟨h, g, d, t, o⟩ := by
 refine enter fn299 [("self", .ref B.x), ("some", .ref la), ("s", sv), ("where", wv)] ["self", "some", "s", "where"] ["t"] [("self", some (.ref B.x)), ("some", some (.ref la)), ("s", some sv), ("where", some wv), ("t", none)] [] G S R rfl rfl rfl rfl (by decide +kernel) (by decide +kernel) (by decide +kernel) (fun _ h => nomatch h) .nil (fun b env h' t' G' Sb Sh Kb Lo Sh' e V R' => ?_)
 have Hb : Sub h b := fun a o e => Kb a o e (fun q => nomatch q)
 have K' : BankR b B ts := K.sub Hb
 have I := K'.self
 obtain ⟨vs, kv, et, nt⟩ := hl.sub Hb
 wtm_at "qgo"
 let Jx1 : Nat → List (Str × Option Value) → List (Addr × Obj) → Prop := fun i l σ => ∃ y, l = ([("self", some (.ref B.x)), ("some", some (.ref la)), ("s", some sv), ("where", some wv), ("t", y)] : List (Str × Option Value)) ∧ σ = []
 refine loop_list (vs := vs) R'.h V Jx1 ⟨_, rfl, rfl⟩ (fun _ _ _ _ => ⟨kv, .inr et⟩) ?_ ?_
 ·clear V
  rintro i tv it ito h7 t7 l σ hti ⟨y, rfl, rfl⟩ V
  obtain ⟨x, hx, hv⟩ := nt.back (by first | exact hti | simpa using hti)
  obtain ⟨hxz, m, hm, hms⟩ := hi x (List.mem_of_getElem? hx)
  refine wpAny_assign_Name ?_
  wtm_at "qst"; clear V; intro h8 t8 V
  wtm_at "qgo"
  refine ⟨V.sub, ?_⟩
  refine want_ok G' V.sub R' (K'.sub V.sub) hv hs hm hms hxz ?_
  intro t9 h9 s9
  replace V := V.mono s9
  wtm_at "qgo"
  repeat wtm_at "qkt"
  exact ⟨_, _, _, _, rfl, V, _, rfl, rfl⟩
 ·clear V
  rintro h7 t7 l σ ⟨y, rfl, rfl⟩ V
  wtm_at "qgo"
  repeat wtm_at "qkt"
  exact k _ _ (sub_of Hb V)
theorem declare_ok {nv rv : Value} {pa : Addr} {sl : List Nat} {r : Nat} (G : Gd w b₀) (S : Sub b₀ h) (R : Rm A (n + 1)) (M : BankM w c B ts fs) (Sc : Sub c h) (hb : ∀ a ∈ C8 B, b₀.get? a = none) (hpa : TupN c pa sl) (hr : IsN rv r) (hz : fs.length ≤ 900)
  (k : ∀ c' u t' h', BankM w c' B ts (fs ++ [(sl, r)]) → Sub c' h' → NewTo c c' h → Kept (C8 B) c c' → Kept (C8 B) h h' → Q (.int (fs.length : Nat) u) ⟨h', g, d, t', o⟩) :
  wpAny (model PR w) A (call (.ref 180) [.ref B.x, nv, .ref pa, rv]) Q Never ⟨h, g, d, t, o⟩ := by
 obtain ⟨vf, kf, ef, sf⟩ := M.fn
 obtain ⟨vg, kg, eg, Ng⟩ := M.fa
 obtain ⟨vr, kr, er, Nr⟩ := M.fr
 have nd := nd9 M.nd
 have sg : vg.size = fs.length := by rw [← Ng.length]; simp
 have sr : vr.size = fs.length := by rw [← Nr.length]; simp
 refine enter fn180 [("self", .ref B.x), ("name", nv), ("arg_sorts", .ref pa), ("result", rv)] ["self", "name", "arg_sorts", "result"] [] [("self", some (.ref B.x)), ("name", some nv), ("arg_sorts", some (.ref pa)), ("result", some rv)] [(B.lfn, listOf vf kf), (B.lfa, listOf vg kg), (B.lfr, listOf vr kr)] G S R rfl rfl rfl rfl (by decide +kernel) (by decide +kernel) (by decide +kernel) (fun p hp => by
  first | replace hp := in1 hp | replace hp := in2 hp | replace hp := in3 hp | replace hp := in4 hp | replace hp := in5 hp | simp only [List.mem_cons, List.not_mem_nil, or_false] at hp
  rcases hp with rfl | rfl | rfl
  ·exact ⟨Sc _ _ ef, hb _ (by first | exact c8_1 _ | exact c8_2 _ | exact c8_3 _ | exact c8_4 _ | exact c8_5 _ | exact c8_6 _ | exact c8_7 _ | exact c8_8 _ | simp [C8])⟩
  ·exact ⟨Sc _ _ eg, hb _ (by first | exact c8_1 _ | exact c8_2 _ | exact c8_3 _ | exact c8_4 _ | exact c8_5 _ | exact c8_6 _ | exact c8_7 _ | exact c8_8 _ | simp [C8])⟩
  ·exact ⟨Sc _ _ er, hb _ (by first | exact c8_1 _ | exact c8_2 _ | exact c8_3 _ | exact c8_4 _ | exact c8_5 _ | exact c8_6 _ | exact c8_7 _ | exact c8_8 _ | simp [C8])⟩) (by
  exact M.nd.sublist (.cons _ (.cons _ (.cons _ (.cons _ (.cons _ (.cons _ (List.Sublist.refl _)))))))) (fun b env h' t' G' Sb Sh Kb Lo Sh' e V R' => ?_)
 have kb : Kept [B.lfn, B.lfa, B.lfr] h b := fun a o e n => Kb a o e (by first | exact n | simpa using n)
 have kc : Kept [B.lfn, B.lfa, B.lfr] c b := fun a o e n => kb a o (Sc _ _ e) n
 have kk : ∀ {l : List (Str × Option Value)} {σ : List (Addr × Obj)} {h'' : Heap}, Fm b env h'' l σ → Kept [B.lfn, B.lfa, B.lfr] h h'' := fun V => kept_of (C := [B.lfn, B.lfa, B.lfr]) (fun a o e n => kb a o e n) V
 have s38 : ∀ {a : Addr}, a ∈ [B.lfn, B.lfa, B.lfr] → a ∈ C8 B := fun {a} q => by simp only [C8, List.mem_cons, List.not_mem_nil, or_false] at q ⊢; rcases q with q | q | q <;> simp [q]
 have k8 : ∀ {h'' : Heap}, Kept [B.lfn, B.lfa, B.lfr] h h'' → Kept (C8 B) h h'' := fun k a o e n => k a o e fun q => n (s38 q)
 have notup : ∀ x ∈ [B.lfn, B.lfa, B.lfr], ∀ us, c.get? x ≠ some (tupOf us) := fun x hx us q => by
  obtain ⟨oo, e1, e2⟩ := M.some8 x (s38 hx)
  exact tup_off q e1 e2 rfl
 obtain ⟨es0, n0, ex, edx, eE⟩ := M.r.self.ex
 have J : Self b B.x 442 B.dx B.fields := ⟨es0, n0, kc _ _ ex fun q => M.dx8.2 (s38 q), kc _ _ edx fun q => M.dx8.1 (s38 q), eE⟩
 obtain ⟨pus, epa, Npa⟩ := hpa
 have epa' := kc _ _ epa fun q => notup _ q _ epa
 wtm_at "qgo"
 refine r_lmeth V (.inl (by wtm_at "qmem")) F.slot_list_append F.type_list_append ?_
 dsimp only
 refine r_cwm ?_
 wtm_at "qgo"
 refine r_append V (by wtm_at "qputs") (by (first | lia | omega)) ?_
 clear V; intro h7 V _ _
 wtm_at "qgo"
 refine r_lmeth V (.inl (by wtm_at "qmem")) F.slot_list_append F.type_list_append ?_
 dsimp only
 refine r_cwm ?_
 wtm_at "qgo"; wtm_at "qbn"; wtm_at "qgo"
 refine r_tuptup (V.sub _ _ epa') ?_
 wtm_at "qgo"
 refine r_append V (by wtm_at "qputs") (by (first | lia | omega)) ?_
 clear V; intro h8 V _ _
 wtm_at "qgo"
 refine r_lmeth V (.inl (by wtm_at "qmem")) F.slot_list_append F.type_list_append ?_
 dsimp only
 refine r_cwm ?_
 wtm_at "qgo"
 refine r_append V (by wtm_at "qputs") (by (first | lia | omega)) ?_
 clear V; intro h9 V _ _
 wtm_at "qgo"; wtm_at "qbn"; wtm_at "qgo"
 refine r_lenl (V.nw (B.lfn, _) (by wtm_at "qmem")).1 (by rw [Array.size_push]; (first | lia | omega)) fun u10 t10 => ?_
 wtm_at "qgo"
 refine r_subi fun u11 t11 => ?_
 wtm_at "qgo"
 have e1 : (((vf.push nv).size : Nat) : Int) - 1 = ((fs.length : Nat) : Int) := by rw [Array.size_push, sf]; (first | lia | omega)
 rw [e1]
 have hc : ∀ {a : Addr} {oo : Obj}, c.get? a = some oo → (c.get? a).isSome = true := fun {a oo} e => by rw [e]; rfl
 have inC : ∀ {a : Addr} {oo oo' : Obj}, c.get? a = some oo' → h9.get? a = some oo → (grow c h h9).get? a = some oo := fun {a oo oo'} e e' => grow_old (hc e) e'
 have keep : ∀ {a : Addr} {oo : Obj}, c.get? a = some oo → a ∉ [B.lfn, B.lfa, B.lfr] → (grow c h h9).get? a = some oo := fun {a oo} e n => inC e (V.sub _ _ (kc _ _ e n))
 have keepT : ∀ {a : Addr} {us : List Value}, c.get? a = some (tupOf us) → (grow c h h9).get? a = some (tupOf us) := fun {a us} e => keep e fun q => notup _ q us e
 have tp : ∀ {a : Addr} {l : List Nat}, TupN c a l → TupN (grow c h h9) a l := fun {a l} ⟨us, e, N⟩ => ⟨us, keepT e, N⟩
 have dtp : ∀ {v : Value} {dd : Dt}, IsDt c v dd → IsDt (grow c h h9) v dd := fun {v dd} x => by
  cases dd with
  | i n => exact x
  | t l => obtain ⟨a, e, y⟩ := x; exact ⟨a, e, tp y⟩
 have off : ∀ {a : Addr}, a = B.lo ∨ a = B.la ∨ a = B.ls ∨ a = B.ld ∨ a = B.ln → a ∉ [B.lfn, B.lfa, B.lfr] := fun {a} q => by
  simp only [List.mem_cons, List.not_mem_nil, or_false, not_or]
  rcases q with rfl | rfl | rfl | rfl | rfl
  ·exact ⟨nd.1.2.2.2.2.2.1, nd.1.2.2.2.2.2.2.1, nd.1.2.2.2.2.2.2.2⟩
  ·exact ⟨nd.2.1.2.2.2.2.1, nd.2.1.2.2.2.2.2.1, nd.2.1.2.2.2.2.2.2⟩
  ·exact ⟨nd.2.2.1.2.2.2.1, nd.2.2.1.2.2.2.2.1, nd.2.2.1.2.2.2.2.2⟩
  ·exact ⟨nd.2.2.2.1.2.2.1, nd.2.2.2.1.2.2.2.1, nd.2.2.2.1.2.2.2.2⟩
  ·exact ⟨nd.2.2.2.2.1.2.1, nd.2.2.2.2.1.2.2.1, nd.2.2.2.2.1.2.2.2⟩
 obtain ⟨vo, ko, eo, No⟩ := M.r.ops
 obtain ⟨va, ka, ea, Na⟩ := M.r.args
 obtain ⟨vs, ks', es, Ns⟩ := M.r.sorts
 obtain ⟨vd, kd, ed, Nd⟩ := M.r.datas
 obtain ⟨on, en, Kn⟩ := M.num
 have hM : BankM w (grow c h h9) B ts (fs ++ [(sl, r)]) := by
  refine ⟨⟨⟨es0, n0, keep ex fun q => M.dx8.2 (s38 q), keep edx fun q => M.dx8.1 (s38 q), eE⟩, ?_, ?_, ?_, ?_⟩, ?_, ?_, ?_, ?_, M.nd, M.ne, M.sy⟩
  ·repeat wtm_at "qkt"
   exact ⟨_, _, keep eo (off (.inl rfl)), No⟩
  ·repeat wtm_at "qkt"
   exact ⟨_, _, keep ea (off (.inr (.inl rfl))), Na.mono fun _ _ ⟨a, e, y⟩ => ⟨a, e, tp y⟩⟩
  ·repeat wtm_at "qkt"
   exact ⟨_, _, keep es (off (.inr (.inr (.inl rfl)))), Ns⟩
  ·repeat wtm_at "qkt"
   exact ⟨_, _, keep ed (off (.inr (.inr (.inr (.inl rfl))))), Nd.mono fun _ _ y => dtp y⟩
  ·exact ⟨on, keep en (off (.inr (.inr (.inr (.inr rfl))))), Kn.move fun k' a' x => keyIn_of (h := h) (o := on) x (C := [B.lfn, B.lfa, B.lfr]) (fun a oo e n => keep e n) notup⟩
  ·repeat wtm_at "qkt"
   exact ⟨_, _, inC ef (V.nw (B.lfn, _) (by wtm_at "qmem")).1, by rw [Array.size_push, sf, List.length_append, List.length_singleton]⟩
  ·repeat wtm_at "qkt"
   exact ⟨_, _, inC eg (V.nw (B.lfa, _) (by wtm_at "qmem")).1, by rw [Array.toList_push]; exact (Ng.mono fun _ _ ⟨a, e, y⟩ => ⟨a, e, tp y⟩).snoc ⟨pa, rfl, pus, keepT epa, Npa⟩⟩
  ·repeat wtm_at "qkt"
   exact ⟨_, _, inC er (V.nw (B.lfr, _) (by wtm_at "qmem")).1, by rw [Array.toList_push]; exact Nr.snoc hr⟩
 repeat wtm_at "qkt"
 exact k (grow c h h9) u11 _ h9 hM (grow_sub _ _ _) (grow_newTo _ _ _) (grow_kept Sc (k8 (kk V))) (k8 (kk V))
end
end
section
theorem Kept.trans {C : List Addr} {h1 h2 h3 : Heap} (x : Kept C h1 h2) (y : Kept C h2 h3) : Kept C h1 h3 := fun a o e n => y a o (x a o e n) n
theorem Sub.kept {C : List Addr} {h1 h2 : Heap} (x : Sub h1 h2) : Kept C h1 h2 := fun a o e _ => x a o e
theorem memC {C : List (Addr × Obj)} {L : List Addr} {c : Heap} (h1 : C.map (·.1) = L) (h2 : ∀ p ∈ C, c.get? p.1 = some p.2) {a : Addr} {o : Obj} (ha : a ∈ L) (e : c.get? a = some o) : (a, o) ∈ C := by
 rw [← h1] at ha
 obtain ⟨p, hp, rfl⟩ := List.mem_map.mp ha
 have := h2 p hp
 rw [e] at this
 cases this
 exact hp
theorem BankM.tup {w : World} {c : Heap} {B : BankL} {ts : List Tm} {fs : List (List Nat × Nat)} (M : BankM w c B ts fs) {a : Addr} {us : List Value} (e : c.get? a = some (tupOf us)) : a ∉ C8 B := fun q => by
 obtain ⟨oo, e2, n2⟩ := M.some8 a q
 exact tup_off e e2 n2 rfl
theorem TupN.keptB {w : World} {c c' : Heap} {B : BankL} {ts : List Tm} {fs : List (List Nat × Nat)} (M : BankM w c B ts fs) {a : Addr} {l : List Nat} (x : TupN c a l) (k : Kept (C8 B) c c') : TupN c' a l :=
 let ⟨us, e, n⟩ := x; ⟨us, k _ _ e (M.tup e), n⟩
theorem grow_more {w : World} {c h h2 : Heap} {B : BankL} {ts : List Tm} {fs : List (List Nat × Nat)} (M : BankM w c B ts fs) (Sc : Sub c h) (s : Sub h h2) :
  BankM w (grow c h h2) B ts fs ∧ Sub (grow c h h2) h2 ∧ NewTo c (grow c h h2) h ∧ Sub c (grow c h h2) :=
 have s1 : Sub c (grow c h h2) := fun a o e => grow_old (by rw [e]; rfl) (s _ _ (Sc _ _ e))
 ⟨M.sub s1, grow_sub _ _ _, grow_newTo _ _ _, s1⟩
noncomputable def fnot (ts : List Tm) (x : Nat) : Nat × List Tm := if (tmAt ts x).op = "not" then ((tmAt ts x).args.getD 0 0, ts) else if x = 1 then (2, ts) else if x = 2 then (1, ts) else mk ts ⟨"not", [x], 0, .i 0⟩
noncomputable def feq (ts : List Tm) (x y : Nat) : Nat × List Tm := if x = y then (1, ts) else mk ts ⟨"=", [min x y, max x y], 0, .i 0⟩
section
variable {w : World} {b₀ c h : Heap} {A : Around} {g : Array GenState} {d : Drawn} {t : Nat} {o : OsState} {B : BankL} {ts : List Tm} {fs : List (List Nat × Nat)} {n : Nat} {Q : Value → Shared → Prop}
noncomputable def Made (w : World) (B : BankL) (c h : Heap) (fs : List (List Nat × Nat)) (g : Array GenState) (d : Drawn) (o : OsState) (r : Nat × List Tm) (Q : Value → Shared → Prop) : Prop :=
 ∀ c' u t' h', BankM w c' B r.2 fs → Sub c' h' → NewTo c c' h → Kept (C8 B) c c' → Kept (C8 B) h h' → Q (.int (r.1 : Nat) u) ⟨h', g, d, t', o⟩
theorem make_tail {b h2 c2 : Heap} {A' : Around} {t2 : Nat} {m : Tm} {v1 v3 v4 : Value} {pa : Addr} (G : Gd w b) (S : Sub b h2) (R : Rm A' (n + 1)) (M : BankM w c B ts fs) (M2 : BankM w c2 B ts fs) (S2 : Sub c2 h2) (N2 : NewTo c c2 h) (s2 : Kept (C8 B) c c2) (sh : Kept (C8 B) h h2) (hb : ∀ a ∈ C8 B, b.get? a = none)
  (hv1 : IsS v1 m.op) (hpa : TupN c2 pa m.args) (hv3 : IsN v3 m.sort) (hv4 : IsDt c2 v4 m.data) (hz : ts.length ≤ 900)
  (k : Made w B c h fs g d o (mk ts m) Q) : wpAny (model PR w) A' (call (.ref 271) [.ref B.x, v1, .ref pa, v3, v4]) Q Never ⟨h2, g, d, t2, o⟩ := by
 refine make_ok (m := m) G S R M2 S2 hb hv1 hpa hv3 hv4 hz ?_
 intro c' u t' h' M' S' N' K1 K2
 repeat wtm_at "qkt"
 exact k c' u t' h' M' S' (N2.trans N' sh fun a ha => by
  obtain ⟨oo, e, _⟩ := M.some8 a ha
  rw [e]; rfl) (s2.trans K1) (sh.trans K2)
theorem eq_ok {x y : Nat} {mx my : Tm} {v1 v2 : Value} (G : Gd w b₀) (S : Sub b₀ h) (R : Rm A (n + 2)) (M : BankM w c B ts fs) (Sc : Sub c h) (hb : ∀ a ∈ C8 B, b₀.get? a = none) (hv1 : IsN v1 x) (hv2 : IsN v2 y) (hx : ts[x]? = some mx) (hy : ts[y]? = some my) (hs : my.sort = mx.sort) (hz : ts.length ≤ 900)
  (k : Made w B c h fs g d o (feq ts x y) Q) : wpAny (model PR w) A (call (.ref 397) [.ref B.x, v1, v2]) Q Never ⟨h, g, d, t, o⟩ := by
 have hxz : x < 900 := by have := (List.getElem?_eq_some_iff.mp hx).1; (first | lia | omega)
 have hyz : y < 900 := by have := (List.getElem?_eq_some_iff.mp hy).1; (first | lia | omega)
 obtain ⟨u1, rfl⟩ := hv1
 obtain ⟨u2, rfl⟩ := hv2
 refine enterB fn397 [("self", .ref B.x), ("a", .int x u1), ("b", .int y u2)] ["self", "a", "b"] [] [("self", some (.ref B.x)), ("a", some (.int x u1)), ("b", some (.int y u2))] G S R M Sc hb rfl rfl rfl rfl (by decide +kernel) (by decide +kernel) (by decide +kernel) (fun b env h' t' C G' kb hb' J tk lo hC1 hC2 e V R' hsub => ?_)
 obtain ⟨vs, ks', es, Ns⟩ := M.r.sorts
 obtain ⟨sv, hsv, us, rfl⟩ := Ns.get hx
 have ms : (B.ls, listOf vs ks') ∈ C := memC hC1 hC2 (by first | exact c8_1 _ | exact c8_2 _ | exact c8_3 _ | exact c8_4 _ | exact c8_5 _ | exact c8_6 _ | exact c8_7 _ | exact c8_8 _ | simp [C8]) es
 have all : ∀ p ∈ C, p ∈ C := fun p hp => hp
 wtm_at "qgo"
 refine r_item_list V (.inl ms) (by (first | lia | omega)) (by (first | lia | omega)) (by first | exact hsv | simpa using hsv) ?_
 wtm_at "qgo"
 refine ⟨V.sub, ?_⟩
 refine want_ok G' V.sub R' (M.r.sub (Sc.trans (hsub V all))) ⟨_, rfl⟩ ⟨us, rfl⟩ hy hs (by (first | lia | omega)) ?_
 intro t9 h9 s9
 replace V := V.mono s9
 wtm_at "qgo"
 rw [nat_beq]
 by_cases q : x = y
 ·first | refine ite_t (beq_iff_eq.mpr q) ?_ | rw [if_pos (beq_iff_eq.mpr q)]
  wtm_at "qgo"
  have hf : feq ts x y = (1, ts) := if_pos q
  rw [hf] at k
  repeat wtm_at "qkt"
  exact k c _ _ _ M (Sc.trans (hsub V all)) (NewTo.refl c h) (Sub.refl c).kept (hsub V all).kept
 ·first | refine ite_f (by first | exact q | simpa using q) ?_ | rw [if_neg (by first | exact q | simpa using q)]
  wtm_at "qgo"; wtm_at "qbn"; wtm_at "qgo"
  refine r_min R'.h V ?_; clear V; intro h10 t10 z1 V
  wtm_at "qgo"; wtm_at "qbn"; wtm_at "qgo"
  refine r_max R'.h V ?_; clear V; intro h11 t11 z2 V
  wtm_at "qgo"
  have ll := V.lt
  refine r_newtuple V ?_; clear V; intro pa h12 lo12 s12 V
  wtm_at "qgo"
  wtm_at "qgl"
  wtm_at "qgo"
  refine ⟨V.sub, ?_⟩
  have sh := hsub V fun p hp => .tail _ hp
  have epa := V.nw (pa, _) (.head _)
  have newpa : h.objs.size ≤ pa := Nat.le_trans lo (Nat.le_trans (Nat.le_of_lt ll) lo12)
  obtain ⟨M2, S2, N2, s2⟩ := grow_more M Sc sh
  have hf : feq ts x y = mk ts ⟨"=", [min x y, max x y], 0, .i 0⟩ := if_neg q
  rw [hf] at k
  exact make_tail (m := ⟨"=", [min x y, max x y], 0, .i 0⟩) G' V.sub R' M M2 S2 N2 s2.kept sh.kept hb' ⟨_, rfl⟩ ⟨_, grow_new newpa epa.1, .cons ⟨_, rfl⟩ (.cons ⟨_, rfl⟩ .nil)⟩ ⟨_, rfl⟩ ⟨_, rfl⟩ hz k
theorem not_ok {x : Nat} {mx : Tm} {v1 : Value} (G : Gd w b₀) (S : Sub b₀ h) (R : Rm A (n + 2)) (M : BankM w c B ts fs) (Sc : Sub c h) (hb : ∀ a ∈ C8 B, b₀.get? a = none) (hv1 : IsN v1 x) (hx : ts[x]? = some mx) (hs : mx.sort = 0) (hn : mx.op = "not" → ∃ p, mx.args = [p]) (hz : ts.length ≤ 900)
  (k : Made w B c h fs g d o (fnot ts x) Q) : wpAny (model PR w) A (call (.ref 355) [.ref B.x, v1]) Q Never ⟨h, g, d, t, o⟩ := by
 have hxz : x < 900 := by have := (List.getElem?_eq_some_iff.mp hx).1; (first | lia | omega)
 obtain ⟨u1, rfl⟩ := hv1
 refine enterB fn355 [("self", .ref B.x), ("t", .int x u1)] ["self", "t"] [] [("self", some (.ref B.x)), ("t", some (.int x u1))] G S R M Sc hb rfl rfl rfl rfl (by decide +kernel) (by decide +kernel) (by decide +kernel) (fun b env h' t' C G' kb hb' J tk lo hC1 hC2 e V R' hsub => ?_)
 obtain ⟨vo, ko, eo, No⟩ := M.r.ops
 obtain ⟨ov, hov, uo, rfl⟩ := No.get hx
 have mo : (B.lo, listOf vo ko) ∈ C := memC hC1 hC2 (by first | exact c8_1 _ | exact c8_2 _ | exact c8_3 _ | exact c8_4 _ | exact c8_5 _ | exact c8_6 _ | exact c8_7 _ | exact c8_8 _ | simp [C8]) eo
 obtain ⟨va, ka, ea, Na⟩ := M.r.args
 obtain ⟨_, hav, aa, rfl, haa⟩ := Na.get hx
 have ma : (B.la, listOf va ka) ∈ C := memC hC1 hC2 (by first | exact c8_1 _ | exact c8_2 _ | exact c8_3 _ | exact c8_4 _ | exact c8_5 _ | exact c8_6 _ | exact c8_7 _ | exact c8_8 _ | simp [C8]) ea
 have all : ∀ p ∈ C, p ∈ C := fun p hp => hp
 have htm := tmAt_of hx
 wtm_at "qgo"
 wtm_at "qgl"
 wtm_at "qgo"
 refine ⟨V.sub, ?_⟩
 refine want_ok G' V.sub R' (M.r.sub (Sc.trans (hsub V all))) ⟨_, rfl⟩ ⟨352, rfl⟩ hx hs (by (first | lia | omega)) ?_
 intro t9 h9 s9
 replace V := V.mono s9
 wtm_at "qgo"
 refine r_item_list V (.inl mo) (by (first | lia | omega)) (by (first | lia | omega)) (by first | exact hov | simpa using hov) ?_
 wtm_at "qgo"
 by_cases q : mx.op = "not"
 ·first | refine ite_t (beq_iff_eq.mpr q) ?_ | rw [if_pos (beq_iff_eq.mpr q)]
  obtain ⟨p, hp⟩ := hn q
  rw [hp] at haa
  obtain ⟨us, eus, Nus⟩ := haa
  obtain ⟨pv, hpv, up, rfl⟩ := Nus.get (i := 0) (y := p) rfl
  wtm_at "qgo"
  refine r_item_list V (.inl ma) (by (first | lia | omega)) (by (first | lia | omega)) (by first | exact hav | simpa using hav) ?_
  wtm_at "qgo"
  refine r_item_tup (i := 0) (V.sub _ _ (tk _ _ eus)) hpv (by rw [Nus.length]; simp) ?_
  have hf : fnot ts x = (p, ts) := by unfold fnot; rw [htm, if_pos q, hp]; rfl
  rw [hf] at k
  repeat wtm_at "qkt"
  exact k c _ _ _ M (Sc.trans (hsub V all)) (NewTo.refl c h) (Sub.refl c).kept (hsub V all).kept
 ·first | refine ite_f (by first | exact q | simpa using q) ?_ | rw [if_neg (by first | exact q | simpa using q)]
  wtm_at "qgo"
  rw [show ((x : Int) == 1) = (x == 1) from nat_beq x 1]
  by_cases q1 : x = 1
  ·first | refine ite_t (beq_iff_eq.mpr q1) ?_ | rw [if_pos (beq_iff_eq.mpr q1)]
   wtm_at "qgo"
   have hf : fnot ts x = (2, ts) := by unfold fnot; rw [htm, if_neg q, if_pos q1]
   rw [hf] at k
   repeat wtm_at "qkt"
   exact k c _ _ _ M (Sc.trans (hsub V all)) (NewTo.refl c h) (Sub.refl c).kept (hsub V all).kept
  ·first | refine ite_f (by first | exact q1 | simpa using q1) ?_ | rw [if_neg (by first | exact q1 | simpa using q1)]
   wtm_at "qgo"
   rw [show ((x : Int) == 2) = (x == 2) from nat_beq x 2]
   by_cases q2 : x = 2
   ·first | refine ite_t (beq_iff_eq.mpr q2) ?_ | rw [if_pos (beq_iff_eq.mpr q2)]
    wtm_at "qgo"
    have hf : fnot ts x = (1, ts) := by unfold fnot; rw [htm, if_neg q, if_neg q1, if_pos q2]
    rw [hf] at k
    repeat wtm_at "qkt"
    exact k c _ _ _ M (Sc.trans (hsub V all)) (NewTo.refl c h) (Sub.refl c).kept (hsub V all).kept
   ·first | refine ite_f (by first | exact q2 | simpa using q2) ?_ | rw [if_neg (by first | exact q2 | simpa using q2)]
    wtm_at "qgo"
    have ll := V.lt
    refine r_newtuple V ?_; clear V; intro pa h12 lo12 s12 V
    wtm_at "qgo"
    wtm_at "qgl"
    wtm_at "qgo"
    refine ⟨V.sub, ?_⟩
    have sh := hsub V fun p hp => .tail _ hp
    have epa := V.nw (pa, _) (.head _)
    have newpa : h.objs.size ≤ pa := Nat.le_trans lo (Nat.le_trans (Nat.le_of_lt ll) lo12)
    obtain ⟨M2, S2, N2, s2⟩ := grow_more M Sc sh
    have hf : fnot ts x = mk ts ⟨"not", [x], 0, .i 0⟩ := by unfold fnot; rw [htm, if_neg q, if_neg q1, if_neg q2]
    rw [hf] at k
    exact make_tail (m := ⟨"not", [x], 0, .i 0⟩) G' V.sub R' M M2 S2 N2 s2.kept sh.kept hb' ⟨_, rfl⟩ ⟨_, grow_new newpa epa.1, .cons ⟨_, rfl⟩ .nil⟩ ⟨_, rfl⟩ ⟨_, rfl⟩ hz k
theorem r_tuplelist2 {b : Heap} {env : Env} {l : List (Str × Option Value)} {σ : List (Addr × Obj)} {a : Addr} {vs : Array Value} {k : Nat} {Q : Value → Shared → Prop} (V : Fm b env h l σ) (H : At b σ a (listOf vs k)) (hz : vs.size ≤ 1000000)
  (q : ∀ x h', env.locals < x → Sub h h' → Fm b env h' l ((x, tupOf vs.toList) :: σ) → Q (.ref x) ⟨h', g, d, t, o⟩) : wpAny (model PR w) A (call (.type "tuple") [.ref a]) Q Never ⟨h, g, d, t, o⟩ := by
 refine call_tuple_list (s := ⟨h, g, d, t, o⟩) (isList_of (V.at H)) (fun h' hs => ?_) (by rw [sizeLine_eq]; (first | lia | omega))
 have V0 := V.mono (show Sub h h' from hs)
 have V1 := V0.push (tupOf vs.toList)
 rw [show tupOf vs.toList = { cls := .type "tuple", data := .seq vs } by rw [tupOf]] at V1
 exact q _ _ V0.lt (fun x ox e => Heap.get?_push_of_some _ (hs x ox e)) (by rw [show tupOf vs.toList = { cls := .type "tuple", data := .seq vs } by rw [tupOf]]; exact V1)
theorem and_ok {x y : Nat} {mx my : Tm} {la : Addr} (G : Gd w b₀) (S : Sub b₀ h) (R : Rm A (n + 3)) (M : BankM w c B ts fs) (Sc : Sub c h) (hb : ∀ a ∈ C8 B, b₀.get? a = none) (hl : ListN h la [x, y]) (hla : la ∉ C8 B) (hx : ts[x]? = some mx) (hy : ts[y]? = some my) (hsx : mx.sort = 0) (hsy : my.sort = 0) (hz : ts.length ≤ 900)
  (k : Made w B c h fs g d o (mk ts ⟨"and", [x, y], 0, .i 0⟩) Q) : wpAny (model PR w) A (call (.ref 362) [.ref B.x, .ref la]) Q Never ⟨h, g, d, t, o⟩ := by
 have hxz : x < 900 := by have := (List.getElem?_eq_some_iff.mp hx).1; (first | lia | omega)
 have hyz : y < 900 := by have := (List.getElem?_eq_some_iff.mp hy).1; (first | lia | omega)
 refine enterB fn362 [("self", .ref B.x), ("some", .ref la)] ["self", "some"] [] [("self", some (.ref B.x)), ("some", some (.ref la))] G S R M Sc hb rfl rfl rfl rfl (by decide +kernel) (by decide +kernel) (by decide +kernel) (fun b env h' t' C G' kb hb' J tk lo hC1 hC2 e V R' hsub => ?_)
 have all : ∀ p ∈ C, p ∈ C := fun p hp => hp
 obtain ⟨lvs, lk, el, Nl⟩ := hl
 have elb := kb _ _ el hla
 have lsz : lvs.size = 2 := by have := Nl.length; simpa using this
 wtm_at "qgo"
 wtm_at "qgl"
 wtm_at "qgo"
 refine ⟨V.sub, ?_⟩
 refine want_all_ok (ns := [x, y]) G' V.sub R' (M.r.sub (Sc.trans (hsub V all))) ⟨lvs, lk, V.sub _ _ elb, Nl⟩ ⟨352, rfl⟩ (fun i hi => ?_) ?_
 ·first | replace hi := in1 hi | replace hi := in2 hi | replace hi := in3 hi | replace hi := in4 hi | replace hi := in5 hi | simp only [List.mem_cons, List.not_mem_nil, or_false] at hi
  rcases hi with rfl | rfl
  ·exact ⟨by (first | lia | omega), _, hx, hsx⟩
  ·exact ⟨by (first | lia | omega), _, hy, hsy⟩
 intro t9 h9 s9
 replace V := V.mono s9
 wtm_at "qgo"; wtm_at "qbn"; wtm_at "qgo"
 refine r_lenl (V.sub _ _ elb) (by (first | lia | omega)) fun u5 t5 => ?_
 wtm_at "qgo"
 rw [lsz, if_neg (by decide)]
 wtm_at "qgo"; wtm_at "qbn"; wtm_at "qgo"
 refine r_lenl (V.sub _ _ elb) (by (first | lia | omega)) fun u6 t6 => ?_
 wtm_at "qgo"
 rw [lsz, if_neg (by decide)]
 wtm_at "qgo"; wtm_at "qbn"; wtm_at "qgo"
 refine r_tuplelist2 V (.inr elb) (by (first | lia | omega)) ?_
 clear V; intro pa h12 lo12 s12 V
 wtm_at "qgo"
 wtm_at "qgl"
 wtm_at "qgo"
 refine ⟨V.sub, ?_⟩
 have sh := hsub V fun p hp => .tail _ hp
 have epa := V.nw (pa, _) (.head _)
 have newpa : h.objs.size ≤ pa := Nat.le_trans lo (Nat.le_of_lt lo12)
 obtain ⟨M2, S2, N2, s2⟩ := grow_more M Sc sh
 exact make_tail (m := ⟨"and", [x, y], 0, .i 0⟩) G' V.sub (R'.less (Nat.le_succ _)) M M2 S2 N2 s2.kept sh.kept hb' ⟨_, rfl⟩ ⟨_, grow_new newpa epa.1, Nl⟩ ⟨_, rfl⟩ ⟨_, rfl⟩ hz k
theorem ite_ok {q x y : Nat} {mq mx my : Tm} {v0 v1 v2 : Value} (G : Gd w b₀) (S : Sub b₀ h) (R : Rm A (n + 2)) (M : BankM w c B ts fs) (Sc : Sub c h) (hb : ∀ a ∈ C8 B, b₀.get? a = none) (hv0 : IsN v0 q) (hv1 : IsN v1 x) (hv2 : IsN v2 y) (hq : ts[q]? = some mq) (hx : ts[x]? = some mx) (hy : ts[y]? = some my) (hsq : mq.sort = 0) (hs : my.sort = mx.sort) (hz : ts.length ≤ 900)
  (k : Made w B c h fs g d o (mk ts ⟨"ite", [q, x, y], mx.sort, .i 0⟩) Q) : wpAny (model PR w) A (call (.ref 411) [.ref B.x, v0, v1, v2]) Q Never ⟨h, g, d, t, o⟩ := by
 have hqz : q < 900 := by have := (List.getElem?_eq_some_iff.mp hq).1; (first | lia | omega)
 have hxz : x < 900 := by have := (List.getElem?_eq_some_iff.mp hx).1; (first | lia | omega)
 have hyz : y < 900 := by have := (List.getElem?_eq_some_iff.mp hy).1; (first | lia | omega)
 obtain ⟨u0, rfl⟩ := hv0
 obtain ⟨u1, rfl⟩ := hv1
 obtain ⟨u2, rfl⟩ := hv2
 refine enterB fn411 [("self", .ref B.x), ("c", .int q u0), ("a", .int x u1), ("b", .int y u2)] ["self", "c", "a", "b"] [] [("self", some (.ref B.x)), ("c", some (.int q u0)), ("a", some (.int x u1)), ("b", some (.int y u2))] G S R M Sc hb rfl rfl rfl rfl (by decide +kernel) (by decide +kernel) (by decide +kernel) (fun b env h' t' C G' kb hb' J tk lo hC1 hC2 e V R' hsub => ?_)
 obtain ⟨vs, ks', es, Ns⟩ := M.r.sorts
 obtain ⟨sv, hsv, us, rfl⟩ := Ns.get hx
 have ms : (B.ls, listOf vs ks') ∈ C := memC hC1 hC2 (by first | exact c8_1 _ | exact c8_2 _ | exact c8_3 _ | exact c8_4 _ | exact c8_5 _ | exact c8_6 _ | exact c8_7 _ | exact c8_8 _ | simp [C8]) es
 have all : ∀ p ∈ C, p ∈ C := fun p hp => hp
 wtm_at "qgo"
 wtm_at "qgl"
 wtm_at "qgo"
 refine ⟨V.sub, ?_⟩
 refine want_ok G' V.sub R' (M.r.sub (Sc.trans (hsub V all))) ⟨_, rfl⟩ ⟨352, rfl⟩ hq hsq (by (first | lia | omega)) ?_
 intro t8 h8 s8
 replace V := V.mono s8
 wtm_at "qgo"
 refine r_item_list V (.inl ms) (by (first | lia | omega)) (by (first | lia | omega)) (by first | exact hsv | simpa using hsv) ?_
 wtm_at "qgo"
 refine ⟨V.sub, ?_⟩
 refine want_ok G' V.sub R' (M.r.sub (Sc.trans (hsub V all))) ⟨_, rfl⟩ ⟨us, rfl⟩ hy hs (by (first | lia | omega)) ?_
 intro t9 h9 s9
 replace V := V.mono s9
 wtm_at "qgo"
 have ll := V.lt
 refine r_newtuple V ?_; clear V; intro pa h12 lo12 s12 V
 wtm_at "qgo"
 refine r_item_list V (.inl (.tail _ ms)) (by (first | lia | omega)) (by (first | lia | omega)) (by first | exact hsv | simpa using hsv) ?_
 wtm_at "qgo"
 refine ⟨V.sub, ?_⟩
 have sh := hsub V fun p hp => .tail _ hp
 have epa := V.nw (pa, _) (.head _)
 have newpa : h.objs.size ≤ pa := Nat.le_trans lo (Nat.le_trans (Nat.le_of_lt ll) lo12)
 obtain ⟨M2, S2, N2, s2⟩ := grow_more M Sc sh
 exact make_tail (m := ⟨"ite", [q, x, y], mx.sort, .i 0⟩) G' V.sub R' M M2 S2 N2 s2.kept sh.kept hb' ⟨_, rfl⟩ ⟨_, grow_new newpa epa.1, .cons ⟨_, rfl⟩ (.cons ⟨_, rfl⟩ (.cons ⟨_, rfl⟩ .nil))⟩ ⟨us, rfl⟩ ⟨_, rfl⟩ hz k
theorem fresh_ok {s : Nat} {nv sv : Value} (G : Gd w b₀) (S : Sub b₀ h) (R : Rm A (n + 2)) (M : BankM w c B ts fs) (Sc : Sub c h) (hb : ∀ a ∈ C8 B, b₀.get? a = none) (hs : IsN sv s) (hz : ts.length ≤ 900) (hf : fs.length ≤ 900)
  (k : Made w B c h (fs ++ [([], s)]) g d o (mk ts ⟨"app", [], s, .i fs.length⟩) Q) : wpAny (model PR w) A (call (.ref 194) [.ref B.x, nv, sv]) Q Never ⟨h, g, d, t, o⟩ := by
 refine enterB fn194 [("self", .ref B.x), ("name", nv), ("s", sv)] ["self", "name", "s"] [] [("self", some (.ref B.x)), ("name", some nv), ("s", some sv)] G S R M Sc hb rfl rfl rfl rfl (by decide +kernel) (by decide +kernel) (by decide +kernel) (fun b env h' t' C G' kb hb' J tk lo hC1 hC2 e V R' hsub => ?_)
 wtm_at "qgo"
 have ll := V.lt
 refine r_newtuple V ?_; clear V; intro pa h12 lo12 s12 V
 wtm_at "qgo"
 have ll2 := V.lt
 refine r_newtuple V ?_; clear V; intro pb h13 lo13 s13 V
 wtm_at "qgo"
 refine ⟨V.sub, ?_⟩
 have sh := hsub V fun p hp => .tail _ (.tail _ hp)
 have epa := V.nw (pa, _) (.tail _ (.head _))
 have epb := V.nw (pb, _) (.head _)
 have newpa : h.objs.size ≤ pa := Nat.le_trans lo (Nat.le_trans (Nat.le_of_lt ll) lo12)
 have newpb : h.objs.size ≤ pb := Nat.le_trans lo (Nat.le_trans (Nat.le_of_lt ll2) lo13)
 obtain ⟨M2, S2, N2, s2⟩ := grow_more M Sc sh
 have tpa : TupN (grow c h h13) pa [] := ⟨_, grow_new newpa epa.1, .nil⟩
 refine declare_ok (sl := []) (r := s) G' V.sub R' M2 S2 hb' ⟨_, grow_new newpb epb.1, .nil⟩ hs hf ?_
 intro c3 u3 t3 h3 M3 S3 N3 K3 Kh3
 wtm_at "qgo"
 have sb3 : Sub b h3 := sub_past V.sub Kh3 hb'
 refine ⟨sb3, ?_⟩
 have hdom : ∀ a ∈ C8 B, (c.get? a).isSome = true := fun a ha => by
  obtain ⟨oo, e, _⟩ := M.some8 a ha
  rw [e]; rfl
 refine make_ok (m := ⟨"app", [], s, .i fs.length⟩) G' sb3 R' M3 S3 hb' ⟨_, rfl⟩ (tpa.keptB M2 K3) hs ⟨_, rfl⟩ hz ?_
 intro c4 u4 t4 h4 M4 S4 N4 K4 Kh4
 repeat wtm_at "qkt"
 exact k c4 u4 t4 h4 M4 S4 ((N2.trans N3 sh.kept hdom).trans N4 (sh.kept.trans Kh3) hdom) ((s2.kept.trans K3).trans K4) ((sh.kept.trans Kh3).trans Kh4)
end
end
section
section
variable {w : World} {A : Around} {s : Shared} {E : Value → Shared → Prop}
theorem tnext_item {it c : Addr} {i : Nat} {its : Array Value} {x : Value} {Q : Value → Shared → Prop} (hi : s.heap.IsTupleIter it c i) (hc : s.heap.IsTuple c its) (hx : its[i]? = some x)
  (k : ∀ h', h'.IsTupleIter it c (i + 1) → Heap.SameBut it s.heap h' → Q x { s with heap := h' }) : wpAny (model PR w) A (Builtin.SmallTypes.nextOf (.ref it)) Q E s := by
 obtain ⟨o1, e1, c1, d1⟩ := id hi
 obtain ⟨o2, e2, _, n2, d2⟩ := hc
 unfold Builtin.SmallTypes.nextOf
 refine wpAny_bind (wpAny_callSpecial?_slot (name := Str.ofString "__next__") hi.typeIs F.slot_tuple_iterator_next (wpAny_call_entry F.slot_tuple_iterator_next hi.typeIs F.entry_tuple_iterator_next ?_ (F.args_tuple_iterator_next_1 _)))
 refine wpAny_bind (m := field (.ref it) 0) (wpAny_field e1 d1 (x := .ref c) rfl ?_)
 show wpAny _ _ (if (Value.ref c == Value.none) = true then _ else _) _ _ s
 first | refine ite_f (show ¬ ((Value.ref c == Value.none) = true) from Bool.false_ne_true) ?_ | rw [if_neg (show ¬ ((Value.ref c == Value.none) = true) from Bool.false_ne_true)]
 refine wpAny_bind (m := field (.ref it) 1) (wpAny_field e1 d1 (x := .int i 0) rfl ?_)
 refine wpAny_bind (m := seqItems? (.ref c)) (wpAny_seqItems e2 d2 ?_)
 simp only [Int.toNat_natCast, hx]
 refine wpAny_bind (wpAny_setField e1 d1 (by simp) (wpAny_pure ⟨x, rfl, wpAny_pure (k _ ?_ (Heap.SameBut.update ..))⟩))
 exact ⟨_, Heap.get?_update_self _ e1 (Obj.isFreed_of_fields (Obj.data_mapFields d1 _)), (Obj.cls_mapFields ..).trans c1, by rw [Obj.data_mapFields d1]; simp [rawInt]⟩
theorem tnext_end {it c : Addr} {i : Nat} {its : Array Value} {Q : Value → Shared → Prop} (hh : A.handled = none) (hi : s.heap.IsTupleIter it c i) (hc : s.heap.IsTuple c its) (hx : its[i]? = none)
  (k : ∀ h' e, Heap.ExtBut it s.heap h' → (∃ o, h'.get? e = some o ∧ o.cls = .type "StopIteration") → E (.ref e) { s with heap := h' }) : wpAny (model PR w) A (Builtin.SmallTypes.nextOf (.ref it)) Q E s := by
 obtain ⟨o1, e1, c1, d1⟩ := id hi
 obtain ⟨o2, e2, _, n2, d2⟩ := hc
 unfold Builtin.SmallTypes.nextOf
 refine wpAny_bind (wpAny_callSpecial?_slot (name := Str.ofString "__next__") hi.typeIs F.slot_tuple_iterator_next (wpAny_call_entry F.slot_tuple_iterator_next hi.typeIs F.entry_tuple_iterator_next ?_ (F.args_tuple_iterator_next_1 _)))
 refine wpAny_bind (m := field (.ref it) 0) (wpAny_field e1 d1 (x := .ref c) rfl ?_)
 show wpAny _ _ (if (Value.ref c == Value.none) = true then _ else _) _ _ s
 first | refine ite_f (show ¬ ((Value.ref c == Value.none) = true) from Bool.false_ne_true) ?_ | rw [if_neg (show ¬ ((Value.ref c == Value.none) = true) from Bool.false_ne_true)]
 refine wpAny_bind (m := field (.ref it) 1) (wpAny_field e1 d1 (x := .int i 0) rfl ?_)
 refine wpAny_bind (m := seqItems? (.ref c)) (wpAny_seqItems e2 d2 ?_)
 simp only [Int.toNat_natCast, hx]
 refine wpAny_bind (wpAny_rule (wpAny_bind (wpAny_setField e1 d1 (by simp) ?_)))
 refine wpAny_bind (m := newExc (.type "StopIteration") []) ?_
 simp only [newExc, newTuple]
 refine wpAny_bind (wpAny_newObj_type ?_ (by size_fits))
 refine wpAny_bind (m := firstArgMember _ _) (wpAny_of_eq (a := Value.none) (by first | rfl | (simp only [firstArgMember]; rfl)) ?_)
 refine wpAny_newObj_type ?_ (by size_fits)
 simp only [raiseNew]
 refine wpAny_bind (wpAny_handled ?_)
 first | rw [show A.in1.handled = none from hh] | rw [hh]
 refine wpAny_bind (wpAny_pure (wpAny_throw ?_))
 exact k _ _ (((Heap.SameBut.update ..).extBut.push _).push _) ⟨_, Heap.get?_push_size _ rfl, rfl⟩
end
structure Zp (h : Heap) (z TI TO i1 i2 l1 l2 : Addr) (f : Value) (i j : Nat) (xs ys : List Value) : Prop where
 z : IsZip h z TI TO f
 TI : IsPair h TI (.ref i1) (.ref i2)
 TO : ∃ a c, IsPair h TO a c
 i1 : h.IsTupleIter i1 l1 i
 i2 : h.IsTupleIter i2 l2 j
 l1 : h.get? l1 = some (tupOf xs)
 l2 : h.get? l2 = some (tupOf ys)
section
variable {w : World} {A : Around} {s : Shared} {E : Value → Shared → Prop} {z TI TO i1 i2 l1 l2 : Addr} {xs ys : List Value} {i : Nat}
theorem zp_next {x y : Value} {Q : Option Value → Shared → Prop} (D : ZipApart z TI TO i1 i2 l1 l2) (Z : Zp s.heap z TI TO i1 i2 l1 l2 .none i i xs ys) (hx : xs[i]? = some x) (hy : ys[i]? = some y)
  (k : ∀ h', Zp h' z TI TO i1 i2 l1 l2 (rawInt s.heap.objs.size) (i + 1) (i + 1) xs ys → h'.get? s.heap.objs.size = some (tupOf [x, y]) → Kept [z, TO, i1, i2] s.heap h' → Q (some (.ref s.heap.objs.size)) { s with heap := h' }) :
  wpAny (model PR w) A (pyNext (.ref z)) Q E s := by
 obtain ⟨hz, hTI, ⟨a, c, hTO⟩, h1, h2, e1, e2⟩ := Z
 have hT : s.TypeIs (.ref z) "zip" := ⟨_, hz, rfl⟩
 have g1 := isTuple_of e1
 have g2 := isTuple_of e2
 unfold pyNext
 refine wpAny_bind (wpAny_attempt (wpAny_callSpecial?_slot (name := Str.ofString "__next__") hT F.slot_zip_next (wpAny_call_entry F.slot_zip_next hT F.entry_zip_next ?_ (F.args_zip_next_1 _))))
 refine wpAny_bind (m := field (.ref z) 2) (wpAny_field hz rfl (x := .bool false) rfl ?_)
 refine wpAny_bind (m := field (.ref z) 3) (wpAny_field hz rfl (x := .ref TI) rfl ?_)
 refine wpAny_bind (m := seqItems? (.ref TI)) (wpAny_seqItems hTI rfl ?_)
 refine wpAny_bind (m := Builtin.SmallTypes.ownedTupleIsFree (.ref z)) ?_
 unfold Builtin.SmallTypes.ownedTupleIsFree
 refine wpAny_bind (wpAny_field hz rfl (x := .none) rfl (wpAny_pure ?_))
 simp only [if_true]
 refine wpAny_bind (wpAny_rule (wpAny_bind (wpAny_field hz rfl (x := .ref TO) rfl ?_)))
 refine wpAny_bind (wpAny_setField_rec hz (by simp) fun ha hza sa => ?_)
 replace hza : IsZip ha z TI TO .ellipsis := hza
 refine wpAny_bind ?_
 simp only [List.zipIdx_cons, List.zipIdx_nil, List.forIn_cons, List.forIn_nil]
 refine wpAny_bind (wpAny_bind (wpAny_onRaise ?_))
 refine wpAny_bind (m := Builtin.SmallTypes.nextOf (.ref i1)) (tnext_item (h1.extBut sa.extBut D.i1z) (g1.extBut sa.extBut D.l1z) (by first | exact hx | simpa using hx) fun hb h1b sb => wpAny_pure ?_)
 have hTOb : IsPair hb TO a c := sb.extBut _ _ D.TOi1 (sa.extBut _ _ D.TOz hTO)
 refine wpAny_bind (wpAny_seqItems hTOb rfl (wpAny_bind (wpAny_updateSeq_pair hTOb fun hc hTOc sc => ?_)))
 replace hTOc : IsPair hc TO x c := hTOc
 refine wpAny_bind (wpAny_letGo (wpAny_pure ?_))
 refine wpAny_bind (wpAny_bind (wpAny_onRaise ?_))
 refine wpAny_bind (m := Builtin.SmallTypes.nextOf (.ref i2)) (tnext_item (((h2.extBut sa.extBut D.i2z).extBut sb.extBut D.i12.symm).extBut sc.extBut D.TOi2.symm) (((g2.extBut sa.extBut D.l2z).extBut sb.extBut D.l2i1).extBut sc.extBut D.l2TO) (by first | exact hy | simpa using hy) fun hd h2d sd => wpAny_pure ?_)
 have hTOd : IsPair hd TO x c := sd.extBut _ _ D.TOi2 hTOc
 refine wpAny_bind (wpAny_seqItems hTOd rfl (wpAny_bind (wpAny_updateSeq_pair hTOd fun he hTOe se => ?_)))
 replace hTOe : IsPair he TO x y := hTOe
 refine wpAny_bind (wpAny_letGo (wpAny_pure (wpAny_pure ?_)))
 refine wpAny_bind (wpAny_seqItems hTOe rfl (wpAny_bind (wpAny_newTuple ?_)))
 have hsz : he.objs.size = s.heap.objs.size := by rw [se.1, sd.1, sc.1, sb.1, sa.1]
 have hze : IsZip he z TI TO .ellipsis := se.extBut _ _ D.TOz.symm (sd.extBut _ _ D.i2z.symm (sc.extBut _ _ D.TOz.symm (sb.extBut _ _ D.i1z.symm hza)))
 have ke : ∀ q oq, q ≠ z → q ≠ TO → q ≠ i1 → q ≠ i2 → s.heap.get? q = some oq → he.get? q = some oq := fun q oq n1 n2 n3 n4 ee => se.extBut _ _ n2 (sd.extBut _ _ n4 (sc.extBut _ _ n2 (sb.extBut _ _ n3 (sa.extBut _ _ n1 ee))))
 have h1e : he.IsTupleIter i1 l1 (i + 1) := ((h1b.extBut sc.extBut D.TOi1.symm).extBut sd.extBut D.i12).extBut se.extBut D.TOi1.symm
 have h2e : he.IsTupleIter i2 l2 (i + 1) := h2d.extBut se.extBut D.TOi2.symm
 have zlt : z < he.objs.size := Heap.lt_size hze
 refine wpAny_bind (m := Builtin.SmallTypes.ownedTupleHandOut (.ref z) (.ref he.objs.size)) ?_
 unfold Builtin.SmallTypes.ownedTupleHandOut
 have hzf : IsZip (he.push { cls := .type "tuple", data := .seq #[x, y] }) z TI TO .ellipsis := Heap.get?_push_of_some _ hze
 refine wpAny_bind (wpAny_setField_rec hzf (by simp) fun hg hzg sg => ?_)
 replace hzg : IsZip hg z TI TO (rawInt he.objs.size) := hzg
 refine wpAny_setField_rec hzg (by simp) fun hi hzi si => ?_
 replace hzi : IsZip hi z TI TO (rawInt he.objs.size) := hzi
 have up : ∀ q oq, q ≠ z → he.get? q = some oq → hi.get? q = some oq := fun q oq n1 ee => si.extBut _ _ n1 (sg.extBut _ _ n1 (Heap.get?_push_of_some _ ee))
 have new : hi.get? he.objs.size = some (tupOf [x, y]) := si.extBut _ _ (Nat.ne_of_gt zlt) (sg.extBut _ _ (Nat.ne_of_gt zlt) (Heap.get?_push_size _ rfl))
 have kp : ∀ q oq, q ≠ z → q ≠ TO → q ≠ i1 → q ≠ i2 → s.heap.get? q = some oq → hi.get? q = some oq := fun q oq n1 n2 n3 n4 ee => up _ _ n1 (ke q oq n1 n2 n3 n4 ee)
 rw [hsz] at hzi new
 refine wpAny_pure ⟨_, rfl, wpAny_pure ?_⟩
 show Q (some (.ref he.objs.size)) _
 rw [hsz]
 have i1h : hi.IsTupleIter i1 l1 (i + 1) := let ⟨oo, ee, r⟩ := h1e; ⟨oo, up _ _ D.i1z ee, r⟩
 have i2h : hi.IsTupleIter i2 l2 (i + 1) := let ⟨oo, ee, r⟩ := h2e; ⟨oo, up _ _ D.i2z ee, r⟩
 exact k hi ⟨hzi, kp _ _ D.TIz D.TITO D.TIi1 D.TIi2 hTI, ⟨x, y, up _ _ D.TOz hTOe⟩, i1h, i2h, kp _ _ D.l1z D.l1TO D.l1i1 D.l1i2 e1, kp _ _ D.l2z D.l2TO D.l2i1 D.l2i2 e2⟩ new fun q oq ee n => by
  simp only [List.mem_cons, List.not_mem_nil, or_false, not_or] at n
  exact kp q oq n.1 n.2.1 n.2.2.1 n.2.2.2 ee
theorem zp_end {Q : Option Value → Shared → Prop} (hh : A.handled = none) (D : ZipApart z TI TO i1 i2 l1 l2) (Z : Zp s.heap z TI TO i1 i2 l1 l2 .none i i xs ys) (hx : xs[i]? = none)
  (k : ∀ h', Kept [z, TO, i1, i2] s.heap h' → Q none { s with heap := h' }) : wpAny (model PR w) A (pyNext (.ref z)) Q E s := by
 obtain ⟨hz, hTI, ⟨a, c, hTO⟩, h1, h2, e1, e2⟩ := Z
 have hT : s.TypeIs (.ref z) "zip" := ⟨_, hz, rfl⟩
 have g1 := isTuple_of e1
 unfold pyNext
 refine wpAny_bind (wpAny_attempt (wpAny_callSpecial?_slot (name := Str.ofString "__next__") hT F.slot_zip_next (wpAny_call_entry F.slot_zip_next hT F.entry_zip_next ?_ (F.args_zip_next_1 _))))
 refine wpAny_bind (m := field (.ref z) 2) (wpAny_field hz rfl (x := .bool false) rfl ?_)
 refine wpAny_bind (m := field (.ref z) 3) (wpAny_field hz rfl (x := .ref TI) rfl ?_)
 refine wpAny_bind (m := seqItems? (.ref TI)) (wpAny_seqItems hTI rfl ?_)
 refine wpAny_bind (m := Builtin.SmallTypes.ownedTupleIsFree (.ref z)) ?_
 unfold Builtin.SmallTypes.ownedTupleIsFree
 refine wpAny_bind (wpAny_field hz rfl (x := .none) rfl (wpAny_pure ?_))
 simp only [if_true]
 refine wpAny_bind (wpAny_rule (wpAny_bind (wpAny_field hz rfl (x := .ref TO) rfl ?_)))
 refine wpAny_bind (wpAny_setField_rec hz (by simp) fun ha hza sa => ?_)
 replace hza : IsZip ha z TI TO .ellipsis := hza
 refine wpAny_bind ?_
 simp only [List.zipIdx_cons, List.zipIdx_nil, List.forIn_cons, List.forIn_nil]
 refine wpAny_bind (wpAny_bind (wpAny_onRaise ?_))
 refine wpAny_bind (m := Builtin.SmallTypes.nextOf (.ref i1)) (tnext_end hh (h1.extBut sa.extBut D.i1z) (g1.extBut sa.extBut D.l1z) (by first | exact hx | simpa using hx) fun hb e sb he => ?_)
 obtain ⟨oe, hoe, hce⟩ := he
 have hzb : IsZip hb z TI TO .ellipsis := sb _ _ D.i1z.symm hza
 have hez : e ≠ z := fun q => by subst q; rw [hzb] at hoe; cases hoe; simp at hce
 refine wpAny_setField_rec hzb (by simp) fun hc _ sc => ?_
 refine wpAny_bind (wpAny_isInstance (T := "StopIteration") (b := true) ⟨oe, sc.extBut _ _ hez hoe, hce⟩ isSubtype_stop ?_)
 exact wpAny_pure (k _ fun q oq ee n => by
  simp only [List.mem_cons, List.not_mem_nil, or_false, not_or] at n
  exact sc.extBut _ _ n.1 (sb _ _ n.2.2.1 (sa.extBut _ _ n.1 ee)))
end
noncomputable abbrev zq1 (h : Heap) (l1 : Addr) : Heap := h.push { cls := .type "tuple_iterator", data := .fields #[.ref l1, .int 0 0] }
noncomputable abbrev zq2 (h : Heap) (l1 l2 : Addr) : Heap := (zq1 h l1).push { cls := .type "tuple_iterator", data := .fields #[.ref l2, .int 0 0] }
noncomputable abbrev zq3 (h : Heap) (l1 l2 : Addr) : Heap := (zq2 h l1 l2).push { cls := .type "tuple", data := .seq #[.ref h.objs.size, .ref (zq1 h l1).objs.size] }
noncomputable abbrev zq4 (h : Heap) (l1 l2 : Addr) : Heap := (zq3 h l1 l2).push { cls := .type "tuple", data := .seq #[.none, .none] }
noncomputable abbrev zq5 (h : Heap) (l1 l2 : Addr) : Heap := (zq4 h l1 l2).push { cls := .type "zip", data := .fields #[.none, .bool false, .bool false, .ref (zq2 h l1 l2).objs.size, .ref (zq3 h l1 l2).objs.size] }
theorem zq_sizes (h : Heap) (l1 l2 : Addr) : (zq1 h l1).objs.size = h.objs.size + 1 ∧ (zq2 h l1 l2).objs.size = h.objs.size + 2 ∧ (zq3 h l1 l2).objs.size = h.objs.size + 3 ∧ (zq4 h l1 l2).objs.size = h.objs.size + 4 ∧ (zq5 h l1 l2).objs.size = h.objs.size + 5 := by
 have z1 : (zq1 h l1).objs.size = h.objs.size + 1 := Heap.size_push ..
 have z2 : (zq2 h l1 l2).objs.size = h.objs.size + 2 := by rw [Heap.size_push, z1]
 have z3 : (zq3 h l1 l2).objs.size = h.objs.size + 3 := by rw [Heap.size_push, z2]
 have z4 : (zq4 h l1 l2).objs.size = h.objs.size + 4 := by rw [Heap.size_push, z3]
 exact ⟨z1, z2, z3, z4, by rw [Heap.size_push, z4]⟩
theorem zip_makes (l1 l2 : Addr) (xs ys : Array Value) :
  Meets (Builtin.«zip.__new__» ⟨[.type "zip", .ref l1, .ref l2], []⟩) (fun _ R s => s.heap.IsTuple l1 xs ∧ s.heap.IsTuple l2 ys ∧ R (.ok (.ret (.ref (zq4 s.heap l1 l2).objs.size))) { s with heap := zq5 s.heap l1 l2 }) :=
 .of_wp fun prog w A R s h => by
  obtain ⟨hp, g, d, tk, os⟩ := s; obtain ⟨hl1, hl2, h⟩ := h
  have hsub := sub_zip
  have hL1 : Heap.IsTuple (Shared.heap ⟨hp, g, d, tk, os⟩) l1 xs := hl1
  have hL2 : Heap.IsTuple (Shared.heap ⟨hp.push { cls := .type "tuple_iterator", data := .fields #[.ref l1, .int 0 0] }, g, d, tk, os⟩) l2 ys := Heap.IsTuple.push hl2 _
  wp_walk using wpAny_pyIter_tuple hL1, wpAny_pyIter_tuple hL2
  exact ⟨_, rfl, h⟩
section
variable {w : World} {b h : Heap} {env : Env} {l : List (Str × Option Value)} {σ : List (Addr × Obj)} {A : Around} {g : Array GenState} {d : Drawn} {t : Nat} {o : OsState}
theorem r_zip {l1 l2 : Addr} {xs ys : List Value} {Q : Value → Shared → Prop} (V : Fm b env h l σ) (e1 : h.get? l1 = some (tupOf xs)) (e2 : h.get? l2 = some (tupOf ys))
  (k : ∀ h' z TI TO i1 i2 oz ot o1 o2 oi, ZipApart z TI TO i1 i2 l1 l2 → Zp h' z TI TO i1 i2 l1 l2 .none 0 0 xs ys → Fm b env h' l ((z, oz) :: (TO, ot) :: (TI, oi) :: (i2, o2) :: (i1, o1) :: σ) → Q (.ref z) ⟨h', g, d, t, o⟩) :
  wpAny (model PR w) A (call (.type "zip") [.ref l1, .ref l2]) Q Never ⟨h, g, d, t, o⟩ := by
 refine callType_new (s := ⟨h, g, d, t, o⟩) F.called_zip (by decide) (F.typeCall_zip_2 _ _) (F.newCall_zip_2 _ _) (fun obj => F.args_object_init_3 obj _ _) F.entry_zip_new
  (zip_makes l1 l2 xs.toArray ys.toArray) ⟨isTuple_of e1, isTuple_of e2, ?_⟩
 obtain ⟨z1, z2, z3, z4, z5⟩ := zq_sizes h l1 l2
 have V5 := ((((V.push { cls := .type "tuple_iterator", data := .fields #[.ref l1, .int 0 0] }).push { cls := .type "tuple_iterator", data := .fields #[.ref l2, .int 0 0] }).push { cls := .type "tuple", data := .seq #[.ref h.objs.size, .ref (zq1 h l1).objs.size] }).push { cls := .type "tuple", data := .seq #[.none, .none] }).push { cls := .type "zip", data := .fields #[.none, .bool false, .bool false, .ref (zq2 h l1 l2).objs.size, .ref (zq3 h l1 l2).objs.size] }
 have up : ∀ a oo, h.get? a = some oo → (zq5 h l1 l2).get? a = some oo := fun a oo e => Heap.get?_push_of_some _ (Heap.get?_push_of_some _ (Heap.get?_push_of_some _ (Heap.get?_push_of_some _ (Heap.get?_push_of_some _ e))))
 show _ ∧ _
 rw [z4]
 have V5' : Fm b env (zq5 h l1 l2) l ((h.objs.size + 4, { cls := .type "zip", data := .fields #[.none, .bool false, .bool false, .ref (h.objs.size + 2), .ref (h.objs.size + 3)] }) :: (h.objs.size + 3, { cls := .type "tuple", data := .seq #[.none, .none] }) :: (h.objs.size + 2, { cls := .type "tuple", data := .seq #[.ref h.objs.size, .ref (h.objs.size + 1)] }) :: (h.objs.size + 1, { cls := .type "tuple_iterator", data := .fields #[.ref l2, .int 0 0] }) :: (h.objs.size, { cls := .type "tuple_iterator", data := .fields #[.ref l1, .int 0 0] }) :: σ) := by
  have V6 := V5
  rw [z1, z2, z3] at V6
  rw [← z1, ← z2, ← z3, ← z4] at *
  exact V5
 have m1 := (V5'.nw (h.objs.size + 4, _) (.head _)).1
 have m2 := (V5'.nw (h.objs.size + 3, _) (.tail _ (.head _))).1
 have m3 := (V5'.nw (h.objs.size + 2, _) (.tail _ (.tail _ (.head _)))).1
 have m4 := (V5'.nw (h.objs.size + 1, _) (.tail _ (.tail _ (.tail _ (.head _))))).1
 have m5 := (V5'.nw (h.objs.size, _) (.tail _ (.tail _ (.tail _ (.tail _ (.head _)))))).1
 exact ⟨⟨_, m1, rfl⟩, k _ _ _ _ _ _ _ _ _ _ _ (zipApart_new (Heap.lt_size e1) (Heap.lt_size e2)) ⟨m1, m3, ⟨_, _, m2⟩, ⟨_, m5, rfl, rfl⟩, ⟨_, m4, rfl, rfl⟩, up _ _ e1, up _ _ e2⟩ V5'⟩
end
end
section
noncomputable def fn418 : FnAt 418 := ⟨_, _, _, _, fun _ => rfl, fun _ => by kernel_rfl⟩
section
variable {w : World} {b h : Heap} {env : Env} {l : List (Str × Option Value)} {σ : List (Addr × Obj)} {A : Around} {g : Array GenState} {d : Drawn} {t : Nat} {o : OsState}
theorem Zp.same {h h' : Heap} {z TI TO i1 i2 l1 l2 : Addr} {f : Value} {i j : Nat} {xs ys : List Value} (Z : Zp h z TI TO i1 i2 l1 l2 f i j xs ys) (k : ∀ a ∈ [z, TO, TI, i2, i1, l1, l2], ∀ oo, h.get? a = some oo → h'.get? a = some oo) : Zp h' z TI TO i1 i2 l1 l2 f i j xs ys :=
 ⟨k z (by simp) _ Z.z, k TI (by simp) _ Z.TI, let ⟨a, c, e⟩ := Z.TO; ⟨a, c, k TO (by simp) _ e⟩, let ⟨oo, e, r⟩ := Z.i1; ⟨oo, k i1 (by simp) _ e, r⟩, let ⟨oo, e, r⟩ := Z.i2; ⟨oo, k i2 (by simp) _ e, r⟩, k l1 (by simp) _ Z.l1, k l2 (by simp) _ Z.l2⟩
noncomputable abbrev TurnZ (Q : Flow → Shared → Prop) (g : Array GenState) (d : Drawn) (o : OsState) (b : Heap) (env : Env) (q1 q2 q3 q4 q5 : Addr × Obj) (I : Nat → List (Str × Option Value) → List (Addr × Obj) → Prop) (i : Nat) : Flow → Shared → Prop :=
 Turn Q fun s₃ => Ex4 fun h' t' l' σ' => Al3 (s₃ = ⟨h', g, d, t', o⟩) (Fm b env h' l' (q1 :: q2 :: q3 :: q4 :: q5 :: σ')) (I (i + 1) l' σ')
theorem nd5 {a1 a2 a3 a4 a5 : Addr} {r : List Addr} (h : (a1 :: a2 :: a3 :: a4 :: a5 :: r).Nodup) : a1 ∉ r ∧ a2 ∉ r ∧ a5 ∉ r ∧ a4 ∉ r := by
 simp only [List.nodup_cons, List.mem_cons, not_or] at h
 exact ⟨h.1.2.2.2.2, h.2.1.2.2.2, h.2.2.2.2.1, h.2.2.2.1.2⟩
theorem loop_zip {x y : Str} {p1 p2 tp : Pos} {nn : Nat} {body : List Stmt} {Q : Flow → Shared → Prop} {z TI TO i1 i2 l1 l2 : Addr} {oz ot oi o1 o2 : Obj} {xs ys : List Value} (hh : A.handled = none) (D : ZipApart z TI TO i1 i2 l1 l2) (V : Fm b env h l ((z, oz) :: (TO, ot) :: (TI, oi) :: (i2, o2) :: (i1, o1) :: σ)) (Z : Zp h z TI TO i1 i2 l1 l2 .none 0 0 xs ys) (hlen : xs.length = ys.length)
  (Inv : Nat → List (Str × Option Value) → List (Addr × Obj) → Prop) (h0 : Inv 0 l σ) (hI : ∀ i l σ, Inv i l σ → At b σ l1 (tupOf xs) ∧ At b σ l2 (tupOf ys))
  (turn : ∀ i v1 v2 q1 q2 q3 q4 q5 h t l σ, xs[i]? = some v1 → ys[i]? = some v2 → Inv i l σ → Fm b env h l (q1 :: q2 :: q3 :: q4 :: q5 :: σ) →
   wpAny (model PR w) A (storeName env x v1) (fun _ s₂ => wpAny (model PR w) A (storeName env y v2) (fun _ s₃ => wpAny (model PR w) A (execs body env) (TurnZ Q g d o b env q1 q2 q3 q4 q5 Inv i) Never s₃) Never s₂) Never ⟨h, g, d, t, o⟩)
  (done : ∀ h t l σ, Inv xs.length l σ → Fm b env h l σ → Q .next ⟨h, g, d, t, o⟩) : Loop w A (.Tuple [.Name x p1, .Name y p2] nn tp) body env Q (.ref z) ⟨h, g, d, t, o⟩ := by
 refine wpAny_pyIter_zip (s := ⟨h, g, d, t, o⟩) Z.z ?_
 refine codeAny_forLoopW
  (fun m s' => Ex10 fun h' t' l' σ' i oz ot oi o1 o2 => Al6 (s' = ⟨h', g, d, t', o⟩) (Fm b env h' l' ((z, oz) :: (TO, ot) :: (TI, oi) :: (i2, o2) :: (i1, o1) :: σ')) (Zp h' z TI TO i1 i2 l1 l2 .none i i xs ys) (Inv i l' σ') (i ≤ xs.length) (m = xs.length + 1 - i)) ?_ (xs.length + 1)
  ⟨_, _, l, σ, 0, _, _, _, _, _, rfl, V, Z, h0, Nat.zero_le _, rfl⟩
 clear V Z
 rintro m s' ⟨h', t', l', σ', i, oz', ot', oi', o1', o2', rfl, V', Z', hI', hi, rfl⟩
 have na := V'.na
 replace na := nd5 na
 have fresh : ∀ c ∈ [z, TO, i1, i2], b.get? c = none ∧ c ≠ env.locals := fun c hc => by
  first | replace hc := in1 hc | replace hc := in2 hc | replace hc := in3 hc | replace hc := in4 hc | replace hc := in5 hc | simp only [List.mem_cons, List.not_mem_nil, or_false] at hc
  rcases hc with rfl | rfl | rfl | rfl
  ·have := V'.nw _ (.head _); exact ⟨this.2.2, this.2.1⟩
  ·have := V'.nw _ (.tail _ (.head _)); exact ⟨this.2.2, this.2.1⟩
  ·have := V'.nw _ (.tail _ (.tail _ (.tail _ (.tail _ (.head _))))); exact ⟨this.2.2, this.2.1⟩
  ·have := V'.nw _ (.tail _ (.tail _ (.tail _ (.head _)))); exact ⟨this.2.2, this.2.1⟩
 have notin : ∀ p ∈ σ', p.1 ∉ [z, TO, i1, i2] := fun p hp q => by
  have hm := List.mem_map_of_mem (f := (·.1)) hp
  first | replace q := in1 q | replace q := in2 q | replace q := in3 q | replace q := in4 q | replace q := in5 q | simp only [List.mem_cons, List.not_mem_nil, or_false] at q
  rcases q with q | q | q | q
  ·exact na.1 (q ▸ hm)
  ·exact na.2.1 (q ▸ hm)
  ·exact na.2.2.1 (q ▸ hm)
  ·exact na.2.2.2 (q ▸ hm)
 have mv : ∀ {h2 : Heap} {f2 : Value} {j : Nat}, Kept [z, TO, i1, i2] h' h2 → Zp h2 z TI TO i1 i2 l1 l2 f2 j j xs ys → ∃ oz ot oi o1 o2, Fm b env h2 l' ((z, oz) :: (TO, ot) :: (TI, oi) :: (i2, o2) :: (i1, o1) :: σ') := fun {h2 f2 j} hk Z2 => by
  obtain ⟨qt, eTO⟩ : ∃ q, h2.get? TO = some q := let ⟨_, _, e⟩ := Z2.TO; ⟨_, e⟩
  obtain ⟨qz, eZ⟩ : ∃ q, h2.get? z = some q := ⟨_, Z2.z⟩
  obtain ⟨qi, eTI⟩ : ∃ q, h2.get? TI = some q := ⟨_, Z2.TI⟩
  obtain ⟨q1, e1, _⟩ := Z2.i1
  obtain ⟨q2, e2, _⟩ := Z2.i2
  refine ⟨qz, qt, qi, q1, q2, V'.step hk fresh (fun p hp => ?_) V'.na⟩
  have nTI := V'.nw _ (.tail _ (.tail _ (.head _)))
  rcases List.mem_cons.mp hp with rfl | hp
  ·exact .inr ⟨eZ, fresh z (.head _)⟩
  rcases List.mem_cons.mp hp with rfl | hp
  ·exact .inr ⟨eTO, fresh TO mem1⟩
  rcases List.mem_cons.mp hp with rfl | hp
  ·exact .inr ⟨eTI, nTI.2.2, nTI.2.1⟩
  rcases List.mem_cons.mp hp with rfl | hp
  ·exact .inr ⟨e2, fresh i2 mem3⟩
  rcases List.mem_cons.mp hp with rfl | hp
  ·exact .inr ⟨e1, fresh i1 mem2⟩
  exact .inl ⟨.tail _ (.tail _ (.tail _ (.tail _ (.tail _ hp)))), notin p hp⟩
 by_cases hlt : i < xs.length
 ·have hx : xs[i]? = some xs[i] := List.getElem?_eq_getElem hlt
  have hy : ys[i]? = some (ys[i]'(by (first | lia | omega))) := List.getElem?_eq_getElem _
  refine zp_next (s := ⟨h', g, d, t', o⟩) D Z' hx hy fun h2 Z2 eT hk => ?_
  refine wpAny_letOwnedTupleGo_zip (s := ⟨h2, g, d, t', o⟩) Z2.z fun h3 z3 s3 => ?_
  have k3 : Kept [z, TO, i1, i2] h' h3 := fun a oo ea n => s3.extBut _ _ (fun q => n (q ▸ by simp)) (hk _ _ ea n)
  have Z3 : Zp h3 z TI TO i1 i2 l1 l2 .none (i + 1) (i + 1) xs ys := by
   obtain ⟨aa, cc, eTO⟩ := Z2.TO
   exact ⟨z3, s3.extBut _ _ D.TIz Z2.TI, ⟨aa, cc, s3.extBut _ _ D.TOz eTO⟩, Z2.i1.extBut s3.extBut D.i1z, Z2.i2.extBut s3.extBut D.i2z, s3.extBut _ _ D.l1z Z2.l1, s3.extBut _ _ D.l2z Z2.l2⟩
  obtain ⟨oz3, ot3, oi3, o13, o23, V3⟩ := mv k3 Z3
  have eT3 : h3.get? h'.objs.size = some (tupOf [xs[i], ys[i]'(by (first | lia | omega))]) := s3.extBut _ _ (Nat.ne_of_gt (Heap.lt_size Z'.z)) eT
  refine r_target2 hh eT3 (later fun h4 t4 s4 => ?_)
  have V4 := V3.mono s4
  have Z4 := Z3.same fun a _ oo e => s4 _ _ e
  refine wpAny_mono (turn i _ _ _ _ _ _ _ h4 t4 l' σ' hx hy hI' V4) (fun _ s₂ q => wpAny_mono q (fun _ s₃ q => wpAny_mono q (fun f s₄ q => ?_) fun _ _ q => q.elim) fun _ _ q => q.elim) fun _ _ q => q.elim
  have fin : (Ex4 fun h' t' l' σ' => Al3 (s₄ = ⟨h', g, d, t', o⟩) (Fm b env h' l' ((z, oz3) :: (TO, ot3) :: (TI, oi3) :: (i2, o23) :: (i1, o13) :: σ')) (Inv (i + 1) l' σ')) →
    ∃ m, m < xs.length + 1 - i ∧ Ex10 fun h' t' l' σ' i oz ot oi o1 o2 => Al6 (s₄ = ⟨h', g, d, t', o⟩) (Fm b env h' l' ((z, oz) :: (TO, ot) :: (TI, oi) :: (i2, o2) :: (i1, o1) :: σ')) (Zp h' z TI TO i1 i2 l1 l2 .none i i xs ys) (Inv i l' σ') (i ≤ xs.length) (m = xs.length + 1 - i) := by
   rintro ⟨h5, t5, l5, σ5, rfl, V5, I5⟩
   refine ⟨xs.length + 1 - (i + 1), by (first | lia | omega), h5, t5, l5, σ5, i + 1, oz3, ot3, oi3, o13, o23, rfl, V5, ?_, I5, hlt, rfl⟩
   refine Z4.same fun a ha oo e => ?_
   first | replace ha := in1 ha | replace ha := in2 ha | replace ha := in3 ha | replace ha := in4 ha | replace ha := in5 ha | simp only [List.mem_cons, List.not_mem_nil, or_false] at ha
   have sm : ∀ p ∈ ((z, oz3) :: (TO, ot3) :: (TI, oi3) :: (i2, o23) :: (i1, o13) :: ([] : List (Addr × Obj))), h4.get? p.1 = some oo → h5.get? p.1 = some oo := fun p hp e => by
    have m4 := (V4.nw p (List.mem_append_left σ' hp)).1
    have m5 := (V5.nw p (List.mem_append_left σ5 hp)).1
    rw [m4] at e; rw [m5]; exact e
   rcases ha with rfl | rfl | rfl | rfl | rfl | rfl | rfl
   ·exact sm (_, oz3) (.head _) e
   ·exact sm (_, ot3) mem1 e
   ·exact sm (_, oi3) mem2 e
   ·exact sm (_, o23) mem3 e
   ·exact sm (_, o13) (memt (.head _)) e
   ·have e2 := Z4.l1
    rw [e2] at e; cases e
    exact V5.at ((hI _ _ _ I5).1.imp (fun m => .tail _ (.tail _ (.tail _ (.tail _ (.tail _ m))))) id)
   ·have e2 := Z4.l2
    rw [e2] at e; cases e
    exact V5.at ((hI _ _ _ I5).2.imp (fun m => .tail _ (.tail _ (.tail _ (.tail _ (.tail _ m))))) id)
  cases f with
  | next => exact fin q
  | cont => exact fin q
  | brk => exact q
  | ret v => exact q
 ·have hin : i = xs.length := by (first | lia | omega)
  subst hin
  refine zp_end (s := ⟨h', g, d, t', o⟩) hh D Z' (by simp) fun h2 hk => ?_
  refine done _ _ _ _ hI' (V'.step hk fresh (fun p hp => .inl ⟨.tail _ (.tail _ (.tail _ (.tail _ (.tail _ hp)))), notin p hp⟩) (V'.na.sublist ?_))
  exact List.Sublist.map _ ((((((List.sublist_cons_self _ _).trans (List.sublist_cons_self _ _)).trans (List.sublist_cons_self _ _)).trans (List.sublist_cons_self _ _)).trans (List.sublist_cons_self _ _)))
end
section
variable {w : World} {b₀ c h : Heap} {A : Around} {g : Array GenState} {d : Drawn} {t : Nat} {o : OsState} {B : BankL} {ts : List Tm} {fs : List (List Nat × Nat)} {n : Nat} {Q : Value → Shared → Prop}
theorem app_ok {f r : Nat} {sl xs : List Nat} {fv : Value} {pa : Addr} (G : Gd w b₀) (S : Sub b₀ h) (R : Rm A (n + 2)) (M : BankM w c B ts fs) (Sc : Sub c h) (hb : ∀ a ∈ C8 B, b₀.get? a = none) (hf : IsN fv f) (hfs : fs[f]? = some (sl, r)) (hfz : f < 900) (hpa : TupN c pa xs) (hlen : xs.length = sl.length) (hl9 : xs.length ≤ 900)
  (hs : ∀ (i x s : Nat), xs[i]? = some x → sl[i]? = some s → x < 1000 ∧ ∃ m, ts[x]? = some m ∧ m.sort = s) (hz : ts.length ≤ 900)
  (k : Made w B c h fs g d o (mk ts ⟨"app", xs, r, .i f⟩) Q) : wpAny (model PR w) A (call (.ref 418) [.ref B.x, fv, .ref pa]) Q Never ⟨h, g, d, t, o⟩ := by
 obtain ⟨uf, rfl⟩ := hf
 refine enterB fn418 [("self", .ref B.x), ("f", .int f uf), ("some", .ref pa)] ["self", "f", "some"] ["sorts", "t", "s"] [("self", some (.ref B.x)), ("f", some (.int f uf)), ("some", some (.ref pa)), ("sorts", none), ("t", none), ("s", none)] G S R M Sc hb rfl rfl rfl rfl (by decide +kernel) (by decide +kernel) (by decide +kernel) (fun b env h' t' C G' kb hb' J tk lo hC1 hC2 e V R' hsub => ?_)
 obtain ⟨vf, kf, ef, sf⟩ := M.fn
 obtain ⟨vg, kg, eg, Ng⟩ := M.fa
 obtain ⟨vr, kr, er, Nr⟩ := M.fr
 obtain ⟨_, hsv, sa, rfl, svs, esa, Nsv⟩ := Ng.get hfs
 obtain ⟨rv, hrv, ur, rfl⟩ := Nr.get hfs
 have hfl : f < fs.length := (List.getElem?_eq_some_iff.mp hfs).1
 obtain ⟨nv, hnv⟩ : ∃ nv, vf[f]? = some nv := ⟨_, Array.getElem?_eq_getElem (by (first | lia | omega))⟩
 have mf : (B.lfn, listOf vf kf) ∈ C := memC hC1 hC2 (by first | exact c8_1 _ | exact c8_2 _ | exact c8_3 _ | exact c8_4 _ | exact c8_5 _ | exact c8_6 _ | exact c8_7 _ | exact c8_8 _ | simp [C8]) ef
 have mg : (B.lfa, listOf vg kg) ∈ C := memC hC1 hC2 (by first | exact c8_1 _ | exact c8_2 _ | exact c8_3 _ | exact c8_4 _ | exact c8_5 _ | exact c8_6 _ | exact c8_7 _ | exact c8_8 _ | simp [C8]) eg
 have mr : (B.lfr, listOf vr kr) ∈ C := memC hC1 hC2 (by first | exact c8_1 _ | exact c8_2 _ | exact c8_3 _ | exact c8_4 _ | exact c8_5 _ | exact c8_6 _ | exact c8_7 _ | exact c8_8 _ | simp [C8]) er
 have all : ∀ p ∈ C, p ∈ C := fun p hp => hp
 obtain ⟨xvs, exs, Nxs⟩ := hpa
 have exb := tk _ _ exs
 have esb := tk _ _ esa
 have lx := Nxs.length
 have lsv : svs.length = sl.length := Nsv.length
 wtm_at "qgo"
 refine r_item_list V (.inl mg) (by (first | lia | omega)) (by (first | lia | omega)) (by first | exact hsv | simpa using hsv) ?_
 wtm_at "qst"; clear V; intro h1 t1 V
 wtm_at "qgo"; wtm_at "qbn"; wtm_at "qgo"
 refine r_lent (V.sub _ _ exb) (by (first | lia | omega)) fun u2 t2 => ?_
 wtm_at "qgo"; wtm_at "qbn"; wtm_at "qgo"
 refine r_lent (V.sub _ _ esb) (by (first | lia | omega)) fun u3 t3 => ?_
 wtm_at "qgo"
 rw [show ((xvs.length : Int) != (svs.length : Int)) = false by rw [lx, lsv, hlen]; simp]
 first | refine ite_f Bool.false_ne_true ?_ | rw [if_neg Bool.false_ne_true]
 wtm_at "qgo"; wtm_at "qbn"; wtm_at "qgo"
 refine r_zip V (V.sub _ _ exb) (V.sub _ _ esb) ?_
 clear V; intro h4 z TI TO i1 i2 oz ot o1 o2 oi D Z V
 wtm_at "qgo"
 let Jx1 : Nat → List (Str × Option Value) → List (Addr × Obj) → Prop := fun i l σ => Ex2 fun y1 y2 => Al2 (l = ([("self", some (.ref B.x)), ("f", some (.int f uf)), ("some", some (.ref pa)), ("sorts", some (.ref sa)), ("t", y1), ("s", y2)] : List (Str × Option Value))) (σ = C)
 refine loop_zip R'.h D V Z (by (first | lia | omega)) Jx1 ⟨_, _, rfl, rfl⟩ (fun _ _ _ _ => ⟨.inr exb, .inr esb⟩) ?_ ?_
 ·clear V Z
  rintro i v1 v2 q1 q2 q3 q4 q5 h5 t5 l σ hv1 hv2 ⟨y1, y2, rfl, rfl⟩ V
  obtain ⟨x, hx, hxv⟩ := Nxs.back hv1
  obtain ⟨s, hsx, hsv2⟩ := Nsv.back hv2
  obtain ⟨hxz, m, hm, hms⟩ := hs i x s hx hsx
  wtm_at "qst"; clear V; intro h6 t6 V
  wtm_at "qst"; clear V; intro h7 t7 V
  wtm_at "qgo"
  refine r_item_list V (.inl (.tail _ (.tail _ (.tail _ (.tail _ (.tail _ mf)))))) (by (first | lia | omega)) (by (first | lia | omega)) (by first | exact hnv | simpa using hnv) ?_
  wtm_at "qgo"
  refine ⟨V.sub, ?_⟩
  refine want_ok G' V.sub R' (M.r.sub (Sc.trans (hsub V fun p hp => .tail _ (.tail _ (.tail _ (.tail _ (.tail _ hp))))))) hxv hsv2 hm hms hxz ?_
  intro t9 h9 s9
  replace V := V.mono s9
  wtm_at "qgo"
  repeat wtm_at "qkt"
  exact ⟨_, _, _, _, rfl, V, _, _, rfl, rfl⟩
 ·clear V Z
  rintro h5 t5 l σ ⟨y1, y2, rfl, rfl⟩ V
  wtm_at "qgo"; wtm_at "qbn"; wtm_at "qgo"
  refine r_tuptup (V.sub _ _ exb) ?_
  wtm_at "qgo"
  refine r_item_list V (.inl mr) (by (first | lia | omega)) (by (first | lia | omega)) (by first | exact hrv | simpa using hrv) ?_
  wtm_at "qgo"
  refine ⟨V.sub, ?_⟩
  have sh := hsub V all
  exact make_tail (m := ⟨"app", xs, r, .i f⟩) G' V.sub R' M M (Sc.trans sh) (NewTo.refl c h) (Sub.refl c).kept sh.kept hb' ⟨_, rfl⟩ ⟨_, exs, Nxs⟩ ⟨ur, rfl⟩ ⟨_, rfl⟩ hz k
end
end
section
theorem rv_owner : Manifest.owners.lookup (String.ofList ['d', 'e', 's', 'r', 'e', 'v', 'e', 'r'].reverse) = some Manifest.sig_reversed := by kernel_rfl
theorem rv_next : Slot "reversed" "__next__" "reversed.__next__" :=
 .of (owner := "reversed") (n := "__next__") (by rw [typeLookup_type, builtinLookup_eq_fast]; kernel_rfl) (by decide +kernel) (by decide +kernel) (by decide +kernel)
  (by first | exact .inl (by decide +kernel) | exact .inr (by decide +kernel)) (by rw [isSubtype_type]; kernel_rfl)
theorem rv_iter : Slot "reversed" "__iter__" "reversed.__iter__" :=
 .of (owner := "reversed") (n := "__iter__") (by rw [typeLookup_type, builtinLookup_eq_fast]; kernel_rfl) (by decide +kernel) (by decide +kernel) (by decide +kernel)
  (by first | exact .inl (by decide +kernel) | exact .inr (by decide +kernel)) (by rw [isSubtype_type]; kernel_rfl)
theorem rv_init : Slot "reversed" "__init__" "object.__init__" :=
 .of (owner := "object") (n := "__init__") (by rw [typeLookup_type, builtinLookup_eq_fast]; kernel_rfl) (by decide +kernel) (by decide +kernel) (by decide +kernel)
  (by first | exact .inl (by decide +kernel) | exact .inr (by decide +kernel)) (by rw [isSubtype_type]; kernel_rfl)
theorem rv_nextE : entryFor table "reversed.__next__" = some Builtin.«reversed.__next__» := entryFor_of_tree (by kernel_rfl)
theorem rv_nextA (a : Value) : argsOk "reversed.__next__" ⟨[a], []⟩ := by
 unfold argsOk; rw [signature?_of (id := "reversed.__next__") (n := ['_', '_', 't', 'x', 'e', 'n', '_', '_']) (o := ['d', 'e', 's', 'r', 'e', 'v', 'e', 'r']) (by kernel_rfl) rv_owner]; kernel_rfl
theorem rv_iterA (a : Value) : argsOk "reversed.__iter__" ⟨[a], []⟩ := by
 unfold argsOk; rw [signature?_of (id := "reversed.__iter__") (n := ['_', '_', 'r', 'e', 't', 'i', '_', '_']) (o := ['d', 'e', 's', 'r', 'e', 'v', 'e', 'r']) (by kernel_rfl) rv_owner]; kernel_rfl
theorem rv_iterE : entryFor table "reversed.__iter__" = some Builtin.«dict_keyiterator.__iter__» :=
 entryFor_alias (id' := "dict_keyiterator.__iter__") (by kernel_rfl) (by first | rfl | decide +kernel | (unfold String.splitOn; simp +decide [String.splitOnAux])) (by decide +kernel) (by kernel_rfl)
theorem rv_mro : mroOf (.type "reversed") = pure [.type "reversed", .type "object"] := by rw [mroOf_type]; kernel_rfl
theorem rv_lookup : typeLookup (.type "reversed") "__new__" = pure (some (.builtin "reversed.__new__")) := by rw [typeLookup_type, builtinLookup_eq_fast]; kernel_rfl
theorem rv_sub : isSubtype (.type "reversed") (.type "reversed") = pure true := by rw [isSubtype_type]; kernel_rfl
theorem rv_called : TypeCalled "reversed" "reversed.__new__" "object.__init__" :=
 ⟨by decide +kernel, by decide +kernel, ⟨_, _, rv_mro⟩, madeBy_type rv_mro rv_lookup (by decide +kernel), by decide +kernel, rv_sub, rv_init⟩
theorem rv_tc (a : Value) : checkTypeCall "reversed" ⟨[a], []⟩ = pure () := by kernel_rfl
theorem rv_nc (a : Value) : checkBuiltinCall "reversed.__new__" ⟨[.type "reversed", a], []⟩ = pure () := by kernel_rfl
theorem rv_newE : entryFor table "reversed.__new__" = some Builtin.«reversed.__new__» := entryFor_of_tree (by kernel_rfl)
theorem rv_initA (a b : Value) : argsOk "object.__init__" ⟨[a, b], []⟩ := by
 unfold argsOk; rw [signature?_of (id := "object.__init__") (n := ['_', '_', 't', 'i', 'n', 'i', '_', '_']) (o := ['t', 'c', 'e', 'j', 'b', 'o']) (by kernel_rfl) PySem.F.owner_object]; kernel_rfl
theorem tup_noRev : typeLookup (.type "tuple") "__reversed__" = pure none := by rw [typeLookup_type, builtinLookup_eq_fast]; kernel_rfl
theorem tup_noDict : isSubtype (.type "tuple") (.type "dict") = pure false := by rw [isSubtype_type]; kernel_rfl
end
section
noncomputable abbrev revT (a : Addr) (i : Int) : Obj := { cls := .type "reversed", data := .fields #[.ref a, rawInt i] }
theorem rv_makes (a : Addr) (xs : Array Value) :
  Meets (Builtin.«reversed.__new__» ⟨[.type "reversed", .ref a], []⟩) (fun _ R s => IsTup s.heap a xs ∧ (xs.size : Int) < 2 ^ 63 ∧ ∀ tk, R (.ok (.ret (.ref s.heap.objs.size))) { s with heap := s.heap.push (revT a ((xs.size : Int) - 1)), toks := tk }) :=
 .of_wp fun prog w A R s h => by
  obtain ⟨ht, hz, h⟩ := h
  unfold Builtin.«reversed.__new__»
  refine wpAny_bind (wpAny_of_eq (newClass_reversed _) ?_)
  try dsimp only
  refine wpAny_bind (wpAny_of_eq (a := ()) (by first | rfl | kernel_rfl) ?_)
  refine wpAny_bind (wpAny_of_eq (a := ()) (by first | rfl | kernel_rfl) ?_)
  try dsimp only
  refine wpAny_bind (wpAny_specialOf ht.typeIs tup_noRev ?_)
  refine wpAny_bind ?_
  show wpAny _ _ (isInstance (.ref a) (.type "dict") >>= _) _ _ _
  refine wpAny_bind (wpAny_isInstance ht.typeIs tup_noDict ?_)
  rw [if_neg Bool.false_ne_true]
  refine wpAny_bind (wpAny_specialOf ht.typeIs slot_tuple_getitem.lookup ?_)
  refine wpAny_of_eq (a := true) (by first | rfl | kernel_rfl) ?_
  rw [if_neg (by decide)]
  refine wpAny_bind (len_tuple ht hz ?_)
  refine wpAny_bind (wpAny_of_eq (a := some (xs.size : Int)) rfl ?_)
  try dsimp only
  refine wpAny_bind ?_
  show wpAny _ _ (newObj (.type "reversed") (.fields #[.ref a, rawInt ((xs.size : Int) - 1)])) _ _ _
  exact wpAny_newObj_type (wpAny_pure ⟨_, rfl, h _⟩)
section
variable {w : World} {b h : Heap} {env : Env} {l : List (Str × Option Value)} {σ : List (Addr × Obj)} {A : Around} {g : Array GenState} {d : Drawn} {t : Nat} {o : OsState}
theorem r_reversed {a : Addr} {xs : List Value} {Q : Value → Shared → Prop} (V : Fm b env h l σ) (e : h.get? a = some (tupOf xs)) (hz : xs.length ≤ 1000000)
  (k : ∀ r h' t', r ≠ a → Sub h h' → Fm b env h' l ((r, revT a ((xs.length : Int) - 1)) :: σ) → Q (.ref r) ⟨h', g, d, t', o⟩) : wpAny (model PR w) A (call (.type "reversed") [.ref a]) Q Never ⟨h, g, d, t, o⟩ := by
 refine callType_new (s := ⟨h, g, d, t, o⟩) rv_called (by decide) (rv_tc _) (rv_nc _) (fun obj => rv_initA obj _) rv_newE (rv_makes a xs.toArray) ⟨isTup_of e, by rw [List.size_toArray]; (first | lia | omega), fun tk => ?_⟩
 rw [List.size_toArray]
 exact ⟨⟨_, Heap.get?_push_size _ rfl, rfl⟩, k _ _ _ (Nat.ne_of_gt (Heap.lt_size e)) (fun _ _ x => Heap.get?_push_of_some _ x) (V.push _)⟩
noncomputable def IsRv (h : Heap) (r a : Addr) (i : Int) : Prop := ∃ o, h.get? r = some o ∧ o.cls = .type "reversed" ∧ o.data = .fields #[.ref a, rawInt i]
theorem IsRv.typeIs {s : Shared} {r a : Addr} {i : Int} (x : IsRv s.heap r a i) : s.TypeIs (.ref r) "reversed" := let ⟨o, e, c, _⟩ := x; ⟨o, e, c⟩
theorem rv_item {s : Shared} {E : Value → Shared → Prop} {r a : Addr} {i : Nat} {xs : List Value} {x : Value} {Q : Option Value → Shared → Prop} (hr : IsRv s.heap r a (i : Int)) (ha : s.heap.get? a = some (tupOf xs)) (hx : xs[i]? = some x) (hz : xs.length ≤ 1000000)
  (k : ∀ h' tk, IsRv h' r a ((i : Int) - 1) → Heap.SameBut r s.heap h' → Q (some x) { s with heap := h', toks := tk }) : wpAny (model PR w) A (pyNext (.ref r)) Q E s := by
 obtain ⟨o1, e1, c1, d1⟩ := id hr
 have hlt : i < xs.length := (List.getElem?_eq_some_iff.mp hx).1
 unfold pyNext
 refine wpAny_bind (wpAny_attempt (wpAny_callSpecial?_slot (name := Str.ofString "__next__") hr.typeIs rv_next (wpAny_call_entry rv_next hr.typeIs rv_nextE ?_ (rv_nextA _))))
 unfold Builtin.«reversed.__next__»
 refine wpAny_bind (wpAny_of_eq (a := (Value.ref r, [])) rfl ?_)
 try dsimp only
 refine wpAny_bind (wpAny_field e1 d1 (x := .ref a) rfl ?_)
 refine wpAny_bind (wpAny_field e1 d1 (x := rawInt (i : Int)) rfl ?_)
 show wpAny _ _ (if (i : Int) < 0 then _ else _) _ _ s
 rw [if_neg (by (first | lia | omega))]
 refine wpAny_bind (m := specialOf (.ref a) (Str.ofString "__getitem__")) (wpAny_specialOf (isTup_of ha).typeIs slot_tuple_getitem.lookup ?_)
 rw [if_neg (by simp)]
 refine wpAny_bind (wpAny_mkInt ?_)
 refine wpAny_bind (wpAny_attempt (getItem_tuple (j := i) (x := x) (isTup_of ha) (by (first | lia | omega)) (by (first | lia | omega)) (by rw [List.size_toArray, seqIndex_of (by (first | lia | omega)) (by (first | lia | omega))]; rfl) (by first | exact hx | simpa using hx) ?_))
 try dsimp only
 refine wpAny_bind (wpAny_field e1 d1 (x := rawInt (i : Int)) rfl ?_)
 show wpAny _ _ (setField (.ref r) 1 (rawInt ((i : Int) - 1)) >>= _) _ _ _
 refine wpAny_bind (wpAny_setField e1 d1 (by simp) (wpAny_pure ⟨x, rfl, wpAny_pure (k _ _ ?_ (Heap.SameBut.update ..))⟩))
 exact ⟨_, Heap.get?_update_self _ e1 (Obj.isFreed_of_fields (Obj.data_mapFields d1 _)), (Obj.cls_mapFields ..).trans c1, by rw [Obj.data_mapFields d1]; simp⟩
theorem rv_end {s : Shared} {E : Value → Shared → Prop} {r a : Addr} {Q : Option Value → Shared → Prop} (hh : A.handled = none) (hr : IsRv s.heap r a (-1))
  (k : ∀ h' tk, Heap.ExtBut r s.heap h' → Q none { s with heap := h', toks := tk }) : wpAny (model PR w) A (pyNext (.ref r)) Q E s := by
 obtain ⟨o1, e1, c1, d1⟩ := id hr
 unfold pyNext
 refine wpAny_bind (wpAny_attempt (wpAny_callSpecial?_slot (name := Str.ofString "__next__") hr.typeIs rv_next (wpAny_call_entry rv_next hr.typeIs rv_nextE ?_ (rv_nextA _))))
 unfold Builtin.«reversed.__next__»
 refine wpAny_bind (wpAny_of_eq (a := (Value.ref r, [])) rfl ?_)
 try dsimp only
 refine wpAny_bind (wpAny_field e1 d1 (x := .ref a) rfl ?_)
 refine wpAny_bind (wpAny_field e1 d1 (x := rawInt (-1)) rfl ?_)
 show wpAny _ _ (if (-1 : Int) < 0 then _ else _) _ _ s
 rw [if_pos (by decide)]
 refine wpAny_bind (wpAny_rule ?_)
 refine wpAny_bind ?_
 show wpAny _ _ (setField (.ref r) 1 (rawInt (-1)) >>= fun _ => setField (.ref r) 0 .none) _ _ _
 refine wpAny_bind (wpAny_setField e1 d1 (by simp) ?_)
 refine wpAny_setField (Heap.get?_update_self _ e1 (Obj.isFreed_of_fields (Obj.data_mapFields d1 _))) (Obj.data_mapFields d1 _) (by simp) ?_
 refine wpAny_bind ?_
 show wpAny _ _ (newExc (.type "StopIteration") [] >>= _) _ _ _
 refine wpAny_bind ?_
 simp only [newExc, newTuple]
 refine wpAny_bind (wpAny_newObj_type ?_ (by size_fits))
 refine wpAny_bind (m := firstArgMember _ _) (wpAny_of_eq (a := Value.none) (by first | rfl | (simp only [firstArgMember]; rfl)) ?_)
 refine wpAny_newObj_type ?_ (by size_fits)
 simp only [raiseNew]
 refine wpAny_bind (wpAny_handled ?_)
 first | rw [show A.in1.handled = none from hh] | rw [hh]
 refine wpAny_bind (wpAny_pure (wpAny_throw ?_))
 refine wpAny_bind (wpAny_isInstance (T := "StopIteration") (b := true) ⟨_, Heap.get?_push_size _ rfl, rfl⟩ isSubtype_stop ?_)
 refine wpAny_pure (k _ _ ?_)
 exact Heap.ExtBut.push (Heap.ExtBut.push (fun q oq n e => (Heap.SameBut.update ..).extBut q oq n ((Heap.SameBut.update ..).extBut q oq n e)) _) _
theorem rv_self {s : Shared} {E : Value → Shared → Prop} {r a : Addr} {i : Int} {Q : Value → Shared → Prop} (hr : IsRv s.heap r a i) (k : Q (.ref r) s) : wpAny (model PR w) A (pyIter (.ref r)) Q E s := by
 refine wpAny_pyIter_slot hr.typeIs rv_iter (wpAny_call_entry rv_iter hr.typeIs rv_iterE ?_ (rv_iterA _))
 show wpAny _ _ (ret (.ref r)) _ _ s
 exact wpAny_pure ⟨_, rfl, "reversed", _, hr.typeIs, rv_next.lookup, k⟩
theorem IsRv.at {h h' : Heap} {r a : Addr} {i : Int} (x : IsRv h r a i) (e : ∀ o, h.get? r = some o → h'.get? r = some o) : IsRv h' r a i := let ⟨o, y, z⟩ := x; ⟨o, e _ y, z⟩
theorem rv_walks (hh : A.handled = none) (r a : Addr) (hne : a ≠ r) (xs : List Value) (hz : xs.length ≤ 1000000) :
  Walks PR w A r [r, a] [r] xs.length (fun i v => xs.reverse[i]? = some v) (fun i h => i ≤ xs.length ∧ IsRv h r a ((xs.length : Int) - 1 - (i : Int)) ∧ h.get? a = some (tupOf xs)) where
 sub := fun b hb => by simp at hb; simp [hb]
 frame := fun _ _ _ x hk => ⟨x.1, x.2.1.at fun o e => hk r (by simp) o e, hk a (by simp) _ x.2.2⟩
 item := fun i s Q E hi x hQ => by
  have e : (xs.length : Int) - 1 - (i : Int) = ((xs.length - 1 - i : Nat) : Int) := by (first | lia | omega)
  have hit := x.2.1
  rw [e] at hit
  have hx : xs[xs.length - 1 - i]? = some (xs[xs.length - 1 - i]'(by (first | lia | omega))) := List.getElem?_eq_getElem _
  refine rv_item hit x.2.2 hx hz fun h' tk hit' hs' => ?_
  have e2 : ((xs.length - 1 - i : Nat) : Int) - 1 = (xs.length : Int) - 1 - ((i + 1 : Nat) : Int) := by (first | lia | omega)
  rw [e2] at hit'
  exact hQ _ h' tk (by rw [List.getElem?_reverse hi]; exact hx) ⟨hi, hit', (hs'.2 a hne).trans x.2.2⟩ fun b o hb eo => hs'.extBut b o (fun h => hb (by simp [h])) eo
 done := fun s Q E x hQ => by
  have e : (xs.length : Int) - 1 - (xs.length : Int) = -1 := by (first | lia | omega)
  have hit := x.2.1
  rw [e] at hit
  exact rv_end hh hit fun h' tk he' => hQ h' tk fun b o hb eo => he' b o (fun h => hb (by simp [h])) eo
 self := fun _ _ _ _ x hQ => rv_self x.2.1 hQ
theorem loop_rev {target : Expr} {body : List Stmt} {Q : Flow → Shared → Prop} {r a : Addr} {xs : List Value} (hh : A.handled = none) (V : Fm b env h l ((r, revT a ((xs.length : Int) - 1)) :: σ)) (hne : r ≠ a) (hz : xs.length ≤ 1000000)
  (Inv : Nat → List (Str × Option Value) → List (Addr × Obj) → Prop) (h0 : Inv 0 l σ) (ha : ∀ i l σ, Inv i l σ → At b σ a (tupOf xs))
  (turn : ∀ i v I ito h t l σ, xs.reverse[i]? = some v → Inv i l σ → Fm b env h l ((I, ito) :: σ) →
   wpAny (model PR w) A (assign target env v) (fun _ s₂ => wpAny (model PR w) A (execs body env) (TurnE Q g d o b env (I, ito) Inv i) Never s₂) Never ⟨h, g, d, t, o⟩)
  (done : ∀ h t l σ, Inv xs.length l σ → Fm b env h l σ → Q .next ⟨h, g, d, t, o⟩) : Loop w A target body env Q (.ref r) ⟨h, g, d, t, o⟩ := by
 have er := (V.nw _ (.head _)).1
 have ea := V.tail.at (ha _ _ _ h0)
 refine rv_self (s := ⟨h, g, d, t, o⟩) (r := r) (a := a) (i := (xs.length : Int) - 1) ⟨_, er, rfl, rfl⟩ ?_
 refine loop_gen (rv_walks hh r a hne.symm xs hz) V ⟨Nat.zero_le _, ⟨_, er, rfl, by simp⟩, ea⟩ Inv h0 (fun c hc => ?_) (fun i v ito h t l σ hi hP hI V => turn i v r ito h t l σ hP hI V) done fun i h st => ?_
 ·rcases List.mem_cons.mp hc with rfl | hc
  ·exact .inl rfl
  ·rw [List.mem_singleton.mp hc]; exact .inr ⟨_, ha⟩
 ·obtain ⟨_, ⟨oo, e1, e2, e3⟩, _⟩ := st
  exact ⟨oo, _, e1, e2, by decide⟩
end
end
section
open Classical
structure CC (ts : List Tm) (terms : List Nat) (E : Nat → Nat → Prop) : Prop where
 rf : ∀ x, E x x
 sy : ∀ {x y}, E x y → E y x
 tr : ∀ {x y z}, E x y → E y z → E x z
 cg : ∀ t ∈ terms, ∀ u ∈ terms, (tmAt ts t).args ≠ [] → (tmAt ts t).op = (tmAt ts u).op → (tmAt ts t).data = (tmAt ts u).data →
  (All2 E (tmAt ts t).args (tmAt ts u).args ∨ ((tmAt ts t).op = "=" ∧ All2 E (tmAt ts t).args (tmAt ts u).args.reverse)) → E t u
 eq : ∀ t ∈ terms, (tmAt ts t).op = "=" → ∀ a b, (tmAt ts t).args = [a, b] → E a b → E t 1
 n1 : ∀ t ∈ terms, (tmAt ts t).op = "not" → ∀ p, (tmAt ts t).args = [p] → E p 1 → E t 2
 n2 : ∀ t ∈ terms, (tmAt ts t).op = "not" → ∀ p, (tmAt ts t).args = [p] → E p 2 → E t 1
 n3 : ∀ t ∈ terms, (tmAt ts t).op = "not" → ∀ p, (tmAt ts t).args = [p] → E t 1 → E p 2
 n4 : ∀ t ∈ terms, (tmAt ts t).op = "not" → ∀ p, (tmAt ts t).args = [p] → E t 2 → E p 1
noncomputable def Cl (ts : List Tm) (terms : List Nat) (P : List (Nat × Nat)) (x y : Nat) : Prop := ∀ E, CC ts terms E → (∀ p ∈ P, E p.1 p.2) → E x y
theorem all2_of {E : Nat → Nat → Prop} {F : Nat → Nat → Prop} {xs ys : List Nat} (N : All2 F xs ys) (h : ∀ x y, F x y → E x y) : All2 E xs ys := by
 induction N with
 | nil => exact .nil
 | cons hv _ ih => exact .cons (h _ _ hv) ih
theorem Cl.cc (ts : List Tm) (terms : List Nat) (P : List (Nat × Nat)) : CC ts terms (Cl ts terms P) where
 rf := fun x E C _ => C.rf x
 sy := fun h E C p => C.sy (h E C p)
 tr := fun h h' E C p => C.tr (h E C p) (h' E C p)
 cg := fun t ht u hu hn h1 h2 h3 E C p => C.cg t ht u hu hn h1 h2 (h3.imp (fun N => all2_of N fun _ _ q => q E C p) fun q => ⟨q.1, all2_of q.2 fun _ _ q => q E C p⟩)
 eq := fun t ht h1 a b h2 h3 E C p => C.eq t ht h1 a b h2 (h3 E C p)
 n1 := fun t ht h1 a h2 h3 E C p => C.n1 t ht h1 a h2 (h3 E C p)
 n2 := fun t ht h1 a h2 h3 E C p => C.n2 t ht h1 a h2 (h3 E C p)
 n3 := fun t ht h1 a h2 h3 E C p => C.n3 t ht h1 a h2 (h3 E C p)
 n4 := fun t ht h1 a h2 h3 E C p => C.n4 t ht h1 a h2 (h3 E C p)
theorem Cl.of {ts : List Tm} {terms : List Nat} {P : List (Nat × Nat)} {p : Nat × Nat} (h : p ∈ P) : Cl ts terms P p.1 p.2 := fun E _ q => q p h
theorem Cl.mono {ts : List Tm} {terms : List Nat} {P P' : List (Nat × Nat)} {x y : Nat} (h : Cl ts terms P x y) (s : ∀ p ∈ P, Cl ts terms P' p.1 p.2) : Cl ts terms P' x y :=
 h _ (Cl.cc ts terms P') s
structure WfS (ts : List Tm) (terms : List Nat) : Prop extends WfT ts terms where
 so : ∀ t ∈ terms, ∀ u ∈ terms, (tmAt ts t).args ≠ [] → (tmAt ts t).op = (tmAt ts u).op → (tmAt ts t).data = (tmAt ts u).data → (tmAt ts t).sort = (tmAt ts u).sort
section
variable {ts : List Tm} {terms : List Nat} {E : Nat → Nat → Prop} {c c' : Nat → Nat}
theorem WfT.args (W : WfT ts terms) {x : Nat} (hx : x ∈ terms) : ∀ a ∈ (tmAt ts x).args, a ∈ terms := by
 obtain ⟨_, m, hm, h, _⟩ := W.tm x hx; rw [tmAt_of hm]; exact h
theorem WfT.two' (W : WfT ts terms) {x : Nat} (hx : x ∈ terms) (h : (tmAt ts x).op = "=") : ∃ a b, (tmAt ts x).args = [a, b] := by
 obtain ⟨_, m, hm, _, _, h2, _⟩ := W.tm x hx
 rw [tmAt_of hm] at h ⊢
 match hma : m.args, h2 h with
 | [a, b], _ => exact ⟨a, b, rfl⟩
theorem WfT.one' (W : WfT ts terms) {x : Nat} (hx : x ∈ terms) (h : (tmAt ts x).op = "not") : ∃ a, (tmAt ts x).args = [a] := by
 obtain ⟨_, m, hm, _, _, _, h2⟩ := W.tm x hx
 rw [tmAt_of hm] at h ⊢
 match hma : m.args, h2 h with
 | [a], _ => exact ⟨a, rfl⟩
theorem joinC_snd (C : CC ts terms E) (hc : ∀ x ∈ terms, E x (c x)) {x y : Nat} (hx : x ∈ terms) (hy : y ∈ terms) (h : E x y) : ∀ t ∈ terms, E t (joinC c x y t) := by
 intro t ht
 unfold joinC
 split
 ·exact hc t ht
 ·have h1 := hc x hx
  have h2 := hc y hy
  have hxy : E (c x) (c y) := C.tr (C.sy h1) (C.tr h h2)
  dsimp only
  split
  ·rename_i q
   have ht' := hc t ht
   rw [q] at ht'
   refine C.tr ht' ?_
   rcases Nat.le_total (c x) (c y) with q | q
   ·rw [Nat.max_eq_right q, Nat.min_eq_left q]; exact C.sy hxy
   ·rw [Nat.max_eq_left q, Nat.min_eq_right q]; exact hxy
  ·exact hc t ht
theorem all2_map {xs ys : List Nat} {f : Nat → Nat} (h : xs.map f = ys) : All2 (fun x y => f x = y) xs ys := by
 induction xs generalizing ys with
 | nil => cases h; exact .nil
 | cons a r ih => cases h; exact .cons rfl (ih rfl)
theorem all2_mem {β : Type} {F G : Nat → β → Prop} {xs : List Nat} {ys : List β} (N : All2 F xs ys) (h : ∀ x ∈ xs, ∀ y, F x y → G x y) : All2 G xs ys := by
 induction N with
 | nil => exact .nil
 | cons hv _ ih => exact .cons (h _ (.head _) _ hv) (ih fun x hx => h x (.tail _ hx))
theorem all2_join {xs ys zs : List Nat} (C : CC ts terms E) (N : All2 E xs zs) (M : All2 E ys zs) : All2 E xs ys := by
 induction N generalizing ys with
 | nil => cases M; exact .nil
 | cons h _ ih => cases M with | cons h' M => exact .cons (C.tr h (C.sy h')) (ih M)
theorem sortE_eq {l : List Nat} {a b : Nat} (h : l = [a, b]) : sortE "=" l = [min a b, max a b] := by
 subst h; unfold sortE; rw [if_pos rfl]
theorem sortE_ne {op : Str} (h : op ≠ "=") (l : List Nat) : sortE op l = l := if_neg h
structure PsSnd (ts : List Tm) (terms : List Nat) (E : Nat → Nat → Prop) (S : PS) : Prop where
 c : ∀ x ∈ terms, E x (S.c x)
 fw : ∀ k u, S.fw k = some u → u ∈ terms ∧ ∃ es, k = headOf (tmAt ts u) (sortE (tmAt ts u).op es) ∧ All2 E (tmAt ts u).args es
theorem headOf_inj {m m' : Tm} {e e' : List Nat} (h : headOf m e = headOf m' e') : m.op = m'.op ∧ m.data = m'.data ∧ e = e' := by
 simp only [headOf, List.cons.injEq, KI.s.injEq, KI.t.injEq, KI.i.injEq, and_true] at h
 exact ⟨h.1, dtKI_inj' h.2.1, h.2.2.2⟩
where
 dtKI_inj' {x y : Dt} (h : dtKI x = dtKI y) : x = y := by
  cases x <;> cases y <;> simp [dtKI] at h <;> simp [h]
theorem min_max2 {a b x y : Nat} (h1 : min a b = min x y) (h2 : max a b = max x y) : (a = x ∧ b = y) ∨ (a = y ∧ b = x) := by
 rcases Nat.le_total a b with q | q <;> rcases Nat.le_total x y with r | r <;>
  simp only [Nat.min_eq_left, Nat.min_eq_right, Nat.max_eq_left, Nat.max_eq_right, q, r] at h1 h2
 ·exact .inl ⟨h1, h2⟩
 ·exact .inr ⟨h1, h2⟩
 ·exact .inr ⟨h2, h1⟩
 ·exact .inl ⟨h2, h1⟩
theorem head_snd (W : WfT ts terms) (C : CC ts terms E) {t u : Nat} (ht : t ∈ terms) (hu : u ∈ terms) (hn : (tmAt ts t).args ≠ []) {es fs : List Nat} (Nt : All2 E (tmAt ts t).args es) (Nu : All2 E (tmAt ts u).args fs)
  (h : headOf (tmAt ts t) (sortE (tmAt ts t).op es) = headOf (tmAt ts u) (sortE (tmAt ts u).op fs)) : E t u := by
 obtain ⟨h1, h2, h3⟩ := headOf_inj h
 refine C.cg t ht u hu hn h1 h2 ?_
 by_cases q : (tmAt ts t).op = "="
 ·obtain ⟨a, b, e1⟩ := W.two' ht q
  obtain ⟨x, y, e2⟩ := W.two' hu (h1 ▸ q)
  rw [e1] at Nt
  rw [e2] at Nu
  rcases Nt with _ | ⟨p1, _ | ⟨p2, _ | _⟩⟩
  rcases Nu with _ | ⟨p3, _ | ⟨p4, _ | _⟩⟩
  rw [← h1, q, sortE_eq rfl, sortE_eq rfl] at h3
  simp only [List.cons.injEq, and_true] at h3
  obtain ⟨h4, h5⟩ := h3
  rw [e1, e2]
  rcases min_max2 h4 h5 with ⟨r1, r2⟩ | ⟨r1, r2⟩
  ·subst r1; subst r2
   exact .inl (.cons (C.tr p1 (C.sy p3)) (.cons (C.tr p2 (C.sy p4)) .nil))
  ·subst r1; subst r2
   exact .inr ⟨q, .cons (C.tr p1 (C.sy p4)) (.cons (C.tr p2 (C.sy p3)) .nil)⟩
 ·rw [sortE_ne q, sortE_ne (h1 ▸ q)] at h3
  subst h3
  exact .inl (all2_join C Nt Nu)
theorem args_snd (W : WfT ts terms) (hc : ∀ x ∈ terms, E x (c x)) {t : Nat} (ht : t ∈ terms) : All2 E (tmAt ts t).args ((tmAt ts t).args.map c) :=
 all2_mem (all2_map rfl) fun x hx y e => e ▸ hc x (W.args ht x hx)
theorem joinP_snd (C : CC ts terms E) (hc : ∀ x ∈ terms, E x (c x)) : ∀ {P : Option (Nat × Nat)}, (∀ x y, P = some (x, y) → x ∈ terms ∧ y ∈ terms ∧ E x y) → ∀ t ∈ terms, E t (joinP c P t)
 | none, _ => hc
 | some (x, y), h => let ⟨h1, h2, h3⟩ := h x y rfl; joinC_snd C hc h1 h2 h3
theorem stepT_snd (W : WfT ts terms) (C : CC ts terms E) {S : PS} (K : PsSnd ts terms E S) {x : Nat} (hx : x ∈ terms) : PsSnd ts terms E (stepT (tmAt ts x) x S) := by
 unfold stepT
 split
 ·exact K
 rename_i hn
 have Na := args_snd W K.c hx
 have K1 : PsSnd ts terms E (stepHead (tmAt ts x) x S) := by
  unfold stepHead
  split
  ·rename_i u hu
   obtain ⟨hut, es, hk, Nu⟩ := K.fw _ _ hu
   exact ⟨joinC_snd C K.c hut hx (C.sy (head_snd W C hx hut hn Na Nu hk)), K.fw⟩
  ·refine ⟨K.c, fun k u q => ?_⟩
   unfold setK at q
   dsimp only at q
   split at q
   ·rename_i hk
    injection q with q
    subst q
    exact ⟨hx, _, hk, Na⟩
   ·exact K.fw _ _ q
 refine ⟨joinP_snd C K1.c fun p q e => ?_, K1.fw⟩
 have hc1 := K1.c
 generalize (stepHead (tmAt ts x) x S).c = c1 at *
 unfold truthP at e
 split at e
 ·rename_i q1
  injection e with e; injection e with e1 e2; subst e1; subst e2
  refine ⟨hx, W.one, ?_⟩
  obtain ⟨a, b, ea⟩ := W.two' hx q1.1
  refine C.eq x hx q1.1 a b ea ?_
  rw [ea] at Na
  rcases Na with _ | ⟨p1, _ | ⟨p2, _⟩⟩
  have q2 := q1.2
  rw [q1.1, ea, List.map_cons, List.map_cons, List.map_nil, sortE_eq (a := S.c a) (b := S.c b) rfl] at q2
  have q3 : S.c a = S.c b := by simp at q2; (first | lia | omega)
  exact C.tr p1 (q3 ▸ C.sy p2)
 ·split at e
  ·rename_i q2
   obtain ⟨a, ea⟩ := W.one' hx q2
   have ha : a ∈ terms := W.args hx a (by rw [ea]; exact .head _)
   have key : ∀ {y z : Nat}, y ∈ terms → z ∈ terms → c1 y = c1 z → E y z := fun {y z} hy hz q => C.tr (hc1 y hy) (q ▸ C.sy (hc1 z hz))
   rw [ea] at e
   dsimp only at e
   split at e
   ·injection e with e; injection e with e1 e2; subst e1; subst e2
    exact ⟨hx, W.two, C.n1 x hx q2 a ea (key ha W.one (by assumption))⟩
   ·split at e
    ·injection e with e; injection e with e1 e2; subst e1; subst e2
     exact ⟨ha, W.two, C.n3 x hx q2 a ea (key hx W.one (by assumption))⟩
    ·split at e
     ·injection e with e; injection e with e1 e2; subst e1; subst e2
      exact ⟨hx, W.one, C.n2 x hx q2 a ea (key ha W.two (by assumption))⟩
     ·split at e
      ·injection e with e; injection e with e1 e2; subst e1; subst e2
       exact ⟨ha, W.one, C.n4 x hx q2 a ea (key hx W.two (by assumption))⟩
      ·cases e
  ·cases e
theorem passC_snd (W : WfT ts terms) (C : CC ts terms E) : ∀ (l : List Nat) {S : PS}, PsSnd ts terms E S → (∀ x ∈ l, x ∈ terms) → PsSnd ts terms E (passC ts l S)
 | [], S, K, _ => K
 | x :: r, S, K, h => passC_snd W C r (stepT_snd W C K (h x (.head _))) fun y hy => h y (.tail _ hy)
theorem pass0_snd (W : WfT ts terms) (C : CC ts terms E) (hc : ∀ x ∈ terms, E x (c x)) : ∀ x ∈ terms, E x ((pass0 ts terms c).c x) :=
 (passC_snd W C terms (S := ⟨c, fun _ => none, false⟩) ⟨hc, fun _ _ q => nomatch q⟩ fun _ h => h).c
theorem close_snd (W : WfT ts terms) (C : CC ts terms E) (R : CloseR ts terms c c') (hc : ∀ x ∈ terms, E x (c x)) : ∀ x ∈ terms, E x (c' x) := by
 induction R with
 | last _ => exact pass0_snd W C hc
 | more _ _ ih => exact ih (pass0_snd W C hc)
theorem joinC_coarse {x y a b : Nat} (h : c a = c b) : joinC c x y a = joinC c x y b := by
 unfold joinC; split
 ·exact h
 ·dsimp only; rw [h]
theorem joinP_coarse {P : Option (Nat × Nat)} {a b : Nat} (h : c a = c b) : joinP c P a = joinP c P b := by
 cases P with
 | none => exact h
 | some p => exact joinC_coarse h
theorem stepT_coarse {m : Tm} {x a b : Nat} {S : PS} (h : S.c a = S.c b) : (stepT m x S).c a = (stepT m x S).c b := by
 unfold stepT
 split
 ·exact h
 ·unfold stepTruth
  refine joinP_coarse ?_
  unfold stepHead
  split
  ·exact joinC_coarse h
  ·exact h
theorem passC_coarse {a b : Nat} : ∀ (l : List Nat) {S : PS}, S.c a = S.c b → (passC ts l S).c a = (passC ts l S).c b
 | [], _, h => h
 | x :: r, _, h => passC_coarse r (stepT_coarse h)
theorem close_coarse (R : CloseR ts terms c c') {a b : Nat} (h : c a = c b) : c' a = c' b := by
 induction R with
 | last _ => exact passC_coarse terms h
 | more _ _ ih => exact ih (passC_coarse terms h)
noncomputable def StillT (ts : List Tm) (fw : List KI → Option Nat) (c : Nat → Nat) (x : Nat) : Prop :=
 (tmAt ts x).args ≠ [] → (∃ u, fw (headOf (tmAt ts x) (sortE (tmAt ts x).op ((tmAt ts x).args.map c))) = some u ∧ c u = c x) ∧
  ∀ p q, truthP c (tmAt ts x) (sortE (tmAt ts x).op ((tmAt ts x).args.map c)) x = some (p, q) → c p = c q
theorem stepT_still {x : Nat} {S : PS} (h : (stepT (tmAt ts x) x S).nw = false) : S.nw = false ∧ (stepT (tmAt ts x) x S).c = S.c ∧ (∀ k u, S.fw k = some u → (stepT (tmAt ts x) x S).fw k = some u) ∧ StillT ts (stepT (tmAt ts x) x S).fw S.c x := by
 unfold stepT at h ⊢
 split at h
 ·rename_i hn
  rw [if_pos hn]
  exact ⟨h, rfl, fun _ _ q => q, fun q => absurd hn q⟩
 rename_i hn
 rw [if_neg hn]
 unfold stepTruth at h ⊢
 dsimp only at h ⊢
 obtain ⟨h1, h2⟩ := Bool.or_eq_false_iff.mp h
 have hH : S.nw = false ∧ (stepHead (tmAt ts x) x S).c = S.c ∧ (∀ k u, S.fw k = some u → (stepHead (tmAt ts x) x S).fw k = some u) ∧ ∃ u, (stepHead (tmAt ts x) x S).fw (headOf (tmAt ts x) (sortE (tmAt ts x).op ((tmAt ts x).args.map S.c))) = some u ∧ S.c u = S.c x := by
  unfold stepHead at h1 ⊢
  split at h1
  ·rename_i u hu
   obtain ⟨h3, h4⟩ := Bool.or_eq_false_iff.mp h1
   have h5 : S.c u = S.c x := by simpa using h4
   exact ⟨h3, joinC_same h5, fun _ _ q => q, u, hu, h5⟩
  ·rename_i hu
   refine ⟨h1, rfl, fun k u q => ?_, x, ?_, rfl⟩
   ·show setK S.fw _ x k = some u
    unfold setK
    split
    ·rename_i e; rw [e, hu] at q; cases q
    ·exact q
   ·show setK S.fw _ x _ = some x
    unfold setK; rw [if_pos rfl]
 obtain ⟨h3, h4, h5, h6⟩ := hH
 rw [h4] at h2 ⊢
 have ht : ∀ p q, truthP S.c (tmAt ts x) (sortE (tmAt ts x).op ((tmAt ts x).args.map S.c)) x = some (p, q) → S.c p = S.c q := fun p q e => by
  rw [e] at h2
  simpa [newP] using h2
 refine ⟨h3, ?_, h5, fun _ => ⟨h6, ht⟩⟩
 cases e : truthP S.c (tmAt ts x) (sortE (tmAt ts x).op ((tmAt ts x).args.map S.c)) x with
 | none => rfl
 | some p => obtain ⟨p, q⟩ := p; exact joinC_same (ht p q e)
theorem passC_still : ∀ (l : List Nat) {S : PS}, (passC ts l S).nw = false → S.nw = false ∧ (passC ts l S).c = S.c ∧ (∀ k u, S.fw k = some u → (passC ts l S).fw k = some u) ∧ ∀ x ∈ l, StillT ts (passC ts l S).fw S.c x
 | [], S, h => ⟨h, rfl, fun _ _ q => q, fun _ h => nomatch h⟩
 | x :: r, S, h => by
  obtain ⟨h1, h2, h3, h4⟩ := passC_still r (S := stepT (tmAt ts x) x S) h
  obtain ⟨g1, g2, g3, g4⟩ := stepT_still h1
  refine ⟨g1, h2.trans g2, fun k u q => h3 _ _ (g3 _ _ q), fun y hy => ?_⟩
  rcases List.mem_cons.mp hy with rfl | hy
  ·intro hn
   obtain ⟨⟨u, k1, k2⟩, k3⟩ := g4 hn
   exact ⟨⟨u, h3 _ _ k1, k2⟩, k3⟩
  ·have := h4 y hy
   rw [g2] at this
   exact this
theorem all2_eqmap {xs ys : List Nat} (N : All2 (fun x y => c x = c y) xs ys) : xs.map c = ys.map c := by
 induction N with
 | nil => rfl
 | cons h _ ih => rw [List.map_cons, List.map_cons, h, ih]
theorem min_comm' (a b : Nat) : [min a b, max a b] = [min b a, max b a] := by rw [Nat.min_comm, Nat.max_comm]
theorem cc_of_nots (W : WfT ts terms) (hn : ∀ t ∈ terms, (tmAt ts t).op = "not" → ∀ p, (tmAt ts t).args = [p] → (c p = c 1 → c t = c 2) ∧ (c p = c 2 → c t = c 1) ∧ (c t = c 1 → c p = c 2) ∧ (c t = c 2 → c p = c 1))
  (he : ∀ t ∈ terms, (tmAt ts t).op = "=" → ∀ a b, (tmAt ts t).args = [a, b] → c a = c b → c t = c 1)
  (hc : ∀ t ∈ terms, ∀ u ∈ terms, (tmAt ts t).args ≠ [] → (tmAt ts t).op = (tmAt ts u).op → (tmAt ts t).data = (tmAt ts u).data → ((tmAt ts t).args.map c = (tmAt ts u).args.map c ∨ ((tmAt ts t).op = "=" ∧ (tmAt ts t).args.map c = ((tmAt ts u).args.map c).reverse)) → c t = c u) : CC ts terms fun x y => c x = c y where
 rf := fun _ => rfl
 sy := fun h => h.symm
 tr := fun h h' => h.trans h'
 cg := fun t ht u hu h1 h2 h3 h4 => hc t ht u hu h1 h2 h3 (h4.imp all2_eqmap fun q => ⟨q.1, by rw [all2_eqmap q.2, List.map_reverse]⟩)
 eq := he
 n1 := fun t ht h p hp => (hn t ht h p hp).1
 n2 := fun t ht h p hp => (hn t ht h p hp).2.1
 n3 := fun t ht h p hp => (hn t ht h p hp).2.2.1
 n4 := fun t ht h p hp => (hn t ht h p hp).2.2.2
theorem close_last (W : WfS ts terms) (h : (pass0 ts terms c).nw = false) : CC ts terms fun x y => (pass0 ts terms c).c x = (pass0 ts terms c).c y := by
 obtain ⟨_, h2, _, h4⟩ := passC_still (ts := ts) terms (S := ⟨c, fun _ => none, false⟩) h
 have h2' : (pass0 ts terms c).c = c := h2
 rw [h2']
 have h4' : ∀ x ∈ terms, StillT ts (pass0 ts terms c).fw c x := h4
 refine cc_of_nots W.toWfT (fun t ht ho p hp => ?_) (fun t ht ho a b ha hab => ?_) fun t ht u hu hn ho hd hh => ?_
 ·have q := (h4' t ht (by rw [hp]; simp)).2
  unfold truthP at q
  rw [if_neg (by rw [ho]; exact fun z => absurd z.1 (by decide)), if_pos ho, hp] at q
  dsimp only at q
  by_cases q1 : c p = c 1
  ·have := q t 2 (by rw [if_pos q1])
   exact ⟨fun _ => this, fun z => by rw [this, ← z, q1], fun z => by rw [q1, ← z, this], fun _ => q1⟩
  ·rw [if_neg q1] at q
   by_cases q2 : c t = c 1
   ·have := q p 2 (by rw [if_pos q2])
    exact ⟨fun z => absurd z q1, fun _ => q2, fun _ => this, fun z => by rw [this, ← z, q2]⟩
   ·rw [if_neg q2] at q
    by_cases q3 : c p = c 2
    ·exact absurd (q t 1 (by rw [if_pos q3])) q2
    ·rw [if_neg q3] at q
     exact ⟨fun z => absurd z q1, fun z => absurd z q3, fun z => absurd z q2, fun z => absurd (q p 1 (by rw [if_pos z])) q1⟩
 ·have q := (h4' t ht (by rw [ha]; simp)).2
  refine q t 1 ?_
  unfold truthP
  rw [if_pos]
  refine ⟨ho, ?_⟩
  rw [ho, ha, List.map_cons, List.map_cons, List.map_nil, sortE_eq (a := c a) (b := c b) rfl, hab]
  simp
 ·have hnu : (tmAt ts u).args ≠ [] := fun q => by
   rw [q] at hh
   rcases hh with z | z
   ·exact hn (List.map_eq_nil_iff.mp z)
   ·exact hn (List.map_eq_nil_iff.mp (z.2.trans (by rfl)))
  obtain ⟨⟨v, hv, e1⟩, _⟩ := h4' t ht hn
  obtain ⟨⟨v', hv', e2⟩, _⟩ := h4' u hu hnu
  have hh2 : headOf (tmAt ts t) (sortE (tmAt ts t).op ((tmAt ts t).args.map c)) = headOf (tmAt ts u) (sortE (tmAt ts u).op ((tmAt ts u).args.map c)) := by
   unfold headOf
   rw [ho, hd, W.so t ht u hu hn ho hd]
   have : sortE (tmAt ts u).op ((tmAt ts t).args.map c) = sortE (tmAt ts u).op ((tmAt ts u).args.map c) := by
    rcases hh with z | z
    ·rw [z]
    ·have zu : (tmAt ts u).op = "=" := ho ▸ z.1
     obtain ⟨a, b, ea⟩ := W.two' hu zu
     rw [z.2, zu, ea]
     rw [sortE_eq (l := [a, b].map c) (a := c a) (b := c b) rfl, sortE_eq (l := ([a, b].map c).reverse) (a := c b) (b := c a) rfl, min_comm']
   rw [this]
  rw [hh2, hv'] at hv
  injection hv with hv
  rw [← e1, ← e2, hv]
theorem close_cc (W : WfS ts terms) (R : CloseR ts terms c c') : CC ts terms fun x y => c' x = c' y := by
 induction R with
 | last h => exact close_last W h
 | more _ _ ih => exact ih
end
structure KC (ts : List Tm) (terms : List Nat) (P : List (Nat × Nat)) (c : Nat → Nat) : Prop where
 snd : ∀ x ∈ terms, Cl ts terms P x (c x)
 pr : ∀ p ∈ P, c p.1 = c p.2
 tm : ∀ p ∈ P, p.1 ∈ terms ∧ p.2 ∈ terms
noncomputable def ClsOf (ts : List Tm) (terms : List Nat) (P : List (Nat × Nat)) (c : Nat → Nat) : Prop := ∀ x ∈ terms, ∀ y ∈ terms, (c x = c y ↔ Cl ts terms P x y)
theorem KC.init (ts : List Tm) (terms : List Nat) : KC ts terms [] id := ⟨fun x _ => (Cl.cc ts terms []).rf x, (fun _ h => nomatch h), (fun _ h => nomatch h)⟩
theorem joinC_one (c : Nat → Nat) (x y : Nat) : joinC c x y x = joinC c x y y := by
 unfold joinC; split
 ·assumption
 ·dsimp only
  rcases Nat.le_total (c x) (c y) with q | q
  ·rw [Nat.max_eq_right q, if_pos rfl]; split <;> (first | lia | omega)
  ·rw [Nat.max_eq_left q, if_pos rfl]; split <;> (first | lia | omega)
theorem KC.join {ts : List Tm} {terms : List Nat} {P : List (Nat × Nat)} {c : Nat → Nat} (K : KC ts terms P c) {x y : Nat} (hx : x ∈ terms) (hy : y ∈ terms) : KC ts terms (P ++ [(x, y)]) (joinC c x y) := by
 refine ⟨joinC_snd (Cl.cc ts terms _) (fun t ht => (K.snd t ht).mono fun p hp => Cl.of (List.mem_append_left _ hp)) hx hy (Cl.of (p := (x, y)) (by simp)), fun p hp => ?_, fun p hp => ?_⟩
 ·rcases List.mem_append.mp hp with hp | hp
  ·exact joinC_coarse (K.pr p hp)
  ·rw [List.mem_singleton.mp hp]; exact joinC_one c x y
 ·rcases List.mem_append.mp hp with hp | hp
  ·exact K.tm p hp
  ·rw [List.mem_singleton.mp hp]; exact ⟨hx, hy⟩
theorem KC.close {ts : List Tm} {terms : List Nat} {P : List (Nat × Nat)} {c c' : Nat → Nat} (W : WfS ts terms) (K : KC ts terms P c) (R : CloseR ts terms c c') : KC ts terms P c' ∧ ClsOf ts terms P c' := by
 have K' : KC ts terms P c' := ⟨close_snd W.toWfT (Cl.cc ts terms P) R K.snd, fun p hp => close_coarse R (K.pr p hp), K.tm⟩
 refine ⟨K', fun x hx y hy => ⟨fun e => (Cl.cc ts terms P).tr (K'.snd x hx) (e ▸ (Cl.cc ts terms P).sy (K'.snd y hy)), fun q => q _ (close_cc W R) K'.pr⟩⟩
end
section
open Classical
section
variable {ts : List Tm} {terms built : List Nat} {E : Nat → Nat → Prop} {hm hm' : Nat → Nat}
noncomputable def HSnd (terms : List Nat) (E : Nat → Nat → Prop) (hm : Nat → Nat) : Prop := ∀ x ∈ terms, ∀ y ∈ terms, hm x = hm y → E x y
theorem tie_snd (C : CC ts terms E) (hc : HSnd terms E hm) {x y : Nat} (hx : x ∈ terms) (hy : y ∈ terms) (h : E x y) : HSnd terms E (tie hm x y) := by
 intro a ha b hb e
 unfold tie at e
 split at e
 ·exact hc a ha b hb e
 ·dsimp only at e
  split at e
  ·rename_i q1
   split at e
   ·rename_i q2
    exact hc a ha b hb (q1.trans q2.symm)
   ·exact C.tr (hc a ha y hy q1) (C.tr (C.sy h) (hc x hx b hb e))
  ·split at e
   ·rename_i q2
    exact C.tr (hc a ha x hx e) (C.tr h (hc y hy b hb q2.symm))
   ·exact hc a ha b hb e
theorem tieS_snd (C : CC ts terms E) {S : HS} (hc : HSnd terms E S.hm) {x y : Nat} (hx : x ∈ terms) (hy : y ∈ terms) (h : E x y) : HSnd terms E (tieS S x y).hm := tie_snd C hc hx hy h
theorem truthsS_snd (W : WfT ts terms) (C : CC ts terms E) {S : HS} (hc : HSnd terms E S.hm) {x : Nat} (hx : x ∈ terms) : HSnd terms E (truthsS (tmAt ts x) x S).hm := by
 have h1 := W.one
 have h2 := W.two
 by_cases q : (tmAt ts x).op = "not"
 ·obtain ⟨a, ea⟩ := W.one' hx q
  have ha : a ∈ terms := W.args hx a (by rw [ea]; exact .head _)
  have ne : ¬ (tmAt ts x).op = "=" := by rw [q]; decide
  have hEq : eqS (tmAt ts x) x S = S := if_neg fun z => ne z.1
  unfold truthsS
  rw [if_pos q, hEq, ea]
  show HSnd terms E (notS (notS S a x 1 2) a x 2 1).hm
  have nt : ∀ {S : HS} {one other : Nat}, HSnd terms E S.hm → one ∈ terms → other ∈ terms → (E a one → E x other) → (E x one → E a other) → HSnd terms E (notS S a x one other).hm := by
   intro S one other hc ho ht r1 r2
   unfold notS
   have K1 : HSnd terms E (if S.hm a = S.hm one then tieS S x other else S).hm := by
    split
    ·rename_i z; exact tieS_snd C hc hx ht (r1 (hc a ha one ho z))
    ·exact hc
   dsimp only
   generalize (if S.hm a = S.hm one then tieS S x other else S) = S1 at K1 ⊢
   split
   ·rename_i z; exact tieS_snd C K1 ha ht (r2 (K1 x hx one ho z))
   ·exact K1
  exact nt (nt hc h1 h2 (C.n1 x hx q a ea) (C.n3 x hx q a ea)) h2 h1 (C.n2 x hx q a ea) (C.n4 x hx q a ea)
 ·unfold truthsS
  rw [if_neg q]
  unfold eqS
  split
  ·rename_i z
   obtain ⟨a, b, ea⟩ := W.two' hx z.1
   have ha : a ∈ terms := W.args hx a (by rw [ea]; simp)
   have hb : b ∈ terms := W.args hx b (by rw [ea]; simp)
   have z2 := z.2
   rw [ea] at z2
   exact tieS_snd C hc hx h1 (C.eq x hx z.1 a b ea (hc a ha b hb z2))
  ·exact hc
theorem truthsA_snd (W : WfT ts terms) (C : CC ts terms E) {S : HS} (hc : HSnd terms E S.hm) {x : Nat} (hx : x ∈ terms) : HSnd terms E (truthsA ts S x).hm := truthsS_snd (S := ⟨S.hm, 0⟩) W C hc hx
theorem all2_ofmap {xs ys : List Nat} (h : xs.map hm = ys.map hm) (hx : ∀ x ∈ xs, x ∈ terms) (hy : ∀ y ∈ ys, y ∈ terms) (hc : HSnd terms E hm) : All2 E xs ys := by
 induction xs generalizing ys with
 | nil => cases ys with
  | nil => exact .nil
  | cons _ _ => simp at h
 | cons a r ih => cases ys with
  | nil => simp at h
  | cons b s =>
   simp only [List.map_cons, List.cons.injEq] at h
   exact .cons (hc a (hx a (.head _)) b (hy b (.head _)) h.1) (ih h.2 (fun x q => hx x (.tail _ q)) fun x q => hy x (.tail _ q))
theorem pairS_snd (W : WfT ts terms) (C : CC ts terms E) {S : HS} (hc : HSnd terms E S.hm) {t u : Nat} (ht : t ∈ terms) (hu : u ∈ terms) (hn : (tmAt ts t).args ≠ []) : HSnd terms E (pairS ts S t u).hm := by
 unfold pairS
 split
 ·rename_i z
  refine tieS_snd C hc ht hu (C.cg t ht u hu hn z.2.1 z.2.2.1 ?_)
  rcases z.2.2.2 with q | q
  ·exact .inl (all2_ofmap q (W.args ht) (W.args hu) hc)
  ·refine .inr ⟨q.1, all2_ofmap (by rw [q.2, List.map_reverse]) (W.args ht) (fun y hy => W.args hu y (List.mem_reverse.mp hy)) hc⟩
 ·exact hc
theorem first_snd (W : WfT ts terms) (C : CC ts terms E) : ∀ (l : List Nat) {S : HS}, HSnd terms E S.hm → (∀ x ∈ l, x ∈ terms) → HSnd terms E (l.foldl (truthsA ts) S).hm
 | [], S, K, _ => K
 | x :: r, S, K, h => first_snd W C r (truthsA_snd W C K (h x (.head _))) fun y hy => h y (.tail _ hy)
theorem row_snd (W : WfT ts terms) (C : CC ts terms E) (B : BuiltOk ts terms built) {k : Nat} (hk : k < built.length) : ∀ (js : List Nat) {S : HS}, HSnd terms E S.hm → (∀ j ∈ js, j < built.length) → HSnd terms E (rowS ts built k js S).hm
 | [], S, K, _ => K
 | j :: r, S, K, h => row_snd W C B hk r (pairS_snd W C K (B.sub _ (getD_mem hk)) (B.sub _ (getD_mem (h j (.head _)))) (B.args _ (getD_mem hk))) fun y hy => h y (.tail _ hy)
theorem all_snd (W : WfT ts terms) (C : CC ts terms E) (B : BuiltOk ts terms built) : ∀ (kl : List Nat) {S : HS}, HSnd terms E S.hm → (∀ k ∈ kl, k < built.length) → HSnd terms E (allS ts built kl S).hm
 | [], S, K, _ => K
 | k :: r, S, K, h => all_snd W C B r (row_snd W C B (h k (.head _)) (List.range k) K fun j hj => Nat.lt_trans (List.mem_range.mp hj) (h k (.head _))) fun y hy => h y (.tail _ hy)
theorem passH_snd (W : WfT ts terms) (C : CC ts terms E) (B : BuiltOk ts terms built) (hc : HSnd terms E hm) : HSnd terms E (passH ts built hm).hm :=
 all_snd W C B _ (first_snd W C built (S := ⟨hm, 0⟩) hc B.sub) fun k hk => List.mem_range.mp hk
theorem hclose_snd (W : WfT ts terms) (C : CC ts terms E) (B : BuiltOk ts terms built) (R : HCloseR ts built hm hm') (hc : HSnd terms E hm) : HSnd terms E hm' := by
 induction R with
 | last _ => exact passH_snd W C B hc
 | more _ _ ih => exact ih (passH_snd W C B hc)
theorem tie_coarse {x y a b : Nat} (h : hm a = hm b) : tie hm x y a = tie hm x y b := by
 unfold tie; split
 ·exact h
 ·dsimp only; rw [h]
theorem notS_coarse {S : HS} {p x one other a b : Nat} (h : S.hm a = S.hm b) : (notS S p x one other).hm a = (notS S p x one other).hm b := by
 unfold notS
 have K1 : (if S.hm p = S.hm one then tieS S x other else S).hm a = (if S.hm p = S.hm one then tieS S x other else S).hm b := by
  split
  ·exact tie_coarse h
  ·exact h
 dsimp only
 generalize (if S.hm p = S.hm one then tieS S x other else S) = S1 at K1 ⊢
 split
 ·exact tie_coarse K1
 ·exact K1
theorem truthsS_coarse {m : Tm} {S : HS} {x a b : Nat} (h : S.hm a = S.hm b) : (truthsS m x S).hm a = (truthsS m x S).hm b := by
 have K1 : (eqS m x S).hm a = (eqS m x S).hm b := by
  unfold eqS; split
  ·exact tie_coarse h
  ·exact h
 unfold truthsS
 split
 ·exact notS_coarse (notS_coarse K1)
 ·exact K1
theorem foldl_coarse {α : Type} {f : HS → α → HS} {a b : Nat} (st : ∀ S x, S.hm a = S.hm b → (f S x).hm a = (f S x).hm b) : ∀ (l : List α) {S : HS}, S.hm a = S.hm b → (l.foldl f S).hm a = (l.foldl f S).hm b
 | [], _, h => h
 | x :: r, S, h => foldl_coarse st r (st S x h)
theorem pairS_coarse {S : HS} {t u a b : Nat} (h : S.hm a = S.hm b) : (pairS ts S t u).hm a = (pairS ts S t u).hm b := by
 unfold pairS; split
 ·exact tie_coarse h
 ·exact h
theorem passH_coarse {a b : Nat} (h : hm a = hm b) : (passH ts built hm).hm a = (passH ts built hm).hm b :=
 foldl_coarse (fun S k h => foldl_coarse (fun S j h => pairS_coarse h) _ h) _ (foldl_coarse (f := truthsA ts) (fun S x h => truthsS_coarse (m := tmAt ts x) (x := x) (S := ⟨S.hm, 0⟩) h) built (S := ⟨hm, 0⟩) h)
theorem hclose_coarse (R : HCloseR ts built hm hm') {a b : Nat} (h : hm a = hm b) : hm' a = hm' b := by
 induction R with
 | last _ => exact passH_coarse h
 | more _ _ ih => exact ih (passH_coarse h)
theorem foldl_still {α : Type} {f : HS → α → HS} {Cn : α → (Nat → Nat) → Prop} (mono : ∀ S a, S.n ≤ (f S a).n) (st : ∀ S a, (f S a).n = S.n → f S a = S ∧ Cn a S.hm) :
  ∀ (l : List α) {S : HS}, S.n ≤ (l.foldl f S).n ∧ ((l.foldl f S).n = S.n → l.foldl f S = S ∧ ∀ a ∈ l, Cn a S.hm)
 | [], S => ⟨Nat.le_refl _, fun _ => ⟨rfl, fun _ h => nomatch h⟩⟩
 | x :: r, S => by
  obtain ⟨m1, h1⟩ := foldl_still mono st r (S := f S x)
  have m0 := mono S x
  rw [List.foldl_cons]
  refine ⟨Nat.le_trans m0 m1, fun e => ?_⟩
  have e1 : (f S x).n = S.n := by (first | lia | omega)
  obtain ⟨s1, c1⟩ := st S x e1
  rw [s1] at h1 ⊢
  rw [s1] at e
  obtain ⟨s2, c2⟩ := h1 e
  refine ⟨s2, fun a ha => ?_⟩
  rcases List.mem_cons.mp ha with rfl | ha
  ·exact c1
  ·exact c2 a ha
theorem tieS_still (S : HS) (x y : Nat) : S.n ≤ (tieS S x y).n ∧ ((tieS S x y).n = S.n → tieS S x y = S ∧ S.hm x = S.hm y) := by
 unfold tieS
 by_cases q : S.hm x = S.hm y
 ·have : tie S.hm x y = S.hm := if_pos q
  rw [this, if_pos q]
  exact ⟨Nat.le_refl _, fun _ => ⟨rfl, q⟩⟩
 ·rw [if_neg q]
  exact ⟨Nat.le_succ _, fun e => absurd e (Nat.succ_ne_self _)⟩
theorem notS_still (S : HS) (p x one other : Nat) : S.n ≤ (notS S p x one other).n ∧ ((notS S p x one other).n = S.n → notS S p x one other = S ∧ (S.hm p = S.hm one → S.hm x = S.hm other) ∧ (S.hm x = S.hm one → S.hm p = S.hm other)) := by
 unfold notS
 dsimp only
 by_cases q1 : S.hm p = S.hm one
 ·rw [if_pos q1]
  obtain ⟨m1, t1⟩ := tieS_still S x other
  by_cases q2 : (tieS S x other).hm x = (tieS S x other).hm one
  ·rw [if_pos q2]
   obtain ⟨m2, t2⟩ := tieS_still (tieS S x other) p other
   refine ⟨Nat.le_trans m1 m2, fun e => ?_⟩
   obtain ⟨s1, e1⟩ := t1 (by (first | lia | omega))
   rw [s1] at t2 e ⊢
   obtain ⟨s2, e2⟩ := t2 e
   exact ⟨s2, fun _ => e1, fun _ => e2⟩
  ·rw [if_neg q2]
   refine ⟨m1, fun e => ?_⟩
   obtain ⟨s1, e1⟩ := t1 e
   rw [s1] at q2
   exact ⟨s1, fun _ => e1, fun z => absurd z q2⟩
 ·rw [if_neg q1]
  by_cases q2 : S.hm x = S.hm one
  ·rw [if_pos q2]
   obtain ⟨m2, t2⟩ := tieS_still S p other
   refine ⟨m2, fun e => ?_⟩
   obtain ⟨s2, e2⟩ := t2 e
   exact ⟨s2, fun z => absurd z q1, fun _ => e2⟩
  ·rw [if_neg q2]
   exact ⟨Nat.le_refl _, fun _ => ⟨rfl, fun z => absurd z q1, fun z => absurd z q2⟩⟩
noncomputable def StillH (ts : List Tm) (x : Nat) (hm : Nat → Nat) : Prop :=
 ((tmAt ts x).op = "=" → hm ((tmAt ts x).args.getD 0 0) = hm ((tmAt ts x).args.getD 1 0) → hm x = hm 1) ∧
 ((tmAt ts x).op = "not" → (hm ((tmAt ts x).args.getD 0 0) = hm 1 → hm x = hm 2) ∧ (hm x = hm 1 → hm ((tmAt ts x).args.getD 0 0) = hm 2) ∧ (hm ((tmAt ts x).args.getD 0 0) = hm 2 → hm x = hm 1) ∧ (hm x = hm 2 → hm ((tmAt ts x).args.getD 0 0) = hm 1))
theorem truthsS_still (S : HS) (x : Nat) : S.n ≤ (truthsS (tmAt ts x) x S).n ∧ ((truthsS (tmAt ts x) x S).n = S.n → truthsS (tmAt ts x) x S = S ∧ StillH ts x S.hm) := by
 unfold truthsS
 by_cases q : (tmAt ts x).op = "not"
 ·have ne : ¬ (tmAt ts x).op = "=" := by rw [q]; decide
  have hEq : eqS (tmAt ts x) x S = S := if_neg fun z => ne z.1
  rw [if_pos q, hEq]
  generalize hp : (tmAt ts x).args.getD 0 0 = p
  obtain ⟨m1, t1⟩ := notS_still S p x 1 2
  obtain ⟨m2, t2⟩ := notS_still (notS S p x 1 2) p x 2 1
  refine ⟨Nat.le_trans m1 m2, fun e => ?_⟩
  obtain ⟨s1, a1, b1⟩ := t1 (by (first | lia | omega))
  rw [s1] at t2 e ⊢
  obtain ⟨s2, a2, b2⟩ := t2 e
  refine ⟨s2, fun z => absurd z ne, fun _ => ?_⟩
  rw [hp]
  exact ⟨a1, b1, a2, b2⟩
 ·rw [if_neg q]
  unfold eqS
  split
  ·rename_i z
   obtain ⟨m1, t1⟩ := tieS_still S x 1
   refine ⟨m1, fun e => ?_⟩
   obtain ⟨s1, a1⟩ := t1 e
   exact ⟨s1, fun _ _ => a1, fun z => absurd z q⟩
  ·rename_i z
   exact ⟨Nat.le_refl _, fun _ => ⟨rfl, fun z1 z2 => absurd ⟨z1, z2⟩ z, fun z => absurd z q⟩⟩
theorem truthsA_still (S : HS) (x : Nat) : S.n ≤ (truthsA ts S x).n ∧ ((truthsA ts S x).n = S.n → truthsA ts S x = S ∧ StillH ts x S.hm) := by
 obtain ⟨m1, t1⟩ := truthsS_still (ts := ts) ⟨S.hm, 0⟩ x
 refine ⟨Nat.le_add_right _ _, fun e => ?_⟩
 have e0 : (truthsS (tmAt ts x) x ⟨S.hm, 0⟩).n = 0 := by
  have : S.n + (truthsS (tmAt ts x) x ⟨S.hm, 0⟩).n = S.n := e
  (first | lia | omega)
 obtain ⟨s1, c1⟩ := t1 e0
 refine ⟨?_, c1⟩
 unfold truthsA
 rw [s1]
 rfl
theorem pairS_still (S : HS) (t u : Nat) : S.n ≤ (pairS ts S t u).n ∧ ((pairS ts S t u).n = S.n → pairS ts S t u = S ∧ ¬ PairC ts S.hm t u) := by
 unfold pairS
 split
 ·rename_i z
  obtain ⟨m1, t1⟩ := tieS_still S t u
  exact ⟨m1, fun e => absurd (t1 e).2 z.1⟩
 ·rename_i z
  exact ⟨Nat.le_refl _, fun _ => ⟨rfl, z⟩⟩
theorem passH_still (h : (passH ts built hm).n = 0) : (passH ts built hm).hm = hm ∧ (∀ x ∈ built, StillH ts x hm) ∧ ∀ k < built.length, ∀ j < k, ¬ PairC ts hm (built.getD k 0) (built.getD j 0) := by
 have f1 := foldl_still (f := truthsA ts) (Cn := StillH ts) (fun S a => (truthsA_still S a).1) (fun S a => (truthsA_still S a).2) built (S := ⟨hm, 0⟩)
 have row := fun (k : Nat) (S : HS) => foldl_still (f := fun S j => pairS ts S (built.getD k 0) (built.getD j 0)) (Cn := fun j hm => ¬ PairC ts hm (built.getD k 0) (built.getD j 0)) (fun S a => (pairS_still S _ _).1) (fun S a => (pairS_still S _ _).2) (List.range k) (S := S)
 have f2 := foldl_still (f := fun S k => rowS ts built k (List.range k) S) (Cn := fun k hm => ∀ j ∈ List.range k, ¬ PairC ts hm (built.getD k 0) (built.getD j 0)) (fun S a => (row a S).1) (fun S a => (row a S).2) (List.range built.length) (S := firstS ts built hm)
 have hle : (firstS ts built hm).n ≤ (passH ts built hm).n := f2.1
 have h1 : (firstS ts built hm).n = 0 := by (first | lia | omega)
 obtain ⟨s1, c1⟩ := f1.2 h1
 have s1' : firstS ts built hm = ⟨hm, 0⟩ := s1
 rw [s1'] at f2
 have h2 : (allS ts built (List.range built.length) ⟨hm, 0⟩).n = 0 := by rw [← s1']; exact h
 obtain ⟨s2, c2⟩ := f2.2 h2
 refine ⟨?_, c1, fun k hk j hj => c2 k (List.mem_range.mpr hk) j (List.mem_range.mpr hj)⟩
 have : passH ts built hm = ⟨hm, 0⟩ := by
  unfold passH; rw [s1']; exact s2
 rw [this]
theorem hclose_last (W : WfT ts terms) (hb : ∀ x ∈ terms, (tmAt ts x).args ≠ [] → x ∈ built) (h : (passH ts built hm).n = 0) : CC ts terms fun x y => (passH ts built hm).hm x = (passH ts built hm).hm y := by
 obtain ⟨e, h1, h2⟩ := passH_still h
 rw [e]
 refine cc_of_nots W (fun t ht ho p hp => ?_) (fun t ht ho a b ha hab => ?_) fun t ht u hu hn ho hd hh => ?_
 ·have q := (h1 t (hb t ht (by rw [hp]; simp))).2 ho
  rw [hp] at q
  exact ⟨q.1, q.2.2.1, q.2.1, q.2.2.2⟩
 ·have q := (h1 t (hb t ht (by rw [ha]; simp))).1 ho
  rw [ha] at q
  exact q hab
 ·have hnu : (tmAt ts u).args ≠ [] := fun q => by
   rw [q] at hh
   rcases hh with z | z
   ·exact hn (List.map_eq_nil_iff.mp z)
   ·exact hn (List.map_eq_nil_iff.mp (z.2.trans (by rfl)))
  obtain ⟨i, hi, ei⟩ := List.getElem_of_mem (hb t ht hn)
  obtain ⟨j, hj, ej⟩ := List.getElem_of_mem (hb u hu hnu)
  have gi : built.getD i 0 = t := by rw [List.getD_eq_getElem?_getD, List.getElem?_eq_getElem hi, ei]; rfl
  have gj : built.getD j 0 = u := by rw [List.getD_eq_getElem?_getD, List.getElem?_eq_getElem hj, ej]; rfl
  by_cases q : hm t = hm u
  ·exact q
  exfalso
  rcases Nat.lt_trichotomy j i with c | c | c
  ·refine h2 i hi j c ?_
   rw [gi, gj]
   exact ⟨q, ho, hd, hh⟩
  ·subst c
   exact q (by rw [← gi, ← gj])
  ·refine h2 j hj i c ?_
   rw [gi, gj]
   refine ⟨fun z => q z.symm, ho.symm, hd.symm, ?_⟩
   rcases hh with z | z
   ·exact .inl z.symm
   ·exact .inr ⟨ho ▸ z.1, by rw [z.2, List.reverse_reverse]⟩
theorem hclose_cc (W : WfT ts terms) (hb : ∀ x ∈ terms, (tmAt ts x).args ≠ [] → x ∈ built) (R : HCloseR ts built hm hm') : CC ts terms fun x y => hm' x = hm' y := by
 induction R with
 | last h => exact hclose_last W hb h
 | more _ _ ih => exact ih
end
structure KH (ts : List Tm) (terms : List Nat) (P : List (Nat × Nat)) (hm : Nat → Nat) : Prop where
 snd : HSnd terms (Cl ts terms P) hm
 pr : ∀ p ∈ P, hm p.1 = hm p.2
theorem tie_one (hm : Nat → Nat) (x y : Nat) : tie hm x y x = tie hm x y y := by
 unfold tie; split
 ·assumption
 ·dsimp only
  rw [if_pos (rfl : hm y = hm y), if_neg (by assumption)]
theorem KH.tie {ts : List Tm} {terms : List Nat} {P : List (Nat × Nat)} {hm : Nat → Nat} (K : KH ts terms P hm) {x y : Nat} (hx : x ∈ terms) (hy : y ∈ terms) : KH ts terms (P ++ [(x, y)]) (tie hm x y) := by
 refine ⟨tie_snd (Cl.cc ts terms _) (fun a ha b hb e => (K.snd a ha b hb e).mono fun p hp => Cl.of (List.mem_append_left _ hp)) hx hy (Cl.of (p := (x, y)) (by simp)), fun p hp => ?_⟩
 rcases List.mem_append.mp hp with hp | hp
 ·exact tie_coarse (K.pr p hp)
 ·rw [List.mem_singleton.mp hp]; exact tie_one hm x y
theorem KH.close {ts : List Tm} {terms built : List Nat} {P : List (Nat × Nat)} {hm hm' : Nat → Nat} (W : WfT ts terms) (B : BuiltOk ts terms built) (hb : ∀ x ∈ terms, (tmAt ts x).args ≠ [] → x ∈ built) (K : KH ts terms P hm) (R : HCloseR ts built hm hm') : KH ts terms P hm' ∧ ClsOf ts terms P hm' := by
 have K' : KH ts terms P hm' := ⟨hclose_snd W (Cl.cc ts terms P) B R K.snd, fun p hp => hclose_coarse R (K.pr p hp)⟩
 exact ⟨K', fun x hx y hy => ⟨fun e => K'.snd x hx y hy e, fun q => q _ (hclose_cc W hb R) K'.pr⟩⟩
theorem ClsOf.same {ts : List Tm} {terms : List Nat} {P : List (Nat × Nat)} {c hm : Nat → Nat} (x : ClsOf ts terms P c) (y : ClsOf ts terms P hm) : ∀ a ∈ terms, ∀ b ∈ terms, (c a = c b ↔ hm a = hm b) := fun a ha b hb => (x a ha b hb).trans (y a ha b hb).symm
theorem ClsOf.turn {ts : List Tm} {terms : List Nat} {P : List (Nat × Nat)} {c : Nat → Nat} (x : ClsOf ts terms (P.reverse.map fun p => (p.2, p.1)) c) : ClsOf ts terms P c := fun a ha b hb => (x a ha b hb).trans
 ⟨fun q => q.mono fun p hp => by
  obtain ⟨r, hr, rfl⟩ := List.mem_map.mp hp
  exact (Cl.cc ts terms P).sy (Cl.of (List.mem_reverse.mp hr)),
  fun q => q.mono fun p hp => (Cl.cc ts terms _).sy (Cl.of (p := (p.2, p.1)) (List.mem_map.mpr ⟨p, List.mem_reverse.mpr hp, rfl⟩))⟩
end
section
noncomputable def SOk (ts : List Tm) (F : List Nat) : List Nat → List (Nat × Bool) → Prop
 | _, [] => True
 | ab, (t, o) :: r => (o = true → ∀ a ∈ (tmAt ts t).args, a ∈ F ∨ a ∈ ab) ∧ SOk ts F (t :: ab) r
theorem SOk.weak {ts : List Tm} {F F' : List Nat} : ∀ {s : List (Nat × Bool)} {ab ab' : List Nat}, SOk ts F ab s → (∀ a, a ∈ F ∨ a ∈ ab → a ∈ F' ∨ a ∈ ab') → SOk ts F' ab' s
 | [], _, _, _, _ => trivial
 | (t, o) :: r, ab, ab', h, k => ⟨fun ho a ha => k a (h.1 ho a ha), SOk.weak h.2 fun a ha => by
   rcases ha with ha | ha
   ·exact (k a (.inl ha)).imp id fun q => .tail _ q
   ·rcases List.mem_cons.mp ha with rfl | ha
    ·exact .inr (.head _)
    ·exact (k a (.inr ha)).imp id fun q => .tail _ q⟩
theorem SOk.push {ts : List Tm} {F : List Nat} {s : List (Nat × Bool)} : ∀ {l : List Nat} {ab : List Nat}, SOk ts F (l.reverse ++ ab) s → SOk ts F ab (l.map (fun a => (a, false)) ++ s)
 | [], _, h => h
 | x :: r, ab, h => ⟨(fun q => nomatch q), SOk.push (l := r) (by first | exact h | simpa using h)⟩
structure PtS (ts : List Tm) (F : List Nat) (s : List (Nat × Bool)) : Prop where
 nd : F.Nodup
 va : ∀ x ∈ F, x < ts.length
 cl : ∀ x ∈ F, ∀ a ∈ (tmAt ts x).args, a ∈ F
 sv : ∀ p ∈ s, p.1 < ts.length
 so : SOk ts F [] s
noncomputable def mS (W : Nat → Nat) : List (Nat × Bool) → Nat
 | [] => 0
 | (t, o) :: r => (if o then 1 else W t) + mS W r
noncomputable def sumW (W : Nat → Nat) (l : List Nat) : Nat := (l.map W).sum
theorem mS_app (W : Nat → Nat) : ∀ (x y : List (Nat × Bool)), mS W (x ++ y) = mS W x + mS W y
 | [], y => by simp [mS]
 | (t, o) :: r, y => by simp only [List.cons_append, mS, mS_app W r y]; (first | lia | omega)
theorem mS_new (W : Nat → Nat) : ∀ l : List Nat, mS W (l.map fun a => (a, false)) = sumW W l
 | [] => rfl
 | a :: r => by
  have := mS_new W r
  unfold sumW at this ⊢
  simp only [List.map_cons, mS, List.sum_cons, this, Bool.false_eq_true, if_false]
theorem mS_len {W : Nat → Nat} (hW : ∀ x, 1 ≤ W x) : ∀ s : List (Nat × Bool), s.length ≤ mS W s
 | [] => Nat.le_refl _
 | (t, o) :: r => by
  have := mS_len hW r
  have := hW t
  simp only [List.length_cons, mS]
  split <;> (first | lia | omega)
theorem sumW_filter (W : Nat → Nat) (p : Nat → Bool) : ∀ l : List Nat, sumW W (l.filter p) ≤ sumW W l
 | [] => Nat.le_refl _
 | a :: r => by
  have := sumW_filter W p r
  unfold sumW at this ⊢
  rw [List.filter_cons]
  split
  ·simp only [List.map_cons, List.sum_cons]; (first | lia | omega)
  ·simp only [List.map_cons, List.sum_cons]; (first | lia | omega)
theorem sumW_reverse (W : Nat → Nat) (l : List Nat) : sumW W l.reverse = sumW W l := by
 unfold sumW; rw [List.map_reverse, List.sum_reverse]
theorem PtS.done {ts : List Tm} {F : List Nat} {t : Nat} {o : Bool} {s : List (Nat × Bool)} (K : PtS ts F ((t, o) :: s)) (h : t ∈ F) : PtS ts F s :=
 ⟨K.nd, K.va, K.cl, fun p hp => K.sv p (.tail _ hp), K.so.2.weak fun a ha => by
  rcases ha with ha | ha
  ·exact .inl ha
  ·rw [List.mem_singleton.mp ha]; exact .inl h⟩
theorem PtS.open {ts : List Tm} {F : List Nat} {t : Nat} {s : List (Nat × Bool)} (K : PtS ts F ((t, true) :: s)) (h : t ∉ F) : PtS ts (F ++ [t]) s := by
 have hargs : ∀ a ∈ (tmAt ts t).args, a ∈ F := fun a ha => (K.so.1 rfl a ha).elim id fun q => nomatch q
 refine ⟨List.nodup_append.mpr ⟨K.nd, by simp, fun a ha b hb e => h (by rw [List.mem_singleton.mp hb] at e; exact e ▸ ha)⟩, fun x hx => ?_, fun x hx a ha => ?_, fun p hp => K.sv p (.tail _ hp), K.so.2.weak fun a ha => ?_⟩
 ·rcases List.mem_append.mp hx with hx | hx
  ·exact K.va x hx
  ·rw [List.mem_singleton.mp hx]; exact K.sv _ (.head _)
 ·rcases List.mem_append.mp hx with hx | hx
  ·exact List.mem_append_left _ (K.cl x hx a ha)
  ·rw [List.mem_singleton.mp hx] at ha; exact List.mem_append_left _ (hargs a ha)
 ·rcases ha with ha | ha
  ·exact .inl (List.mem_append_left _ ha)
  ·exact .inl (List.mem_append_right _ ha)
noncomputable def newPs (ts : List Tm) (F : List Nat) (t : Nat) : List Nat := (tmAt ts t).args.reverse.filter fun a => decide (a ∉ F)
theorem PtS.push {ts : List Tm} {F : List Nat} {t : Nat} {s : List (Nat × Bool)} (K : PtS ts F ((t, false) :: s)) (hv : ∀ a ∈ (tmAt ts t).args, a < ts.length) : PtS ts F ((newPs ts F t).reverse.map (fun a => (a, false)) ++ (t, true) :: s) := by
 refine ⟨K.nd, K.va, K.cl, fun p hp => ?_, SOk.push ⟨fun _ a ha => ?_, K.so.2.weak fun a ha => ?_⟩⟩
 ·rcases List.mem_append.mp hp with hp | hp
  ·obtain ⟨a, ha, rfl⟩ := List.mem_map.mp hp
   unfold newPs at ha
   rw [List.mem_reverse, List.mem_filter, List.mem_reverse] at ha
   exact hv a ha.1
  ·rcases List.mem_cons.mp hp with rfl | hp
   ·exact K.sv (t, false) (.head _)
   ·exact K.sv _ (.tail _ hp)
 ·by_cases q : a ∈ F
  ·exact .inl q
  ·refine .inr ?_
   rw [List.reverse_reverse, List.append_nil]
   unfold newPs
   rw [List.mem_filter, List.mem_reverse]
   exact ⟨ha, decide_eq_true q⟩
 ·rcases ha with ha | ha
  ·exact .inl ha
  ·rw [List.mem_singleton.mp ha]; exact .inr (.head _)
theorem push_less {ts : List Tm} {W : Nat → Nat} {F : List Nat} {t : Nat} {s : List (Nat × Bool)} (hW : 2 + sumW W (tmAt ts t).args ≤ W t) : mS W ((newPs ts F t).reverse.map (fun a => (a, false)) ++ (t, true) :: s) < mS W ((t, false) :: s) := by
 rw [mS_app, mS_new, sumW_reverse]
 have h1 := sumW_filter W (fun a => decide (a ∉ F)) (tmAt ts t).args.reverse
 rw [sumW_reverse] at h1
 unfold newPs
 simp only [mS, if_true, Bool.false_eq_true, if_false]
 (first | lia | omega)
theorem PtS.start {ts : List Tm} {F : List Nat} (nd : F.Nodup) (va : ∀ x ∈ F, x < ts.length) (cl : ∀ x ∈ F, ∀ a ∈ (tmAt ts x).args, a ∈ F) {r : Nat} (hr : r < ts.length) : PtS ts F [(r, false)] :=
 ⟨nd, va, cl, fun p hp => by rw [List.mem_singleton.mp hp]; exact hr, ⟨(fun q => nomatch q), trivial⟩⟩
theorem nodup_len : ∀ (n : Nat) (F : List Nat), F.Nodup → (∀ x ∈ F, x < n) → F.length ≤ n
 | 0, F, _, h => by
  cases F with
  | nil => exact Nat.le_refl _
  | cons a _ => exact absurd (h a (.head _)) (Nat.not_lt_zero _)
 | n + 1, F, nd, h => by
  have h1 := nodup_len n (F.erase n) (nd.erase n) fun x hx => by
   have h2 := h x (List.mem_of_mem_erase hx)
   have h3 : x ≠ n := fun e => by rw [e] at hx; exact (nd.not_mem_erase) hx
   (first | lia | omega)
  have h4 := List.length_erase_le (a := n) (l := F)
  have h5 : F.length ≤ (F.erase n).length + 1 := by
   by_cases q : n ∈ F
   ·rw [List.length_erase_of_mem q]; (first | lia | omega)
   ·rw [List.erase_of_not_mem q]; (first | lia | omega)
  (first | lia | omega)
end
section
noncomputable def fn334 : FnAt 334 := ⟨_, _, _, _, fun _ => rfl, fun _ => by kernel_rfl⟩
section
variable {w : World} {b h : Heap} {env : Env} {l : List (Str × Option Value)} {σ σ' : List (Addr × Obj)} {A : Around} {g : Array GenState} {d : Drawn} {t : Nat} {o : OsState}
theorem r_pop {a : Addr} {us : List Value} {y : Value} {n : Nat} {Q : Value → Shared → Prop} (V : Fm b env h l σ) (U : PutS a (listOf (us ++ [y]).toArray n) (listOf us.toArray (n + 1)) σ σ') (hz : us.length ≤ 1000000)
  (k : ∀ h', Fm b env h' l σ' → Q y ⟨h', g, d, t, o⟩) : wpAny (model PR w) A (call (.builtin "list.pop") [.ref a]) Q Never ⟨h, g, d, t, o⟩ := by
 obtain ⟨m, F, hm⟩ := V.fr
 refine kl_pop (s := ⟨h, g, d, t, o⟩) (p := us) (y := y) (news' := σ') F V.nw (by simpa using kpa_last y us) (U.upd V.na) (by rw [sizeLine_eq]; simp; (first | lia | omega)) fun h' F' N' => k h' ⟨⟨m, F', hm⟩, N', V.nd, by rw [U.names]; exact V.na⟩
theorem r_appendL {a : Addr} {us : List Value} {n : Nat} {v : Value} {Q : Value → Shared → Prop} (V : Fm b env h l σ) (U : PutS a (listOf us.toArray n) (listOf (us ++ [v]).toArray (n + 1)) σ σ') (hz : us.length ≤ 1000000)
  (k : ∀ h', Fm b env h' l σ' → Q .none ⟨h', g, d, t, o⟩) : wpAny (model PR w) A (call (.builtin "list.append") [.ref a, v]) Q Never ⟨h, g, d, t, o⟩ :=
 r_append V (by rw [List.push_toArray]; exact U) (by first | exact hz | simpa using hz) fun h' V' _ _ => k h' V'
theorem Fm.rot2 {p : Addr × Obj} {x y z : List (Addr × Obj)} (V : Fm b env h l (p :: (x ++ (y ++ z)))) : Fm b env h l (p :: (y ++ (x ++ z))) := V.perm (.cons _ (List.perm_append_comm_assoc _ _ _))
theorem All2.unsnoc {α β : Type} {P : α → β → Prop} {y : β} : ∀ {xs : List α} {ys : List β}, All2 P xs (ys ++ [y]) → ∃ xs' x, xs = xs' ++ [x] ∧ All2 P xs' ys ∧ P x y
 | _, [], .cons h .nil => ⟨[], _, rfl, .nil, h⟩
 | _, _ :: _, .cons h r => let ⟨xs', x, e, N, hx⟩ := All2.unsnoc r; ⟨_ :: xs', x, by rw [e]; rfl, .cons h N, hx⟩
noncomputable def StkL (b : Heap) (kt : List (Addr × Obj)) (vs : List Value) (st : List (Nat × Bool)) : Prop := All2 (fun v (p : Nat × Bool) => ∃ a u, v = .ref a ∧ At b kt a (tupOf [.int p.1 u, .bool p.2])) vs st
theorem StkL.more {kt kt' : List (Addr × Obj)} {vs : List Value} {st : List (Nat × Bool)} (x : StkL b kt vs st) (h : ∀ p ∈ kt, p ∈ kt') : StkL b kt' vs st := All2.mono x fun _ _ ⟨a, u, e, H⟩ => ⟨a, u, e, H.imp (h _) id⟩
noncomputable def isIn (F : List Nat) : Nat → Option Unit := fun k => if k ∈ F then some () else none
theorem isIn_some (F : List Nat) (k : Nat) : (isIn F k).isSome = decide (k ∈ F) := by unfold isIn; split <;> simp_all
theorem setF_isIn (F : List Nat) (x k : Nat) : setF (isIn F) x () k = isIn (F ++ [x]) k := by
 unfold setF isIn
 by_cases q : k = x
 ·subst q; simp
 ·simp [q]
end
section
variable {w : World} {b₀ h : Heap} {A : Around} {g : Array GenState} {d : Drawn} {t : Nat} {o : OsState} {B : BankL} {ts : List Tm} {n : Nat} {Q : Value → Shared → Prop}
theorem parts_ok {la : Addr} {roots : List Nat} {W : Nat → Nat} (G : Gd w b₀) (S : Sub b₀ h) (R : Rm A (n + 1)) (K : BankR h B ts) (hl : ListN h la roots) (hlen : ts.length ≤ 900)
  (hargs : ∀ x < ts.length, ∀ a ∈ (tmAt ts x).args, a < ts.length) (h64 : ∀ x < ts.length, (tmAt ts x).args.length < 64) (hW1 : ∀ x, 1 ≤ W x) (hW : ∀ x < ts.length, 2 + sumW W (tmAt ts x).args ≤ W x)
  (hr : ∀ r ∈ roots, r < ts.length ∧ W r ≤ 100000)
  (k : ∀ fo F t' h', ListN h' fo F → F.Nodup → (∀ x ∈ F, x < ts.length) → (∀ x ∈ F, ∀ a ∈ (tmAt ts x).args, a ∈ F) → (∀ r ∈ roots, r ∈ F) → Sub h h' → h.get? fo = none → Q (.ref fo) ⟨h', g, d, t', o⟩) :
  wpAny (model PR w) A (call (.ref 334) [.ref B.x, .ref la]) Q Never ⟨h, g, d, t, o⟩ := by
 refine enter fn334 [("self", .ref B.x), ("some", .ref la)] ["self", "some"] ["found", "done", "root", "stack", "t", "is_open", "part"] [("self", some (.ref B.x)), ("some", some (.ref la)), ("found", none), ("done", none), ("root", none), ("stack", none), ("t", none), ("is_open", none), ("part", none)] [] G S R rfl rfl rfl rfl (by decide +kernel) (by decide +kernel) (by decide +kernel) (fun _ h => nomatch h) .nil (fun b env h' t' G' Sb Sh Kb Lo Sh' e V R' => ?_)
 have Hb : Sub h b := fun a o e => Kb a o e (fun q => nomatch q)
 have K' : BankR b B ts := K.sub Hb
 have I := K'.self
 obtain ⟨vs, kv, et, nt⟩ := hl.sub Hb
 obtain ⟨va, ka, ea, Na⟩ := K'.args
 repeat wtm_at "qkt"
 refine r_consK fun _ _ => r_assign2 R'.h e (by decide +kernel) (by decide +kernel) (by decide +kernel) ?_
 wtm_at "qgo"
 refine r_newlist V ?_; clear V; intro fo h1 lo1 s1 V
 have hfo : h.get? fo = none := by
  cases q : h.get? fo with
  | none => rfl
  | some oo => have := (V.nw (fo, _) (.head _)).2.2; rw [Hb _ _ q] at this; cases this
 refine r_dict0 G' V ?_; clear V; intro dn h2 lo2 s2 hsy V
 refine later fun h3 t3 s3 => ?_
 replace V := V.mono s3
 wtm_at "qst"; clear V; intro h4 t4 V
 wtm_at "qst"; clear V; intro h5 t5 V
 wtm_at "qgo"
 let Jx1 : Nat → List (Str × Option Value) → List (Addr × Obj) → Prop := fun i l σ => Ex9 fun F oD fs kf y1 y2 y3 y4 y5 => Al8 (l = ([("self", some (.ref B.x)), ("some", some (.ref la)), ("found", some (.ref fo)), ("done", some (.ref dn)), ("root", y1), ("stack", y2), ("t", y3), ("is_open", y4), ("part", y5)] : List (Str × Option Value))) (σ = [(dn, oD), (fo, listOf (List.toArray fs) kf)]) (Nums fs F) (NMap w (fun _ _ => True) oD (isIn F) F.length) (F.Nodup) ((∀ x ∈ F, x < ts.length)) ((∀ x ∈ F, ∀ a ∈ (tmAt ts x).args, a ∈ F)) (∀ r ∈ roots.take i, r ∈ F)
 refine loop_list (vs := vs) R'.h V Jx1 ?_ ?_ ?_ ?_
 ·exact ⟨[], dict0, [], 0, _, _, _, _, _, rfl, rfl, .nil, (NMap.nil w _).congr fun k => by simp [isIn], List.nodup_nil, (fun _ h => nomatch h), (fun _ h => nomatch h), fun r hr => by simp at hr⟩
 ·rintro i l σ _; exact ⟨kv, .inr et⟩
 ·clear V
  rintro i tv it ito h6 t6 l σ hti ⟨F0, oD, fs, kf, y1, y2, y3, y4, y5, rfl, rfl, NF, MD, nd, vaF, clF, hroots⟩ V
  obtain ⟨r, hr0, ur, rfl⟩ := nt.back (by first | exact hti | simpa using hti)
  have hrt := hr r (List.mem_of_getElem? hr0)
  refine wpAny_assign_Name ?_
  wtm_at "qst"; clear V; intro h7 t7 V
  wtm_at "qgo"
  refine r_newtuple V ?_; clear V; intro tp h8 lo8 s8 V
  wtm_at "qgo"
  refine r_newlist V ?_; clear V; intro sk h9 lo9 s9 V
  wtm_at "qst"; clear V; intro h10 t10 V
  have V' := Fm.rot2 (x := [_]) (y := [_, _, _]) V
  clear V; have V := V'; clear V'
  repeat wtm_at "qkt"
  refine r_cons (r_while V (fun n l σ => Ex11 fun F sr us ks oD fs kf kt y3 y4 y5 => Al10 (l = ([("self", some (.ref B.x)), ("some", some (.ref la)), ("found", some (.ref fo)), ("done", some (.ref dn)), ("root", some (.int r ur)), ("stack", some (.ref sk)), ("t", y3), ("is_open", y4), ("part", y5)] : List (Str × Option Value))) (σ = (sk, listOf (List.toArray us) ks) :: (it, ito) :: (dn, oD) :: (fo, listOf (List.toArray fs) kf) :: kt) (StkL b kt us (List.reverse sr)) (PtS ts F sr) (Nums fs F) (NMap w (fun _ _ => True) oD (isIn F) F.length) ((∀ x ∈ F0, x ∈ F)) ((r ∈ F ∨ ∃ c, (r, c) ∈ sr)) (n = mS W sr) (mS W sr ≤ 100000)) (mS W [(r, false)]) ?_ ?_)
  ·refine ⟨F0, [(r, false)], [.ref tp], 0, oD, fs, kf, [(tp, tupOf [.int r ur, .bool false])], _, _, _, rfl, rfl, .cons ⟨tp, ur, rfl, .inl (.head _)⟩ .nil, PtS.start nd vaF clF hrt.1, NF, MD, fun x hx => hx, .inr ⟨false, .head _⟩, rfl, ?_⟩
   show (if false = true then 1 else W r) + 0 ≤ _
   rw [if_neg Bool.false_ne_true]; exact hrt.2
  clear V
  rintro nm h11 t11 l σ ⟨F, sr, us, ks, oD', fs', kf', kt, z3, z4, z5, rfl, rfl, SK, PT, NF', MD', F0F, hrin, rfl, hms⟩ V
  have hul : us.length = sr.length := by have := SK.length; rw [List.length_reverse] at this; exact this
  have hsl := mS_len hW1 sr
  have hFl := nodup_len ts.length F PT.nd PT.va
  wtm_at "qgo"; wtm_at "qbn"; wtm_at "qgo"
  refine r_lenl (V.nw (sk, _) (by wtm_at "qmem")).1 (by rw [List.size_toArray]; (first | lia | omega)) fun u12 t12 => ?_
  wtm_at "qgo"
  rw [List.size_toArray, hul]
  cases sr with
  | nil =>
   first | refine ite_f (by simp) ?_ | rw [if_neg (by simp)]
   wtm_at "qgo"
   have hrF : r ∈ F := hrin.elim id fun ⟨_, q⟩ => nomatch q
   repeat wtm_at "qkt"
   refine ⟨_, _, _, _, rfl, V.tail.drop ?_, F, oD', fs', kf', _, _, _, _, _, rfl, rfl, NF', MD', PT.nd, PT.va, PT.cl, fun x hx => ?_⟩
   ·simp
   ·rw [List.take_add_one, hr0] at hx
    rcases List.mem_append.mp hx with hx | hx
    ·exact F0F _ (hroots x hx)
    ·rw [List.mem_singleton.mp hx]; exact hrF
  | cons p sr =>
  obtain ⟨x, ob⟩ := p
  first | refine ite_t (by simp) ?_ | rw [if_pos (by simp)]
  rw [List.reverse_cons] at SK
  obtain ⟨us', uv, rfl, SK', xa, xu, rfl, xH⟩ := All2.unsnoc SK
  have hxl := PT.sv _ (.head _)
  have hul' : us'.length = sr.length := by have := SK'.length; rw [List.length_reverse] at this; exact this
  simp only [List.length_cons] at hsl
  have hsr : sr.length ≤ 100000 := by (first | lia | omega)
  repeat wtm_at "qkt"
  refine r_consK fun _ _ => r_asgt ?_
  wtm_at "qgo"
  refine r_lmeth V (.inl (by wtm_at "qmem")) PySem.F.slot_list_pop PySem.F.type_list_pop ?_
  dsimp only
  refine r_cwm0 ?_
  refine r_pop V (by wtm_at "qputs") (by (first | lia | omega)) ?_
  clear V; intro h13 V
  refine r_target2 R'.h (V.at (xH.imp (fun m => .tail _ (.tail _ (.tail _ (.tail _ m)))) id)) (later fun h14 t14 s14 => ?_)
  replace V := V.mono s14
  wtm_at "qst"; clear V; intro h15 t15 V
  wtm_at "qst"; clear V; intro h16 t16 V
  wtm_at "qgo"
  refine r_inN V (.inl (by wtm_at "qmem")) MD' ⟨xu, rfl⟩ hsy fun t17 => ?_
  wtm_at "qgo"
  rw [isIn_some]
  by_cases q1 : x ∈ F
  ·first | refine ite_t (decide_eq_true q1) ?_ | rw [if_pos (decide_eq_true q1)]
   wtm_at "qgo"
   refine ⟨mS W sr, _, _, _, _, rfl, V, ?_, F, sr, us', _, oD', fs', kf', kt, _, _, _, rfl, rfl, SK', PT.done q1, NF', MD', F0F, ?_, rfl, ?_⟩
   ·have := hW1 x
    simp only [mS]; split <;> (first | lia | omega)
   ·rcases hrin with q | ⟨c, q⟩
    ·exact .inl q
    ·rcases List.mem_cons.mp q with q | q
     ·injection q with q _; exact .inl (q ▸ q1)
     ·exact .inr ⟨c, q⟩
   ·simp only [mS] at hms; (first | lia | omega)
  first | refine ite_f (by first | exact q1 | simpa using q1) ?_ | rw [if_neg (by first | exact q1 | simpa using q1)]
  wtm_at "qgo"
  cases ob with
  | true =>
   first | refine ite_t rfl ?_ | rw [if_pos rfl]
   wtm_at "qgo"
   refine r_setN V (fun o' => by wtm_at "qputs") MD' ⟨xu, rfl⟩ (y := ()) trivial (by (first | lia | omega)) ?_
   clear V; intro oD2 h18 t18 MD2 V _ _
   have hfx : isIn F x = none := if_neg q1
   rw [hfx] at MD2
   wtm_at "qgo"
   refine r_lmeth V (.inl (by wtm_at "qmem")) PySem.F.slot_list_append PySem.F.type_list_append ?_
   dsimp only
   refine r_cwm ?_
   wtm_at "qgo"
   have hfl : fs'.length = F.length := NF'.length
   refine r_appendL V (by wtm_at "qputs") (by (first | lia | omega)) ?_
   clear V; intro h19 V
   wtm_at "qgo"
   refine ⟨mS W sr, _, _, _, _, rfl, V, ?_, F ++ [x], sr, us', _, oD2, fs' ++ [.int x xu], _, kt, _, _, _, rfl, rfl, SK', PT.open q1, NF'.snoc ⟨xu, rfl⟩, ?_, fun y hy => List.mem_append_left _ (F0F y hy), ?_, rfl, ?_⟩
   ·show mS W sr < (if true = true then 1 else W x) + mS W sr
    rw [if_pos rfl]; (first | lia | omega)
   ·rw [List.length_append, List.length_singleton]
    exact (MD2 : NMap w _ oD2 _ (F.length + 1)).congr fun k => setF_isIn F x k
   ·rcases hrin with q | ⟨c, q⟩
    ·exact .inl (List.mem_append_left _ q)
    ·rcases List.mem_cons.mp q with q | q
     ·injection q with q _; exact .inl (List.mem_append_right _ (by rw [q]; exact .head _))
     ·exact .inr ⟨c, q⟩
   ·simp only [mS] at hms; (first | lia | omega)
  | false =>
   first | refine ite_f Bool.false_ne_true ?_ | rw [if_neg Bool.false_ne_true]
   wtm_at "qgo"
   refine r_lmeth V (.inl (by wtm_at "qmem")) PySem.F.slot_list_append PySem.F.type_list_append ?_
   dsimp only
   refine r_cwm ?_
   wtm_at "qgo"
   refine r_newtuple V ?_; clear V; intro tq h18 lo18 s18 V
   wtm_at "qgo"
   refine r_appendL V (by wtm_at "qputs") (by (first | lia | omega)) ?_
   clear V; intro h19 V
   have V' := Fm.rot (x := [_]) (y := [_, _, _, _]) V
   clear V; have V := V'; clear V'
   wtm_at "qgo"; wtm_at "qbn"; wtm_at "qgo"
   have hxm : ts[x]? = some ts[x] := List.getElem?_eq_getElem hxl
   have htm := tmAt_of hxm
   obtain ⟨_, hav, aa, rfl, as', eaa, Nas⟩ := Na.get hxm
   have hxl' : x < ts.length := hxl
   refine r_item_list V (.inr ea) (by (first | lia | omega)) (by (first | lia | omega)) (by first | exact hav | simpa using hav) ?_
   wtm_at "qgo"
   have h64x := h64 x hxl
   have hWx := hW x hxl
   have hax := hargs x hxl
   rw [htm] at h64x
   have hasl : as'.length = ts[x].args.length := Nas.length
   refine r_reversed V (V.sub _ _ eaa) (by (first | lia | omega)) ?_
   clear V; intro rv h20 t20 hrne s20 V
   wtm_at "qgo"
   have Nrev : Nums as'.reverse ts[x].args.reverse := by
    have : ∀ {xs : List Value} {ys : List Nat}, Nums xs ys → Nums xs.reverse ys.reverse := by
     intro xs ys N
     induction N with
     | nil => exact .nil
     | cons h _ ih => rw [List.reverse_cons, List.reverse_cons]; exact ih.snoc h
    exact this Nas
   let Jx2 : Nat → List (Str × Option Value) → List (Addr × Obj) → Prop := fun i l σ => Ex4 fun us2 ks2 kt2 y5 => Al3 (l = ([("self", some (.ref B.x)), ("some", some (.ref la)), ("found", some (.ref fo)), ("done", some (.ref dn)), ("root", some (.int r ur)), ("stack", some (.ref sk)), ("t", some (.int x xu)), ("is_open", some (.bool false)), ("part", y5)] : List (Str × Option Value))) (σ = (sk, listOf (List.toArray us2) ks2) :: (it, ito) :: (dn, oD') :: (fo, listOf (List.toArray fs') kf') :: kt2) (StkL b kt2 us2 (sr.reverse ++ [(x, true)] ++ ((ts[x].args.reverse.take i).filter fun a => decide (a ∉ F)).map fun a => (a, false)))
   refine loop_rev R'.h V hrne (by (first | lia | omega)) Jx2 ?_ (fun _ _ _ _ => .inr eaa) ?_ ?_
   ·repeat wtm_at "qkt"
    refine ⟨_, _, (tq, tupOf [.int x xu, .bool true]) :: kt, _, rfl, rfl, ?_⟩
    rw [List.take_zero, List.filter_nil, List.map_nil, List.append_nil]
    exact (StkL.more SK' fun p hp => .tail _ hp).snoc ⟨tq, xu, rfl, .inl (.head _)⟩
   ·clear V
    rintro i v I2 ito2 h21 t21 l σ hv ⟨us2, ks2, kt2, y5, rfl, rfl, SK2⟩ V
    obtain ⟨a, ha, ua, rfl⟩ := Nrev.back hv
    have hl2 := SK2.length
    have hfl2 := List.length_filter_le (fun a => decide (a ∉ F)) (ts[x].args.reverse.take i)
    have htl2 := List.length_take_le i ts[x].args.reverse
    have htl3 : (ts[x].args.reverse.take i).length ≤ ts[x].args.reverse.length := by rw [List.length_take]; (first | lia | omega)
    rw [List.length_append, List.length_append, List.length_map, List.length_reverse, List.length_singleton] at hl2
    rw [List.length_reverse] at htl3
    refine wpAny_assign_Name ?_
    wtm_at "qst"; clear V; intro h22 t22 V
    wtm_at "qgo"
    refine r_notInN V (.inl (by wtm_at "qmem")) MD' ⟨ua, rfl⟩ hsy fun t23 => ?_
    wtm_at "qgo"
    have htk : ts[x].args.reverse.take (i + 1) = ts[x].args.reverse.take i ++ [a] := by rw [List.take_add_one, ha]; rfl
    rw [isIn_some]
    by_cases q2 : a ∈ F
    ·first | refine ite_f (by first | exact q2 | simpa using q2) ?_ | rw [if_neg (by first | exact q2 | simpa using q2)]
     wtm_at "qgo"
     repeat wtm_at "qkt"
     refine ⟨_, _, _, _, rfl, V, us2, ks2, kt2, _, rfl, rfl, ?_⟩
     rw [htk, List.filter_append, List.filter_cons_of_neg (by first | exact q2 | simpa using q2), List.filter_nil, List.append_nil]
     exact SK2
    ·first | refine ite_t (by first | exact q2 | simpa using q2) ?_ | rw [if_pos (by first | exact q2 | simpa using q2)]
     wtm_at "qgo"
     refine r_lmeth V (.inl (by wtm_at "qmem")) PySem.F.slot_list_append PySem.F.type_list_append ?_
     dsimp only
     refine r_cwm ?_
     wtm_at "qgo"
     refine r_newtuple V ?_; clear V; intro tr h24 lo24 s24 V
     wtm_at "qgo"
     refine r_appendL V (by wtm_at "qputs") (by (first | lia | omega)) ?_
     clear V; intro h25 V
     have V' := Fm.rot (x := [_]) (y := [_, _, _, _, _]) V
     clear V; have V := V'; clear V'
     wtm_at "qgo"
     repeat wtm_at "qkt"
     refine ⟨_, _, _, _, rfl, V, us2 ++ [.ref tr], _, (tr, tupOf [.int a ua, .bool false]) :: kt2, _, rfl, rfl, ?_⟩
     rw [htk, List.filter_append, List.filter_cons_of_pos (by first | exact q2 | simpa using q2), List.filter_nil, List.map_append, ← List.append_assoc]
     exact (SK2.more fun p hp => .tail _ hp).snoc ⟨tr, ua, rfl, .inl (.head _)⟩
   ·clear V
    rintro h21 t21 l σ ⟨us2, ks2, kt2, y5, rfl, rfl, SK2⟩ V
    rw [List.take_of_length_le (by rw [List.length_reverse, hasl]; exact Nat.le_refl _)] at SK2
    wtm_at "qgo"
    have hnew : newPs ts F x = ts[x].args.reverse.filter fun a => decide (a ∉ F) := by unfold newPs; rw [htm]
    have hless := push_less (F := F) (s := sr) hWx
    refine ⟨mS W ((newPs ts F x).reverse.map (fun a => (a, false)) ++ (x, true) :: sr), _, _, _, _, rfl, V, hless, F, (newPs ts F x).reverse.map (fun a => (a, false)) ++ (x, true) :: sr, us2, ks2, oD', fs', kf', kt2, _, _, _, rfl, rfl, ?_, PT.push hax, NF', MD', F0F, ?_, rfl, by (first | lia | omega)⟩
    ·rw [hnew]
     rw [List.reverse_append, List.reverse_cons, List.map_reverse, List.reverse_reverse]
     exact SK2
    ·rcases hrin with q | ⟨c, q⟩
     ·exact .inl q
     ·rcases List.mem_cons.mp q with q | q
      ·injection q with q _; exact .inr ⟨true, List.mem_append_right _ (by rw [q]; exact .head _)⟩
      ·exact .inr ⟨c, List.mem_append_right _ (.tail _ q)⟩
 ·clear V
  rintro h6 t6 l σ ⟨F, oD, fs, kf, y1, y2, y3, y4, y5, rfl, rfl, NF, MD, nd, vaF, clF, hroots⟩ V
  rw [List.take_of_length_le (by rw [← nt.length]; simp)] at hroots
  wtm_at "qgo"
  repeat wtm_at "qkt"
  exact k fo F t6 h6 ⟨_, _, (V.nw (fo, _) (by wtm_at "qmem")).1, NF⟩ nd vaF clF hroots (sub_of Hb V) hfo
end
end
section
noncomputable def fn138 : FnAt 138 := ⟨_, _, _, _, fun _ => rfl, fun _ => by kernel_rfl⟩
theorem sb_sort_names (w : World) : SetOk w 442 "sort_names" := ⟨by kernel_rfl, by kernel_rfl, by kernel_rfl, by kernel_rfl⟩
theorem sb_sort_widths (w : World) : SetOk w 442 "sort_widths" := ⟨by kernel_rfl, by kernel_rfl, by kernel_rfl, by kernel_rfl⟩
theorem sb_fun_names (w : World) : SetOk w 442 "fun_names" := ⟨by kernel_rfl, by kernel_rfl, by kernel_rfl, by kernel_rfl⟩
theorem sb_fun_args (w : World) : SetOk w 442 "fun_args" := ⟨by kernel_rfl, by kernel_rfl, by kernel_rfl, by kernel_rfl⟩
theorem sb_fun_results (w : World) : SetOk w 442 "fun_results" := ⟨by kernel_rfl, by kernel_rfl, by kernel_rfl, by kernel_rfl⟩
theorem sb_fresh_count (w : World) : SetOk w 442 "fresh_count" := ⟨by kernel_rfl, by kernel_rfl, by kernel_rfl, by kernel_rfl⟩
theorem sb_term_ops (w : World) : SetOk w 442 "term_ops" := ⟨by kernel_rfl, by kernel_rfl, by kernel_rfl, by kernel_rfl⟩
theorem sb_term_args (w : World) : SetOk w 442 "term_args" := ⟨by kernel_rfl, by kernel_rfl, by kernel_rfl, by kernel_rfl⟩
theorem sb_term_sorts (w : World) : SetOk w 442 "term_sorts" := ⟨by kernel_rfl, by kernel_rfl, by kernel_rfl, by kernel_rfl⟩
theorem sb_term_datas (w : World) : SetOk w 442 "term_datas" := ⟨by kernel_rfl, by kernel_rfl, by kernel_rfl, by kernel_rfl⟩
theorem sb_numbers (w : World) : SetOk w 442 "numbers" := ⟨by kernel_rfl, by kernel_rfl, by kernel_rfl, by kernel_rfl⟩
theorem sb_true_number (w : World) : SetOk w 442 "true_number" := ⟨by kernel_rfl, by kernel_rfl, by kernel_rfl, by kernel_rfl⟩
theorem sb_false_number (w : World) : SetOk w 442 "false_number" := ⟨by kernel_rfl, by kernel_rfl, by kernel_rfl, by kernel_rfl⟩
noncomputable def plus (c h : Heap) (D : List Addr) : Heap := hideAll h ((List.range h.objs.size).filter fun a => decide (c.get? a = none ∧ a ∉ D))
theorem plus_sub (c h : Heap) (D : List Addr) : Sub (plus c h D) h := fun a o e => of_hideAll _ e
theorem plus_get {c h : Heap} {D : List Addr} {a : Addr} {o : Obj} (hc : (c.get? a).isSome = true ∨ a ∈ D) (e : h.get? a = some o) : (plus c h D).get? a = some o := hideAll_get _ e fun q => by
 have := of_decide_eq_true (List.mem_filter.mp q).2
 rcases hc with hc | hc
 ·rw [this.1] at hc; cases hc
 ·exact this.2 hc
theorem plus_of {c h : Heap} {D : List Addr} {a : Addr} {o : Obj} (e : (plus c h D).get? a = some o) : (c.get? a).isSome = true ∨ a ∈ D := by
 by_cases q : (c.get? a).isSome = true ∨ a ∈ D
 ·exact q
 ·exfalso
  have hlt : a < h.objs.size := Heap.lt_size (plus_sub c h D _ _ e)
  have hn := hideAll_none (h := h) _ (List.mem_filter.mpr ⟨List.mem_range.mpr hlt, decide_eq_true ⟨by
   cases r : c.get? a with
   | none => rfl
   | some _ => exact absurd (.inl (by rw [r]; rfl)) q, fun r => q (.inr r)⟩⟩ : a ∈ (List.range h.objs.size).filter fun a => decide (c.get? a = none ∧ a ∉ D))
  unfold plus at e
  rw [hn] at e; cases e
theorem plus_more {c h : Heap} {D : List Addr} (s : Sub c h) : Sub c (plus c h D) := fun a o e => plus_get (.inl (by rw [e]; rfl)) (s _ _ e)
noncomputable def onlyD (h : Heap) (D : List Addr) : Heap := hideAll h ((List.range h.objs.size).filter fun a => decide (a ∉ D))
theorem onlyD_sub (h : Heap) (D : List Addr) : Sub (onlyD h D) h := fun a o e => of_hideAll _ e
theorem onlyD_get {h : Heap} {D : List Addr} {a : Addr} {o : Obj} (hc : a ∈ D) (e : h.get? a = some o) : (onlyD h D).get? a = some o := hideAll_get _ e fun q => of_decide_eq_true (List.mem_filter.mp q).2 hc
theorem onlyD_of {h : Heap} {D : List Addr} {a : Addr} {o : Obj} (e : (onlyD h D).get? a = some o) : a ∈ D := by
 by_cases q : a ∈ D
 ·exact q
 ·exfalso
  have hlt : a < h.objs.size := Heap.lt_size (onlyD_sub h D _ _ e)
  have hn := hideAll_none (h := h) _ (List.mem_filter.mpr ⟨List.mem_range.mpr hlt, decide_eq_true q⟩ : a ∈ (List.range h.objs.size).filter fun a => decide (a ∉ D))
  unfold onlyD at e
  rw [hn] at e; cases e
theorem BankF.redo {w : World} {c c2 : Heap} {B : BankL} {fl fl' : List (Str × Value)} {ts : List Tm} {fs : List (List Nat × Nat)} (M : BankF w c B fl ts fs) (k : Kept [B.dx] c c2) {od : Obj} (e : c2.get? B.dx = some od) (D : DF od fl') : BankF w c2 B fl' ts fs := by
 obtain ⟨es, n, rfl, E⟩ := D
 obtain ⟨es0, n0, ex, edx, eE⟩ := M.self.ex
 have nd := nd9 M.nd
 have hx : B.x ≠ B.dx := fun q => by rw [q, edx] at ex; cases ex
 have tp : ∀ {a : Addr} {l : List Nat}, TupN c a l → TupN c2 a l := fun {a l} ⟨us, eu, N⟩ => ⟨us, k _ _ eu (fun q => by rw [List.mem_singleton.mp q, edx] at eu; exact absurd (congrArg Obj.cls (Option.some.inj eu)) (show ¬ Value.type "dict" = Value.type "tuple" by decide)), N⟩
 have dtp : ∀ {v : Value} {dd : Dt}, IsDt c v dd → IsDt c2 v dd := fun {v dd} x => by
  cases dd with
  | i n => exact x
  | t l => obtain ⟨a, e, y⟩ := x; exact ⟨a, e, tp y⟩
 have kp : ∀ {a : Addr} {oo : Obj}, c.get? a = some oo → a ≠ B.dx → c2.get? a = some oo := fun {a oo} ea n => k _ _ ea fun q => n (List.mem_singleton.mp q)
 obtain ⟨vo, ko, eo, No⟩ := M.ops
 obtain ⟨va, ka, ea, Na⟩ := M.args
 obtain ⟨vs, ks', es', Ns⟩ := M.sorts
 obtain ⟨vd, kd, ed, Nd⟩ := M.datas
 obtain ⟨on, en, Kn⟩ := M.num
 obtain ⟨vf, kf, ef, sf⟩ := M.fn
 obtain ⟨vg, kg, eg, Ng⟩ := M.fa
 obtain ⟨vr, kr, er, Nr⟩ := M.fr
 refine ⟨⟨es, n, kp ex hx, e, E⟩, ⟨vo, ko, kp eo nd.1.2.2.2.2.1, No⟩, ⟨va, ka, kp ea nd.2.1.2.2.2.1, Na.mono fun _ _ ⟨a, e, y⟩ => ⟨a, e, tp y⟩⟩, ⟨vs, ks', kp es' nd.2.2.1.2.2.1, Ns⟩, ⟨vd, kd, kp ed nd.2.2.2.1.2.1, Nd.mono fun _ _ y => dtp y⟩,
  ⟨on, kp en nd.2.2.2.2.1.1, Kn.move fun k' a' x => keyIn_of (h := c) (o := on) x k (fun y hy vs q => ?_)⟩, ⟨vf, kf, kp ef (Ne.symm nd.2.2.2.2.2.1.1), sf⟩, ⟨vg, kg, kp eg (Ne.symm nd.2.2.2.2.2.1.2.1), Ng.mono fun _ _ ⟨a, e, y⟩ => ⟨a, e, tp y⟩⟩, ⟨vr, kr, kp er (Ne.symm nd.2.2.2.2.2.1.2.2), Nr⟩, M.nd, M.ne, M.sy⟩
 rw [List.mem_singleton.mp hy, edx] at q; exact absurd (congrArg Obj.cls (Option.some.inj q)) (show ¬ Value.type "dict" = Value.type "tuple" by decide)
noncomputable def tm0 : Tm := ⟨"", [], 0, .i 0⟩
noncomputable def tmT : Tm := ⟨"true", [], 0, .i 0⟩
noncomputable def tmF : Tm := ⟨"false", [], 0, .i 0⟩
theorem mkT : mk [tm0] tmT = (1, [tm0, tmT]) := by decide +kernel
theorem mkF : mk [tm0, tmT] tmF = (2, [tm0, tmT, tmF]) := by decide +kernel
section
variable {w : World} {b h : Heap} {env : Env} {l : List (Str × Option Value)} {σ : List (Addr × Obj)} {A : Around} {g : Array GenState} {d : Drawn} {t : Nat} {o : OsState} {n : Nat} {Q : Value → Shared → Prop}
noncomputable def Asc : List Nat → Prop
 | [] => True
 | [_] => True
 | a :: b :: r => a < b ∧ Asc (b :: r)
theorem Asc.lt : ∀ {l : List Nat} {a : Nat}, Asc (a :: l) → ∀ x ∈ l, a < x
 | [], _, _, _, h => nomatch h
 | b :: r, a, h, x, hx => by
  rcases List.mem_cons.mp hx with rfl | hx
  ·exact h.1
  ·exact Nat.lt_trans h.1 (Asc.lt h.2 x hx)
theorem Asc.nodup : ∀ {l : List Nat}, Asc l → l.Nodup
 | [], _ => by simp
 | [_], _ => by simp
 | a :: b :: r, h => List.nodup_cons.mpr ⟨fun m => Nat.lt_irrefl _ (Asc.lt h a m), Asc.nodup h.2⟩
theorem swapL {p q : Addr × Obj} {G : Prop} (V : Fm b env h l (p :: q :: σ)) (k : let σ' := p :: σ; Fm b env h l (q :: σ') → G) : G := k (V.perm (List.Perm.swap _ _ _))
theorem swapL3 {p q r : Addr × Obj} {G : Prop} (V : Fm b env h l (p :: r :: q :: σ)) (k : let σ' := p :: r :: σ; Fm b env h l (q :: σ') → G) : G := k (V.perm ((List.Perm.cons _ (.swap _ _ _)).trans (.swap _ _ _)))
theorem new_bank_ok (G : Gd w b) (V : Fm b env h l σ) (R : Rm A (n + 3))
  (k : ∀ (B : BankL) c' t' h', BankM w c' B [tm0, tmT, tmF] [] → Sub c' h' → (∀ a oo, c'.get? a = some oo → h.get? a = none) → Sub h h' → Q (.ref B.x) ⟨h', g, d, t', o⟩) : wpAny (model PR w) A (call (.ref 442) []) Q Never ⟨h, g, d, t, o⟩ := by
 refine r_new (fI := 138) G V R (by kernel_rfl) (by kernel_rfl) (by kernel_rfl) ?_
 intro x dx h1 A' R1 hxd hfre s1 V1
 have hx1 := (V1.nw _ (.head _)).1
 have hd1 := V1.nw (dx, dictOf [] 0) (.tail _ (.head _))
 refine enterR fn138 [("self", .ref x)] ["self"] [] [("self", some (.ref x))] [(dx, dictOf [] 0)] G V1.sub R1 rfl rfl rfl rfl (by decide +kernel) (by decide +kernel) (by decide +kernel) (fun p hp => by rw [List.mem_singleton.mp hp]; exact ⟨hd1.1, hd1.2.2⟩) (by simp) (fun b2 env2 h2 t2 G2 Sb Sh Kb Lo Sh2 e V2 R2 => ?_)
 have hx2 : b2.get? x = some (instObj 442 dx) := Kb _ _ hx1 (by first | exact hxd | simpa using hxd)
 have hfr : Sub h b2 := fun a oo ea => Kb a oo (s1 _ _ ea) (by
  simp only [List.map_cons, List.map_nil, List.mem_singleton]
  exact (hfre _ _ ea).2)
 have hbx : h.get? x = none := by
  cases q : h.get? x with
  | none => rfl
  | some oo => exact absurd rfl (hfre _ _ q).1
 have D0 := DF.nil
 clear V V1
 have V := V2
 clear V2
 have fresh : ∀ {h' : Heap} {a : Addr} {oo : Obj}, h'.get? a = some oo ∧ a ≠ env2.locals ∧ b2.get? a = none → h.get? a = none := fun {h' a oo} m => by
  cases q : h.get? a with
  | none => rfl
  | some o2 => have := m.2.2; rw [hfr _ _ q] at this; cases this
 wtm_at "qgo"
 have qlsn := Heap.lt_size (V.nw (dx, _) (by wtm_at "qmem")).1
 refine r_newlist V ?_; clear V; intro lsn ha0 loa0 sa0 V
 replace qlsn : dx < lsn := Nat.lt_of_lt_of_le qlsn loa0
 wtm_at "qgo"
 refine r_setattr G2 V (.inr hx2) (fun o' => by wtm_at "qputs") D0 (sb_sort_names w) (by kernel_rfl) (Nat.le_of_ble_eq_true rfl) ?_
 clear V; intro od1 hb0 tb0 D1 V
 refine swapL V ?_; clear V; intro _ V
 wtm_at "qgo"
 have qlsw := Heap.lt_size (V.nw (lsn, _) (by wtm_at "qmem")).1
 refine r_newlist V ?_; clear V; intro lsw ha1 loa1 sa1 V
 replace qlsw : lsn < lsw := Nat.lt_of_lt_of_le qlsw loa1
 wtm_at "qgo"
 refine r_setattr G2 V (.inr hx2) (fun o' => by wtm_at "qputs") D1 (sb_sort_widths w) (by kernel_rfl) (Nat.le_of_ble_eq_true rfl) ?_
 clear V; intro od2 hb1 tb1 D2 V
 refine swapL V ?_; clear V; intro _ V
 wtm_at "qgo"
 have qlfn := Heap.lt_size (V.nw (lsw, _) (by wtm_at "qmem")).1
 refine r_newlist V ?_; clear V; intro lfn ha2 loa2 sa2 V
 replace qlfn : lsw < lfn := Nat.lt_of_lt_of_le qlfn loa2
 wtm_at "qgo"
 refine r_setattr G2 V (.inr hx2) (fun o' => by wtm_at "qputs") D2 (sb_fun_names w) (by kernel_rfl) (Nat.le_of_ble_eq_true rfl) ?_
 clear V; intro od3 hb2 tb2 D3 V
 refine swapL V ?_; clear V; intro _ V
 wtm_at "qgo"
 have qlfa := Heap.lt_size (V.nw (lfn, _) (by wtm_at "qmem")).1
 refine r_newlist V ?_; clear V; intro lfa ha3 loa3 sa3 V
 replace qlfa : lfn < lfa := Nat.lt_of_lt_of_le qlfa loa3
 wtm_at "qgo"
 refine r_setattr G2 V (.inr hx2) (fun o' => by wtm_at "qputs") D3 (sb_fun_args w) (by kernel_rfl) (Nat.le_of_ble_eq_true rfl) ?_
 clear V; intro od4 hb3 tb3 D4 V
 refine swapL V ?_; clear V; intro _ V
 wtm_at "qgo"
 have qlfr := Heap.lt_size (V.nw (lfa, _) (by wtm_at "qmem")).1
 refine r_newlist V ?_; clear V; intro lfr ha4 loa4 sa4 V
 replace qlfr : lfa < lfr := Nat.lt_of_lt_of_le qlfr loa4
 wtm_at "qgo"
 refine r_setattr G2 V (.inr hx2) (fun o' => by wtm_at "qputs") D4 (sb_fun_results w) (by kernel_rfl) (Nat.le_of_ble_eq_true rfl) ?_
 clear V; intro od5 hb4 tb4 D5 V
 refine swapL V ?_; clear V; intro _ V
 wtm_at "qgo"
 refine r_setattr G2 V (.inr hx2) (fun o' => by wtm_at "qputs") D5 (sb_fresh_count w) (by kernel_rfl) (Nat.le_of_ble_eq_true rfl) ?_
 clear V; intro od6 hb5 tb5 D6 V
 wtm_at "qgo"
 have qlo := Heap.lt_size (V.nw (lfr, _) (by wtm_at "qmem")).1
 refine r_newlist V ?_; clear V; intro lo ha6 loa6 sa6 V
 replace qlo : lfr < lo := Nat.lt_of_lt_of_le qlo loa6
 wtm_at "qgo"
 refine r_setattr G2 V (.inr hx2) (fun o' => by wtm_at "qputs") D6 (sb_term_ops w) (by kernel_rfl) (Nat.le_of_ble_eq_true rfl) ?_
 clear V; intro od7 hb6 tb6 D7 V
 refine swapL V ?_; clear V; intro _ V
 wtm_at "qgo"
 refine r_newtuple V ?_; clear V; intro tu htu lotu stu V
 wtm_at "qgo"
 have qla := Heap.lt_size (V.nw (lo, _) (by wtm_at "qmem")).1
 refine r_newlist V ?_; clear V; intro la ha7 loa7 sa7 V
 replace qla : lo < la := Nat.lt_of_lt_of_le qla loa7
 wtm_at "qgo"
 refine r_setattr G2 V (.inr hx2) (fun o' => by wtm_at "qputs") D7 (sb_term_args w) (by kernel_rfl) (Nat.le_of_ble_eq_true rfl) ?_
 clear V; intro od8 hb7 tb7 D8 V
 refine swapL3 V ?_; clear V; intro _ V
 wtm_at "qgo"
 wtm_at "qgl"
 wtm_at "qgo"
 have qls := Heap.lt_size (V.nw (la, _) (by wtm_at "qmem")).1
 refine r_newlist V ?_; clear V; intro ls ha8 loa8 sa8 V
 replace qls : la < ls := Nat.lt_of_lt_of_le qls loa8
 wtm_at "qgo"
 refine r_setattr G2 V (.inr hx2) (fun o' => by wtm_at "qputs") D8 (sb_term_sorts w) (by kernel_rfl) (Nat.le_of_ble_eq_true rfl) ?_
 clear V; intro od9 hb8 tb8 D9 V
 refine swapL V ?_; clear V; intro _ V
 wtm_at "qgo"
 have qld := Heap.lt_size (V.nw (ls, _) (by wtm_at "qmem")).1
 refine r_newlist V ?_; clear V; intro ld ha9 loa9 sa9 V
 replace qld : ls < ld := Nat.lt_of_lt_of_le qld loa9
 wtm_at "qgo"
 refine r_setattr G2 V (.inr hx2) (fun o' => by wtm_at "qputs") D9 (sb_term_datas w) (by kernel_rfl) (Nat.le_of_ble_eq_true rfl) ?_
 clear V; intro od10 hb9 tb9 D10 V
 refine swapL V ?_; clear V; intro _ V
 wtm_at "qgo"
 have qln := Heap.lt_size (V.nw (ld, _) (by wtm_at "qmem")).1
 refine r_dict0 G2 V ?_; clear V; intro ln ha10 loa10 sa10 hsy V
 replace qln : ld < ln := Nat.lt_of_lt_of_le qln loa10
 wtm_at "qgo"
 refine r_setattr G2 V (.inr hx2) (fun o' => by wtm_at "qputs") D10 (sb_numbers w) (by kernel_rfl) (Nat.le_of_ble_eq_true rfl) ?_
 clear V; intro od11 hb10 tb10 D11 V
 refine swapL V ?_; clear V; intro _ V
 wtm_at "qgo"
 obtain ⟨es1, n1, rfl, E1⟩ := D11
 refine r_getmeth G2 V (I := ⟨.inr hx2, .inl (by wtm_at "qmem")⟩) (ml_make w) (by rw [E1.getL]; rfl) ?_
 dsimp only
 wtm_at "qgo"
 refine r_newtuple V ?_; clear V; intro pa hp1 lop1 sp1 V
 wtm_at "qgo"
 wtm_at "qgl"
 wtm_at "qgo"
 refine ⟨V.sub, ?_⟩
 have mX := V.sub _ _ hx2
 have mD := V.nw (dx, _) (by wtm_at "qmem")
 have mo := V.nw (lo, _) (by wtm_at "qmem")
 have ma := V.nw (la, _) (by wtm_at "qmem")
 have ms := V.nw (ls, _) (by wtm_at "qmem")
 have md := V.nw (ld, _) (by wtm_at "qmem")
 have mn := V.nw (ln, _) (by wtm_at "qmem")
 have mfn := V.nw (lfn, _) (by wtm_at "qmem")
 have mfa := V.nw (lfa, _) (by wtm_at "qmem")
 have mfr := V.nw (lfr, _) (by wtm_at "qmem")
 have mtu := V.nw (tu, _) (by wtm_at "qmem")
 have mpa := V.nw (pa, _) (by wtm_at "qmem")
 let B0 : BankL := ⟨x, dx, lsn, lsw, lfn, lfa, lfr, lo, la, ls, ld, ln, 0, 0, 0⟩
 have hC : ∀ a ∈ C8 B0, b2.get? a = none ∧ a ≠ env2.locals := fun a ha => AllL.mem (P := fun a => b2.get? a = none ∧ a ≠ env2.locals) (.cons ⟨mo.2.2, mo.2.1⟩ (.cons ⟨ma.2.2, ma.2.1⟩ (.cons ⟨ms.2.2, ms.2.1⟩ (.cons ⟨md.2.2, md.2.1⟩ (.cons ⟨mn.2.2, mn.2.1⟩ (.cons ⟨mfn.2.2, mfn.2.1⟩ (.cons ⟨mfa.2.2, mfa.2.1⟩ (.cons ⟨mfr.2.2, mfr.2.1⟩ .nil)))))))) ha
 have rlfn : dx < lfn := Nat.lt_trans (Nat.lt_trans qlsn qlsw) qlfn
 have rlfa : dx < lfa := Nat.lt_trans rlfn qlfa
 have rlfr : dx < lfr := Nat.lt_trans rlfa qlfr
 have rlo : dx < lo := Nat.lt_trans rlfr qlo
 have rla : dx < la := Nat.lt_trans rlo qla
 have rls : dx < ls := Nat.lt_trans rla qls
 have rld : dx < ld := Nat.lt_trans rls qld
 have rln : dx < ln := Nat.lt_trans rld qln
 have hnd : [lo, la, ls, ld, ln, dx, lfn, lfa, lfr].Nodup := (List.Perm.nodup_iff (List.perm_append_comm (l₁ := [dx, lfn, lfa, lfr]) (l₂ := [lo, la, ls, ld, ln]))).mp (Asc.nodup (l := [dx, lfn, lfa, lfr, lo, la, ls, ld, ln]) ⟨rlfn, qlfa, qlfr, qlo, qla, qls, qld, qln, trivial⟩)
 have hdx8 : dx ∉ C8 B0 := (List.nodup_cons.mp ((List.Perm.nodup_iff (l₂ := dx :: C8 B0) (List.perm_middle (l₁ := [lo, la, ls, ld, ln]) (l₂ := [lfn, lfa, lfr]))).mp hnd)).1
 obtain ⟨c1, hc1⟩ : ∃ c1, c1 = onlyD hp1 [x, dx, lo, la, ls, ld, ln, lfn, lfa, lfr, tu, pa] := ⟨_, rfl⟩
 have on : ∀ {a : Addr} {oo : Obj}, a ∈ [x, dx, lo, la, ls, ld, ln, lfn, lfa, lfr, tu, pa] → hp1.get? a = some oo → c1.get? a = some oo := fun {a oo} m e => by rw [hc1]; exact onlyD_get m e
 have c1h : Sub c1 hp1 := by rw [hc1]; exact onlyD_sub _ _
 have c1f : ∀ a oo, c1.get? a = some oo → h.get? a = none ∧ a ≠ env2.locals := fun a oo e => by
  rw [hc1] at e
  refine AllL.mem (P := fun a => h.get? a = none ∧ a ≠ env2.locals) (.cons ⟨hbx, fun q => ?_⟩ (.cons ⟨fresh mD, mD.2.1⟩ (.cons ⟨fresh mo, mo.2.1⟩ (.cons ⟨fresh ma, ma.2.1⟩ (.cons ⟨fresh ms, ms.2.1⟩ (.cons ⟨fresh md, md.2.1⟩ (.cons ⟨fresh mn, mn.2.1⟩ (.cons ⟨fresh mfn, mfn.2.1⟩ (.cons ⟨fresh mfa, mfa.2.1⟩ (.cons ⟨fresh mfr, mfr.2.1⟩ (.cons ⟨fresh mtu, mtu.2.1⟩ (.cons ⟨fresh mpa, mpa.2.1⟩ .nil)))))))))))) (onlyD_of e)
  have h1 := Heap.lt_size hx2
  have h2 := V.size_le
  rw [q] at h1; exact absurd h1 (Nat.not_lt.mpr h2)
 have M1 : BankF w c1 B0 _ [tm0] [] := ⟨⟨es1, n1, on (by first | exact .head _ | exact mem1 | exact mem2 | exact mem3 | exact memt (.head _) | exact memt mem1 | exact memt mem2 | exact memt mem3 | exact memt (memt (.head _)) | exact memt (memt mem1) | exact memt (memt mem2) | exact memt (memt mem3) | simp [B0]) mX, on (by first | exact .head _ | exact mem1 | exact mem2 | exact mem3 | exact memt (.head _) | exact memt mem1 | exact memt mem2 | exact memt mem3 | exact memt (memt (.head _)) | exact memt (memt mem1) | exact memt (memt mem2) | exact memt (memt mem3) | simp [B0]) mD.1, E1⟩, ⟨_, _, on (by first | exact .head _ | exact mem1 | exact mem2 | exact mem3 | exact memt (.head _) | exact memt mem1 | exact memt mem2 | exact memt mem3 | exact memt (memt (.head _)) | exact memt (memt mem1) | exact memt (memt mem2) | exact memt (memt mem3) | simp [B0]) mo.1, .cons ⟨_, rfl⟩ .nil⟩, ⟨_, _, on (by first | exact .head _ | exact mem1 | exact mem2 | exact mem3 | exact memt (.head _) | exact memt mem1 | exact memt mem2 | exact memt mem3 | exact memt (memt (.head _)) | exact memt (memt mem1) | exact memt (memt mem2) | exact memt (memt mem3) | simp [B0]) ma.1, .cons ⟨tu, rfl, [], on (by simp) mtu.1, .nil⟩ .nil⟩, ⟨_, _, on (by first | exact .head _ | exact mem1 | exact mem2 | exact mem3 | exact memt (.head _) | exact memt mem1 | exact memt mem2 | exact memt mem3 | exact memt (memt (.head _)) | exact memt (memt mem1) | exact memt (memt mem2) | exact memt (memt mem3) | simp [B0]) ms.1, .cons ⟨_, rfl⟩ .nil⟩, ⟨_, _, on (by first | exact .head _ | exact mem1 | exact mem2 | exact mem3 | exact memt (.head _) | exact memt mem1 | exact memt mem2 | exact memt mem3 | exact memt (memt (.head _)) | exact memt (memt mem1) | exact memt (memt mem2) | exact memt (memt mem3) | simp [B0]) md.1, .cons ⟨_, rfl⟩ .nil⟩,
  ⟨_, on (by first | exact .head _ | exact mem1 | exact mem2 | exact mem3 | exact memt (.head _) | exact memt mem1 | exact memt mem2 | exact memt mem3 | exact memt (memt (.head _)) | exact memt (memt mem1) | exact memt (memt mem2) | exact memt (memt mem3) | simp [B0]) mn.1, ((KMap.nil w IsN c1 []).congr (f' := idxK [tm0]) fun k => rfl).le (by simp)⟩, ⟨_, _, on (by first | exact .head _ | exact mem1 | exact mem2 | exact mem3 | exact memt (.head _) | exact memt mem1 | exact memt mem2 | exact memt mem3 | exact memt (memt (.head _)) | exact memt (memt mem1) | exact memt (memt mem2) | exact memt (memt mem3) | simp [B0]) mfn.1, rfl⟩, ⟨_, _, on (by first | exact .head _ | exact mem1 | exact mem2 | exact mem3 | exact memt (.head _) | exact memt mem1 | exact memt mem2 | exact memt mem3 | exact memt (memt (.head _)) | exact memt (memt mem1) | exact memt (memt mem2) | exact memt (memt mem3) | simp [B0]) mfa.1, .nil⟩, ⟨_, _, on (by first | exact .head _ | exact mem1 | exact mem2 | exact mem3 | exact memt (.head _) | exact memt mem1 | exact memt mem2 | exact memt mem3 | exact memt (memt (.head _)) | exact memt (memt mem1) | exact memt (memt mem2) | exact memt (memt mem3) | simp [B0]) mfr.1, .nil⟩, hnd, by simp, hsy⟩
 refine make_core (B := B0) (m := tmT) (by rfl) (by rfl) (by rfl) (by rfl) (by rfl) G2 V.sub R2 M1 c1h (fun a ha => (hC a ha).1) ⟨_, rfl⟩ ⟨[], on (by simp) mpa.1, .nil⟩ ⟨_, rfl⟩ ⟨_, rfl⟩ (by simp) ?_
 intro c2 u1 t3 h3 M2 S2 N2 K2 Kh2
 rw [mkT] at M2
 rw [mkT]
 have loc1 : (hp1.get? env2.locals).isSome = true := by
  obtain ⟨m, F, _⟩ := V.fr
  obtain ⟨oL, _, _, hL, _⟩ := F.ns
  rw [hL]; rfl
 have c2f : ∀ a oo, c2.get? a = some oo → h.get? a = none ∧ a ≠ env2.locals := fun a oo e => by
  rcases N2 a oo e with q | q
  ·obtain ⟨o1, e1⟩ := Option.isSome_iff_exists.mp q
   exact c1f a o1 e1
  ·refine ⟨?_, fun z => by rw [z] at q; rw [q] at loc1; cases loc1⟩
   cases z : h.get? a with
   | none => rfl
   | some o2 => have := V.sub _ _ (hfr _ _ z); rw [q] at this; cases this
 have V3 : Fm b2 env2 h3 [("self", some (.ref x))] [(dx, dictOf es1 n1)] := V.step (C := C8 B0) Kh2 hC (fun p hp => by rw [List.mem_singleton.mp hp]; exact .inl ⟨by wtm_at "qmem", hdx8⟩) (by simp)
 clear V
 obtain ⟨kt, V, hall⟩ := V3.all
 replace V : Fm b2 env2 h3 [("self", some (.ref x))] ((dx, dictOf es1 n1) :: kt) := V
 wtm_at "qgo"
 refine r_setattr G2 V (.inr hx2) (fun o' => by wtm_at "qputs") ⟨es1, n1, rfl, E1⟩ (sb_true_number w) (by kernel_rfl) (Nat.le_of_ble_eq_true rfl) ?_
 clear V; intro od2 h4 t4 D2 V
 wtm_at "qgo"
 obtain ⟨es2, n2, rfl, E2⟩ := id D2
 refine r_getmeth G2 V (I := ⟨.inr hx2, .inl (by wtm_at "qmem")⟩) (ml_make w) (by rw [E2.getL]; rfl) ?_
 dsimp only
 wtm_at "qgo"
 refine r_newtuple V ?_; clear V; intro pb hp2 lop2 sp2 V
 wtm_at "qgo"
 wtm_at "qgl"
 wtm_at "qgo"
 refine ⟨V.sub, ?_⟩
 obtain ⟨c3, hc3⟩ : ∃ c3, c3 = plus c2 hp2 [pb] := ⟨_, rfl⟩
 have mpb := V.nw (pb, _) (by wtm_at "qmem")
 have mD2 := V.nw (dx, _) (by wtm_at "qmem")
 have old2 : ∀ a oo, c2.get? a = some oo → a ∉ [dx] → hp2.get? a = some oo := fun a oo e n => by
  rcases hall a oo (S2 _ _ e) (c2f a oo e).2 (by first | exact n | simpa using n) with q | q
  ·exact (V.nw _ (.tail _ (.tail _ q))).1
  ·exact V.sub _ _ q
 have K3 : Kept [dx] c2 c3 := fun a oo e n => by rw [hc3]; exact plus_get (.inl (by rw [e]; rfl)) (old2 a oo e n)
 have M3 := M2.redo (c2 := c3) K3 (od := dictOf es2 n2) (by
  obtain ⟨_, _, _, edx, _⟩ := M2.self.ex
  rw [hc3]; exact plus_get (.inl (by rw [show c2.get? dx = _ from edx]; rfl)) mD2.1) D2
 have c3h : Sub c3 hp2 := by rw [hc3]; exact plus_sub _ _ _
 have c3f : ∀ a oo, c3.get? a = some oo → h.get? a = none ∧ a ≠ env2.locals := fun a oo e => by
  rw [hc3] at e
  rcases plus_of e with q | q
  ·obtain ⟨o1, e1⟩ := Option.isSome_iff_exists.mp q
   exact c2f a o1 e1
  ·rw [List.mem_singleton.mp q]; exact ⟨fresh mpb, mpb.2.1⟩
 refine make_core (B := B0) (m := tmF) (by rfl) (by rfl) (by rfl) (by rfl) (by rfl) G2 V.sub R2 M3 c3h (fun a ha => (hC a ha).1) ⟨_, rfl⟩ ⟨[], by rw [hc3]; exact plus_get (.inr (by simp)) mpb.1, .nil⟩ ⟨_, rfl⟩ ⟨_, rfl⟩ (by simp) ?_
 intro c4 u2 t5 h5 M4 S4 N4 K4 Kh4
 dsimp only at M4
 rw [mkF] at M4
 show wpAny _ _ (eval _ _) _ _ _
 rw [show (mk ([tm0, tmT]) tmF) = (2, [tm0, tmT, tmF]) from mkF]
 have loc2 : (hp2.get? env2.locals).isSome = true := by
  obtain ⟨m, F, _⟩ := V.fr
  obtain ⟨oL, _, _, hL, _⟩ := F.ns
  rw [hL]; rfl
 have c4f : ∀ a oo, c4.get? a = some oo → h.get? a = none ∧ a ≠ env2.locals := fun a oo e => by
  rcases N4 a oo e with q | q
  ·obtain ⟨o1, e1⟩ := Option.isSome_iff_exists.mp q
   exact c3f a o1 e1
  ·refine ⟨?_, fun z => by rw [z] at q; rw [q] at loc2; cases loc2⟩
   cases z : h.get? a with
   | none => rfl
   | some o2 => have := V.sub _ _ (hfr _ _ z); rw [q] at this; cases this
 have V5 : Fm b2 env2 h5 [("self", some (.ref x))] [(dx, dictOf es2 n2)] := V.step (C := C8 B0) Kh4 hC (fun p hp => by rw [List.mem_singleton.mp hp]; exact .inl ⟨by wtm_at "qmem", hdx8⟩) (by simp)
 clear V
 obtain ⟨kt2, V, hall2⟩ := V5.all
 replace V : Fm b2 env2 h5 [("self", some (.ref x))] ((dx, dictOf es2 n2) :: kt2) := V
 wtm_at "qgo"
 refine r_setattr G2 V (.inr hx2) (fun o' => by wtm_at "qputs") D2 (sb_false_number w) (by kernel_rfl) (Nat.le_of_ble_eq_true rfl) ?_
 clear V; intro od3 h6 t6 D3 V
 wtm_at "qgo"
 have mD3 := V.nw (dx, od3) (by wtm_at "qmem")
 obtain ⟨c5, hc5⟩ : ∃ c5, c5 = plus c4 h6 [] := ⟨_, rfl⟩
 have K5 : Kept [dx] c4 c5 := fun a oo e n => by
  rw [hc5]
  refine plus_get (.inl (by rw [e]; rfl)) ?_
  rcases hall2 a oo (S4 _ _ e) (c4f a oo e).2 (by first | exact n | simpa using n) with q | q
  ·exact (V.nw _ (.tail _ q)).1
  ·exact V.sub _ _ q
 have M5 := M4.redo (c2 := c5) K5 (od := od3) (by
  obtain ⟨_, _, _, edx, _⟩ := M4.self.ex
  rw [hc5]; exact plus_get (.inl (by rw [show c4.get? dx = _ from edx]; rfl)) mD3.1) D3
 obtain ⟨u0, M6⟩ : ∃ u0, BankF w c5 ⟨x, dx, lsn, lsw, lfn, lfa, lfr, lo, la, ls, ld, ln, u0, u1, u2⟩ (BankL.fields ⟨x, dx, lsn, lsw, lfn, lfa, lfr, lo, la, ls, ld, ln, u0, u1, u2⟩) [tm0, tmT, tmF] [] := ⟨_, ⟨M5.self, M5.ops, M5.args, M5.sorts, M5.datas, M5.num, M5.fn, M5.fa, M5.fr, M5.nd, M5.ne, M5.sy⟩⟩
 refine ⟨rfl, k _ c5 _ _ M6.toM (by rw [hc5]; exact plus_sub _ _ _) (fun a oo e => ?_) fun a oo ea => V.sub _ _ (hfr _ _ ea)⟩
 rw [hc5] at e
 rcases plus_of e with q | q
 ·obtain ⟨o1, e1⟩ := Option.isSome_iff_exists.mp q
  exact (c4f a o1 e1).1
 ·cases q
end
end
section
noncomputable def cN (s k : Nat) : Tm := ⟨"app", [], s, .i k⟩
noncomputable def cV (k : Nat) : Tm := ⟨"num", [], 1, .t [k, 1]⟩
noncomputable def F0 : List (List Nat × Nat) := [([1], 1), ([1, 1], 1), ([1], 0), ([], 1), ([], 1), ([], 1), ([], 0)]
noncomputable def T0 : List Tm := [⟨"", [], 0, .i 0⟩, ⟨"true", [], 0, .i 0⟩, ⟨"false", [], 0, .i 0⟩, cN 1 3, cN 1 4, cN 1 5, cV 0, cV 1, cN 0 6]
theorem mk3 : mk (T0.take 3) (cN 1 3) = (3, T0.take 4) := by decide +kernel
theorem mk4 : mk (T0.take 4) (cN 1 4) = (4, T0.take 5) := by decide +kernel
theorem mk5 : mk (T0.take 5) (cN 1 5) = (5, T0.take 6) := by decide +kernel
theorem mk6 : mk (T0.take 6) (cV 0) = (6, T0.take 7) := by decide +kernel
theorem mk7 : mk (T0.take 7) (cV 1) = (7, T0.take 8) := by decide +kernel
theorem mk8 : mk (T0.take 8) (cN 0 6) = (8, T0) := by decide +kernel
noncomputable def Srt (ts : List Tm) (s x : Nat) : Prop := 1 ≤ x ∧ ∃ m, ts[x]? = some m ∧ m.sort = s
theorem Srt.more {ts ts' : List Tm} {s x : Nat} (h : Srt ts s x) (e : ∀ (i : Nat) (m : Tm), ts[i]? = some m → ts'[i]? = some m) : Srt ts' s x := let ⟨a, m, q, r⟩ := h; ⟨a, m, e _ _ q, r⟩
theorem Srt.lt {ts : List Tm} {s x : Nat} (h : Srt ts s x) : x < ts.length := let ⟨a, m, q, r⟩ := h; (List.getElem?_eq_some_iff.mp q).1
noncomputable def GoodT (ts : List Tm) (m : Tm) : Prop :=
 (∃ x, m = ⟨"app", [x], 1, .i 0⟩ ∧ Srt ts 1 x) ∨ (∃ x y, m = ⟨"app", [x, y], 1, .i 1⟩ ∧ Srt ts 1 x ∧ Srt ts 1 y) ∨ (∃ q x y, m = ⟨"ite", [q, x, y], 1, .i 0⟩ ∧ Srt ts 0 q ∧ Srt ts 1 x ∧ Srt ts 1 y) ∨
 (∃ x, m = ⟨"app", [x], 0, .i 2⟩ ∧ Srt ts 1 x) ∨ (∃ x y, m = ⟨"=", [x, y], 0, .i 0⟩ ∧ Srt ts 1 x ∧ Srt ts 1 y) ∨ (∃ x, m = ⟨"not", [x], 0, .i 0⟩ ∧ Srt ts 0 x) ∨ (∃ x y, m = ⟨"and", [x, y], 0, .i 0⟩ ∧ Srt ts 0 x ∧ Srt ts 0 y)
theorem GoodT.args {ts : List Tm} {m : Tm} (h : GoodT ts m) : (∀ a ∈ m.args, a < ts.length) ∧ m.args ≠ [] ∧ m.args.length ≤ 3 ∧ (m.op = "=" → m.args.length = 2) ∧ (m.op = "not" → m.args.length = 1) ∧ (∃ i, m.data = .i i) ∧ isVal m = false := by
 rcases h with ⟨x, rfl, hx⟩ | ⟨x, y, rfl, hx, hy⟩ | ⟨q, x, y, rfl, hq, hx, hy⟩ | ⟨x, rfl, hx⟩ | ⟨x, y, rfl, hx, hy⟩ | ⟨x, rfl, hx⟩ | ⟨x, y, rfl, hx, hy⟩ <;>
 refine ⟨fun a ha => ?_, by simp, by simp, ?_, ?_, ⟨_, rfl⟩, rfl⟩ <;> first
  | (simp only [List.mem_cons, List.not_mem_nil, or_false] at ha; rcases ha with rfl | rfl | rfl <;> first | exact hx.lt | exact hy.lt | exact hq.lt)
  | (simp only [List.mem_cons, List.not_mem_nil, or_false] at ha; rcases ha with rfl | rfl <;> first | exact hx.lt | exact hy.lt)
  | (simp only [List.mem_cons, List.not_mem_nil, or_false] at ha; subst ha; exact hx.lt)
  | (intro _; rfl)
  | (intro q; dsimp only at q; exact absurd q (by decide +kernel))
theorem GoodT.more {ts ts' : List Tm} {m : Tm} (h : GoodT ts m) (e : ∀ (i : Nat) (m : Tm), ts[i]? = some m → ts'[i]? = some m) : GoodT ts' m := by
 rcases h with ⟨x, rfl, hx⟩ | ⟨x, y, rfl, hx, hy⟩ | ⟨q, x, y, rfl, hq, hx, hy⟩ | ⟨x, rfl, hx⟩ | ⟨x, y, rfl, hx, hy⟩ | ⟨x, rfl, hx⟩ | ⟨x, y, rfl, hx, hy⟩
 ·exact .inl ⟨x, rfl, hx.more e⟩
 ·exact .inr (.inl ⟨x, y, rfl, hx.more e, hy.more e⟩)
 ·exact .inr (.inr (.inl ⟨q, x, y, rfl, hq.more e, hx.more e, hy.more e⟩))
 ·exact .inr (.inr (.inr (.inl ⟨x, rfl, hx.more e⟩)))
 ·exact .inr (.inr (.inr (.inr (.inl ⟨x, y, rfl, hx.more e, hy.more e⟩))))
 ·exact .inr (.inr (.inr (.inr (.inr (.inl ⟨x, rfl, hx.more e⟩)))))
 ·exact .inr (.inr (.inr (.inr (.inr (.inr ⟨x, y, rfl, hx.more e, hy.more e⟩)))))
theorem GoodT.so {ts ts' : List Tm} {m m' : Tm} (h : GoodT ts m) (h' : GoodT ts' m') (h1 : m.op = m'.op) (h2 : m.data = m'.data) : m.sort = m'.sort := by
 rcases h with ⟨x, rfl, hx⟩ | ⟨x, y, rfl, hx, hy⟩ | ⟨q, x, y, rfl, hq, hx, hy⟩ | ⟨x, rfl, hx⟩ | ⟨x, y, rfl, hx, hy⟩ | ⟨x, rfl, hx⟩ | ⟨x, y, rfl, hx, hy⟩ <;>
 rcases h' with ⟨x', rfl, hx'⟩ | ⟨x', y', rfl, hx', hy'⟩ | ⟨q', x', y', rfl, hq', hx', hy'⟩ | ⟨x', rfl, hx'⟩ | ⟨x', y', rfl, hx', hy'⟩ | ⟨x', rfl, hx'⟩ | ⟨x', y', rfl, hx', hy'⟩ <;>
 first
  | rfl
  | (dsimp only at h1; exact absurd h1 (by decide +kernel))
  | (dsimp only at h2; exact absurd h2 (by decide +kernel))
structure Pool (ts : List Tm) : Prop where
 pre : ∃ r, ts = T0 ++ r
 good : ∀ i m, 9 ≤ i → ts[i]? = some m → GoodT (ts.take i) m
theorem Pool.init : Pool T0 := ⟨⟨[], rfl⟩, fun i m h e => by
 have := (List.getElem?_eq_some_iff.mp e).1
 have : T0.length = 9 := rfl
 (first | lia | omega)⟩
theorem Pool.at {ts : List Tm} (P : Pool ts) {i : Nat} (h : i < 9) : ts[i]? = T0[i]? := by
 obtain ⟨r, rfl⟩ := P.pre
 rw [List.getElem?_append_left (by exact h)]
theorem Pool.len {ts : List Tm} (P : Pool ts) : 9 ≤ ts.length := by
 obtain ⟨r, rfl⟩ := P.pre
 rw [List.length_append, show T0.length = 9 from rfl]; (first | lia | omega)
theorem take_get {ts : List Tm} {k i : Nat} {m : Tm} (h : (ts.take k)[i]? = some m) : ts[i]? = some m := by
 rw [List.getElem?_take] at h
 split at h
 ·exact h
 ·cases h
theorem mk_more (ts : List Tm) (m : Tm) : ∀ (i : Nat) (m' : Tm), ts[i]? = some m' → (mk ts m).2[i]? = some m' := by
 intro i m' h
 unfold mk
 split
 ·exact h
 ·rw [List.getElem?_append_left (List.getElem?_eq_some_iff.mp h).1]; exact h
theorem mk_len (ts : List Tm) (m : Tm) : (mk ts m).2.length ≤ ts.length + 1 := by
 unfold mk
 split
 ·exact Nat.le_succ _
 ·simp
theorem mk_at {ts : List Tm} (hn : 1 ≤ ts.length) (m : Tm) : 1 ≤ (mk ts m).1 ∧ (mk ts m).2[(mk ts m).1]? = some m := by
 unfold mk
 split
 ·rename_i i h
  obtain ⟨h1, m', e, q⟩ := idxK_spec h
  refine ⟨h1, ?_⟩
  rw [← keyOf_inj q]; exact e
 ·exact ⟨hn, by simp⟩
theorem Pool.made {ts : List Tm} (P : Pool ts) {m : Tm} (h : GoodT ts m) : Pool (Mine.mk ts m).2 ∧ Srt (Mine.mk ts m).2 m.sort (Mine.mk ts m).1 := by
 have h1 := mk_at (ts := ts) (by have := P.len; (first | lia | omega)) m
 refine ⟨?_, h1.1, m, h1.2, rfl⟩
 unfold Mine.mk
 split
 ·exact P
 ·obtain ⟨r, hr⟩ := P.pre
  refine ⟨⟨r ++ [m], by rw [hr, List.append_assoc]⟩, fun i m' hi e => ?_⟩
  rcases Nat.lt_trichotomy i ts.length with q | q | q
  ·rw [List.getElem?_append_left q] at e
   rw [List.take_append_of_le_length (Nat.le_of_lt q)]
   exact P.good i m' hi e
  ·subst q
   rw [List.getElem?_concat_length] at e
   cases e
   rw [List.take_left]
   exact h
  ·have := (List.getElem?_eq_some_iff.mp e).1
   rw [List.length_append] at this
   simp at this; (first | lia | omega)
theorem Pool.goodW {ts : List Tm} (P : Pool ts) {i : Nat} {m : Tm} (h : 9 ≤ i) (e : ts[i]? = some m) : GoodT ts m := (P.good i m h e).more fun _ _ => take_get
theorem Pool.cases {ts : List Tm} (P : Pool ts) {i : Nat} {m : Tm} (e : ts[i]? = some m) : (i < 9 ∧ T0[i]? = some m ∧ m.args = [] ∧ m.op ≠ "=" ∧ m.op ≠ "not") ∨ (9 ≤ i ∧ GoodT ts m) := by
 rcases Nat.lt_or_ge i 9 with q | q
 ·refine .inl ⟨q, ?_⟩
  rw [P.at q] at e
  refine ⟨e, ?_⟩
  have hm : m ∈ T0 := List.mem_of_getElem? e
  have hall : ∀ m ∈ T0, m.args = [] ∧ m.op ≠ "=" ∧ m.op ≠ "not" := by decide +kernel
  exact hall m hm
 ·exact .inr ⟨q, P.goodW q e⟩
theorem Pool.fnot {ts : List Tm} (P : Pool ts) {x : Nat} (h : Srt ts 0 x) : Pool (fnot ts x).2 ∧ Srt (Mine.fnot ts x).2 0 (Mine.fnot ts x).1 ∧ (∀ (i : Nat) (m' : Tm), ts[i]? = some m' → (Mine.fnot ts x).2[i]? = some m') ∧ (Mine.fnot ts x).2.length ≤ ts.length + 1 := by
 obtain ⟨h1, m, e, hs⟩ := h
 unfold Mine.fnot
 split
 ·rename_i q
  rw [tmAt_of e] at q ⊢
  refine ⟨P, ?_, fun _ _ h => h, Nat.le_succ _⟩
  rcases P.cases e with ⟨_, _, _, _, r⟩ | ⟨_, r⟩
  ·exact absurd q r
  ·rcases r with ⟨x, rfl, hx⟩ | ⟨x, y, rfl, hx, hy⟩ | ⟨q, x, y, rfl, hq, hx, hy⟩ | ⟨x, rfl, hx⟩ | ⟨x, y, rfl, hx, hy⟩ | ⟨x, rfl, hx⟩ | ⟨x, y, rfl, hx, hy⟩ <;> first
    | (dsimp only at q; exact absurd q (by decide +kernel))
    | exact hx
 ·split
  ·exact ⟨P, ⟨Nat.le_of_ble_eq_true rfl, _, (P.at (Nat.le_of_ble_eq_true rfl)).trans rfl, rfl⟩, fun _ _ h => h, Nat.le_succ _⟩
  ·split
   ·exact ⟨P, ⟨Nat.le_of_ble_eq_true rfl, _, (P.at (Nat.le_of_ble_eq_true rfl)).trans rfl, rfl⟩, fun _ _ h => h, Nat.le_succ _⟩
   ·have := P.made (m := ⟨"not", [x], 0, .i 0⟩) (.inr (.inr (.inr (.inr (.inr (.inl ⟨x, rfl, h1, m, e, hs⟩))))))
    exact ⟨this.1, this.2, mk_more _ _, mk_len _ _⟩
theorem Pool.feq {ts : List Tm} (P : Pool ts) {x y : Nat} (hx : Srt ts 1 x) (hy : Srt ts 1 y) : Pool (feq ts x y).2 ∧ Srt (Mine.feq ts x y).2 0 (Mine.feq ts x y).1 ∧ (∀ (i : Nat) (m' : Tm), ts[i]? = some m' → (Mine.feq ts x y).2[i]? = some m') ∧ (Mine.feq ts x y).2.length ≤ ts.length + 1 := by
 unfold Mine.feq
 split
 ·exact ⟨P, ⟨Nat.le_of_ble_eq_true rfl, _, (P.at (Nat.le_of_ble_eq_true rfl)).trans rfl, rfl⟩, fun _ _ h => h, Nat.le_succ _⟩
 ·have hmin : Srt ts 1 (min x y) := by rcases Nat.le_total x y with q | q <;> simp only [Nat.min_eq_left, Nat.min_eq_right, q] <;> assumption
  have hmax : Srt ts 1 (max x y) := by rcases Nat.le_total x y with q | q <;> simp only [Nat.max_eq_left, Nat.max_eq_right, q] <;> assumption
  have := P.made (m := ⟨"=", [min x y, max x y], 0, .i 0⟩) (.inr (.inr (.inr (.inr (.inl ⟨_, _, rfl, hmin, hmax⟩)))))
  exact ⟨this.1, this.2, mk_more _ _, mk_len _ _⟩
theorem Pool.argsLt {ts : List Tm} (P : Pool ts) : ∀ x < ts.length, ∀ a ∈ (tmAt ts x).args, a < x ∧ a < ts.length := by
 intro x hx a ha
 have e := List.getElem?_eq_getElem hx
 rw [tmAt_of e] at ha
 rcases P.cases e with ⟨_, _, r, _⟩ | ⟨q, _⟩
 ·rw [r] at ha; cases ha
 ·have := (P.good x _ q e).args.1 a ha
  rw [List.length_take] at this
  (first | lia | omega)
theorem Pool.args3 {ts : List Tm} (P : Pool ts) {x : Nat} (hx : x < ts.length) : (tmAt ts x).args.length ≤ 3 := by
 have e := List.getElem?_eq_getElem hx
 rw [tmAt_of e]
 rcases P.cases e with ⟨_, _, r, _⟩ | ⟨q, g⟩
 ·rw [r]; simp
 ·exact g.args.2.2.1
noncomputable def Wx (x : Nat) : Nat := 2 * 4 ^ (x - 8)
theorem Wx_one (x : Nat) : 1 ≤ Wx x := by
 unfold Wx
 have := Nat.pow_pos (n := x - 8) (show 0 < 4 by (first | lia | omega))
 (first | lia | omega)
theorem sum_le {l : List Nat} {k : Nat} (h : ∀ a ∈ l, Wx a ≤ k) : sumW Wx l ≤ l.length * k := by
 induction l with
 | nil => simp [sumW]
 | cons a r ih =>
  have h1 := ih fun x hx => h x (.tail _ hx)
  have h2 := h a (.head _)
  have h3 : sumW Wx (a :: r) = Wx a + sumW Wx r := rfl
  rw [h3, List.length_cons, Nat.succ_mul]; (first | lia | omega)
theorem Pool.W {ts : List Tm} (P : Pool ts) {x : Nat} (hx : x < ts.length) : 2 + sumW Wx (tmAt ts x).args ≤ Wx x := by
 have e := List.getElem?_eq_getElem hx
 rcases P.cases e with ⟨_, _, r, _⟩ | ⟨q, g⟩
 ·rw [tmAt_of e, r]
  unfold Wx
  have := Nat.pow_pos (n := x - 8) (show 0 < 4 by (first | lia | omega))
  simp [sumW]; (first | lia | omega)
 ·have h1 : sumW Wx (tmAt ts x).args ≤ (tmAt ts x).args.length * (2 * 4 ^ (x - 9)) := sum_le fun a ha => by
   have := (P.argsLt x hx a ha).1
   unfold Wx
   exact Nat.mul_le_mul_left _ (Nat.pow_le_pow_right (by (first | lia | omega)) (by (first | lia | omega)))
  have h2 := P.args3 hx
  have h3 : (tmAt ts x).args.length * (2 * 4 ^ (x - 9)) ≤ 3 * (2 * 4 ^ (x - 9)) := Nat.mul_le_mul_right _ h2
  have h4 : 4 ^ (x - 8) = 4 * 4 ^ (x - 9) := by rw [show x - 8 = (x - 9) + 1 by (first | lia | omega), Nat.pow_succ, Nat.mul_comm]
  have h5 := Nat.pow_pos (n := x - 9) (show 0 < 4 by (first | lia | omega))
  unfold Wx at *
  rw [h4]; (first | lia | omega)
theorem Wx_small {x : Nat} (h : x < 15) : Wx x ≤ 100000 := by
 unfold Wx
 have : 4 ^ (x - 8) ≤ 4 ^ 6 := Nat.pow_le_pow_right (by (first | lia | omega)) (by (first | lia | omega))
 (first | lia | omega)
theorem Pool.wf {ts : List Tm} (P : Pool ts) (hlen : ts.length ≤ 15) {F : List Nat} (nd : F.Nodup) (lt : ∀ x ∈ F, x < ts.length) (cl : ∀ x ∈ F, ∀ a ∈ (tmAt ts x).args, a ∈ F) (h1 : 1 ∈ F) (h2 : 2 ∈ F) : WfS ts F where
 tm := fun x hx => by
  have hl := lt x hx
  have e := List.getElem?_eq_getElem hl
  refine ⟨by (first | lia | omega), _, e, fun a ha => cl x hx a (by rw [tmAt_of e]; exact ha), ?_⟩
  rcases P.cases e with ⟨_, _, r, q1, q2⟩ | ⟨q, g⟩
  ·exact ⟨by rw [r]; simp, fun q => absurd q q1, fun q => absurd q q2⟩
  ·have := g.args
   exact ⟨by (first | lia | omega), this.2.2.2.1, this.2.2.2.2.1⟩
 one := h1
 two := h2
 len := by have := nodup_len ts.length F nd lt; (first | lia | omega)
 so := fun t ht u hu hn q1 q2 => by
  have et := List.getElem?_eq_getElem (lt t ht)
  have eu := List.getElem?_eq_getElem (lt u hu)
  rw [tmAt_of et, tmAt_of eu] at *
  rcases P.cases et with ⟨_, _, r, _⟩ | ⟨q, g⟩
  ·exact absurd r hn
  ·rcases P.cases eu with ⟨_, r, _⟩ | ⟨_, g'⟩
   ·exfalso
    have hm := List.mem_of_getElem? r
    have hall : ∀ m ∈ T0, (m.op = "app" → m.data ≠ .i 0 ∧ m.data ≠ .i 1 ∧ m.data ≠ .i 2) ∧ m.op ≠ "=" ∧ m.op ≠ "not" ∧ m.op ≠ "and" ∧ m.op ≠ "ite" := by decide +kernel
    have hh := hall _ hm
    rw [← q1, ← q2] at hh
    rcases g with ⟨x, e, hx⟩ | ⟨x, y, e, hx, hy⟩ | ⟨q, x, y, e, hq, hx, hy⟩ | ⟨x, e, hx⟩ | ⟨x, y, e, hx, hy⟩ | ⟨x, e, hx⟩ | ⟨x, y, e, hx, hy⟩ <;> rw [e] at hh
    ·exact (hh.1 rfl).1 rfl
    ·exact (hh.1 rfl).2.1 rfl
    ·exact hh.2.2.2.2 rfl
    ·exact (hh.1 rfl).2.2 rfl
    ·exact hh.2.1 rfl
    ·exact hh.2.2.1 rfl
    ·exact hh.2.2.2.1 rfl
   ·exact g.so g' q1 q2
noncomputable def builtOf (ts : List Tm) (F : List Nat) : List Nat := F.filter fun x => decide ((tmAt ts x).args ≠ [])
theorem Pool.built {ts : List Tm} (P : Pool ts) {F : List Nat} (lt : ∀ x ∈ F, x < ts.length) : BuiltOk ts F (builtOf ts F) where
 sub := fun x hx => (List.mem_filter.mp hx).1
 args := fun x hx => of_decide_eq_true (List.mem_filter.mp hx).2
 data := fun x hx => by
  have hf := List.mem_filter.mp hx
  have e := List.getElem?_eq_getElem (lt x hf.1)
  have hn := of_decide_eq_true hf.2
  rw [tmAt_of e] at hn ⊢
  rcases P.cases e with ⟨_, _, r, _⟩ | ⟨q, g⟩
  ·exact absurd r hn
  ·exact g.args.2.2.2.2.2.1
theorem built_all {ts : List Tm} {F : List Nat} : ∀ x ∈ F, (tmAt ts x).args ≠ [] → x ∈ builtOf ts F := fun x hx h => List.mem_filter.mpr ⟨hx, decide_eq_true h⟩
theorem Pool.vals {ts : List Tm} (P : Pool ts) {F : List Nat} (nd : F.Nodup) (lt : ∀ x ∈ F, x < ts.length) (h6 : 6 ∈ F) (h7 : 7 ∈ F) (c : Nat → Nat) : (¬ ((valsOf ts F).map c).Nodup) ↔ c 6 = c 7 := by
 have hp : (valsOf ts F).Perm [6, 7] := by
  refine (List.perm_ext_iff_of_nodup (nd.filter _) (by decide)).mpr fun x => ?_
  constructor
  ·intro hx
   have hf := List.mem_filter.mp hx
   have e := List.getElem?_eq_getElem (lt x hf.1)
   have hv := hf.2
   rw [tmAt_of e] at hv
   rcases P.cases e with ⟨q, r, _⟩ | ⟨q, g⟩
   ·have hall : ∀ i : Fin 9, ∀ m, T0[i.1]? = some m → isVal m = true → i.1 ∈ [6, 7] := by
     intro i m h1 h2
     have : ∀ i : Fin 9, isVal (T0.getD i.1 ⟨"", [], 0, .i 0⟩) = true → i.1 ∈ [6, 7] := by decide +kernel
     refine this i ?_
     rw [List.getD_eq_getElem?_getD, h1]; exact h2
    exact hall ⟨x, q⟩ _ r hv
   ·rw [g.args.2.2.2.2.2.2] at hv; cases hv
  ·intro hx
   first | replace hx := in1 hx | replace hx := in2 hx | replace hx := in3 hx | replace hx := in4 hx | replace hx := in5 hx | simp only [List.mem_cons, List.not_mem_nil, or_false] at hx
   rcases hx with rfl | rfl
   ·exact List.mem_filter.mpr ⟨h6, by rw [tmAt_of ((P.at (by decide)).trans rfl)]; rfl⟩
   ·exact List.mem_filter.mpr ⟨h7, by rw [tmAt_of ((P.at (by decide)).trans rfl)]; rfl⟩
 rw [(hp.map c).nodup_iff]
 simp
end
section
noncomputable def fn451 : FnAt 451 := ⟨_, _, _, _, fun _ => rfl, fun _ => by kernel_rfl⟩
noncomputable def fn458 : FnAt 458 := ⟨_, _, _, _, fun _ => rfl, fun _ => by kernel_rfl⟩
noncomputable def FeedO (w : World) (o : Obj) (cl : Addr) (n : Nat) : Prop := ∃ u, o.IsDictOf (PySem.strKind PR w) [("cells", .ref cl), ("spot", .int (n : Nat) u)]
noncomputable def CellsH (h : Heap) (cl : Addr) : Prop := ∃ vs k, h.get? cl = some (listOf vs k) ∧ vs.size ≤ 40 ∧ ∀ (i : Nat) (v : Value), vs[i]? = some v → IsI v
section
variable {w : World} {b h : Heap} {env : Env} {l l' : List (Str × Option Value)} {σ σ' : List (Addr × Obj)} {ks : List (Str × NameKind)} {A : Around} {g : Array GenState} {d : Drawn} {t : Nat} {o : OsState}
theorem r_muli {a : Int} {c : Nat} {u v : Tok} {Q : Value → Shared → Prop} (hc : c ≤ 1000000) (k : ∀ z t', Q (.int (a * (c : Nat)) z) ⟨h, g, d, t', o⟩) : wpAny (model PR w) A (binaryOp .Mult (.int a u) (.int (c : Nat) v)) Q Never ⟨h, g, d, t, o⟩ :=
 PyProof.Rows.mul_int (k _ _) (PySem.IntMulOk.of_right (PySem.intBits_le_64 (by (first | lia | omega)) (by (first | lia | omega))))
theorem r_intint {a : Int} {u : Tok} {Q : Value → Shared → Prop} (k : Q (.int a u) ⟨h, g, d, t, o⟩) : wpAny (model PR w) A (call (.type "int") [.int a u]) Q Never ⟨h, g, d, t, o⟩ := call_int_int k
theorem feed_cells {value slice : Expr} {a cl : Addr} {oo : Obj} {n : Nat} {u : Tok} {Q : Value → Shared → Prop} (V : Fm b env h l σ) (H : At b σ a oo) (M : FeedO w oo cl n)
  (q : ∀ t', Q (.ref cl) ⟨h, g, d, t', o⟩) (hs : subscripted slice false (.ref a) (.str "cells" u) = operate [.ref a, .str "cells" u] (getItem (.ref a) (.str "cells" u)) := by with_unfolding_all rfl) :
  wpAny (model PR w) A (subscriptTail value slice (.ref a) (.str "cells" u)) Q Never ⟨h, g, d, t, o⟩ := by
 obtain ⟨_, hd⟩ := M
 have hm : h.DictOf (PySem.strKind PR w) a _ := Heap.dictOf_iff.mpr ⟨_, V.at H, hd⟩
 exact tail_any (s := ⟨h, g, d, t, o⟩) hm.typeIs slot_dict_getitem.lookup (wpAny_getItem_of (strKind_is _ _ _ _) hm.mapOf rfl (q _)) hs
theorem feed_spot {value slice : Expr} {a cl : Addr} {oo : Obj} {n : Nat} {u : Tok} {Q : Value → Shared → Prop} (V : Fm b env h l σ) (H : At b σ a oo) (M : FeedO w oo cl n)
  (q : ∀ z t', Q (.int (n : Nat) z) ⟨h, g, d, t', o⟩) (hs : subscripted slice false (.ref a) (.str "spot" u) = operate [.ref a, .str "spot" u] (getItem (.ref a) (.str "spot" u)) := by with_unfolding_all rfl) :
  wpAny (model PR w) A (subscriptTail value slice (.ref a) (.str "spot" u)) Q Never ⟨h, g, d, t, o⟩ := by
 obtain ⟨_, hd⟩ := M
 have hm : h.DictOf (PySem.strKind PR w) a _ := Heap.dictOf_iff.mpr ⟨_, V.at H, hd⟩
 exact tail_any (s := ⟨h, g, d, t, o⟩) hm.typeIs slot_dict_getitem.lookup (wpAny_getItem_of (strKind_is _ _ _ _) hm.mapOf rfl (q _ _)) hs
theorem feed_set {a cl : Addr} {oo : Obj} {n m : Nat} {u z : Tok} {σ' : Obj → List (Addr × Obj)} {Q : Unit → Shared → Prop} (V : Fm b env h l σ) (U : ∀ o', PutS a oo o' σ (σ' o')) (M : FeedO w oo cl n)
  (q : ∀ o' h' t', FeedO w o' cl m → Fm b env h' l (σ' o') → Kept [a] h h' → h'.get? a = some o' → Q () ⟨h', g, d, t', o⟩) : wpAny (model PR w) A (setItem (.ref a) (.str "spot" u) (.int (m : Nat) z)) Q Never ⟨h, g, d, t, o⟩ := by
 obtain ⟨_, hd⟩ := M
 have hm : h.DictOf (PySem.strKind PR w) a _ := Heap.dictOf_iff.mpr ⟨_, (V.nw _ (U oo).mem).1, hd⟩
 refine wpAny_setItem_pairs (s := ⟨h, g, d, t, o⟩) (strKind_is _ _ _ _) hm (fun h' hm' hs => ?_) (by simp [sizeLine_eq])
 obtain ⟨o', ho', hd'⟩ := Heap.dictOf_iff.mp hm'
 have hkept : Kept [a] h h' := fun c oc e n => (hs.2 c fun q => n (q ▸ .head _)).trans e
 exact q o' h' _ ⟨z, hd'⟩ (V.put (U o') hkept ho') hkept ho'
noncomputable def InB (c b : Heap) (kt : List (Addr × Obj)) : Prop := ∀ a oo, c.get? a = some oo → At b kt a oo
theorem InB.sub {c : Heap} {pre kt : List (Addr × Obj)} (I : InB c b kt) (V : Fm b env h l (pre ++ kt)) : Sub c h := fun a oo e => V.at ((I a oo e).imp (fun m => List.mem_append_right _ m) id)
theorem InB.apart {c : Heap} {pre kt : List (Addr × Obj)} (I : InB c b kt) (V : Fm b env h l (pre ++ kt)) {a : Addr} (e : (c.get? a).isSome = true) : a ≠ env.locals ∧ a ∉ pre.map (·.1) := by
 obtain ⟨oo, e⟩ := Option.isSome_iff_exists.mp e
 have na := V.na
 rw [List.map_append] at na
 rcases I a oo e with m | m
 ·refine ⟨(V.nw _ (List.mem_append_right _ m)).2.1, fun q => ?_⟩
  exact (List.nodup_append.mp na).2.2 _ q _ (List.mem_map_of_mem (f := (·.1)) m) rfl
 ·refine ⟨fun q => ?_, fun q => ?_⟩
  ·have h1 := Heap.lt_size m
   have h2 := V.size_le
   rw [q] at h1; exact absurd h1 (Nat.not_lt.mpr h2)
  ·obtain ⟨p, hp, rfl⟩ := List.mem_map.mp q
   have := (V.nw _ (List.mem_append_left _ hp)).2.2
   rw [this] at m; cases m
theorem Fm.bank {c c' h' : Heap} {B : BankL} {ts : List Tm} {fs : List (List Nat × Nat)} {pre kt : List (Addr × Obj)} (V : Fm b env h l (pre ++ kt)) (I : InB c b kt) (M : BankM w c B ts fs) (hb : ∀ a ∈ C8 B, b.get? a = none)
  (S : Sub c' h') (N : NewTo c c' h) (K : Kept (C8 B) h h') : ∃ kt', Fm b env h' l (pre ++ kt') ∧ InB c' b kt' := by
 have cs : ∀ a ∈ C8 B, (c.get? a).isSome = true := fun a ha => by obtain ⟨oo, e, _⟩ := M.some8 a ha; rw [e]; rfl
 have V1 : Fm b env h' l pre := V.step (C := C8 B) K (fun a ha => ⟨hb a ha, (I.apart V (cs a ha)).1⟩) (fun p hp => .inl ⟨List.mem_append_left _ hp, fun q => (I.apart V (cs _ q)).2 (List.mem_map_of_mem (f := (·.1)) hp)⟩) (V.na.sublist (List.Sublist.map _ (List.sublist_append_left _ _)))
 obtain ⟨kt', V2, hall⟩ := V1.all
 refine ⟨kt', V2, fun a oo e => ?_⟩
 have hne : a ≠ env.locals ∧ a ∉ pre.map (·.1) := by
  rcases N a oo e with q | q
  ·exact I.apart V q
  ·refine ⟨fun z => ?_, fun z => ?_⟩
   ·obtain ⟨m, F, _⟩ := V.fr
    obtain ⟨oL, _, _, hL, _⟩ := F.ns
    rw [z, hL] at q; cases q
   ·obtain ⟨p, hp, rfl⟩ := List.mem_map.mp z
    rw [(V.nw _ (List.mem_append_left _ hp)).1] at q; cases q
 exact hall a oo (S _ _ e) hne.1 hne.2
theorem InB.plus {c : Heap} {kt : List (Addr × Obj)} {D : List Addr} (I : InB c b kt) {mid : List (Addr × Obj)} (V : Fm b env h l (mid ++ kt)) (hD : ∀ a ∈ D, ∃ oo, (a, oo) ∈ mid) : InB (plus c h D) b (mid ++ kt) := fun a oo e => by
 have eh := plus_sub c h D _ _ e
 rcases plus_of e with q | q
 ·obtain ⟨o1, e1⟩ := Option.isSome_iff_exists.mp q
  have := I.sub V _ _ e1
  rw [this] at eh; cases eh
  exact (I a _ e1).imp (fun m => List.mem_append_right _ m) id
 ·obtain ⟨o1, m⟩ := hD a q
  have := (V.nw _ (List.mem_append_left _ m)).1
  dsimp only at this
  rw [this] at eh; cases eh
  exact .inl (List.mem_append_left _ m)
end
section
variable {w : World} {b₀ h : Heap} {A : Around} {g : Array GenState} {d : Drawn} {t : Nat} {o : OsState} {n : Nat} {Q : Value → Shared → Prop}
theorem fmod_nat {a : Int} {m : Nat} (hm : 0 < m) : ∃ r : Nat, r < m ∧ a.fmod (m : Nat) = (r : Nat) := by
 have h1 := Int.fmod_nonneg_of_pos a (show (0 : Int) < m by (first | lia | omega))
 have h2 := Int.fmod_lt_of_pos a (show (0 : Int) < m by (first | lia | omega))
 exact ⟨(a.fmod m).toNat, by (first | lia | omega), by (first | lia | omega)⟩
theorem draw_ok {fa cl : Addr} {oF : Obj} {sp wd : Nat} {uw : Tok} (G : Gd w b₀) (S : Sub b₀ h) (R : Rm A (n + 1)) (hF : h.get? fa = some oF) (hb : b₀.get? fa = none) (F : FeedO w oF cl sp) (hc : CellsH h cl) (hcf : cl ≠ fa) (hs : sp ≤ 100000) (hw : 0 < wd)
  (k : ∀ oF' r u t' h', r < wd → FeedO w oF' cl (sp + 1) → Kept [fa] h h' → h'.get? fa = some oF' → Q (.int (r : Nat) u) ⟨h', g, d, t', o⟩) :
  wpAny (model PR w) A (call (.ref 451) [.ref fa, .int (wd : Nat) uw]) Q Never ⟨h, g, d, t, o⟩ := by
 refine enter fn451 [("feed", .ref fa), ("wide", .int (wd : Nat) uw)] ["feed", "wide"] ["cells", "spot"] [("feed", some (.ref fa)), ("wide", some (.int (wd : Nat) uw)), ("cells", none), ("spot", none)] [(fa, oF)] G S R rfl rfl rfl rfl (by decide +kernel) (by decide +kernel) (by decide +kernel) (fun p hp => by rw [List.mem_singleton.mp hp]; exact ⟨hF, hb⟩) (by simp) (fun b env h1 t1 G' Sb Sh Kb Lo Sh2 e V R' => ?_)
 obtain ⟨vs, kk, ec, hvs, hI⟩ := hc
 have ecb : b.get? cl = some (listOf vs kk) := Kb _ _ ec (by first | exact hcf | simpa using hcf)
 have kp : ∀ {h2 : Heap} {l2 : List (Str × Option Value)} {oo : Obj}, Fm b env h2 l2 [(fa, oo)] → Kept [fa] h h2 := fun {h2 l2 oo} V => kept_of (by simpa using Kb) V
 wtm_at "qgo"
 refine r_assign2 R'.h e (by decide +kernel) (by decide +kernel) (by decide +kernel) ?_
 wtm_at "qgo"
 refine feed_cells V (.inl (.head _)) F fun t2 => ?_
 wtm_at "qgo"
 refine feed_spot V (.inl (.head _)) F fun z2 t3 => ?_
 refine later fun h2 t2 s2 => ?_
 replace V := V.mono s2
 wtm_at "qst"; clear V; intro h3 t3 V
 wtm_at "qst"; clear V; intro h4 t4 V
 wtm_at "qgo"
 refine feed_set (m := sp + 1) V (fun o' => by wtm_at "qputs") F ?_
 clear V; intro oF' h5 t5 F' V k5 e5
 wtm_at "qgo"; wtm_at "qbn"; wtm_at "qgo"
 refine r_lenl (V.sub _ _ ecb) (by (first | lia | omega)) fun u6 t6 => ?_
 wtm_at "qgo"
 by_cases q : sp < vs.size
 ·first | refine ite_t (by first | exact q | simpa using q) ?_ | rw [if_pos (by first | exact q | simpa using q)]
  obtain ⟨i, ui, hi⟩ := hI sp vs[sp] (Array.getElem?_eq_getElem q)
  wtm_at "qgo"; wtm_at "qbn"; wtm_at "qgo"
  refine r_item_list V (.inr ecb) (by (first | lia | omega)) (by (first | lia | omega)) (by simpa [hi] using Array.getElem?_eq_getElem q) ?_
  wtm_at "qgo"
  refine r_intint ?_
  wtm_at "qgo"
  refine r_modi (by (first | lia | omega)) fun z7 t7 => ?_
  obtain ⟨r, hr, er⟩ := fmod_nat (a := i) hw
  rw [er]
  repeat wtm_at "qkt"
  exact k oF' r _ _ _ hr F' (kp V) (V.nw _ (.head _)).1
 ·first | refine ite_f (by first | exact q | simpa using q) ?_ | rw [if_neg (by first | exact q | simpa using q)]
  wtm_at "qgo"
  refine r_muli (by (first | lia | omega)) fun z7 t7 => ?_
  wtm_at "qgo"
  refine r_muli (by (first | lia | omega)) fun z8 t8 => ?_
  wtm_at "qgo"
  refine r_muli (by (first | lia | omega)) fun z9 t9 => ?_
  wtm_at "qgo"; wtm_at "qbn"; wtm_at "qgo"
  refine r_lenl (V.sub _ _ ecb) (by (first | lia | omega)) fun u10 t10 => ?_
  wtm_at "qgo"
  refine r_modi (by (first | lia | omega)) fun z11 t11 => ?_
  wtm_at "qgo"
  refine r_modi (by (first | lia | omega)) fun z12 t12 => ?_
  obtain ⟨r, hr, er⟩ := fmod_nat (a := _) hw
  rw [er]
  repeat wtm_at "qkt"
  exact k oF' r _ _ _ hr F' (kp V) (V.nw _ (.head _)).1
theorem pick_ok {fa cl la : Addr} {oF : Obj} {sp kk : Nat} {vs : Array Value} (G : Gd w b₀) (S : Sub b₀ h) (R : Rm A (n + 2)) (hF : h.get? fa = some oF) (hb : b₀.get? fa = none) (F : FeedO w oF cl sp) (hc : CellsH h cl) (hcf : cl ≠ fa) (hs : sp ≤ 100000) (hl : h.get? la = some (listOf vs kk)) (hlf : la ≠ fa) (hz : 0 < vs.size) (hz2 : vs.size ≤ 1000)
  (k : ∀ oF' (r : Nat) (v : Value) t' h', vs[r]? = some v → FeedO w oF' cl (sp + 1) → Kept [fa] h h' → h'.get? fa = some oF' → Q v ⟨h', g, d, t', o⟩) :
  wpAny (model PR w) A (call (.ref 458) [.ref fa, .ref la]) Q Never ⟨h, g, d, t, o⟩ := by
 refine enter fn458 [("feed", .ref fa), ("some", .ref la)] ["feed", "some"] [] [("feed", some (.ref fa)), ("some", some (.ref la))] [(fa, oF)] G S R rfl rfl rfl rfl (by decide +kernel) (by decide +kernel) (by decide +kernel) (fun p hp => by rw [List.mem_singleton.mp hp]; exact ⟨hF, hb⟩) (by simp) (fun b env h1 t1 G' Sb Sh Kb Lo Sh2 e V R' => ?_)
 obtain ⟨cs, ck, ec, hcs, hI⟩ := hc
 have ecb : b.get? cl = some (listOf cs ck) := Kb _ _ ec (by first | exact hcf | simpa using hcf)
 have elb : b.get? la = some (listOf vs kk) := Kb _ _ hl (by first | exact hlf | simpa using hlf)
 have mf := V.nw (fa, oF) (.head _)
 wtm_at "qgo"
 wtm_at "qgl"
 wtm_at "qgo"; wtm_at "qbn"; wtm_at "qgo"
 refine r_lenl (V.sub _ _ elb) (by (first | lia | omega)) fun u6 t6 => ?_
 wtm_at "qgo"
 refine ⟨V.sub, ?_⟩
 refine draw_ok G' V.sub R' mf.1 mf.2.2 F ⟨cs, ck, V.sub _ _ ecb, hcs, hI⟩ hcf hs hz ?_
 intro oF' r u t2 h2 hr F' k2 e2
 have V2 : Fm b env h2 _ [(fa, oF')] := V.put (.head) k2 e2
 wtm_at "qgo"
 refine r_item_list V2 (.inr elb) (by (first | lia | omega)) (by (first | lia | omega)) (by rw [Int.toNat_natCast]; exact Array.getElem?_eq_getElem hr) ?_
 repeat wtm_at "qkt"
 exact k oF' r _ _ _ (Array.getElem?_eq_getElem hr) F' (kept_of (by simpa using Kb) V2) e2
end
end
section
section
variable {w : World} {b h : Heap} {env : Env} {l l' : List (Str × Option Value)} {σ : List (Addr × Obj)} {ks : List (Str × NameKind)} {A : Around} {g : Array GenState} {d : Drawn} {t : Nat} {o : OsState} {n : Nat} {Q : Value → Shared → Prop}
theorem any_mem (ns : List Nat) (x : Nat) : ((ns.map fun n : Nat => (n : Int)).any (·== (x : Int))) = decide (x ∈ ns) := by
 rw [Bool.eq_iff_iff]
 simp only [List.any_map, List.any_eq_true, Function.comp, decide_eq_true_eq, beq_iff_eq]
 constructor
 ·rintro ⟨y, hy, e⟩
  have : y = x := by (first | lia | omega)
  exact this ▸ hy
 ·exact fun h => ⟨x, h, rfl⟩
theorem r_notinL {a : Addr} {vs : Array Value} {k x : Nat} {u : Tok} {ns : List Nat} (V : Fm b env h l σ) (H : At b σ a (listOf vs k)) (N : Nums vs.toList ns) (q : Q (.bool (!decide (x ∈ ns))) ⟨h, g, d, t, o⟩) :
  wpAny (model PR w) A (compareOp .NotIn (.int (x : Nat) u) (.ref a)) Q Never ⟨h, g, d, t, o⟩ := by
 refine notin_list_ints (vs := vs.toList) (isList_of (V.at H)) (intsAre_of N) ?_
 rw [any_mem]
 exact q
theorem FeedO.cls {oF : Obj} {cl : Addr} {sp : Nat} (F : FeedO w oF cl sp) : oF.cls = .type "dict" := by
 obtain ⟨u, es, ep, X, _⟩ := F
 exact X.1
theorem CellsH.sub {h h' : Heap} {cl : Addr} (x : CellsH h cl) (s : Sub h h') : CellsH h' cl := let ⟨vs, k, e, r⟩ := x; ⟨vs, k, s _ _ e, r⟩
theorem ne_feed {a fa cl : Addr} {oF : Obj} {sp k : Nat} {vs : Array Value} (F : FeedO w oF cl sp) (hF : h.get? fa = some oF) (e : h.get? a = some (listOf vs k)) : a ≠ fa :=
 ne_of_cls e hF (by rw [F.cls]; exact clsne)
theorem draw_in {fa cl : Addr} {oF : Obj} {sp wd : Nat} {uw : Tok} {σ' : Obj → List (Addr × Obj)} (G : Gd w b) (R : Rm A (n + 1)) (V : Fm b env h l σ) (U : ∀ o', PutS fa oF o' σ (σ' o')) (F : FeedO w oF cl sp) (hc : CellsH h cl) (hs : sp ≤ 100000) (hw : 0 < wd)
  (k : ∀ oF' r u t' h', r < wd → FeedO w oF' cl (sp + 1) → Fm b env h' l (σ' oF') → Q (.int (r : Nat) u) ⟨h', g, d, t', o⟩) :
  wpAny (model PR w) A (call (.ref 451) [.ref fa, .int (wd : Nat) uw]) Q Never ⟨h, g, d, t, o⟩ := by
 have mF := V.nw _ (U oF).mem
 obtain ⟨vs, kk, ec, r⟩ := hc
 refine draw_ok G V.sub R mF.1 mF.2.2 F ⟨vs, kk, ec, r⟩ (ne_feed F mF.1 ec) hs hw ?_
 intro oF' r u t' h' hr F' k' e'
 repeat wtm_at "qkt"
 exact k oF' r u t' h' hr F' (V.put (U oF') k' e')
theorem pick_in {fa cl la : Addr} {oF : Obj} {sp kk : Nat} {vs : Array Value} {ns : List Nat} {σ' : Obj → List (Addr × Obj)} (G : Gd w b) (R : Rm A (n + 2)) (V : Fm b env h l σ) (U : ∀ o', PutS fa oF o' σ (σ' o')) (F : FeedO w oF cl sp) (hc : CellsH h cl) (hs : sp ≤ 100000) (hl : At b σ la (listOf vs kk)) (N : Nums vs.toList ns) (hn : ns ≠ []) (hz2 : ns.length ≤ 1000)
  (k : ∀ oF' x v t' h', IsN v x → x ∈ ns → FeedO w oF' cl (sp + 1) → Fm b env h' l (σ' oF') → Q v ⟨h', g, d, t', o⟩) :
  wpAny (model PR w) A (call (.ref 458) [.ref fa, .ref la]) Q Never ⟨h, g, d, t, o⟩ := by
 have mF := V.nw _ (U oF).mem
 obtain ⟨cs, ck, ec, r⟩ := hc
 have hsz : vs.size = ns.length := by rw [← N.length]; simp
 have hpos : 0 < ns.length := List.length_pos_iff.mpr hn
 refine pick_ok G V.sub R mF.1 mF.2.2 F ⟨cs, ck, ec, r⟩ (ne_feed F mF.1 ec) hs (V.at hl) (ne_feed F mF.1 (V.at hl)) (by (first | lia | omega)) (by (first | lia | omega)) ?_
 intro oF' r v t' h' hr F' k' e'
 obtain ⟨x, hx, hv⟩ := N.back (i := r) (x := v) (by first | exact hr | simpa using hr)
 repeat wtm_at "qkt"
 exact k oF' x v t' h' hv (List.mem_of_getElem? hx) F' (V.put (U oF') k' e')
theorem Fm.give {pre mid kt : List (Addr × Obj)} (V : Fm b env h l (mid ++ (pre ++ kt))) : Fm b env h l (pre ++ (mid ++ kt)) := V.rot
theorem bank_plus {c : Heap} {B : BankL} {ts : List Tm} {fs : List (List Nat × Nat)} {pre kt : List (Addr × Obj)} {a : Addr} {oo : Obj} (V : Fm b env h l ((a, oo) :: (pre ++ kt))) (I : InB c b kt) (M : BankM w c B ts fs) :
  ∃ c', Fm b env h l (pre ++ ((a, oo) :: kt)) ∧ InB c' b ((a, oo) :: kt) ∧ BankM w c' B ts fs ∧ c'.get? a = some oo ∧ Sub c c' := by
 have V1 : Fm b env h l (pre ++ ([(a, oo)] ++ kt)) := Fm.give (mid := [(a, oo)]) V
 have V2 : Fm b env h l ([(a, oo)] ++ kt) := V1.drop (List.sublist_append_right _ _)
 refine ⟨plus c h [a], V1, I.plus (mid := [(a, oo)]) V2 (fun x hx => ⟨oo, by rw [List.mem_singleton.mp hx]; exact .head _⟩), M.sub (plus_more (I.sub V2)), plus_get (.inr (.head _)) (V.nw _ (.head _)).1, plus_more (I.sub V2)⟩
end
end
section
noncomputable def fn463 : FnAt 463 := ⟨_, _, _, _, fun _ => rfl, fun _ => by kernel_rfl⟩
noncomputable def body463 : List Stmt := match fn463.fd.body with | .stmts b => b | _ => []
noncomputable def rest463 : List Stmt := body463.drop 5
structure InP (h₀ c₀ b : Heap) (c : Heap) (kt : List (Addr × Obj)) : Prop where
 i : InB c b kt
 n : NewTo c₀ c h₀
section
variable {w : World} {b h h₀ c₀ c : Heap} {env : Env} {l : List (Str × Option Value)} {g : Array GenState} {d : Drawn} {t : Nat} {o : OsState} {fa : Addr} {oF : Obj} {B : BankL} {ts : List Tm} {fs fs' : List (List Nat × Nat)} {pre kt : List (Addr × Obj)} {r : Nat × List Tm} {Q : Value → Shared → Prop}
theorem occ (V : Fm b env h l (pre ++ kt)) (I : InB c b kt) (M : BankM w c B ts fs) (Kb : Kept (fa :: C8 B) h₀ b) (hf : (fa, oF) ∈ pre) {a : Addr} (q : h.get? a = none) : h₀.get? a = none := by
 cases e : h₀.get? a with
 | none => rfl
 | some oo =>
  exfalso
  by_cases z : a ∈ fa :: C8 B
  ·rcases List.mem_cons.mp z with rfl | z
   ·rw [(V.nw _ (List.mem_append_left _ hf)).1] at q; cases q
   ·obtain ⟨o1, e1, _⟩ := M.some8 a z
    rw [I.sub V _ _ e1] at q; cases q
  ·rw [V.sub _ _ (Kb _ _ e z)] at q; cases q
theorem made_inP (V : Fm b env h l (pre ++ kt)) (I : InP h₀ c₀ b c kt) (M : BankM w c B ts fs) (hb : ∀ a ∈ C8 B, b.get? a = none) (Kb : Kept (fa :: C8 B) h₀ b) (hf : (fa, oF) ∈ pre)
  (k : ∀ c' kt' u t' h', Fm b env h' l (pre ++ kt') → InP h₀ c₀ b c' kt' → BankM w c' B r.2 fs' → Kept (C8 B) c c' → Q (.int (r.1 : Nat) u) ⟨h', g, d, t', o⟩) : Made w B c h fs' g d o r Q := by
 intro c' u t' h' M' S' N' K1 K2
 obtain ⟨kt', V', I'⟩ := V.bank I.i M hb S' N' K2
 repeat wtm_at "qkt"
 refine k c' kt' u t' h' V' ⟨I', fun a oo e => ?_⟩ M' K1
 rcases N' a oo e with q | q
 ·obtain ⟨o1, e1⟩ := Option.isSome_iff_exists.mp q
  exact I.n a o1 e1
 ·exact .inr (occ V I.i M Kb hf q)
theorem bank_plusP {a : Addr} {oo : Obj} (V : Fm b env h l ((a, oo) :: (pre ++ kt))) (I : InP h₀ c₀ b c kt) (M : BankM w c B ts fs) (Kb : Kept (fa :: C8 B) h₀ b) (hf : (fa, oF) ∈ pre) :
  ∃ c', Fm b env h l (pre ++ ((a, oo) :: kt)) ∧ InP h₀ c₀ b c' ((a, oo) :: kt) ∧ BankM w c' B ts fs ∧ c'.get? a = some oo ∧ Sub c c' := by
 obtain ⟨c', V', I', M', e', s'⟩ := bank_plus V I.i M
 have V1 : Fm b env h l (pre ++ ([(a, oo)] ++ kt)) := Fm.give (mid := [(a, oo)]) V
 have V2 : Fm b env h l ([(a, oo)] ++ kt) := V1.drop (List.sublist_append_right _ _)
 refine ⟨plus c h [a], V1, ⟨I.i.plus (mid := [(a, oo)]) V2 (fun x hx => ⟨oo, by rw [List.mem_singleton.mp hx]; exact .head _⟩), fun x ox e => ?_⟩, M.sub (plus_more (I.i.sub V2)), plus_get (.inr (.head _)) (V.nw _ (.head _)).1, plus_more (I.i.sub V2)⟩
 rcases plus_of e with q | q
 ·obtain ⟨o1, e1⟩ := Option.isSome_iff_exists.mp q
  exact I.n x o1 e1
 ·rw [List.mem_singleton.mp q]
  refine .inr ?_
  cases e : h₀.get? a with
  | none => rfl
  | some o1 =>
   exfalso
   have hba := (V.nw _ (.head _)).2.2
   by_cases z : a ∈ fa :: C8 B
   ·rcases List.mem_cons.mp z with z | z
    ·exact V.ne _ (List.mem_append_left _ hf) z.symm
    ·obtain ⟨o2, e2, _⟩ := M.some8 a z
     rcases I.i _ _ e2 with m | m
     ·exact V.ne _ (List.mem_append_right _ m) rfl
     ·rw [hba] at m; cases m
   ·have := Kb _ _ e z
    rw [hba] at this; cases this
end
section
variable {w : World} {b₀ c h : Heap} {A : Around} {g : Array GenState} {d : Drawn} {t : Nat} {o : OsState} {B : BankL} {ts : List Tm} {fs : List (List Nat × Nat)} {n : Nat} {Q : Value → Shared → Prop}
theorem declare_okM {nv rv : Value} {pa : Addr} {sl : List Nat} {r : Nat} (G : Gd w b₀) (S : Sub b₀ h) (R : Rm A (n + 1)) (M : BankM w c B ts fs) (Sc : Sub c h) (hb : ∀ a ∈ C8 B, b₀.get? a = none) (hpa : TupN c pa sl) (hr : IsN rv r) (hz : fs.length ≤ 900)
  (k : Made w B c h (fs ++ [(sl, r)]) g d o (fs.length, ts) Q) : wpAny (model PR w) A (call (.ref 180) [.ref B.x, nv, .ref pa, rv]) Q Never ⟨h, g, d, t, o⟩ := declare_ok G S R M Sc hb hpa hr hz k
theorem make_okM {m : Tm} {v1 v3 v4 : Value} {pa : Addr} {r : Nat × List Tm} (G : Gd w b₀) (S : Sub b₀ h) (R : Rm A (n + 1)) (M : BankM w c B ts fs) (Sc : Sub c h) (hb : ∀ a ∈ C8 B, b₀.get? a = none) (hv1 : IsS v1 m.op) (hpa : TupN c pa m.args) (hv3 : IsN v3 m.sort) (hv4 : IsDt c v4 m.data) (hz : ts.length ≤ 900)
  (hr : mk ts m = r) (k : Made w B c h fs g d o r Q) : wpAny (model PR w) A (call (.ref 271) [.ref B.x, v1, .ref pa, v3, v4]) Q Never ⟨h, g, d, t, o⟩ := by
 subst hr; exact make_ok G S R M Sc hb hv1 hpa hv3 hv4 hz k
theorem fresh_okM {s : Nat} {nv sv : Value} {r : Nat × List Tm} {fs' : List (List Nat × Nat)} (G : Gd w b₀) (S : Sub b₀ h) (R : Rm A (n + 2)) (M : BankM w c B ts fs) (Sc : Sub c h) (hb : ∀ a ∈ C8 B, b₀.get? a = none) (hs : IsN sv s) (hz : ts.length ≤ 900) (hf : fs.length ≤ 900)
  (hr : mk ts ⟨"app", [], s, .i fs.length⟩ = r) (hfs : fs ++ [([], s)] = fs') (k : Made w B c h fs' g d o r Q) : wpAny (model PR w) A (call (.ref 194) [.ref B.x, nv, sv]) Q Never ⟨h, g, d, t, o⟩ := by
 subst hr; subst hfs; exact fresh_ok G S R M Sc hb hs hz hf k
end
noncomputable abbrev LP (fa ia ta : Addr) (uf ug up : Tok) (x1 x2 x3 x4 x5 x6 x7 : Option Value) : List (Str × Option Value) := [("feed", some (.ref fa)), ("f", some (.int (0 : Nat) uf)), ("g", some (.int (1 : Nat) ug)), ("p", some (.int (2 : Nat) up)), ("ints", some (.ref ia)), ("truths", some (.ref ta)), ("lap", x1), ("kind", x2), ("x", x3), ("y", x4), ("made", x5), ("one", x6), ("two", x7)]
noncomputable abbrev SP (ca : Addr) (oc : Obj) (fa : Addr) (oF : Obj) (ia : Addr) (vi : List Value) (ki : Nat) (ta : Addr) (vt : List Value) (kk : Nat) (kt : List (Addr × Obj)) : List (Addr × Obj) := (ca, oc) :: (fa, oF) :: (ia, listOf vi.toArray ki) :: (ta, listOf vt.toArray kk) :: kt
noncomputable def fsAt (i : Nat) : List (List Nat × Nat) := F0.take (3 + i)
theorem mkI : ∀ i < 3, mk (T0.take (3 + i)) ⟨"app", [], 1, .i (fsAt i).length⟩ = (3 + i, T0.take (3 + (i + 1))) := by decide +kernel
theorem mkV : ∀ i < 2, mk (T0.take (6 + i)) (cV i) = (6 + i, T0.take (6 + (i + 1))) := by decide +kernel
theorem fsI : ∀ i < 3, fsAt i ++ [([], 1)] = fsAt (i + 1) := by decide +kernel
theorem fsL : ∀ i < 3, (fsAt i).length ≤ 900 ∧ (T0.take (3 + i)).length ≤ 900 ∧ ([3, 4, 5] : List Nat).take (i + 1) = ([3, 4, 5] : List Nat).take i ++ [3 + i] := by decide +kernel
theorem fsL2 : ∀ i < 2, (T0.take (6 + i)).length ≤ 900 ∧ ([6, 7] : List Nat).take (i + 1) = ([6, 7] : List Nat).take i ++ [6 + i] := by decide +kernel
section
variable {w : World} {b₀ c h : Heap} {A : Around} {g : Array GenState} {d : Drawn} {t : Nat} {o : OsState} {B : BankL} {n : Nat} {Q : Value → Shared → Prop}
theorem pools_head {fa cl : Addr} {oF : Obj} {sp : Nat} (G : Gd w b₀) (S : Sub b₀ h) (R : Rm A (n + 4)) (M : BankM w c B (T0.take 3) []) (Sc : Sub c h) (hb : ∀ a ∈ C8 B, b₀.get? a = none) (hF : h.get? fa = some oF) (hbf : b₀.get? fa = none) (hcf : c.get? fa = none) (hccl : c.get? cl = none) (F : FeedO w oF cl sp) (hc : CellsH h cl)
  (k : ∀ b env h' t' ca oc ia ta vi ki vt kk c' kt uf ug up, Gd w b → Ev env fn463.fd.scope.names → env.cells = ([("bank", ca)] : List (Str × Addr)) → oc.data = .cell (some (.ref B.x)) → Rm (A.deeper env) (n + 3) → Kept (fa :: C8 B) h b → (∀ a ∈ C8 B, b.get? a = none) → b.get? fa = none → Self b B.x 442 B.dx B.fields → CellsH b cl →
   Fm b env h' (LP fa ia ta uf ug up none none none none none none none) (SP ca oc fa oF ia vi ki ta vt kk kt) → InP h c b c' kt → BankM w c' B T0 F0 → Nums vi [3, 4, 5, 6, 7] → Nums vt [8] →
   wpAny (model PR w) (A.deeper env) (execs rest463 env) (fun fl s' => Q (retOf fl) s') Never ⟨h', g, d, t', o⟩) :
  wpAny (model PR w) A (call (.ref 463) [.ref fa, .ref B.x]) Q Never ⟨h, g, d, t, o⟩ := by
 obtain ⟨C, hC1, hC2⟩ := M.objs
 have hfC : fa ∉ C8 B := fun q => by obtain ⟨oo, e, _⟩ := M.some8 fa q; rw [hcf] at e; cases e
 refine enterC fn463 [("feed", .ref fa), ("bank", .ref B.x)] "bank" (.ref B.x) [("feed", some (.ref fa)), ("f", none), ("g", none), ("p", none), ("ints", none), ("truths", none), ("lap", none), ("kind", none), ("x", none), ("y", none), ("made", none), ("one", none), ("two", none)] ((fa, oF) :: C) G S R rfl rfl (fun _ => rfl) (fun p hp => ?_) (by kernel_rfl) (fun p hp u hu => ?_) (by show (["feed", "f", "g", "p", "ints", "truths", "lap", "kind", "x", "y", "made", "one", "two"] : List Str).Nodup; decide +kernel) (fun p hp => ?_) (by simp only [List.map_cons, hC1]; exact List.nodup_cons.mpr ⟨hfC, M.nd8⟩) (fun b env h' t' ca oc G' Sb Sh Kb Lo Sh' e hcs hoc V R' => ?_)
 ·first | replace hp := in1 hp | replace hp := in2 hp | replace hp := in3 hp | replace hp := in4 hp | replace hp := in5 hp | simp only [List.mem_cons, List.not_mem_nil, or_false] at hp
  rcases hp with rfl | rfl
  ·exact .inl (show fn463.fd.scope.names.lookup ("feed" : Str) = some .local by decide +kernel)
  ·exact .inr ⟨show fn463.fd.scope.names.lookup ("bank" : Str) = some .cell by decide +kernel, rfl⟩
 ·first | replace hp := in1 hp | replace hp := in2 hp | replace hp := in3 hp | replace hp := in4 hp | replace hp := in5 hp | simp only [List.mem_cons, List.not_mem_nil, or_false] at hp
  rcases hp with rfl | rfl | rfl | rfl | rfl | rfl | rfl | rfl | rfl | rfl | rfl | rfl | rfl <;> first | (injection hu with hu; subst hu; kernel_rfl) | cases hu
 ·rcases List.mem_cons.mp hp with rfl | hp
  ·exact ⟨hF, hbf⟩
  ·exact ⟨Sc _ _ (hC2 p hp), hb _ (hC1 ▸ List.mem_map_of_mem (f := (·.1)) hp)⟩
 have Kb8 : Kept (fa :: C8 B) h b := fun a oo ea na => Kb a oo ea (by simp only [List.map_cons, hC1]; exact na)
 have hb' : ∀ a ∈ C8 B, b.get? a = none := fun a ha => by
  rw [← hC1] at ha
  obtain ⟨p, hp, rfl⟩ := List.mem_map.mp ha
  exact (V.nw _ (.tail _ (.tail _ hp))).2.2
 have hfb : b.get? fa = none := (V.nw (fa, oF) (.tail _ (.head _))).2.2
 have I0 : InB c b C := fun a oo ea => by
  by_cases q : a ∈ C8 B
  ·exact .inl (memC hC1 hC2 q ea)
  ·exact .inr (Kb8 a oo (Sc _ _ ea) fun z => by
    rcases List.mem_cons.mp z with rfl | z
    ·rw [hcf] at ea; cases ea
    ·exact q z)
 have I : InP h c b c C := ⟨I0, NewTo.refl c h⟩
 have J : Self b B.x 442 B.dx B.fields := by
  obtain ⟨es, m, ex, ed, E⟩ := M.r.self
  refine ⟨es, m, (I0 _ _ ex).resolve_left fun q => ?_, (I0 _ _ ed).resolve_left fun q => ?_, E⟩
  ·exact M.dx8.2 (hC1 ▸ List.mem_map_of_mem (f := (·.1)) q)
  ·exact M.dx8.1 (hC1 ▸ List.mem_map_of_mem (f := (·.1)) q)
 have hcb : CellsH b cl := by
  obtain ⟨vs, kk, ec, r⟩ := hc
  refine ⟨vs, kk, Kb8 _ _ ec fun q => ?_, r⟩
  rcases List.mem_cons.mp q with q | q
  ·exact ne_feed F hF ec q
  ·obtain ⟨oo, e, _⟩ := M.some8 _ q; rw [hccl] at e; cases e
 have hce : env.cells.lookup ("bank" : Str) = some ca := by rw [hcs]; simp
 clear I0 hfC
 wtm_at "qgo"
 refine r_assign2 R'.h e (by decide +kernel) (by decide +kernel) (by decide +kernel) ?_
 wtm_at "qgo"
 wtm_at "qgl"
 wtm_at "qgo"
 refine r_newtuple V ?_; clear V; intro p1 h1 lo1 s1 V
 wtm_at "qgo"
 wtm_at "qgl"
 wtm_at "qgo"
 refine ⟨V.sub, ?_⟩
 obtain ⟨c1, V1, I1, M1, e1, _⟩ := bank_plusP (pre := [(ca, oc), (fa, oF)]) V I M Kb8 (.tail _ (.head _))
 clear V I M
 refine declare_okM (sl := [1]) (r := 1) G' V1.sub R' M1 (I1.i.sub V1) hb' ⟨_, e1, .cons ⟨_, rfl⟩ .nil⟩ ⟨_, rfl⟩ (by simp) (made_inP V1 I1 M1 hb' Kb8 (.tail _ (.head _)) ?_)
 clear V1 I1 M1 e1; intro c2 kt2 uf t2 h2 V I M _
 replace V : Fm b env h2 _ ((ca, oc) :: (fa, oF) :: kt2) := V
 wtm_at "qgo"
 wtm_at "qgl"
 wtm_at "qgo"
 wtm_at "qgl"
 wtm_at "qgo"
 refine r_newtuple V ?_; clear V; intro p2 h3 lo3 s3 V
 wtm_at "qgo"
 wtm_at "qgl"
 wtm_at "qgo"
 refine ⟨V.sub, ?_⟩
 obtain ⟨c1, V1, I1, M1, e1, _⟩ := bank_plusP (pre := [(ca, oc), (fa, oF)]) V I M Kb8 (.tail _ (.head _))
 clear V I M
 refine declare_okM (sl := [1, 1]) (r := 1) G' V1.sub R' M1 (I1.i.sub V1) hb' ⟨_, e1, .cons ⟨_, rfl⟩ (.cons ⟨_, rfl⟩ .nil)⟩ ⟨_, rfl⟩ (by simp) (made_inP V1 I1 M1 hb' Kb8 (.tail _ (.head _)) ?_)
 clear V1 I1 M1 e1; intro c4 kt4 ug t4 h4 V I M _
 replace V : Fm b env h4 _ ((ca, oc) :: (fa, oF) :: kt4) := V
 refine later fun h5 t5 s5 => ?_
 replace V := V.mono s5
 wtm_at "qst"; clear V; intro h6 t6 V
 wtm_at "qst"; clear V; intro h7 t7 V
 wtm_at "qgo"
 wtm_at "qgl"
 wtm_at "qgo"
 refine r_newtuple V ?_; clear V; intro p3 h8 lo8 s8 V
 wtm_at "qgo"
 wtm_at "qgl"
 wtm_at "qgo"
 refine ⟨V.sub, ?_⟩
 obtain ⟨c1, V1, I1, M1, e1, _⟩ := bank_plusP (pre := [(ca, oc), (fa, oF)]) V I M Kb8 (.tail _ (.head _))
 clear V I M
 refine declare_okM (sl := [1]) (r := 0) G' V1.sub R' M1 (I1.i.sub V1) hb' ⟨_, e1, .cons ⟨_, rfl⟩ .nil⟩ ⟨_, rfl⟩ (by simp) (made_inP V1 I1 M1 hb' Kb8 (.tail _ (.head _)) ?_)
 clear V1 I1 M1 e1; intro c9 kt9 up t9 h9 V I M _
 replace V : Fm b env h9 _ ((ca, oc) :: (fa, oF) :: kt9) := V
 wtm_at "qst"; clear V; intro h10 t10 V
 wtm_at "qgo"
 refine r_compA [("bank", ca)] e (by decide +kernel) (by rw [hcs]; rfl) ?_
 wtm_at "qgo"
 refine r_newtuple V ?_; clear V; intro p4 h11 lo11 s11 V
 obtain ⟨c12, V1, I1, M1, e1, _⟩ := bank_plusP (pre := [(ca, oc), (fa, oF)]) V I M Kb8 (.tail _ (.head _))
 clear V I M
 obtain ⟨us, hus, e1⟩ : ∃ us : List Value, us.length = 3 ∧ c12.get? p4 = some (tupOf us) := ⟨_, rfl, e1⟩
 let Jx1 : Nat → List (Addr × Obj) → List Value → Prop := fun i σ vs => Ex2 fun cx kt => Al5 (σ = (ca, oc) :: (fa, oF) :: kt) (InP h c b cx kt) (BankM w cx B (T0.take (3 + i)) (fsAt i)) (Nums vs (([3, 4, 5] : List Nat).take i)) (cx.get? p4 = some (tupOf us))
 refine compit_tuple (us := us) R'.h e V1 (by (first | lia | omega)) Jx1 ⟨c12, _, rfl, I1, M1, .nil, e1⟩ ?_ ?_ (by decide +kernel) (by decide +kernel) ?_ ?_
 ·rintro i σ vs ⟨c, kt, rfl, I, M, N, e4⟩
  exact (I.i _ _ e4).imp (fun q => .tail _ (.tail _ q)) id
 ·rintro i σ vs ⟨c, kt, rfl, I, M, N, e4⟩
  have := N.length
  rw [List.length_take] at this
  simp at this; (first | lia | omega)
 ·clear V1 I1 M1 e1
  rintro i v cenv h13 t13 m13 oL L D I' ito vs σ hi ⟨c13, kt13, rfl, I, M, N, e4⟩ ec hcc V
  have hi3 : i < 3 := hus ▸ (List.getElem?_eq_some_iff.mp hi).1
  refine compTurn_plain ?_
  have hce : cenv.cells.lookup ("bank" : Str) = some ca := by rw [hcc]; simp
  wtm_at "qgo"
  wtm_at "qgl"
  wtm_at "qgo"
  refine ⟨V.sub, ?_⟩
  refine fresh_okM (s := 1) G' V.sub R' M (I.i.sub (pre := [(D, _), (I', ito), (L, oL), (ca, oc), (fa, oF)]) V) hb' ⟨_, rfl⟩ (fsL i hi3).2.1 (fsL i hi3).1 (mkI i hi3) (fsI i hi3) (made_inP (pre := [(D, _), (I', ito), (L, oL), (ca, oc), (fa, oF)]) V I M hb' Kb8 (by wtm_at "qmem") ?_)
  have e4' := M.tup e4
  clear V I M; intro c14 kt14 u14 t14 h14 V I M kc
  repeat wtm_at "qkt"
  refine ⟨_, _, _, _, rfl, V, rfl, c14, kt14, rfl, I, M, ?_, kc _ _ e4 e4'⟩
  rw [(fsL i hi3).2.2]
  exact N.snoc ⟨_, rfl⟩
 clear V1 I1 M1 e1
 rintro D1 CC oC m13 h13 t13 vs1 σ mC hD ⟨c13, kt13, rfl, I, M, N1, e4⟩ V hns hoC
 rw [hus] at M N1
 refine fin_store e V hns hoC (by decide +kernel) (by wtm_at "qput") ?_
 clear V hns hoC; intro h14 t14 V
 wtm_at "qgo"
 refine r_comp [("bank", ca)] (by rw [hcs]; rfl) ?_
 wtm_at "qgo"
 refine r_newtuple V ?_; clear V; intro p5 h15 lo15 s15 V
 obtain ⟨c16, V1, I1, M1, e1, _⟩ := bank_plusP (pre := [(D1, listOf vs1.toArray m13), (ca, oc), (fa, oF)]) V I M Kb8 (by wtm_at "qmem")
 clear V I M
 obtain ⟨us2, hus2, Nu2, e1⟩ : ∃ us : List Value, us.length = 2 ∧ Nums us [0, 1] ∧ c16.get? p5 = some (tupOf us) := ⟨_, rfl, .cons ⟨_, rfl⟩ (.cons ⟨_, rfl⟩ .nil), e1⟩
 let Jx2 : Nat → List (Addr × Obj) → List Value → Prop := fun i σ vs => Ex2 fun cx kt => Al5 (σ = (D1, listOf vs1.toArray m13) :: (ca, oc) :: (fa, oF) :: kt) (InP h c b cx kt) (BankM w cx B (T0.take (6 + i)) (fsAt 3)) (Nums vs (([6, 7] : List Nat).take i)) (cx.get? p5 = some (tupOf us2))
 refine compit_tuple (us := us2) R'.h e V1 (by (first | lia | omega)) Jx2 ⟨c16, _, rfl, I1, M1, .nil, e1⟩ ?_ ?_ (by decide +kernel) (by decide +kernel) ?_ ?_
 ·rintro i σ vs ⟨c, kt, rfl, I, M, N, e4⟩
  exact (I.i _ _ e4).imp (fun q => .tail _ (.tail _ (.tail _ q))) id
 ·rintro i σ vs ⟨c, kt, rfl, I, M, N, e4⟩
  have := N.length
  rw [List.length_take] at this
  simp at this; (first | lia | omega)
 ·clear V1 I1 M1 e1
  rintro i v cenv h17 t17 m17 oL L D I' ito vs σ hi ⟨c17, kt17, rfl, I, M, N, e4⟩ ec hcc V
  have hi2 : i < 2 := hus2 ▸ (List.getElem?_eq_some_iff.mp hi).1
  obtain ⟨y, hy, hv⟩ := Nu2.back hi
  have hy' : y = i := by rcases (by (first | lia | omega) : i = 0 ∨ i = 1) with rfl | rfl <;> simpa using hy.symm
  subst hy'
  refine compTurn_plain ?_
  have hce : cenv.cells.lookup ("bank" : Str) = some ca := by rw [hcc]; simp
  wtm_at "qgo"
  refine r_newtuple V ?_; clear V; intro p6 h18 lo18 s18 V
  obtain ⟨c18, V1, I1, M1, e6, s6⟩ := bank_plusP (pre := [(D, _), (I', ito), (L, oL), (D1, listOf vs1.toArray m13), (ca, oc), (fa, oF)]) V I M Kb8 (by wtm_at "qmem")
  clear V I M; have V := V1; have I := I1; have M := M1; clear V1 I1 M1
  wtm_at "qgo"
  wtm_at "qgl"
  wtm_at "qgo"
  refine r_newtuple V ?_; clear V; intro p7 h19 lo19 s19 V
  obtain ⟨c19, V1, I1, M1, e7, s7⟩ := bank_plusP (pre := [(D, _), (I', ito), (L, oL), (D1, listOf vs1.toArray m13), (ca, oc), (fa, oF)]) V I M Kb8 (by wtm_at "qmem")
  clear V I M; have V := V1; have I := I1; have M := M1; clear V1 I1 M1
  wtm_at "qgo"
  refine ⟨V.sub, ?_⟩
  refine make_okM (m := cV y) G' V.sub R' M (I.i.sub (pre := [(D, _), (I', ito), (L, oL), (D1, listOf vs1.toArray m13), (ca, oc), (fa, oF)]) V) hb' ⟨_, rfl⟩ ⟨_, s7 _ _ e6, .nil⟩ ⟨_, rfl⟩ ⟨_, rfl, _, e7, .cons hv (.cons ⟨_, rfl⟩ .nil)⟩ (fsL2 y hi2).1 (mkV y hi2) (made_inP (pre := [(D, _), (I', ito), (L, oL), (D1, listOf vs1.toArray m13), (ca, oc), (fa, oF)]) V I M hb' Kb8 (by wtm_at "qmem") ?_)
  have e4' := M.tup (s7 _ _ (s6 _ _ e4))
  clear V I M; intro c20 kt20 u20 t20 h20 V I M kc
  repeat wtm_at "qkt"
  refine ⟨_, _, _, _, rfl, V, rfl, c20, kt20, rfl, I, M, ?_, kc _ _ (s7 _ _ (s6 _ _ e4)) e4'⟩
  rw [(fsL2 y hi2).2]
  exact N.snoc ⟨_, rfl⟩
 clear V1 I1 M1 e1
 rintro D2 CC oC m17 h17 t17 vs2 σ mC hD2 ⟨c17, kt17, rfl, I, M, N2, e4⟩ V hns hoC
 rw [hus2] at M N2
 refine fin_none V hns ?_
 clear V hns hoC; intro h18 V
 wtm_at "qgo"
 have l1 := N1.length
 have l2 := N2.length
 simp at l1 l2
 refine r_addL V (oa := listOf vs1.toArray m13) (oc := listOf vs2.toArray m17) (.inl (by wtm_at "qmem")) (.list _ _) (.inl (by wtm_at "qmem")) (.list _ _) (by simp; (first | lia | omega)) ?_
 clear V; intro ia h19 V
 rw [show vs1.toArray ++ vs2.toArray = (vs1 ++ vs2).toArray by simp] at V
 wtm_at "qst"; clear V; intro h20 t20 V
 replace V : Fm b env h20 _ ((ia, listOf (vs1 ++ vs2).toArray 0) :: (ca, oc) :: (fa, oF) :: kt17) := V.drop (.cons_cons _ (.cons _ (.cons _ (List.Sublist.refl _))))
 wtm_at "qgo"
 wtm_at "qgl"
 wtm_at "qgo"
 refine ⟨V.sub, ?_⟩
 refine fresh_okM (s := 0) (ts := T0.take 8) (fs := fsAt 3) (r := (8, T0)) (fs' := F0) G' V.sub R' M (I.i.sub (pre := [(ia, _), (ca, oc), (fa, oF)]) V) hb' ⟨_, rfl⟩ (by decide) (by decide) (by decide +kernel) (by decide +kernel) (made_inP (pre := [(ia, _), (ca, oc), (fa, oF)]) V I M hb' Kb8 (by wtm_at "qmem") ?_)
 clear V I M; intro c21 kt21 u21 t21 h21 V I M _
 wtm_at "qgo"
 refine r_newlist V ?_; clear V; intro ta h22 lo22 s22 V
 wtm_at "qst"; clear V; intro h23 t23 V
 have V' : Fm b env h23 _ ([(ca, oc), (fa, oF)] ++ ([(ta, listOf [Value.int (8 : Nat) u21].toArray 0), (ia, listOf (vs1 ++ vs2).toArray 0)] ++ kt21)) := Fm.rot (x := [(ta, _), (ia, _)]) V
 replace V : Fm b env h23 _ (SP ca oc fa oF ia (vs1 ++ vs2) 0 ta [Value.int (8 : Nat) u21] 0 kt21) := V'.perm (.cons _ (.cons _ (.swap _ _ _)))
 repeat wtm_at "qkt"
 exact k b env h23 t23 ca oc ia ta (vs1 ++ vs2) 0 [_] 0 c21 kt21 uf ug up G' e hcs hoc R' Kb8 hb' hfb J hcb V I M (N1.append N2) (.cons ⟨_, rfl⟩ .nil)
end
end
section
noncomputable def PIn (w : World) (h₀ c₀ b : Heap) (ca : Addr) (oc : Obj) (fa cl ia ta : Addr) (B : BankL) (nt ns : Nat) (σ : List (Addr × Obj)) : Prop :=
 Ex11 fun (oF : Obj) (sp : Nat) (c : Heap) (kt : List (Addr × Obj)) (ts : List Tm) (vi : List Value) (ki : Nat) (inz : List Nat) (vt : List Value) (kk : Nat) (tr : List Nat) => Al15 (σ = SP ca oc fa oF ia vi ki ta vt kk kt) (InP h₀ c₀ b c kt) (BankM w c B ts F0) (Pool ts) (ts.length ≤ nt) (FeedO w oF cl sp) (sp ≤ ns) (Nums vi inz) ((∀ x ∈ inz, Srt ts 1 x)) ((∃ r, inz = [3, 4, 5, 6, 7] ++ r)) (inz.length ≤ nt) (Nums vt tr) ((∀ x ∈ tr, Srt ts 0 x)) ((∃ r, tr = 8 :: r)) (tr.length ≤ nt)
theorem app1 {ts : List Tm} {x : Nat} (S : Srt ts 1 x) (hz : ts.length ≤ 900) : ∀ (i x' s : Nat), [x][i]? = some x' → ([1] : List Nat)[i]? = some s → x' < 1000 ∧ ∃ m, ts[x']? = some m ∧ m.sort = s := by
 intro i x' s h1 h2
 have hl := S.lt
 obtain ⟨_, m, e, q⟩ := S
 cases i with
 | zero => simp at h1 h2; subst h1; subst h2; exact ⟨by (first | lia | omega), m, e, q⟩
 | succ i => simp at h1
theorem app2 {ts : List Tm} {x y : Nat} (S : Srt ts 1 x) (S' : Srt ts 1 y) (hz : ts.length ≤ 900) : ∀ (i x' s : Nat), [x, y][i]? = some x' → ([1, 1] : List Nat)[i]? = some s → x' < 1000 ∧ ∃ m, ts[x']? = some m ∧ m.sort = s := by
 intro i x' s h1 h2
 have hl := S.lt
 have hl' := S'.lt
 obtain ⟨_, m, e, q⟩ := S
 obtain ⟨_, m', e', q'⟩ := S'
 rcases i with _ | _ | i
 ·simp at h1 h2; subst h1; subst h2; exact ⟨by (first | lia | omega), m, e, q⟩
 ·simp at h1 h2; subst h1; subst h2; exact ⟨by (first | lia | omega), m', e', q'⟩
 ·simp at h1
section
variable {w : World} {c₀ h₀ b h : Heap} {env : Env} {A : Around} {g : Array GenState} {d : Drawn} {t : Nat} {o : OsState} {B : BankL} {n : Nat} {Q : Flow → Shared → Prop}
theorem pools_tail {fa cl ia ta ca : Addr} {oc : Obj} {uf ug up : Tok} {sp : Nat} {σ : List (Addr × Obj)} {x1 x2 x3 x4 x5 x6 x7 : Option Value} (G' : Gd w b) (e : Ev env fn463.fd.scope.names) (hcs : env.cells = ([("bank", ca)] : List (Str × Addr))) (hoc : oc.data = .cell (some (.ref B.x))) (R' : Rm A (n + 3)) (Kb8 : Kept (fa :: C8 B) h₀ b) (hb' : ∀ a ∈ C8 B, b.get? a = none) (J : Self b B.x 442 B.dx B.fields) (hcb : CellsH b cl) (hs : sp ≤ 1000)
  (V : Fm b env h (LP fa ia ta uf ug up x1 x2 x3 x4 x5 x6 x7) σ) (P : PIn w h₀ c₀ b ca oc fa cl ia ta B 9 sp σ)
  (k : ∀ h' t' r l' σ', PIn w h₀ c₀ b ca oc fa cl ia ta B 15 (sp + 24) σ' → Fm b env h' l' ((r, tupOf [.ref ia, .ref ta]) :: σ') → Q (.ret (.ref r)) ⟨h', g, d, t', o⟩) :
  wpAny (model PR w) A (execs rest463 env) Q Never ⟨h, g, d, t, o⟩ := by
 have hce : env.cells.lookup ("bank" : Str) = some ca := by rw [hcs]; simp
 show wpAny (model PR w) A (execs (_ :: _ :: _ :: []) env) Q Never ⟨h, g, d, t, o⟩
 let Jx1 : Shared → Prop := fun s => Ex8 fun h t σ x1 x2 x3 x4 x5 => Al3 (s = ⟨h, g, d, t, o⟩) (Fm b env h (LP fa ia ta uf ug up x1 x2 x3 x4 x5 x6 x7) σ) (PIn w h₀ c₀ b ca oc fa cl ia ta B 12 (sp + 9) σ)
 repeat wtm_at "qkt"
 refine r_consJK Jx1 (fun _ _ => ?_) ?_
 ·wtm_at "qgo"; wtm_at "qbn"; wtm_at "qgo"
  refine r_range (n := 3) V ?_; clear V; intro ra h1 t1 v1 v2 v3 lo1 s1 V
  wtm_at "qgo"
  let Jx2 : Nat → List (Str × Option Value) → List (Addr × Obj) → Prop := fun i l σ => Ex6 fun x1 x2 x3 x4 x5 σ' => Al3 (l = LP fa ia ta uf ug up x1 x2 x3 x4 x5 x6 x7) (σ = (ra, rangeOf 3 v1 v2 v3) :: σ') (PIn w h₀ c₀ b ca oc fa cl ia ta B (9 + i) (sp + 3 * i) σ')
  refine loop_range (n := 3) R'.h V (.inl (by wtm_at "qmem")) (by (first | lia | omega)) Jx2 ⟨_, _, _, _, _, _, rfl, rfl, P⟩ ?_ ?_
  ·clear V P
   rintro i ui I0 ito h2 t2 l σ hi ⟨x1, x2, x3, x4, x5, σ', rfl, rfl, oF, sp1, c, kt, ts, vi, ki, inz, vt, kk, tr, rfl, I, M, P, hts, F, hsp, Ni, Si, Ti, Li, Nt, St, Tt, Lt⟩ V
   refine wpAny_assign_Name ?_
   wtm_at "qst"; clear V; intro h3 t3 V
   repeat wtm_at "qkt"
   refine r_consK fun _ _ => r_assign3 R'.h e (by decide +kernel) (by decide +kernel) (by decide +kernel) (by decide +kernel) (by decide +kernel) (by decide +kernel) ?_
   wtm_at "qgo"
   wtm_at "qgl"
   wtm_at "qgo"
   refine ⟨V.sub, ?_⟩
   refine draw_in (wd := 3) G' R' V (fun o' => by wtm_at "qputs") F (hcb.sub V.sub) (by (first | lia | omega)) (by decide) ?_
   clear V F; intro oF1 r u4 t4 h4 hr F V
   wtm_at "qgo"; wtm_at "qgl"; wtm_at "qgo"
   refine ⟨V.sub, ?_⟩
   have hne : inz ≠ [] := by obtain ⟨r, rfl⟩ := Ti; simp
   refine pick_in (ns := inz) G' R' V (fun o' => by wtm_at "qputs") F (hcb.sub V.sub) (by (first | lia | omega)) (.inl (by wtm_at "qmem")) Ni hne (by (first | lia | omega)) ?_
   clear V F; intro oF2 x vx t5 h5 hvx hx F V
   wtm_at "qgo"; wtm_at "qgl"; wtm_at "qgo"
   refine ⟨V.sub, ?_⟩
   refine pick_in (ns := inz) G' R' V (fun o' => by wtm_at "qputs") F (hcb.sub V.sub) (by (first | lia | omega)) (.inl (by wtm_at "qmem")) Ni hne (by (first | lia | omega)) ?_
   clear V F; intro oF3 y vy t6 h6 hvy hy F V
   refine later fun h7 t7 s7 => ?_
   replace V := V.mono s7
   wtm_at "qst"; clear V; intro h8 t8 V
   wtm_at "qst"; clear V; intro h9 t9 V
   wtm_at "qst"; clear V; intro h10 t10 V
   let Jx3 : Shared → Prop := fun s => Ex7 fun h t c kt ts' mx um => Al8 (s = ⟨h, g, d, t, o⟩) (Fm b env h (LP fa ia ta uf ug up (some (.int (i : Nat) ui)) (some (.int (r : Nat) u4)) (some vx) (some vy) (some (.int (mx : Nat) um)) x6 x7) ((I0, ito) :: (ra, rangeOf 3 v1 v2 v3) :: SP ca oc fa oF3 ia vi ki ta vt kk kt)) (InP h₀ c₀ b c kt) (BankM w c B ts' F0) (Pool ts') (Srt ts' 1 mx) ((∀ (i : Nat) (m : Tm), ts[i]? = some m → ts'[i]? = some m)) (ts'.length ≤ ts.length + 1)
   repeat wtm_at "qkt"
   refine r_consJK Jx3 (fun _ _ => ?_) ?_
   ·obtain ⟨x0, mx, ex, sx⟩ := Si x hx
    obtain ⟨y0, my, ey, sy⟩ := Si y hy
    have lx := (Si x hx).lt
    have ly := (Si y hy).lt
    wtm_at "qgo"
    rcases (by (first | lia | omega) : r = 0 ∨ r = 1 ∨ r = 2) with rfl | rfl | rfl
    ·first | refine ite_t (by decide) ?_ | rw [if_pos (by decide)]
     wtm_at "qgo"
     refine r_newtuple V ?_; clear V; intro p1 h11 lo11 s11 V
     wtm_at "qgo"
     refine ⟨V.sub, ?_⟩
     obtain ⟨c1, V1, I1, M1, e1, _⟩ := bank_plusP (pre := [(I0, ito), (ra, rangeOf 3 v1 v2 v3), (ca, oc), (fa, oF3), (ia, listOf vi.toArray ki), (ta, listOf vt.toArray kk)]) V I M Kb8 (by wtm_at "qmem")
     have g1 : GoodT ts ⟨"app", [x], 1, .i 0⟩ := .inl ⟨x, rfl, Si x hx⟩
     refine app_ok (f := 0) (r := 1) (sl := [1]) (xs := [x]) G' V1.sub R' M1 (I1.i.sub V1) hb' ⟨_, rfl⟩ rfl (by decide) ⟨_, e1, .cons hvx .nil⟩ rfl (by simp) (app1 (Si x hx) (by (first | lia | omega))) (by (first | lia | omega)) (made_inP V1 I1 M1 hb' Kb8 (by wtm_at "qmem") ?_)
     clear V V1 I1 M1; intro c2 kt2 u12 t12 h12 V I M _
     wtm_at "qst"; clear V; intro h13 t13 V
     repeat wtm_at "qkt"
     exact ⟨_, _, _, _, _, _, _, rfl, V, I, M, (P.made g1).1, (P.made g1).2, mk_more _ _, mk_len _ _⟩
    ·first | refine ite_f (by decide) ?_ | rw [if_neg (by decide)]
     wtm_at "qgo"
     first | refine ite_t (by decide) ?_ | rw [if_pos (by decide)]
     wtm_at "qgo"
     refine r_newtuple V ?_; clear V; intro p1 h11 lo11 s11 V
     wtm_at "qgo"
     refine ⟨V.sub, ?_⟩
     obtain ⟨c1, V1, I1, M1, e1, _⟩ := bank_plusP (pre := [(I0, ito), (ra, rangeOf 3 v1 v2 v3), (ca, oc), (fa, oF3), (ia, listOf vi.toArray ki), (ta, listOf vt.toArray kk)]) V I M Kb8 (by wtm_at "qmem")
     have g1 : GoodT ts ⟨"app", [x, y], 1, .i 1⟩ := .inr (.inl ⟨x, y, rfl, Si x hx, Si y hy⟩)
     refine app_ok (f := 1) (r := 1) (sl := [1, 1]) (xs := [x, y]) G' V1.sub R' M1 (I1.i.sub V1) hb' ⟨_, rfl⟩ rfl (by decide) ⟨_, e1, .cons hvx (.cons hvy .nil)⟩ rfl (by simp) (app2 (Si x hx) (Si y hy) (by (first | lia | omega))) (by (first | lia | omega)) (made_inP V1 I1 M1 hb' Kb8 (by wtm_at "qmem") ?_)
     clear V V1 I1 M1; intro c2 kt2 u12 t12 h12 V I M _
     wtm_at "qst"; clear V; intro h13 t13 V
     repeat wtm_at "qkt"
     exact ⟨_, _, _, _, _, _, _, rfl, V, I, M, (P.made g1).1, (P.made g1).2, mk_more _ _, mk_len _ _⟩
    ·first | refine ite_f (by decide) ?_ | rw [if_neg (by decide)]
     wtm_at "qgo"
     first | refine ite_f (by decide) ?_ | rw [if_neg (by decide)]
     obtain ⟨rt, rfl⟩ := Tt
     have S8 := St 8 (.head _)
     obtain ⟨_, m8, e8, s8'⟩ := S8
     obtain ⟨v8, hv8, N8⟩ := Nt.get (i := 0) (y := 8) rfl
     wtm_at "qgo"
     refine r_item_list V (.inl (by wtm_at "qmem")) (by decide) (by decide) (by first | exact hv8 | simpa using hv8) ?_
     wtm_at "qgo"
     refine ⟨V.sub, ?_⟩
     have g1 : GoodT ts ⟨"ite", [8, x, y], 1, .i 0⟩ := .inr (.inr (.inl ⟨8, x, y, rfl, St 8 (.head _), Si x hx, Si y hy⟩))
     refine ite_ok G' V.sub R' M (I.i.sub (pre := [(I0, ito), (ra, rangeOf 3 v1 v2 v3), (ca, oc), (fa, oF3), (ia, listOf vi.toArray ki), (ta, listOf vt.toArray kk)]) V) hb' N8 hvx hvy e8 ex ey s8' (sy.trans sx.symm) (by (first | lia | omega)) ?_
     rw [sx]
     refine made_inP (pre := [(I0, ito), (ra, rangeOf 3 v1 v2 v3), (ca, oc), (fa, oF3), (ia, listOf vi.toArray ki), (ta, listOf vt.toArray kk)]) V I M hb' Kb8 (by wtm_at "qmem") ?_
     clear V I M; intro c2 kt2 u12 t12 h12 V I M _
     wtm_at "qst"; clear V; intro h13 t13 V
     repeat wtm_at "qkt"
     exact ⟨_, _, _, _, _, _, _, rfl, V, I, M, (P.made g1).1, (P.made g1).2, mk_more _ _, mk_len _ _⟩
   clear V I M
   rintro _ ⟨h11, t11, c2, kt2, ts', mx, um, rfl, V, I, M, P', Sm, more, hlen⟩
   wtm_at "qgo"
   refine r_notinL V (.inl (by wtm_at "qmem")) Ni ?_
   wtm_at "qgo"
   by_cases q : mx ∈ inz
   ·first | refine ite_f (by first | exact q | simpa using q) ?_ | rw [if_neg (by first | exact q | simpa using q)]
    wtm_at "qgo"
    repeat wtm_at "qkt"
    exact ⟨_, _, _, _, rfl, V, _, _, _, _, _, _, rfl, rfl, oF3, sp1 + 1 + 1 + 1, c2, kt2, ts', vi, ki, inz, vt, kk, tr, rfl, I, M, P', by (first | lia | omega), F, by (first | lia | omega), Ni, fun x hx => (Si x hx).more more, Ti, by (first | lia | omega), Nt, fun x hx => (St x hx).more more, Tt, by (first | lia | omega)⟩
   ·first | refine ite_t (by first | exact q | simpa using q) ?_ | rw [if_pos (by first | exact q | simpa using q)]
    wtm_at "qgo"
    refine r_lmeth V (.inl (by wtm_at "qmem")) PySem.F.slot_list_append PySem.F.type_list_append ?_
    dsimp only
    refine r_cwm ?_
    wtm_at "qgo"
    refine r_appendL V (by wtm_at "qputs") (by have := Ni.length; (first | lia | omega)) ?_
    clear V; intro h12 V
    wtm_at "qgo"
    repeat wtm_at "qkt"
    refine ⟨_, _, _, _, rfl, V, _, _, _, _, _, _, rfl, rfl, oF3, sp1 + 1 + 1 + 1, c2, kt2, ts', vi ++ [.int (mx : Nat) um], ki + 1, inz ++ [mx], vt, kk, tr, rfl, I, M, P', by (first | lia | omega), F, by (first | lia | omega), Ni.snoc ⟨um, rfl⟩, ?_, ?_, by rw [List.length_append, List.length_singleton]; (first | lia | omega), Nt, fun x hx => (St x hx).more more, Tt, by (first | lia | omega)⟩
    ·intro x hx
     rcases List.mem_append.mp hx with hx | hx
     ·exact (Si x hx).more more
     ·rw [List.mem_singleton.mp hx]; exact Sm
    ·obtain ⟨rr, rfl⟩ := Ti
     exact ⟨rr ++ [mx], List.append_assoc _ _ _⟩
  ·clear V P
   rintro h2 t2 l σ ⟨x1, x2, x3, x4, x5, σ', rfl, rfl, P⟩ V
   repeat wtm_at "qkt"
   exact ⟨_, _, _, _, _, _, _, _, rfl, V.tail, P⟩
 clear V P
 rintro _ ⟨h1, t1, σ, x1, x2, x3, x4, x5, rfl, V, P⟩
 let Jx4 : Shared → Prop := fun s => Ex10 fun h t σ x1 x2 x3 x4 x5 x6 x7 => Al3 (s = ⟨h, g, d, t, o⟩) (Fm b env h (LP fa ia ta uf ug up x1 x2 x3 x4 x5 x6 x7) σ) (PIn w h₀ c₀ b ca oc fa cl ia ta B 15 (sp + 24) σ)
 repeat wtm_at "qkt"
 refine r_consJK Jx4 (fun _ _ => ?_) ?_
 ·wtm_at "qgo"; wtm_at "qbn"; wtm_at "qgo"
  refine r_range (n := 3) V ?_; clear V; intro ra h1 t1 v1 v2 v3 lo1 s1 V
  wtm_at "qgo"
  let Jx5 : Nat → List (Str × Option Value) → List (Addr × Obj) → Prop := fun i l σ => Ex8 fun x1 x2 x3 x4 x5 x6 x7 σ' => Al3 (l = LP fa ia ta uf ug up x1 x2 x3 x4 x5 x6 x7) (σ = (ra, rangeOf 3 v1 v2 v3) :: σ') (PIn w h₀ c₀ b ca oc fa cl ia ta B (12 + i) (sp + 9 + 5 * i) σ')
  refine loop_range (n := 3) R'.h V (.inl (by wtm_at "qmem")) (by (first | lia | omega)) Jx5 ⟨_, _, _, _, _, _, _, _, rfl, rfl, P⟩ ?_ ?_
  ·clear V P
   rintro i ui I0 ito h2 t2 l σ hi ⟨x1, x2, x3, x4, x5, x6, x7, σ', rfl, rfl, oF, sp1, c, kt, ts, vi, ki, inz, vt, kk, tr, rfl, I, M, P, hts, F, hsp, Ni, Si, Ti, Li, Nt, St, Tt, Lt⟩ V
   refine wpAny_assign_Name ?_
   wtm_at "qst"; clear V; intro h3 t3 V
   repeat wtm_at "qkt"
   refine r_consK fun _ _ => r_assign3 R'.h e (by decide +kernel) (by decide +kernel) (by decide +kernel) (by decide +kernel) (by decide +kernel) (by decide +kernel) ?_
   wtm_at "qgo"
   wtm_at "qgl"
   wtm_at "qgo"
   refine ⟨V.sub, ?_⟩
   refine draw_in (wd := 4) G' R' V (fun o' => by wtm_at "qputs") F (hcb.sub V.sub) (by (first | lia | omega)) (by decide) ?_
   clear V F; intro oF1 r u4 t4 h4 hr F V
   wtm_at "qgo"; wtm_at "qgl"; wtm_at "qgo"
   refine ⟨V.sub, ?_⟩
   have hne : inz ≠ [] := by obtain ⟨r, rfl⟩ := Ti; simp
   have hne2 : tr ≠ [] := by obtain ⟨r, rfl⟩ := Tt; simp
   refine pick_in (ns := inz) G' R' V (fun o' => by wtm_at "qputs") F (hcb.sub V.sub) (by (first | lia | omega)) (.inl (by wtm_at "qmem")) Ni hne (by (first | lia | omega)) ?_
   clear V F; intro oF2 x vx t5 h5 hvx hx F V
   wtm_at "qgo"; wtm_at "qgl"; wtm_at "qgo"
   refine ⟨V.sub, ?_⟩
   refine pick_in (ns := inz) G' R' V (fun o' => by wtm_at "qputs") F (hcb.sub V.sub) (by (first | lia | omega)) (.inl (by wtm_at "qmem")) Ni hne (by (first | lia | omega)) ?_
   clear V F; intro oF3 y vy t6 h6 hvy hy F V
   refine later fun h7 t7 s7 => ?_
   replace V := V.mono s7
   wtm_at "qst"; clear V; intro h8 t8 V
   wtm_at "qst"; clear V; intro h9 t9 V
   wtm_at "qst"; clear V; intro h10 t10 V
   repeat wtm_at "qkt"
   refine r_consK fun _ _ => r_assign2 R'.h e (by decide +kernel) (by decide +kernel) (by decide +kernel) ?_
   wtm_at "qgo"; wtm_at "qgl"; wtm_at "qgo"
   refine ⟨V.sub, ?_⟩
   refine pick_in (ns := tr) G' R' V (fun o' => by wtm_at "qputs") F (hcb.sub V.sub) (by (first | lia | omega)) (.inl (by wtm_at "qmem")) Nt hne2 (by (first | lia | omega)) ?_
   clear V F; intro oF4 z1 w1 t11 h11 hw1 hz1 F V
   wtm_at "qgo"; wtm_at "qgl"; wtm_at "qgo"
   refine ⟨V.sub, ?_⟩
   refine pick_in (ns := tr) G' R' V (fun o' => by wtm_at "qputs") F (hcb.sub V.sub) (by (first | lia | omega)) (.inl (by wtm_at "qmem")) Nt hne2 (by (first | lia | omega)) ?_
   clear V F; intro oF5 z2 w2 t12 h12 hw2 hz2 F V
   refine later fun h13 t13 s13 => ?_
   replace V := V.mono s13
   wtm_at "qst"; clear V; intro h14 t14 V
   wtm_at "qst"; clear V; intro h15 t15 V
   let Jx6 : Shared → Prop := fun s => Ex7 fun h t c kt ts' mx um => Al8 (s = ⟨h, g, d, t, o⟩) (Fm b env h (LP fa ia ta uf ug up (some (.int (i : Nat) ui)) (some (.int (r : Nat) u4)) (some vx) (some vy) (some (.int (mx : Nat) um)) (some w1) (some w2)) ((I0, ito) :: (ra, rangeOf 3 v1 v2 v3) :: SP ca oc fa oF5 ia vi ki ta vt kk kt)) (InP h₀ c₀ b c kt) (BankM w c B ts' F0) (Pool ts') (Srt ts' 0 mx) ((∀ (i : Nat) (m : Tm), ts[i]? = some m → ts'[i]? = some m)) (ts'.length ≤ ts.length + 1)
   repeat wtm_at "qkt"
   refine r_consJK Jx6 (fun _ _ => ?_) ?_
   ·obtain ⟨x0, mx, ex, sx⟩ := Si x hx
    obtain ⟨y0, my, ey, sy⟩ := Si y hy
    obtain ⟨_, m1, e1, s1⟩ := St z1 hz1
    obtain ⟨_, m2, e2, s2⟩ := St z2 hz2
    wtm_at "qgo"
    rcases (by (first | lia | omega) : r = 0 ∨ r = 1 ∨ r = 2 ∨ r = 3) with rfl | rfl | rfl | rfl
    ·first | refine ite_t (by decide) ?_ | rw [if_pos (by decide)]
     wtm_at "qgo"
     first | refine ite_t (by decide) ?_ | rw [if_pos (by decide)]
     wtm_at "qgo"
     refine r_newtuple V ?_; clear V; intro p1 h16 lo16 s16 V
     wtm_at "qgo"
     refine ⟨V.sub, ?_⟩
     obtain ⟨c1, V1, I1, M1, e1, _⟩ := bank_plusP (pre := [(I0, ito), (ra, rangeOf 3 v1 v2 v3), (ca, oc), (fa, oF5), (ia, listOf vi.toArray ki), (ta, listOf vt.toArray kk)]) V I M Kb8 (by wtm_at "qmem")
     have g1 : GoodT ts ⟨"app", [x], 0, .i 2⟩ := .inr (.inr (.inr (.inl ⟨x, rfl, Si x hx⟩)))
     refine app_ok (f := 2) (r := 0) (sl := [1]) (xs := [x]) G' V1.sub R' M1 (I1.i.sub V1) hb' ⟨_, rfl⟩ rfl (by decide) ⟨_, e1, .cons hvx .nil⟩ rfl (by simp) (app1 (Si x hx) (by (first | lia | omega))) (by (first | lia | omega)) (made_inP V1 I1 M1 hb' Kb8 (by wtm_at "qmem") ?_)
     clear V V1 I1 M1; intro c2 kt2 u17 t17 h17 V I M _
     wtm_at "qst"; clear V; intro h18 t18 V
     wtm_at "qgo"
     repeat wtm_at "qkt"
     exact ⟨_, _, _, _, _, _, _, rfl, V, I, M, (P.made g1).1, (P.made g1).2, mk_more _ _, mk_len _ _⟩
    ·first | refine ite_t (by decide) ?_ | rw [if_pos (by decide)]
     wtm_at "qgo"
     first | refine ite_f (by decide) ?_ | rw [if_neg (by decide)]
     wtm_at "qgo"
     refine ⟨V.sub, ?_⟩
     obtain ⟨f1, f2, f3, f4⟩ := P.feq (Si x hx) (Si y hy)
     refine eq_ok G' V.sub R' M (I.i.sub (pre := [(I0, ito), (ra, rangeOf 3 v1 v2 v3), (ca, oc), (fa, oF5), (ia, listOf vi.toArray ki), (ta, listOf vt.toArray kk)]) V) hb' hvx hvy ex ey (sy.trans sx.symm) (by (first | lia | omega)) (made_inP (pre := [(I0, ito), (ra, rangeOf 3 v1 v2 v3), (ca, oc), (fa, oF5), (ia, listOf vi.toArray ki), (ta, listOf vt.toArray kk)]) V I M hb' Kb8 (by wtm_at "qmem") ?_)
     clear V I M; intro c2 kt2 u17 t17 h17 V I M _
     wtm_at "qst"; clear V; intro h18 t18 V
     wtm_at "qgo"
     repeat wtm_at "qkt"
     exact ⟨_, _, _, _, _, _, _, rfl, V, I, M, f1, f2, f3, f4⟩
    ·first | refine ite_f (by decide) ?_ | rw [if_neg (by decide)]
     wtm_at "qgo"
     first | refine ite_t (by decide) ?_ | rw [if_pos (by decide)]
     wtm_at "qgo"
     refine ⟨V.sub, ?_⟩
     obtain ⟨f1, f2, f3, f4⟩ := P.fnot (St z1 hz1)
     have hnot : m1.op = "not" → ∃ p, m1.args = [p] := fun hop => by
      rcases P.cases e1 with ⟨_, _, _, _, q⟩ | ⟨_, q⟩
      ·exact absurd hop q
      ·exact List.length_eq_one_iff.mp (q.args.2.2.2.2.1 hop)
     refine not_ok G' V.sub R' M (I.i.sub (pre := [(I0, ito), (ra, rangeOf 3 v1 v2 v3), (ca, oc), (fa, oF5), (ia, listOf vi.toArray ki), (ta, listOf vt.toArray kk)]) V) hb' hw1 e1 s1 hnot (by (first | lia | omega)) (made_inP (pre := [(I0, ito), (ra, rangeOf 3 v1 v2 v3), (ca, oc), (fa, oF5), (ia, listOf vi.toArray ki), (ta, listOf vt.toArray kk)]) V I M hb' Kb8 (by wtm_at "qmem") ?_)
     clear V I M; intro c2 kt2 u17 t17 h17 V I M _
     wtm_at "qst"; clear V; intro h18 t18 V
     wtm_at "qgo"
     repeat wtm_at "qkt"
     exact ⟨_, _, _, _, _, _, _, rfl, V, I, M, f1, f2, f3, f4⟩
    ·first | refine ite_f (by decide) ?_ | rw [if_neg (by decide)]
     wtm_at "qgo"
     first | refine ite_f (by decide) ?_ | rw [if_neg (by decide)]
     wtm_at "qgo"
     refine r_newlist V ?_; clear V; intro la h16 lo16 s16 V
     wtm_at "qgo"
     refine ⟨V.sub, ?_⟩
     have g1 : GoodT ts ⟨"and", [z1, z2], 0, .i 0⟩ := .inr (.inr (.inr (.inr (.inr (.inr ⟨z1, z2, rfl, St z1 hz1, St z2 hz2⟩)))))
     have hla : la ∉ C8 B := fun q => by
      obtain ⟨oo, eo, _⟩ := M.some8 la q
      exact (I.i.apart (pre := [(la, _), (I0, ito), (ra, rangeOf 3 v1 v2 v3), (ca, oc), (fa, oF5), (ia, listOf vi.toArray ki), (ta, listOf vt.toArray kk)]) V (by rw [eo]; rfl)).2 (.head _)
     refine and_ok G' V.sub R' M (I.i.sub (pre := [(la, _), (I0, ito), (ra, rangeOf 3 v1 v2 v3), (ca, oc), (fa, oF5), (ia, listOf vi.toArray ki), (ta, listOf vt.toArray kk)]) V) hb' ⟨_, _, (V.nw _ (.head _)).1, .cons hw1 (.cons hw2 .nil)⟩ hla e1 e2 s1 s2 (by (first | lia | omega)) (made_inP (pre := [(la, _), (I0, ito), (ra, rangeOf 3 v1 v2 v3), (ca, oc), (fa, oF5), (ia, listOf vi.toArray ki), (ta, listOf vt.toArray kk)]) V I M hb' Kb8 (by wtm_at "qmem") ?_)
     clear V I M; intro c2 kt2 u17 t17 h17 V I M _
     wtm_at "qst"; clear V; intro h18 t18 V
     wtm_at "qgo"
     repeat wtm_at "qkt"
     exact ⟨_, _, _, _, _, _, _, rfl, V.tail, I, M, (P.made g1).1, (P.made g1).2, mk_more _ _, mk_len _ _⟩
   clear V I M
   rintro _ ⟨h16, t16, c2, kt2, ts', mx, um, rfl, V, I, M, P', Sm, more, hlen⟩
   wtm_at "qgo"
   refine r_notinL V (.inl (by wtm_at "qmem")) Nt ?_
   wtm_at "qgo"
   by_cases q : mx ∈ tr
   ·first | refine ite_f (by first | exact q | simpa using q) ?_ | rw [if_neg (by first | exact q | simpa using q)]
    wtm_at "qgo"
    repeat wtm_at "qkt"
    exact ⟨_, _, _, _, rfl, V, _, _, _, _, _, _, _, _, rfl, rfl, oF5, sp1 + 1 + 1 + 1 + 1 + 1, c2, kt2, ts', vi, ki, inz, vt, kk, tr, rfl, I, M, P', by (first | lia | omega), F, by (first | lia | omega), Ni, fun x hx => (Si x hx).more more, Ti, by (first | lia | omega), Nt, fun x hx => (St x hx).more more, Tt, by (first | lia | omega)⟩
   ·first | refine ite_t (by first | exact q | simpa using q) ?_ | rw [if_pos (by first | exact q | simpa using q)]
    wtm_at "qgo"
    refine r_lmeth V (.inl (by wtm_at "qmem")) PySem.F.slot_list_append PySem.F.type_list_append ?_
    dsimp only
    refine r_cwm ?_
    wtm_at "qgo"
    refine r_appendL V (by wtm_at "qputs") (by have := Nt.length; (first | lia | omega)) ?_
    clear V; intro h17 V
    wtm_at "qgo"
    repeat wtm_at "qkt"
    refine ⟨_, _, _, _, rfl, V, _, _, _, _, _, _, _, _, rfl, rfl, oF5, sp1 + 1 + 1 + 1 + 1 + 1, c2, kt2, ts', vi, ki, inz, vt ++ [.int (mx : Nat) um], kk + 1, tr ++ [mx], rfl, I, M, P', by (first | lia | omega), F, by (first | lia | omega), Ni, fun x hx => (Si x hx).more more, Ti, by (first | lia | omega), Nt.snoc ⟨um, rfl⟩, ?_, ?_, by rw [List.length_append, List.length_singleton]; (first | lia | omega)⟩
    ·intro x hx
     rcases List.mem_append.mp hx with hx | hx
     ·exact (St x hx).more more
     ·rw [List.mem_singleton.mp hx]; exact Sm
    ·obtain ⟨rr, rfl⟩ := Tt
     exact ⟨rr ++ [mx], rfl⟩
  ·clear V P
   rintro h2 t2 l σ ⟨x1, x2, x3, x4, x5, x6, x7, σ', rfl, rfl, P⟩ V
   repeat wtm_at "qkt"
   exact ⟨_, _, _, _, _, _, _, _, _, _, rfl, V.tail, P⟩
 clear V P
 rintro _ ⟨h2, t2, σ, x1, x2, x3, x4, x5, x6, x7, rfl, V, P⟩
 wtm_at "qgo"
 refine r_newtuple V ?_; clear V; intro p1 h3 lo3 s3 V
 repeat wtm_at "qkt"
 exact k _ _ _ _ _ P V
end
end
section
theorem srt0 : ∀ x ∈ [3, 4, 5, 6, 7], Srt T0 1 x := fun x hx => by
 first | replace hx := in1 hx | replace hx := in2 hx | replace hx := in3 hx | replace hx := in4 hx | replace hx := in5 hx | simp only [List.mem_cons, List.not_mem_nil, or_false] at hx
 rcases hx with rfl | rfl | rfl | rfl | rfl <;> exact ⟨by decide, _, rfl, rfl⟩
theorem srt8 : ∀ x ∈ [8], Srt T0 0 x := fun x hx => by rw [List.mem_singleton.mp hx]; exact ⟨by decide, _, rfl, rfl⟩
section
variable {w : World} {b₀ b c h : Heap} {env : Env} {l : List (Str × Option Value)} {A : Around} {g : Array GenState} {d : Drawn} {t : Nat} {o : OsState} {B : BankL} {n : Nat} {Q : Value → Shared → Prop}
theorem pools_ok {fa cl : Addr} {oF : Obj} {sp : Nat} (G : Gd w b₀) (S : Sub b₀ h) (R : Rm A (n + 4)) (M : BankM w c B (T0.take 3) []) (Sc : Sub c h) (hb : ∀ a ∈ C8 B, b₀.get? a = none) (hF : h.get? fa = some oF) (hbf : b₀.get? fa = none) (hcf : c.get? fa = none) (hccl : c.get? cl = none) (F : FeedO w oF cl sp) (hc : CellsH h cl) (hs : sp ≤ 900)
  (k : ∀ r ia ta oF' sp' c' ts inz tr t' h', BankM w c' B ts F0 → Sub c' h' → NewTo c c' h → Kept (fa :: C8 B) h h' → h'.get? fa = some oF' → FeedO w oF' cl sp' → sp' ≤ sp + 24 → Pool ts → ts.length ≤ 15 → c'.get? r = some (tupOf [.ref ia, .ref ta]) → ListN c' ia inz → ListN c' ta tr →
   (∀ x ∈ inz, Srt ts 1 x) → (∃ r, inz = [3, 4, 5, 6, 7] ++ r) → inz.length ≤ 15 → (∀ x ∈ tr, Srt ts 0 x) → (∃ r, tr = 8 :: r) → tr.length ≤ 15 → Q (.ref r) ⟨h', g, d, t', o⟩) :
  wpAny (model PR w) A (call (.ref 463) [.ref fa, .ref B.x]) Q Never ⟨h, g, d, t, o⟩ := by
 refine pools_head G S R M Sc hb hF hbf hcf hccl F hc ?_
 intro b env h1 t1 ca oc ia ta vi ki vt kk c1 kt uf ug up G' e hcs hoc R' Kb8 hb' hfb J hcb V I M1 Ni Nt
 refine pools_tail G' e hcs hoc R' Kb8 hb' J hcb (by (first | lia | omega)) V ⟨oF, sp, c1, kt, T0, vi, ki, [3, 4, 5, 6, 7], vt, kk, [8], rfl, I, M1, Pool.init, by decide, F, Nat.le_refl _, Ni, srt0, ⟨[], rfl⟩, by decide, Nt, srt8, ⟨[], rfl⟩, by decide⟩ ?_
 rintro h2 t2 r l' σ' ⟨oF', sp', c2, kt2, ts, vi', ki', inz, vt', kk', tr, rfl, I2, M2, P, hts, F', hsp, Ni', Si, Ti, Li, Nt', St, Tt, Lt⟩ V2
 have er := (V2.nw _ (.head _)).1
 have ei := (V2.nw (ia, listOf vi'.toArray ki') (by wtm_at "qmem")).1
 have et := (V2.nw (ta, listOf vt'.toArray kk') (by wtm_at "qmem")).1
 have ef := (V2.nw (fa, oF') (by wtm_at "qmem")).1
 have I2s : Sub c2 h2 := I2.i.sub (pre := [(r, _), (ca, oc), (fa, oF'), (ia, _), (ta, _)]) V2
 have nd := V2.na
 have hK : Kept (fa :: C8 B) h h2 := fun a oo ea na => V2.sub _ _ (Kb8 a oo ea na)
 repeat wtm_at "qkt"
 refine k r ia ta oF' sp' (plus c2 h2 [r, ia, ta]) ts inz tr t2 h2 (M2.sub (plus_more I2s)) (plus_sub _ _ _) ?_ hK ef F' hsp P hts (plus_get (.inr (.head _)) er) ⟨_, _, plus_get (.inr (.tail _ (.head _))) ei, Ni'⟩ ⟨_, _, plus_get (.inr (.tail _ (.tail _ (.head _)))) et, Nt'⟩ Si Ti Li St Tt Lt
 intro a oo ea
 rcases plus_of ea with q | q
 ·obtain ⟨o1, e1⟩ := Option.isSome_iff_exists.mp q
  exact I2.n a o1 e1
 ·refine .inr ?_
  have hba : b.get? a = none ∧ a ≠ fa ∧ a ∉ C8 B := by
   have off : ∀ x ∈ [r, ia, ta], x ∉ C8 B := fun x hx q => by
    obtain ⟨o2, e2, _⟩ := M2.some8 x q
    refine (I2.i.apart (pre := [(r, _), (ca, oc), (fa, oF'), (ia, _), (ta, _)]) V2 (by rw [e2]; rfl)).2 ?_
    first | replace hx := in1 hx | replace hx := in2 hx | replace hx := in3 hx | replace hx := in4 hx | replace hx := in5 hx | simp only [List.mem_cons, List.not_mem_nil, or_false] at hx
    rcases hx with rfl | rfl | rfl <;> simp
   simp only [List.map_cons, List.nodup_cons, List.mem_cons, not_or] at nd
   refine ⟨?_, ?_, off a q⟩
   ·first | replace q := in1 q | replace q := in2 q | replace q := in3 q | replace q := in4 q | replace q := in5 q | simp only [List.mem_cons, List.not_mem_nil, or_false] at q
    rcases q with rfl | rfl | rfl
    ·exact (V2.nw _ (.head _)).2.2
    ·exact (V2.nw (a, listOf vi'.toArray ki') (by wtm_at "qmem")).2.2
    ·exact (V2.nw (a, listOf vt'.toArray kk') (by wtm_at "qmem")).2.2
   ·first | replace q := in1 q | replace q := in2 q | replace q := in3 q | replace q := in4 q | replace q := in5 q | simp only [List.mem_cons, List.not_mem_nil, or_false] at q
    rcases q with rfl | rfl | rfl
    ·exact nd.1.2.1
    ·exact fun z => nd.2.2.1.1 z.symm
    ·exact fun z => nd.2.2.1.2.1 z.symm
  cases ee : h.get? a with
  | none => rfl
  | some o1 =>
   exfalso
   have := Kb8 a o1 ee (by simp only [List.mem_cons, not_or]; exact ⟨hba.2.1, hba.2.2⟩)
   rw [hba.1] at this; cases this
theorem Fm.bankF {c c' h' : Heap} {ts : List Tm} {fs : List (List Nat × Nat)} {fa : Addr} {oF oF' : Obj} {pre pre' kt : List (Addr × Obj)} (V : Fm b env h l (pre ++ kt)) (I : InB c b kt) (M : BankM w c B ts fs) (hb : ∀ a ∈ C8 B, b.get? a = none) (U : PutS fa oF oF' pre pre')
  (S : Sub c' h') (N : NewTo c c' h) (K : Kept (fa :: C8 B) h h') (ef : h'.get? fa = some oF') : ∃ kt', Fm b env h' l (pre' ++ kt') ∧ InB c' b kt' := by
 have cs : ∀ a ∈ C8 B, (c.get? a).isSome = true := fun a ha => by obtain ⟨oo, e, _⟩ := M.some8 a ha; rw [e]; rfl
 have mf := V.nw _ (List.mem_append_left _ U.mem)
 have ndp : (pre.map (·.1)).Nodup := V.na.sublist (List.Sublist.map _ (List.sublist_append_left _ _))
 have V1 : Fm b env h' l pre' := V.step (C := fa :: C8 B) K (fun a ha => by
  rcases List.mem_cons.mp ha with rfl | ha
  ·exact ⟨mf.2.2, mf.2.1⟩
  ·exact ⟨hb a ha, (I.apart V (cs a ha)).1⟩) (fun p hp => by
  rcases U.old ndp p hp with rfl | ⟨q1, q2⟩
  ·exact .inr ⟨ef, mf.2.2, mf.2.1⟩
  ·exact .inl ⟨List.mem_append_left _ q1, fun q => by
    rcases List.mem_cons.mp q with q | q
    ·exact q2 q
    ·exact (I.apart V (cs _ q)).2 (List.mem_map_of_mem (f := (·.1)) q1)⟩) (by rw [U.names]; exact ndp)
 obtain ⟨kt', V2, hall⟩ := V1.all
 refine ⟨kt', V2, fun a oo e => ?_⟩
 have hne : a ≠ env.locals ∧ a ∉ pre'.map (·.1) := by
  rw [U.names]
  rcases N a oo e with q | q
  ·exact I.apart V q
  ·refine ⟨fun z => ?_, fun z => ?_⟩
   ·obtain ⟨m, F, _⟩ := V.fr
    obtain ⟨oL, _, _, hL, _⟩ := F.ns
    rw [z, hL] at q; cases q
   ·obtain ⟨p, hp, rfl⟩ := List.mem_map.mp z
    rw [(V.nw _ (List.mem_append_left _ hp)).1] at q; cases q
 exact hall a oo (S _ _ e) hne.1 hne.2
end
end
section
inductive Wi (kt : List (Addr × Obj)) : List (Addr × Obj) → Prop
 | all : Wi kt kt
 | here {r} : Wi kt (kt ++ r)
 | skip {p r} : Wi kt r → Wi kt (p :: r)
theorem Wi.mem {kt σ : List (Addr × Obj)} (x : Wi kt σ) : ∀ p ∈ kt, p ∈ σ := by
 induction x with
 | all => exact fun p h => h
 | here => exact fun p h => List.mem_append_left _ h
 | skip _ ih => exact fun p h => .tail _ (ih p h)
section
variable {w : World} {b c c' h h' : Heap} {env : Env} {l l' : List (Str × Option Value)} {σ σ' pre kt : List (Addr × Obj)} {ks : List (Str × NameKind)} {A : Around} {g : Array GenState} {d : Drawn} {t : Nat} {o : OsState} {n : Nat}
theorem InB.at (I : InB c b kt) (x : Wi kt σ) {a : Addr} {oo : Obj} (e : c.get? a = some oo) : At b σ a oo := (I a oo e).imp (fun m => x.mem _ m) id
theorem InB.in (I : InB c b kt) (x : Wi kt σ) (V : Fm b env h l σ) : Sub c h := fun a oo e => V.at (I.at x e)
theorem r_storeC {x : Str} {cx : Addr} {oc : Obj} {σ' : Obj → List (Addr × Obj)} {v : Value} {v₀ : Option Value} {Q : Unit → Shared → Prop} (e : Ev env ks) (V : Fm b env h l σ) (hk : (x, .cell) ∈ ks) (hc : env.cells.lookup x = some cx) (U : ∀ o', PutS cx oc o' σ (σ' o')) (ho : oc.data = .cell v₀)
  (k : ∀ o' h', o'.data = .cell (some v) → Fm b env h' l (σ' o') → Q () ⟨h', g, d, t, o⟩) : wpAny (model PR w) A (storeName env x v) Q Never ⟨h, g, d, t, o⟩ := by
 refine wpAny_storeName_cell e.fn (e.ks _ hk) hc ⟨oc, (V.nw _ (U oc).mem).1, ho⟩ ?_
 rintro h' ⟨o', e', ho'⟩ hs
 repeat wtm_at "qkt"
 exact k o' h' ho' (V.put (U o') (fun a oo ea na => (hs.2 a fun q => na (q ▸ .head _)).trans ea) e')
theorem Fm.frz (V : Fm b env h l (pre ++ kt)) (I : InB c b kt) (D : List Addr) (hD : ∀ a ∈ D, a ≠ env.locals ∧ a ∉ pre.map (·.1)) : ∃ kt', Fm b env h l (pre ++ kt') ∧ InB (plus c h D) b kt' := by
 obtain ⟨kt', V2, hall⟩ := (V.drop (List.sublist_append_left _ _) : Fm b env h l pre).all
 refine ⟨kt', V2, fun a oo e => ?_⟩
 have hne : a ≠ env.locals ∧ a ∉ pre.map (·.1) := by
  rcases plus_of e with q | q
  ·exact I.apart V q
  ·exact hD a q
 exact hall a oo (plus_sub _ _ _ _ _ e) hne.1 hne.2
theorem Fm.fresh (V : Fm b env h l σ) {a : Addr} (q : h.get? a = none) : a ≠ env.locals ∧ a ∉ σ.map (·.1) := by
 refine ⟨fun z => ?_, fun z => ?_⟩
 ·obtain ⟨m, F, _⟩ := V.fr
  obtain ⟨oL, _, _, hL, _⟩ := F.ns
  rw [z, hL] at q; cases q
 ·obtain ⟨p, hp, rfl⟩ := List.mem_map.mp z
  rw [(V.nw _ hp).1] at q; cases q
theorem Fm.base {a : Addr} (V : Fm b env h l σ) (q : h.get? a = none) : b.get? a = none := by
 cases e : b.get? a with
 | none => rfl
 | some oo => rw [V.sub _ _ e] at q; cases q
theorem r_fmeth {x C dx f : Addr} {fl : List (Str × Value)} {name : Str} {pl : Sem Bool} {Q : Value × List Value → Shared → Prop} (G : Gd w b) (V : Fm b env h l σ) (I : InB c b kt) (x' : Wi kt σ) (S : Self c x C dx fl) (P : Meth w C name f)
  (hl : fl.lookup name = none) (k : Q (.ref f, [.ref x]) ⟨h, g, d, t, o⟩) : wpAny (model PR w) A (getMethod (.ref x) name pl) Q Never ⟨h, g, d, t, o⟩ := by
 obtain ⟨es, m, ex, ed, E⟩ := S
 exact r_getmeth G V ⟨I.at x' ex, I.at x' ed⟩ P (by rw [E.getL, hl]) k
theorem slice40 (its : Array Value) : (slicePick its none (some 40) none).size ≤ 40 ∧ ∀ (i : Nat) (v : Value), (slicePick its none (some 40) none)[i]? = some v → v ∈ its.toList := by
 constructor
 ·unfold slicePick
  rw [List.size_toArray]
  refine Nat.le_trans (List.length_filterMap_le _ _) ?_
  refine sliceRange_length_le _ _ _ 40 (fun _ => ?_) (fun q => ?_)
  ·unfold sliceBounds; constructor <;> simp <;> (first | lia | omega)
  ·exact absurd (by unfold sliceBounds; simp) q
 ·intro i v hv
  have := Array.mem_of_getElem? hv
  unfold slicePick at this
  simp only [List.mem_toArray, List.mem_filterMap] at this
  obtain ⟨k, _, hk⟩ := this
  exact (Array.mem_def).mp (Array.mem_of_getElem? hk)
theorem r_listlist {a : Addr} {vs : Array Value} {k : Nat} {Q : Value → Shared → Prop} (V : Fm b env h l σ) (H : At b σ a (listOf vs k)) (hz : vs.size ≤ 1000000)
  (q : ∀ x k' h', h.objs.size ≤ x → Sub h h' → Fm b env h' l ((x, listOf vs k') :: σ) → Q (.ref x) ⟨h', g, d, t, o⟩) : wpAny (model PR w) A (call (.type "list") [.ref a]) Q Never ⟨h, g, d, t, o⟩ := by
 refine call_list_seq a (.inl rfl) (V.at H) rfl rfl (fun h' c' s e => ?_) (by rw [sizeLine_eq]; (first | lia | omega))
 exact q _ c' h' (Nat.le_refl _) s ((V.mono s).add V e (Nat.le_refl _))
end
section
variable {w : World} {b h : Heap} {env : Env} {l l' : List (Str × Option Value)} {σ : List (Addr × Obj)} {ks : List (Str × NameKind)} {A : Around} {g : Array GenState} {d : Drawn} {t : Nat} {o : OsState} {B : BankL} {ts : List Tm} {n : Nat} {Q : Value → Shared → Prop}
theorem new_closing_ok2 {tl : Addr} {terms : List Nat} (G : Gd w b) (V : Fm b env h l σ) (R : Rm A (n + 3)) (hT : ListN h tl terms) (hlen : terms.length ≤ 1000)
  (k : ∀ (C : ClL) oL t' h', C.tl = tl → Self h' C.c 72 C.dc (C.fields B) → h'.get? C.ld = some oL → NMap w IsN oL (onT terms id) 1000 → (∀ a ∈ [C.c, C.dc, C.ld], h.get? a = none) → Sub h h' → Q (.ref C.c) ⟨h', g, d, t', o⟩) : wpAny (model PR w) A (call (.ref 72) [.ref B.x, .ref tl]) Q Never ⟨h, g, d, t, o⟩ := by
 refine r_new (fI := 36) G V R (by kernel_rfl) (by kernel_rfl) (by kernel_rfl) ?_
 intro x dx h1 A' R1 hxd hfre s1 V1
 have hx1 := (V1.nw _ (.head _)).1
 have hd1 := V1.nw (dx, dictOf [] 0) (.tail _ (.head _))
 refine enterR fn36 [("self", .ref x), ("bank", .ref B.x), ("terms", .ref tl)] ["self", "bank", "terms"] ["t"] [("self", some (.ref x)), ("bank", some (.ref B.x)), ("terms", some (.ref tl)), ("t", none)] [(dx, dictOf [] 0)] G V1.sub R1 rfl rfl rfl rfl (by decide +kernel) (by decide +kernel) (by decide +kernel) (fun p hp => by rw [List.mem_singleton.mp hp]; exact ⟨hd1.1, hd1.2.2⟩) (by simp) (fun b2 env2 h2 t2 G2 Sb Sh Kb Lo Sh2 e V2 R2 => ?_)
 have hx2 : b2.get? x = some (instObj 72 dx) := Kb _ _ hx1 (by first | exact hxd | simpa using hxd)
 have hfr : Sub h b2 := fun a oo ea => Kb a oo (s1 _ _ ea) (by
  simp only [List.map_cons, List.map_nil, List.mem_singleton]
  exact (hfre _ _ ea).2)
 clear V V1
 wtm_at "qgo"
 refine r_setattr G2 V2 (.inr hx2) (fun o' => by wtm_at "qputs") DF.nil (so_bank w) rfl (by decide) ?_
 clear V2; intro od1 h3 t3 D1 V
 wtm_at "qgo"
 refine r_setattr G2 V (.inr hx2) (fun o' => by wtm_at "qputs") D1 (so_terms w) (by kernel_rfl) (Nat.le_of_ble_eq_true rfl) ?_
 clear V; intro od2 h4 t4 D2 V
 wtm_at "qgo"
 refine r_dict0 G2 V ?_; clear V; intro ld h5 lo5 s5 hld V
 wtm_at "qgo"
 refine r_setattr G2 V (.inr hx2) (fun o' => by wtm_at "qputs") D2 (so_least w) (by kernel_rfl) (Nat.le_of_ble_eq_true rfl) ?_
 clear V; intro od3 h6 t6 D3 V
 wtm_at "qgo"
 obtain ⟨vs, kv, et, nt⟩ := hT
 have et2 := hfr _ _ et
 have hsz : vs.size = terms.length := by rw [← nt.length]; simp
 have hI : Inst b2 [(dx, od3)] x 72 dx [] 0 → True := fun _ => trivial
 let Jx1 : Nat → List (Str × Option Value) → List (Addr × Obj) → Prop := fun i l σ => Ex2 fun oF y => Al3 (l = ([("self", some (.ref x)), ("bank", some (.ref B.x)), ("terms", some (.ref tl)), ("t", y)] : List (Str × Option Value))) (σ = [(ld, oF), (dx, od3)]) (NMap w IsN oF (onT (terms.take i) id) i)
 refine loop_list (vs := vs) R2.h V Jx1 ?_ ?_ ?_ ?_
 ·repeat wtm_at "qkt"
  exact ⟨_, _, rfl, rfl, (NMap.nil _ _).congr fun k => by simp [onT]⟩
 ·rintro i l σ _; exact ⟨kv, .inr et2⟩
 ·clear V
  rintro i tv it ito h7 t7 l σ hi ⟨oF, y, rfl, rfl, M2⟩ V
  obtain ⟨xx, hxx, hv⟩ := nt.back (by first | exact hi | simpa using hi)
  have hiz : i < 1000 := by have := (List.getElem?_eq_some_iff.mp hxx).1; (first | lia | omega)
  refine wpAny_assign_Name ?_
  wtm_at "qst"; clear V; intro h8 t8 V
  wtm_at "qgo"
  obtain ⟨es3, n3, rfl, E3⟩ := D3
  refine r_getattr G2 V (I := ⟨.inr hx2, .inl (by wtm_at "qmem")⟩) (pl_least w) (by rw [E3.getL]; rfl) rfl ?_
  intro t9
  wtm_at "qgo"
  refine r_setN V (fun o' => by wtm_at "qputs") M2 hv hv (by (first | lia | omega)) ?_
  clear V; intro oF2 h10 t10 M10 V _ _
  wtm_at "qgo"
  repeat wtm_at "qkt"
  refine ⟨_, _, _, _, rfl, V, oF2, _, rfl, rfl, ?_⟩
  refine (M10.le (by split <;> (first | lia | omega))).congr fun k => ?_
  rw [List.take_add_one, hxx]
  unfold setF onT
  by_cases hk : k = xx
  ·subst hk; simp
  ·simp [hk]
 ·clear V
  rintro h7 t7 l σ ⟨oF, y, rfl, rfl, M2⟩ V
  rw [List.take_of_length_le (by rw [hsz]; exact Nat.le_refl _)] at M2
  wtm_at "qgo"
  obtain ⟨es3, n3, rfl, E3⟩ := D3
  have el := V.nw (ld, oF) (by wtm_at "qmem")
  refine ⟨rfl, k ⟨x, dx, tl, ld⟩ oF t7 h7 rfl ⟨es3, n3, V.sub _ _ hx2, (V.nw (dx, dictOf es3 n3) (by wtm_at "qmem")).1, E3⟩ el.1 (M2.le (by (first | lia | omega))) (fun a ha => ?_) fun a oo ea => V.sub _ _ (hfr _ _ ea)⟩
  cases q : h.get? a with
  | none => rfl
  | some oo =>
   exfalso
   first | replace ha := in1 ha | replace ha := in2 ha | replace ha := in3 ha | replace ha := in4 ha | replace ha := in5 ha | simp only [List.mem_cons, List.not_mem_nil, or_false] at ha
   rcases ha with rfl | rfl | rfl
   ·exact (hfre _ _ q).1 rfl
   ·exact (hfre _ _ q).2 rfl
   ·have := hfr _ _ q; rw [el.2.2] at this; cases this
end
end
section
section
variable {w : World} {b h : Heap} {env : Env} {l l' : List (Str × Option Value)} {σ : List (Addr × Obj)} {ks : List (Str × NameKind)} {A : Around} {g : Array GenState} {d : Drawn} {t : Nat} {o : OsState}
theorem swappedC (e : Ev env ks) {x y : Str} {p1 p2 tp vp : Pos} {n m : Nat} {a c : Expr} (hx : env.kindOf x = some .cell) (hy : env.kindOf y = some .cell)
  (h1 : ([a, c].any fun | .Starred .. => true | _ => false) = false) : swappedStores [.Tuple [.Name x p1, .Name y p2] n tp] (.Tuple [a, c] m vp) env = pure none := by
 have hb : env.blockKind = .function := by unfold Env.blockKind; rw [e.fn]; rfl
 have hc : ((some NameKind.cell : Option NameKind) == some NameKind.local) = false := by decide
 unfold swappedStores
 simp only [hb, hx, hy, hc, List.length_cons, List.length_nil, List.filterMap_cons, List.filterMap_nil, Bool.false_and, Bool.or_false, Bool.true_or, Bool.not_true, bne_self_eq_false, Bool.false_eq_true, if_false, beq_self_eq_true]
 exact (if_neg fun q => Bool.false_ne_true (Eq.trans (Eq.symm h1) q)).trans rfl
theorem r_feed {e1 : Expr} {k1 k2 k3 : Nat} {p1 p2 p3 pos : Pos} {Q : Value → Shared → Prop} (V : Fm b env h l σ) (J : Addr → List (Addr × Obj) → Prop)
  (q1 : ∀ h₁ t₁ fd, Sub h h₁ → Fm b env h₁ l ((fd, dict0) :: σ) → wpAny (model PR w) A (eval e1 env) (fun v s₁ => Ex4 fun cl h₂ t₂ σ₂ => Al4 (v = .ref cl) (s₁ = ⟨h₂, g, d, t₂, o⟩) (Fm b env h₂ l ((fd, dict0) :: σ₂)) (J cl σ₂)) Never ⟨h₁, g, d, t₁, o⟩)
  (q2 : ∀ cl h₂ t₂ fd oF σ₂, J cl σ₂ → FeedO w oF cl 0 → Fm b env h₂ l ((fd, oF) :: σ₂) → Q (.ref fd) ⟨h₂, g, d, t₂, o⟩) :
  wpAny (model PR w) A (eval (.Dict [some (.Constant (.str "cells") k1 p1), some (.Constant (.str "spot") k2 p2)] [e1, .Constant (.int 0) k3 p3] pos) env) Q Never ⟨h, g, d, t, o⟩ := by
 refine wpAny_Dict_walk (s := ⟨h, g, d, t, o⟩) (knd := strKind PR w) rfl rfl (by simp) (by simp) ?_
 refine pairTrees_cons_walk ?_
 refine r_str fun u t1 => ?_
 refine wpAny_mono (q1 _ t1 _ (fun a oo ea => Heap.get?_push_of_some _ ea) (V.push dict0)) ?_ (fun _ _ f => f)
 rintro v s₁ ⟨cl, h₂, t₂, σ₂, rfl, rfl, V2, j⟩
 refine pairTrees_cons_walk ?_
 refine r_str fun u2 t3 => ?_
 refine r_int fun u3 t4 => ?_
 refine pairTrees_nil_walk ?_
 refine ⟨[("cells", .ref cl), ("spot", .int (0 : Nat) u3)], ⟨strKind_is _ _ _ _, rfl, strKind_is _ _ _ _, rfl, trivial⟩, Heap.dictOf_iff.mpr ⟨dict0, (V2.nw _ (.head _)).1, #[], 0, ⟨rfl, rfl, rfl⟩, rfl, fun _ he => by simp at he, Pairs.nil, List.nodup_nil⟩, fun h' hd hs => ?_⟩
 obtain ⟨oF, eF, DF⟩ := Heap.dictOf_iff.mp hd
 exact q2 cl h' _ _ oF σ₂ j ⟨u3, DF⟩ (V2.put .head (fun a oo ea na => (hs.2 a fun q => na (q ▸ .head _)).trans ea) eF)
end
structure LC (env : Env) (kf kb ki fa bx ia : Addr) (of' ob oi : Obj) : Prop where
 f : env.cells.lookup ("feed" : Str) = some kf
 b : env.cells.lookup ("bank" : Str) = some kb
 i : env.cells.lookup ("ints" : Str) = some ki
 of' : of'.data = .cell (some (.ref fa))
 ob : ob.data = .cell (some (.ref bx))
 oi : oi.data = .cell (some (.ref ia))
structure LS (w : World) (c : Heap) (B : BankL) (ts : List Tm) (cl ia ta : Addr) (inz tr : List Nat) : Prop where
 bank : BankR c B ts
 cells : CellsH c cl
 pool : Pool ts
 len : ts.length ≤ 15
 li : ListN c ia inz
 lt : ListN c ta tr
 si : ∀ x ∈ inz, Srt ts 1 x
 ti : ∃ r, inz = [3, 4, 5, 6, 7] ++ r
 zi : inz.length ≤ 15
 st : ∀ x ∈ tr, Srt ts 0 x
 tt : ∃ r, tr = 8 :: r
 zt : tr.length ≤ 15
theorem LS.sub {w : World} {c c' : Heap} {B : BankL} {ts : List Tm} {cl ia ta : Addr} {inz tr : List Nat} (L : LS w c B ts cl ia ta inz tr) (s : Sub c c') : LS w c' B ts cl ia ta inz tr :=
 ⟨L.bank.sub s, L.cells.sub s, L.pool, L.len, L.li.sub s, L.lt.sub s, L.si, L.ti, L.zi, L.st, L.tt, L.zt⟩
section
variable {w : World} {b h : Heap} {env : Env} {A : Around} {g : Array GenState} {d : Drawn} {t : Nat} {o : OsState} {n : Nat} {Q : Flow → Shared → Prop}
theorem law_a {sa kf kb ki : Addr} {of' ob oi oS : Obj} {vs : Array Value} (G : Gd w b) (e : Ev env fn494.fd.scope.names) (hf : env.cells.lookup ("feed" : Str) = some kf) (hbk : env.cells.lookup ("bank" : Str) = some kb) (hi : env.cells.lookup ("ints" : Str) = some ki) (R : Rm A (n + 20))
  (V : Fm b env h (LL sa N0 N0 N0 N0 N0 N0 N0 N0 N0 N0 N0 N0 N0 N0 N0 N0 N0) [(ki, oi), (kb, ob), (kf, of')]) (ho1 : of'.data = .cell none) (ho2 : ob.data = .cell none) (ho3 : oi.data = .cell none)
  (hS : b.get? sa = some oS) (LS' : LOf oS vs) (hI : ∀ v ∈ vs.toList, IsI v) (hz : vs.size ≤ 63)
  (k : ∀ h' t' fa cl ia ta B ts inz tr c kt of' ob oi oF sp, LC env kf kb ki fa B.x ia of' ob oi → LS w c B ts cl ia ta inz tr → InB c b kt → FeedO w oF cl sp → sp ≤ 24 → Fm b env h' (LL sa (some (.ref ta)) N0 N0 N0 N0 N0 N0 N0 N0 N0 N0 N0 N0 N0 N0 N0 N0) ((kf, of') :: (kb, ob) :: (ki, oi) :: (fa, oF) :: kt) →
   wpAny (model PR w) A (execs (body494.drop 2) env) Q Never ⟨h', g, d, t', o⟩) :
  wpAny (model PR w) A (execs body494 env) Q Never ⟨h, g, d, t, o⟩ := by
 show wpAny (model PR w) A (execs (_ :: _ :: _) env) Q Never ⟨h, g, d, t, o⟩
 repeat wtm_at "qkt"
 with_reducible refine r_cons ?_
 refine r_asgt ?_ (hw := swappedC e (e.ks _ (by decide +kernel : (("feed" : Str), NameKind.cell) ∈ fn494.fd.scope.names)) (e.ks _ (by decide +kernel : (("bank" : Str), NameKind.cell) ∈ fn494.fd.scope.names)) (by with_unfolding_all rfl))
 wtm_at "qgo"
 refine r_feed V (fun cl σ₂ => Ex2 fun vs k => Al3 (σ₂ = [(cl, listOf vs k), (ki, oi), (kb, ob), (kf, of')]) (vs.size ≤ 40) (∀ (i : Nat) (v : Value), vs[i]? = some v → IsI v)) ?_ ?_
 ·clear V
  intro h1 t1 fd s1 V
  wtm_at "qgo"; wtm_at "qbn"; wtm_at "qgo"
  refine r_slicel V (.inr hS) LS' .none (.int _ _) .none (by decide) (by (first | lia | omega)) ?_
  clear V; intro sl h2 V
  wtm_at "qgo"
  have s40 := slice40 vs
  refine r_listlist V (.inl (by wtm_at "qmem")) (by (first | lia | omega)) ?_
  clear V; intro cl k' h3 lo3 s3 V
  refine ⟨cl, h3, _, _, rfl, rfl, (V.drop (.cons_cons _ (.cons _ (.refl _))) : Fm b env h3 _ [(cl, _), (fd, dict0), (ki, oi), (kb, ob), (kf, of')]).perm (.swap _ _ _), _, k', rfl, s40.1, fun i v hv => hI v (s40.2 i v hv)⟩
 ·clear V
  rintro cl h1 t1 fa oF _ ⟨us, ku, rfl, hus, hUI⟩ F V
  wtm_at "qgo"
  wtm_at "qgl"
  wtm_at "qgo"
  refine new_bank_ok G V R ?_
  intro B c1 t2 h2 M S1 N1 s1
  have V2 := V.mono s1
  obtain ⟨kt, V3, hall⟩ := V2.all
  have I : InB c1 b kt := fun a oo ea => hall a oo (S1 _ _ ea) (V.fresh (N1 a oo ea)).1 (V.fresh (N1 a oo ea)).2
  have hb : ∀ a ∈ C8 B, b.get? a = none := fun a ha => by obtain ⟨oo, eo, _⟩ := M.some8 a ha; exact V.base (N1 _ _ eo)
  have off : ∀ p ∈ [(fa, oF), (cl, listOf us ku), (ki, oi), (kb, ob), (kf, of')], c1.get? p.1 = none := fun p hp => by
   cases q : c1.get? p.1 with
   | none => rfl
   | some oo => have := N1 _ _ q; rw [(V.nw p hp).1] at this; cases this
  have hcf : c1.get? fa = none := off (fa, oF) (.head _)
  have hccl : c1.get? cl = none := off (cl, listOf us ku) (.tail _ (.head _))
  clear V V2 off hall
  wtm_at "qgo"
  refine r_newtuple V3 ?_; clear V3; intro p1 h3 lo3 s3 V
  refine r_target2 R.h (V.nw _ (.head _)).1 ?_
  refine later fun h4 t4 s4 => ?_
  replace V : Fm b env h4 _ ((fa, oF) :: (cl, listOf us ku) :: (ki, oi) :: (kb, ob) :: (kf, of') :: kt) := (V.mono s4).tail
  refine r_storeC e V (by decide +kernel) hf (fun o' => by wtm_at "qputs") ho1 ?_
  clear V; intro of2 h5 ho1' V
  refine r_storeC e V (by decide +kernel) hbk (fun o' => by wtm_at "qputs") ho2 ?_
  clear V; intro ob2 h6 ho2' V
  wtm_at "qgo"
  refine r_asgt ?_
  wtm_at "qgo"; wtm_at "qgl"; wtm_at "qgo"
  refine ⟨V.sub, ?_⟩
  refine pools_ok G V.sub R M (I.sub (pre := [(fa, oF), (cl, listOf us ku), (ki, oi), (kb, ob2), (kf, of2)]) V) hb (V.nw (fa, oF) (by wtm_at "qmem")).1 (V.nw (fa, oF) (by wtm_at "qmem")).2.2 hcf hccl F ⟨us, ku, (V.nw (cl, listOf us ku) (by wtm_at "qmem")).1, hus, hUI⟩ (by (first | lia | omega)) ?_
  rintro r ia ta oF' sp' c2 ts inz tr t7 h7 M2 S2 N2 K2 ef F' hsp P hlen er hli hlt si ti zi st tt zt
  obtain ⟨kt2, V2, I2⟩ := V.bankF (pre := [(fa, oF), (cl, listOf us ku), (ki, oi), (kb, ob2), (kf, of2)]) (pre' := [(fa, oF'), (cl, listOf us ku), (ki, oi), (kb, ob2), (kf, of2)]) I M hb .head S2 N2 K2 ef
  clear V
  refine r_target2 R.h (S2 _ _ er) ?_
  refine later fun h8 t8 s8 => ?_
  have V : Fm b env h8 _ ((fa, oF') :: (cl, listOf us ku) :: (ki, oi) :: (kb, ob2) :: (kf, of2) :: kt2) := V2.mono s8
  refine r_storeC e V (by decide +kernel) hi (fun o' => by wtm_at "qputs") ho3 ?_
  clear V V2; intro oi2 h9 ho3' V
  wtm_at "qst"; clear V; intro h10 t10 V
  have V' : Fm b env h10 _ ((cl, listOf us ku) :: ([(kf, of2), (kb, ob2), (ki, oi2), (fa, oF')] ++ kt2)) :=
   V.perm (((List.reverse_perm [(fa, oF'), (cl, listOf us ku), (ki, oi2), (kb, ob2), (kf, of2)]).symm.trans (List.perm_middle (l₁ := [(kf, of2), (kb, ob2), (ki, oi2)]) (l₂ := [(fa, oF')]))).append_right kt2)
  obtain ⟨c3, V3, I3, M3, e3, s3⟩ := bank_plus V' I2 M2
  repeat wtm_at "qkt"
  exact k h10 _ fa cl ia ta B ts inz tr c3 _ of2 ob2 oi2 oF' sp' ⟨hf, hbk, hi, ho1', ho2', ho3'⟩ ⟨M3.r, ⟨us, ku, e3, hus, hUI⟩, P, hlen, hli.sub s3, hlt.sub s3, si, ti, zi, st, tt, zt⟩ I3 F' (by (first | lia | omega)) V3
end
end
section
local macro_rules | `(tactic| wtm_at "qwi") => `(tactic| with_reducible first | exact Wi.all | exact Wi.here | (refine Wi.skip ?_; wtm_at "qwi"))
section
variable {w : World} {b c h : Heap} {env : Env} {l : List (Str × Option Value)} {pre kt : List (Addr × Obj)}
theorem frz1 {a : Addr} {oo : Obj} (V : Fm b env h l ((a, oo) :: (pre ++ kt))) (I : InB c b kt) :
  ∃ c', Fm b env h l (pre ++ ((a, oo) :: kt)) ∧ InB c' b ((a, oo) :: kt) ∧ c'.get? a = some oo ∧ Sub c c' := by
 have V1 : Fm b env h l (pre ++ ([(a, oo)] ++ kt)) := Fm.give (mid := [(a, oo)]) V
 have V2 : Fm b env h l ([(a, oo)] ++ kt) := V1.drop (List.sublist_append_right _ _)
 exact ⟨plus c h [a], V1, I.plus (mid := [(a, oo)]) V2 (fun x hx => ⟨oo, by rw [List.mem_singleton.mp hx]; exact .head _⟩), plus_get (.inr (.head _)) (V.nw _ (.head _)).1, plus_more (I.sub V2)⟩
end
theorem builtOf_snoc {ts : List Tm} {F : List Nat} {x : Nat} : builtOf ts (F ++ [x]) = builtOf ts F ++ (if (tmAt ts x).args ≠ [] then [x] else []) := by
 unfold builtOf
 rw [List.filter_append]
 by_cases q : (tmAt ts x).args = [] <;> simp [q]
theorem closB {cells : List (Str × Addr)} {kb : Addr} (h : cells.lookup ("bank" : Str) = some kb) : closL cells [((".0" : Str), NameKind.local), (("t" : Str), NameKind.local), (("len" : Str), NameKind.globalImplicit), (("bank" : Str), NameKind.free)] [] = some [(("bank" : Str), kb)] := by
 show (match cells.lookup ("bank" : Str) with | some a => closL cells [] ((("bank" : Str), a) :: []) | none => none) = _
 rw [h]; rfl
section
variable {w : World} {b c h : Heap} {env : Env} {A : Around} {g : Array GenState} {d : Drawn} {t : Nat} {o : OsState} {n : Nat} {Q : Flow → Shared → Prop}
theorem law_c {sa kf kb ki fa cl ia ta : Addr} {of' ob oi oF : Obj} {B : BankL} {ts : List Tm} {inz tr : List Nat} {kt : List (Addr × Obj)} (G : Gd w b) (e : Ev env fn494.fd.scope.names) (R : Rm A (n + 20)) (C : LC env kf kb ki fa B.x ia of' ob oi) (L : LS w c B ts cl ia ta inz tr) (I : InB c b kt)
  (V : Fm b env h (LL sa (some (.ref ta)) N0 N0 N0 N0 N0 N0 N0 N0 N0 N0 N0 N0 N0 N0 N0 N0) ((kf, of') :: (kb, ob) :: (ki, oi) :: (fa, oF) :: kt))
  (k : ∀ h' t' tl bl F u1 u2 c' kt', LS w c' B ts cl ia ta inz tr → ListN c' tl F → ListN c' bl (builtOf ts F) → F.Nodup → (∀ x ∈ F, x < ts.length) → (∀ x ∈ F, ∀ a ∈ (tmAt ts x).args, a ∈ F) → (∀ r ∈ inz ++ tr ++ [1, 2], r ∈ F) → InB c' b kt' →
   Fm b env h' (LL sa (some (.ref ta)) (some (.int (1 : Nat) u1)) (some (.int (2 : Nat) u2)) (some (.ref tl)) N0 (some (.ref bl)) N0 N0 N0 N0 N0 N0 N0 N0 N0 N0 N0) ((kf, of') :: (kb, ob) :: (ki, oi) :: (fa, oF) :: kt') →
   wpAny (model PR w) A (execs (body494.drop 5) env) Q Never ⟨h', g, d, t', o⟩) :
  wpAny (model PR w) A (execs (body494.drop 2) env) Q Never ⟨h, g, d, t, o⟩ := by
 obtain ⟨hf, hbk, hi, ho1, ho2, ho3⟩ := C
 show wpAny (model PR w) A (execs (_ :: _ :: _) env) Q Never ⟨h, g, d, t, o⟩
 repeat wtm_at "qkt"
 refine r_consK fun _ _ => r_assign2 R.h e (by decide +kernel) (by decide +kernel) (by decide +kernel) ?_
 wtm_at "qgo"
 refine r_fmeth G V I (by wtm_at "qwi") L.bank.self (ml_true _) (by rfl) ?_
 dsimp only
 wtm_at "qgo"
 refine true_ok G V.sub R (L.bank.sub (I.in (by wtm_at "qwi") V)) ?_
 intro u1 t1 h1 s1
 replace V := V.mono s1
 wtm_at "qgo"
 refine r_fmeth G V I (by wtm_at "qwi") L.bank.self (ml_false _) (by rfl) ?_
 dsimp only
 wtm_at "qgo"
 refine false_ok G V.sub R (L.bank.sub (I.in (by wtm_at "qwi") V)) ?_
 intro u2 t2 h2 s2
 replace V := V.mono s2
 refine later fun h3 t3 s3 => ?_
 replace V := V.mono s3
 wtm_at "qst"; clear V; intro h4 t4 V
 wtm_at "qst"; clear V; intro h5 t5 V
 wtm_at "qgo"
 refine r_fmeth G V I (by wtm_at "qwi") L.bank.self (ml_parts _) (by rfl) ?_
 dsimp only
 wtm_at "qgo"
 obtain ⟨vi, ki', ei, Ni⟩ := L.li
 obtain ⟨vt, kt', et, Nt⟩ := L.lt
 have li := Ni.length
 have lt := Nt.length
 have zi := L.zi
 have zt := L.zt
 simp only [Array.length_toList] at li lt
 refine r_addL V (I.at (by wtm_at "qwi") ei) (.list _ _) (I.at (by wtm_at "qwi") et) (.list _ _) (by (first | lia | omega)) ?_
 clear V; intro la1 h6 V
 wtm_at "qgo"
 refine r_newlist V ?_; clear V; intro la2 h7 lo7 s7 V
 refine r_addL V (.inl (by wtm_at "qmem")) (.list _ _) (.inl (by wtm_at "qmem")) (.list _ _) (by simp; (first | lia | omega)) ?_
 clear V; intro la3 h8 V
 wtm_at "qgo"
 refine ⟨V.sub, ?_⟩
 refine parts_ok (W := Wx) (roots := inz ++ tr ++ [1, 2]) G V.sub R (L.bank.sub (I.in (by wtm_at "qwi") V)) ⟨_, _, (V.nw _ (.head _)).1, ?_⟩ (by have := L.len; (first | lia | omega)) (fun x hx a ha => (L.pool.argsLt x hx a ha).2) (fun x hx => by have := L.pool.args3 hx; (first | lia | omega)) Wx_one (fun x hx => L.pool.W hx) ?_ ?_
 ·simp only [Array.toList_append]
  exact (Ni.append Nt).append (.cons ⟨_, rfl⟩ (.cons ⟨_, rfl⟩ .nil))
 ·intro r hr
  have hlen := L.len
  have hpl := L.pool.len
  have hr' : r < ts.length := by
   rcases List.mem_append.mp hr with hr | hr
   ·rcases List.mem_append.mp hr with hr | hr
    ·exact (L.si r hr).lt
    ·exact (L.st r hr).lt
   ·first | replace hr := in1 hr | replace hr := in2 hr | replace hr := in3 hr | replace hr := in4 hr | replace hr := in5 hr | simp only [List.mem_cons, List.not_mem_nil, or_false] at hr
    rcases hr with rfl | rfl <;> (first | lia | omega)
  exact ⟨hr', Wx_small (by (first | lia | omega))⟩
 intro tl F t9 h9 hF nd lt cl hroots s9 hfo
 have hfr := V.fresh hfo
 have V9 : Fm b env h9 _ ((kf, of') :: (kb, ob) :: (ki, oi) :: (fa, oF) :: kt) := (V.mono s9).tail.tail.tail
 obtain ⟨kt2, V2, I2⟩ := V9.frz (pre := [(kf, of'), (kb, ob), (ki, oi), (fa, oF)]) I [tl] (fun a ha => by
  rw [List.mem_singleton.mp ha]
  refine ⟨hfr.1, fun q => hfr.2 ?_⟩
  first | exact List.mem_append_left _ q | (simp only [List.map_cons, List.map_nil, List.mem_cons, List.not_mem_nil, or_false] at q ⊢; rcases q with q | q | q | q <;> simp [q]))
 have sc := plus_more (D := [tl]) (I.sub (pre := [(kf, of'), (kb, ob), (ki, oi), (fa, oF)]) V9)
 have L2 := L.sub sc
 obtain ⟨vF, kF, eF, NF⟩ := hF
 have eF2 := plus_get (c := c) (D := [tl]) (.inr (.head _)) eF
 have BK := L2.bank
 generalize plus c h9 [tl] = c2 at *
 clear V V9 I
 have V : Fm b env h9 _ ((kf, of') :: (kb, ob) :: (ki, oi) :: (fa, oF) :: kt2) := V2
 clear V2
 wtm_at "qst"; clear V; intro h10 t10 V
 wtm_at "qgo"
 refine r_compA [("bank", kb)] e (by decide +kernel) (closB hbk) ?_
 wtm_at "qgo"
 have lF := NF.length
 have hFl : F.length ≤ ts.length := nodup_len _ _ nd lt
 have hts := L2.len
 simp only [Array.length_toList] at lF
 let Jx1 : Nat → List (Addr × Obj) → List Value → Prop := fun i σ vs => σ = (kf, of') :: (kb, ob) :: (ki, oi) :: (fa, oF) :: kt2 ∧ Nums vs (builtOf ts (F.take i))
 refine compit_list (us := vF) (k := kF) R.h e V (by (first | lia | omega)) Jx1 ⟨rfl, .nil⟩ ?_ ?_ (by decide +kernel) (by decide +kernel) ?_ ?_
 ·rintro i σ vs ⟨rfl, _⟩
  exact I2.at (by wtm_at "qwi") eF2
 ·rintro i σ vs ⟨rfl, N⟩
  have := N.length
  have h2 := List.length_filter_le (fun x => decide ((tmAt ts x).args ≠ [])) (F.take i)
  have h3 := List.length_take (i := i) (l := F)
  unfold builtOf at this; (first | lia | omega)
 ·clear V
  rintro i v cenv h11 t11 m11 oL L' D I' ito vs σ hi' ⟨rfl, N⟩ ec hcc V
  obtain ⟨x, hx, hv⟩ := NF.back (by first | exact hi' | simpa using hi')
  have hxt := lt x (List.mem_of_getElem? hx)
  obtain ⟨m, hm⟩ : ∃ m, ts[x]? = some m := ⟨_, List.getElem?_eq_getElem hxt⟩
  have htm := tmAt_of hm
  refine compTurn_test ?_
  have hce : cenv.cells.lookup ("bank" : Str) = some kb := by rw [hcc]; simp
  wtm_at "qgo"; wtm_at "qbn"; wtm_at "qgo"
  refine r_fmeth G V I2 (by wtm_at "qwi") BK.self (ml_args _) (by rfl) ?_
  dsimp only
  wtm_at "qgo"
  refine ⟨V.sub, ?_⟩
  refine args_ok G V.sub R (BK.sub (I2.in (by wtm_at "qwi") V)) hv hm (by (first | lia | omega)) ?_
  intro pa t12 h12 hpa s12
  replace V := V.mono s12
  obtain ⟨us, epa, Nus⟩ := hpa
  have lus := Nus.length
  have l3 := L2.pool.args3 hxt
  rw [htm] at l3
  wtm_at "qgo"
  refine r_lent (s12 _ _ epa) (by (first | lia | omega)) fun u13 t13 => ?_
  wtm_at "qgo"
  have hb : builtOf ts (F.take (i + 1)) = builtOf ts (F.take i) ++ (if (tmAt ts x).args ≠ [] then [x] else []) := by
   rw [List.take_add_one, hx]; exact builtOf_snoc
  rw [htm] at hb
  by_cases q : m.args = []
  ·have hl0 : us.length = 0 := by rw [lus, q]; rfl
   first | refine ite_f (by rw [hl0]; decide) ?_ | rw [if_neg (by rw [hl0]; decide)]
   repeat wtm_at "qkt"
   refine ⟨_, _, _, _, rfl, V, rfl, rfl, ?_⟩
   rw [hb, if_neg (fun z => z q), List.append_nil]
   exact N
  ·have hl0 : 0 < us.length := by rw [lus]; exact List.length_pos_iff.mpr q
   first | refine ite_t (by first | exact hl0 | simpa using hl0) ?_ | rw [if_pos (by first | exact hl0 | simpa using hl0)]
   wtm_at "qgo"
   repeat wtm_at "qkt"
   refine ⟨_, _, _, _, rfl, V, rfl, rfl, ?_⟩
   rw [hb, if_pos q]
   exact N.snoc hv
 ·clear V
  rintro D CC oC m11 h11 t11 vs σ mC hD ⟨rfl, N⟩ V hns hoC
  rw [List.take_of_length_le (by (first | lia | omega))] at N
  refine fin_store e V hns hoC (by decide +kernel) (by wtm_at "qput") ?_
  clear V hns hoC; intro h12 t12 V
  obtain ⟨c3, V3, I3, e3, s3⟩ := frz1 (pre := [(kf, of'), (kb, ob), (ki, oi), (fa, oF)]) V I2
  repeat wtm_at "qkt"
  exact k h12 _ tl D F u1 u2 c3 _ (L2.sub s3) ⟨_, _, s3 _ _ eF2, NF⟩ ⟨_, _, e3, N⟩ nd lt cl hroots I3 V3
end
end
local macro_rules | `(tactic| wtm_at "qwi") => `(tactic| with_reducible first | exact Wi.all | exact Wi.here | (refine Wi.skip ?_; wtm_at "qwi"))
section
section
variable {b c h : Heap} {env : Env} {l : List (Str × Option Value)} {σ : List (Addr × Obj)}
theorem Fm.plus1 (V : Fm b env h l σ) {a : Addr} {oo : Obj} (e : h.get? a = some oo) (hb : b.get? a = none) (hf : a ≠ env.locals ∧ a ∉ σ.map (·.1)) : Fm b env h l ((a, oo) :: σ) :=
 V.step (C := []) (fun _ _ e _ => e) (fun _ q => nomatch q) (fun p hp => by
  rcases List.mem_cons.mp hp with rfl | hp
  ·exact .inr ⟨e, hb, hf.1⟩
  ·exact .inl ⟨hp, fun q => nomatch q⟩) (by rw [List.map_cons]; exact List.nodup_cons.mpr ⟨hf.2, V.na⟩)
end
theorem idx_at {F : List Nat} (nd : F.Nodup) {i x : Nat} (h : F[i]? = some x) : F.idxOf x = i := by
 obtain ⟨hi, rfl⟩ := List.getElem?_eq_some_iff.mp h
 exact nd.idxOf_getElem i hi
theorem idx_get {F : List Nat} {x : Nat} (h : x ∈ F) : F[F.idxOf x]? = some x := by
 rw [List.getElem?_eq_getElem (List.idxOf_lt_length_of_mem h), List.getElem_idxOf]
theorem gok0 {F : List Nat} (nd : F.Nodup) (hz : F.length ≤ 1000) : GOk F (fun x => F.idxOf x) (F.map fun x => [x]) where
 lt := fun x hx => by rw [List.length_map]; exact List.idxOf_lt_length_of_mem hx
 mem := fun k l hk t => by
  rw [List.getElem?_map] at hk
  cases q : F[k]? with
  | none => rw [q] at hk; cases hk
  | some y =>
   rw [q] at hk; cases hk
   have := idx_at nd q
   constructor
   ·intro h; rw [List.mem_singleton.mp h]; exact ⟨List.mem_of_getElem? q, this⟩
   ·rintro ⟨h1, h2⟩
    have h3 := idx_get h1
    rw [h2, q] at h3; cases h3; exact .head _
 tot := by
  rw [List.map_map]
  have : ∀ l : List Nat, (l.map (List.length ∘ fun x => [x])).sum = l.length := fun l => by
   induction l with
   | nil => rfl
   | cons a r ih => rw [List.map_cons, List.sum_cons, ih]; simp; (first | lia | omega)
  rw [this]; exact hz
 len := by rw [List.length_map]; exact hz
theorem kh0 (ts : List Tm) {F : List Nat} : KH ts F [] (fun x => F.idxOf x) where
 snd := fun x hx y hy h => by
  have h1 := idx_get hx
  have h2 := idx_get hy
  dsimp only at h
  rw [h, h2] at h1; cases h1
  exact (Cl.cc ts F []).rf _
 pr := fun _ h => nomatch h
structure LG (w : World) (b c : Heap) (B : BankL) (ts : List Tm) (F : List Nat) (C : ClL) (bl ha ga : Addr) (oL oH oG : Obj) (cc hm : Nat → Nat) (gs : List (List Nat)) (ktG : List (Addr × Obj)) : Prop where
 cls : Cls c C B ts F
 bl : ListN c bl (builtOf ts F)
 M : NMap w IsN oL (onT F cc) 1000
 N : NMap w IsN oH (onT F hm) 1000
 K : GroupsL [ha, ga] b ktG oG gs
 O : GOk F hm gs
structure LF (ts : List Tm) (F inz tr : List Nat) : Prop where
 nd : F.Nodup
 lt : ∀ x ∈ F, x < ts.length
 cl : ∀ x ∈ F, ∀ a ∈ (tmAt ts x).args, a ∈ F
 rt : ∀ r ∈ inz ++ tr ++ [1, 2], r ∈ F
section
variable {w : World} {b c h : Heap} {env : Env} {A : Around} {g : Array GenState} {d : Drawn} {t : Nat} {o : OsState} {n : Nat} {Q : Flow → Shared → Prop}
theorem law_d {sa kf kb ki fa cl ia ta tl bl : Addr} {of' ob oi oF : Obj} {B : BankL} {ts : List Tm} {inz tr F : List Nat} {kt : List (Addr × Obj)} {y1 y2 : Option Value} (G : Gd w b) (e : Ev env fn494.fd.scope.names) (R : Rm A (n + 20)) (C0 : LC env kf kb ki fa B.x ia of' ob oi) (L : LS w c B ts cl ia ta inz tr) (hT : ListN c tl F) (hB : ListN c bl (builtOf ts F)) (LFs : LF ts F inz tr) (I : InB c b kt)
  (V : Fm b env h (LL sa (some (.ref ta)) y1 y2 (some (.ref tl)) N0 (some (.ref bl)) N0 N0 N0 N0 N0 N0 N0 N0 N0 N0 N0) ((kf, of') :: (kb, ob) :: (ki, oi) :: (fa, oF) :: kt))
  (k : ∀ h' t' (C : ClL) ha ga oL oH oG gs ktG c' kt' y3, LS w c' B ts cl ia ta inz tr → C.tl = tl → LG w b c' B ts F C bl ha ga oL oH oG id (fun x => F.idxOf x) gs ktG → InB c' b kt' →
   Fm b env h' (LL sa (some (.ref ta)) y1 y2 (some (.ref tl)) y3 (some (.ref bl)) (some (.ref C.c)) (some (.ref ga)) (some (.ref ha)) N0 N0 N0 N0 N0 N0 N0 N0) ((kf, of') :: (kb, ob) :: (ki, oi) :: (fa, oF) :: (C.ld, oL) :: (kt' ++ (ha, oH) :: (ga, oG) :: ktG)) →
   wpAny (model PR w) A (execs (body494.drop 7) env) Q Never ⟨h', g, d, t', o⟩) :
  wpAny (model PR w) A (execs (body494.drop 5) env) Q Never ⟨h, g, d, t, o⟩ := by
 obtain ⟨hf, hbk, hi, ho1, ho2, ho3⟩ := C0
 obtain ⟨vF, kF, eF, NF⟩ := hT
 have lF := NF.length
 have hFl : F.length ≤ ts.length := nodup_len _ _ LFs.nd LFs.lt
 have hts := L.len
 simp only [Array.length_toList] at lF
 show wpAny (model PR w) A (execs (_ :: _ :: _) env) Q Never ⟨h, g, d, t, o⟩
 repeat wtm_at "qkt"
 refine r_consK fun _ _ => r_assign3 R.h e (by decide +kernel) (by decide +kernel) (by decide +kernel) (by decide +kernel) (by decide +kernel) (by decide +kernel) ?_
 wtm_at "qgo"; wtm_at "qgl"; wtm_at "qgo"
 refine ⟨V.sub, ?_⟩
 have Sc : Sub c h := I.in (by wtm_at "qwi") V
 refine new_closing_ok2 (B := B) (tl := tl) (terms := F) G V R ⟨vF, kF, Sc _ _ eF, NF⟩ (by (first | lia | omega)) ?_
 intro C oL t1 h1 hC SC eL ML hnew s1
 have fr := fun a ha => V.fresh (hnew a ha)
 have bs := fun a ha => V.base (hnew a ha)
 have V1 := (V.mono s1).plus1 eL (bs C.ld mem2) (fr C.ld mem2)
 have off := SC.off eL ML
 obtain ⟨kt2, V2, I2⟩ := V1.frz (pre := [(C.ld, oL), (kf, of'), (kb, ob), (ki, oi), (fa, oF)]) I [C.c, C.dc] (fun a ha => by
  have ha' : a ∈ [C.c, C.dc, C.ld] := List.mem_append_left [C.ld] ha
  refine ⟨(fr a ha').1, fun q => ?_⟩
  rcases List.mem_cons.mp q with q | q
  ·first | replace ha := in1 ha | replace ha := in2 ha | replace ha := in3 ha | replace ha := in4 ha | replace ha := in5 ha | simp only [List.mem_cons, List.not_mem_nil, or_false] at ha
   rcases ha with rfl | rfl
   ·exact off.1 (List.mem_singleton.mpr q)
   ·exact off.2 (List.mem_singleton.mpr q)
  ·refine (fr a ha').2 ?_
   first | exact List.mem_append_left _ q | (simp only [List.map_cons, List.map_nil, List.mem_cons, List.not_mem_nil, or_false] at q ⊢; rcases q with q | q | q | q <;> simp [q]))
 have sc := plus_more (D := [C.c, C.dc]) (I.sub (pre := [(C.ld, oL), (kf, of'), (kb, ob), (ki, oi), (fa, oF)]) V1)
 have SC2 : Self (plus c h1 [C.c, C.dc]) C.c 72 C.dc (C.fields B) := by
  obtain ⟨es, m, ex, ed, E⟩ := SC
  exact ⟨es, m, plus_get (.inr (.head _)) ex, plus_get (.inr (.tail _ (.head _))) ed, E⟩
 have L2 := L.sub sc
 have eF2 := sc _ _ eF
 have hB2 := hB.sub sc
 generalize plus c h1 [C.c, C.dc] = c2 at *
 clear V V1 I
 have V : Fm b env h1 _ ((kf, of') :: (kb, ob) :: (ki, oi) :: (fa, oF) :: (C.ld, oL) :: kt2) := V2.perm (List.perm_middle (l₁ := [(kf, of'), (kb, ob), (ki, oi), (fa, oF)]) (l₂ := kt2)).symm
 clear V2
 wtm_at "qgo"
 refine r_newlist V ?_; clear V; intro ga h2 lo2 s2 V
 refine r_dict0 G V ?_; clear V; intro ha h3 lo3 s3 hhs V
 refine later fun h4 t4 s4 => ?_
 replace V := V.mono s4
 wtm_at "qst"; clear V; intro h5 t5 V
 wtm_at "qst"; clear V; intro h6 t6 V
 wtm_at "qst"; clear V; intro h7 t7 V
 have hne : ha ≠ ga := fun q => V.ne _ (.head _) q.symm
 replace V : Fm b env h7 _ ((kf, of') :: (kb, ob) :: (ki, oi) :: (fa, oF) :: (C.ld, oL) :: (ga, listOf [].toArray 0) :: (ha, dict0) :: ([] ++ kt2)) := V.perm ((List.Perm.swap _ _ _).trans (List.perm_append_comm_assoc [(ga, _), (ha, _)] [(kf, of'), (kb, ob), (ki, oi), (fa, oF), (C.ld, oL)] kt2))
 wtm_at "qgo"
 let Jx1 : Nat → List (Str × Option Value) → List (Addr × Obj) → Prop := fun i l σ => Ex5 fun y3 gv kg ktG oH => Al4 (l = LL sa (some (.ref ta)) y1 y2 (some (.ref tl)) y3 (some (.ref bl)) (some (.ref C.c)) (some (.ref ga)) (some (.ref ha)) N0 N0 N0 N0 N0 N0 N0 N0) (σ = (kf, of') :: (kb, ob) :: (ki, oi) :: (fa, oF) :: (C.ld, oL) :: (ga, listOf (gv : List Value).toArray kg) :: (ha, oH) :: (ktG ++ kt2)) (NMap w IsN oH (onT (F.take i) (fun x => F.idxOf x)) i) (All2 (fun v l => ∃ a us k, v = .ref a ∧ Nums us.toList l ∧ (a, listOf us k) ∈ ktG) gv ((F.take i).map fun x => [x]))
 refine loop_list (vs := vF) R.h V Jx1 ⟨_, [], 0, [], dict0, rfl, rfl, (NMap.nil _ _).congr fun k => by simp [onT], .nil⟩ ?_ ?_ ?_
 ·rintro i l σ ⟨y3, gv, kg, ktG, oH, rfl, rfl, _⟩
  exact ⟨kF, (I2 _ _ eF2).imp (fun q => by simp [q]) id⟩
 ·clear V
  rintro i tv it ito h8 t8 l σ hi' ⟨y3, gv, kg, ktG, oH, rfl, rfl, N, HG⟩ V
  obtain ⟨x, hx, hv⟩ := NF.back (by first | exact hi' | simpa using hi')
  have hiF : i < F.length := (List.getElem?_eq_some_iff.mp hx).1
  have lgv : gv.length = i := by have := HG.length; rw [List.length_map, List.length_take] at this; (first | lia | omega)
  have htk : F.take (i + 1) = F.take i ++ [x] := by rw [List.take_add_one, hx]; rfl
  refine wpAny_assign_Name ?_
  wtm_at "qst"; clear V; intro h9 t9 V
  wtm_at "qgo"; wtm_at "qbn"; wtm_at "qgo"
  refine r_lenl (V.at (.inl (by wtm_at "qmem"))) (by rw [List.size_toArray]; (first | lia | omega)) fun u10 t10 => ?_
  wtm_at "qgo"
  refine r_setN (y := i) V (fun o' => by wtm_at "qputs") N hv ⟨u10, by rw [List.size_toArray, lgv]⟩ (by (first | lia | omega)) ?_
  clear V; intro oH2 h11 t11 N2 V _ _
  wtm_at "qgo"
  refine r_lmeth V (.inl (by wtm_at "qmem")) PySem.F.slot_list_append PySem.F.type_list_append ?_
  dsimp only
  refine r_cwm ?_
  wtm_at "qgo"
  refine r_newlist V ?_; clear V; intro na h12 lo12 s12 V
  wtm_at "qgo"
  refine r_appendL V (by wtm_at "qputs") (by (first | lia | omega)) ?_
  clear V; intro h13 V
  wtm_at "qgo"
  have V' : Fm b env h13 _ ((it, ito) :: (kf, of') :: (kb, ob) :: (ki, oi) :: (fa, oF) :: (C.ld, oL) :: (ga, listOf (gv ++ [Value.ref na]).toArray (kg + 1)) :: (ha, oH2) :: (((na, listOf [tv].toArray 0) :: ktG) ++ kt2)) := V.perm (List.perm_middle (l₁ := [(it, ito), (kf, of'), (kb, ob), (ki, oi), (fa, oF), (C.ld, oL), (ga, _), (ha, oH2)]) (l₂ := ktG ++ kt2)).symm
  repeat wtm_at "qkt"
  refine ⟨_, _, _, _, rfl, V', _, gv ++ [.ref na], kg + 1, _, oH2, rfl, rfl, ?_, ?_⟩
  ·refine (N2.le (by split <;> (first | lia | omega))).congr fun k => ?_
   rw [htk]
   unfold setF onT
   by_cases hk : k = x
   ·subst hk; rw [if_pos rfl, if_pos (by simp)]; show some i = some (F.idxOf k); rw [idx_at LFs.nd hx]
   ·simp [hk]
  ·rw [htk, List.map_append]
   exact (HG.mono fun v l ⟨a, us, k, e1, e2, e3⟩ => ⟨a, us, k, e1, e2, .tail _ e3⟩).snoc ⟨na, _, _, rfl, .cons hv .nil, .head _⟩
 ·clear V
  rintro h8 t8 l σ ⟨y3, gv, kg, ktG, oH, rfl, rfl, N, HG⟩ V
  rw [List.take_of_length_le (by (first | lia | omega))] at N HG
  have hfin : ∀ a oo, (a, oo) ∈ ktG → a ∉ [ha, ga] := fun a oo hm q => by
   have nd := V.na
   simp only [List.map_cons, List.nodup_cons, List.mem_cons, List.map_append, List.mem_append, not_or] at nd
   have hm' : a ∈ ktG.map (·.1) := List.mem_map_of_mem (f := (·.1)) hm
   first | replace q := in1 q | replace q := in2 q | replace q := in3 q | replace q := in4 q | replace q := in5 q | simp only [List.mem_cons, List.not_mem_nil, or_false] at q
   rcases q with rfl | rfl
   ·exact nd.2.2.2.2.2.2.1.1 hm'
   ·exact nd.2.2.2.2.2.1.2.1 hm'
  have K : GroupsL [ha, ga] b ktG (listOf gv.toArray kg) (F.map fun x => [x]) := ⟨gv.toArray, .list _ _, HG.mono fun v l ⟨a, us, k, e1, e2, e3⟩ => ⟨a, us, k, e1, hfin a _ e3, e2, .inl e3⟩⟩
  have V' : Fm b env h8 _ ((kf, of') :: (kb, ob) :: (ki, oi) :: (fa, oF) :: (C.ld, oL) :: (kt2 ++ (ha, oH) :: (ga, listOf gv.toArray kg) :: ktG)) := V.perm (.cons _ (.cons _ (.cons _ (.cons _ (.cons _ ((List.Perm.swap _ _ _).trans (List.perm_append_comm (l₁ := (ha, oH) :: (ga, _) :: ktG) (l₂ := kt2))))))))
  repeat wtm_at "qkt"
  exact k h8 t8 C ha ga oL oH _ _ ktG c2 kt2 _ L2 hC ⟨⟨SC2, L2.bank, hC ▸ ⟨vF, kF, eF2, NF⟩⟩, hB2, ML, N.le (by (first | lia | omega)), K, gok0 LFs.nd (by (first | lia | omega))⟩ I2 V'
end
end
section
section
variable {w : World} {b c h : Heap} {env : Env} {l : List (Str × Option Value)} {A : Around} {g : Array GenState} {d : Drawn} {t : Nat} {o : OsState} {B : BankL} {ts : List Tm} {n : Nat} {X : List Addr} {ga ha : Addr} {oG oH : Obj} {terms : List Nat} {hm : Nat → Nat} {gs : List (List Nat)} {z : Nat} {pre kt ktG : List (Addr × Obj)}
theorem frzM {E R : List (Addr × Obj)} {a : Addr} {oo : Obj} (V : Fm b env h l ((a, oo) :: (E ++ (kt ++ R)))) (I : InB c b kt) :
  ∃ c', Fm b env h l (E ++ (((a, oo) :: kt) ++ R)) ∧ InB c' b ((a, oo) :: kt) ∧ c'.get? a = some oo ∧ Sub c c' := by
 have V1 : Fm b env h l (E ++ (((a, oo) :: kt) ++ R)) := V.perm (List.perm_middle (l₁ := E) (l₂ := kt ++ R)).symm
 have V2 : Fm b env h l ([(a, oo)] ++ kt) := V1.drop ((List.sublist_append_left _ _).trans (List.sublist_append_right _ _))
 exact ⟨plus c h [a], V1, I.plus (mid := [(a, oo)]) V2 (fun x hx => ⟨oo, by rw [List.mem_singleton.mp hx]; exact .head _⟩), plus_get (.inr (.head _)) (V.nw _ (.head _)).1, plus_more (I.sub V2)⟩
theorem off_ha {a : Addr} {oo : Obj} {R : List (Addr × Obj)} (V : Fm b env h l (pre ++ R)) (I : InB c b kt) (x : ∀ p ∈ kt, p ∈ pre) (m : (a, oo) ∈ R) : c.get? a = none := by
 cases e : c.get? a with
 | none => rfl
 | some o1 =>
  exfalso
  rcases I _ _ e with q | q
  ·have na := V.na
   rw [List.map_append] at na
   exact (List.nodup_append.mp na).2.2 _ (List.mem_map_of_mem (f := (·.1)) (x _ q)) _ (List.mem_map_of_mem (f := (·.1)) m) rfl
  ·have := (V.nw _ (List.mem_append_right _ m)).2.2
   dsimp only at this
   rw [this] at q; cases q
theorem closed_in {Q : Value → Shared → Prop} {bl : Addr} {built : List Nat} (W : WfT ts terms) (BO : BuiltOk ts terms built) (hbl : built.length ≤ 1000) (G : Gd w b) (R : Rm A (n + 7)) (V : Fm b env h l (pre ++ (ha, oH) :: (ga, oG) :: ktG)) (I : InB c b kt) (x : ∀ p ∈ kt, p ∈ pre) (hX : ∀ c ∈ X, (b.get? c).isSome = true ∨ c = ha ∨ c = ga) (BK : BankR c B ts) (hT : ListN c bl built) (M : NMap w IsN oH (onT terms hm) z) (hz : z ≤ 1000) (K : GroupsL X b ktG oG gs) (O : GOk terms hm gs)
  (k : ∀ oH' oG' gs' hm' kt' t' h', HCloseR ts built hm hm' → Fm b env h' l (pre ++ (ha, oH') :: (ga, oG') :: kt') → NMap w IsN oH' (onT terms hm') z → GroupsL X b kt' oG' gs' → GOk terms hm' gs' → Q .none ⟨h', g, d, t', o⟩) :
  wpAny (model PR w) A (call (.ref 482) [.ref B.x, .ref ga, .ref ha, .ref bl]) Q Never ⟨h, g, d, t, o⟩ := by
 have m1 := V.nw (ha, oH) (List.mem_append_right _ (.head _))
 have m2 := V.nw (ga, oG) (List.mem_append_right _ (.tail _ (.head _)))
 have na := V.na
 rw [List.map_append, List.map_cons, List.map_cons] at na
 have n2 := (List.nodup_append.mp na).2.1
 rw [List.nodup_cons] at n2
 have hne' : ha ≠ ga := fun e => n2.1 (e ▸ .head _)
 have V' : Fm b env h l ((pre ++ [(ha, oH), (ga, oG)]) ++ ktG) := by rw [List.append_assoc]; exact V
 have KH := K.toH V'
 have Sc : Sub c h := fun a oo ea => V.at ((I a oo ea).imp (fun m => List.mem_append_left _ (x _ m)) id)
 refine closed_ok (cc := c) (X := env.locals :: (pre ++ [(ha, oH), (ga, oG)]).map (·.1) ++ X) (z := z) W BO hbl G V.sub R m1.1 m2.1 m1.2.2 m2.2.2 hne' ?_ ?_ ?_ BK hT Sc (off_ha V I x (.head _)) (off_ha V I x (.tail _ (.head _))) M hz KH O ?_
 ·refine V.isSome fun c hc => ?_
  rw [List.cons_append, List.mem_cons, List.mem_append] at hc
  rcases hc with q | q | q
  ·exact .inr (.inr q)
  ·refine .inr (.inl ?_)
   rw [List.map_append] at q ⊢
   rcases List.mem_append.mp q with q | q
   ·exact List.mem_append_left _ q
   ·refine List.mem_append_right _ ?_
    simp only [List.map_cons, List.map_nil, List.mem_cons, List.not_mem_nil, or_false] at q ⊢
    rcases q with q | q
    ·exact .inl q
    ·exact .inr (.inl q)
  ·rcases hX c q with q | q | q
   ·exact .inl q
   ·exact .inr (.inl (by rw [q, List.map_append]; exact List.mem_append_right _ (.head _)))
   ·exact .inr (.inl (by rw [q, List.map_append]; exact List.mem_append_right _ (.tail _ (.head _))))
 ·simp
 ·simp
 ·intro oH' oG' gs' hm' t' h' HR M' K' O' s e1 e2
  obtain ⟨kt', V3, K3⟩ := V.tied (X := X) (gs := gs') s e1 e2 (by simpa using K')
  repeat wtm_at "qkt"
  exact k oH' oG' gs' hm' kt' t' h' HR V3 M' K3 O'
end
structure KK (ts : List Tm) (F : List Nat) (P : List (Nat × Nat)) (cc hm : Nat → Nat) : Prop where
 c : KC ts F P cc
 h : KH ts F P hm
 q : ∀ x ∈ F, ∀ y ∈ F, (cc x = cc y ↔ hm x = hm y)
theorem kk0 (ts : List Tm) {F : List Nat} : KK ts F [] id (fun x => F.idxOf x) := ⟨KC.init ts F, kh0 ts, fun x hx y hy => by
 constructor
 ·rintro rfl; rfl
 ·intro h
  have h1 := idx_get hx
  have h2 := idx_get hy
  rw [h, h2] at h1; cases h1; rfl⟩
theorem KK.next {ts : List Tm} {F : List Nat} {P : List (Nat × Nat)} {cc hm c' hm' : Nat → Nat} (W : WfS ts F) (B : BuiltOk ts F (builtOf ts F)) (K : KK ts F P cc hm) {x y : Nat} (hx : x ∈ F) (hy : y ∈ F) (R1 : CloseR ts F (joinC cc x y) c') (R2 : HCloseR ts (builtOf ts F) (tie hm x y) hm') :
  KK ts F (P ++ [(x, y)]) c' hm' ∧ ClsOf ts F (P ++ [(x, y)]) hm' := by
 obtain ⟨k1, k2⟩ := (K.c.join hx hy).close W R1
 obtain ⟨k3, k4⟩ := (K.h.tie hx hy).close W.toWfT B built_all R2
 exact ⟨⟨k1, k3, k2.same k4⟩, k4⟩
end
section
theorem LG.sub {w : World} {b c c' : Heap} {B : BankL} {ts : List Tm} {F : List Nat} {C : ClL} {bl ha ga : Addr} {oL oH oG : Obj} {cc hm : Nat → Nat} {gs : List (List Nat)} {ktG : List (Addr × Obj)} (X : LG w b c B ts F C bl ha ga oL oH oG cc hm gs ktG) (s : Sub c c') : LG w b c' B ts F C bl ha ga oL oH oG cc hm gs ktG :=
 ⟨X.cls.sub s, X.bl.sub s, X.M, X.N, X.K, X.O⟩
noncomputable def EIn (w : World) (b : Heap) (sa ta tl bl cl ia ha ga pl kf kb ki fa : Addr) (of' ob oi : Obj) (B : BankL) (C : ClL) (ts : List Tm) (inz tr F : List Nat) (y1 y2 : Option Value) (i : Nat) (l : List (Str × Option Value)) (σ : List (Addr × Obj)) : Prop :=
 Ex19 fun c kt oF sp oL oH oG cc hm gs ktG pv kp P z1 z2 z3 z4 z5 => Al11 (l = LL sa (some (.ref ta)) y1 y2 (some (.ref tl)) z1 (some (.ref bl)) (some (.ref C.c)) (some (.ref ga)) (some (.ref ha)) (some (.ref pl)) z2 z3 z4 z5 N0 N0 N0) (σ = (pl, listOf (pv : List Value).toArray kp) :: (kf, of') :: (kb, ob) :: (ki, oi) :: (fa, oF) :: (C.ld, oL) :: (kt ++ (ha, oH) :: (ga, oG) :: ktG)) (LS w c B ts cl ia ta inz tr) (LG w b c B ts F C bl ha ga oL oH oG cc hm gs ktG) (InB c b kt) (FeedO w oF cl sp) (sp ≤ 25 + 3 * i) (All2 (IsPr c) pv P) (P.length ≤ i) (KK ts F P cc hm) ((0 < i → ClsOf ts F P hm))
section
variable {w : World} {b c h : Heap} {env : Env} {A : Around} {g : Array GenState} {d : Drawn} {t : Nat} {o : OsState} {n : Nat} {Q : Flow → Shared → Prop}
theorem law_e {sa kf kb ki fa cl ia ta tl bl ha ga : Addr} {of' ob oi oF oL oH oG : Obj} {B : BankL} {C : ClL} {ts : List Tm} {inz tr F : List Nat} {gs : List (List Nat)} {kt ktG : List (Addr × Obj)} {sp : Nat} {u1 u2 : Tok} {y3 : Option Value} (G : Gd w b) (e : Ev env fn494.fd.scope.names) (R : Rm A (n + 20)) (C0 : LC env kf kb ki fa B.x ia of' ob oi) (L : LS w c B ts cl ia ta inz tr) (hC : C.tl = tl) (LFs : LF ts F inz tr) (X : LG w b c B ts F C bl ha ga oL oH oG id (fun x => F.idxOf x) gs ktG) (I : InB c b kt) (Fe : FeedO w oF cl sp) (hsp : sp ≤ 24)
  (V : Fm b env h (LL sa (some (.ref ta)) (some (.int (1 : Nat) u1)) (some (.int (2 : Nat) u2)) (some (.ref tl)) y3 (some (.ref bl)) (some (.ref C.c)) (some (.ref ga)) (some (.ref ha)) N0 N0 N0 N0 N0 N0 N0 N0) ((kf, of') :: (kb, ob) :: (ki, oi) :: (fa, oF) :: (C.ld, oL) :: (kt ++ (ha, oH) :: (ga, oG) :: ktG)))
  (k : ∀ h' t' pl i l σ, 0 < i → i ≤ 5 → EIn w b sa ta tl bl cl ia ha ga pl kf kb ki fa of' ob oi B C ts inz tr F (some (.int (1 : Nat) u1)) (some (.int (2 : Nat) u2)) i l σ → Fm b env h' l σ → wpAny (model PR w) A (execs (body494.drop 9) env) Q Never ⟨h', g, d, t', o⟩) :
  wpAny (model PR w) A (execs (body494.drop 7) env) Q Never ⟨h, g, d, t, o⟩ := by
 have C00 := C0
 obtain ⟨hf, hbk, hi, ho1, ho2, ho3⟩ := C0
 have hFl : F.length ≤ ts.length := nodup_len _ _ LFs.nd LFs.lt
 have hts := L.len
 have P0 := L.pool
 have m1 : 1 ∈ F := LFs.rt 1 (by simp)
 have m2 : 2 ∈ F := LFs.rt 2 (by simp)
 have W : WfS ts F := P0.wf hts LFs.nd LFs.lt LFs.cl m1 m2
 have BO : BuiltOk ts F (builtOf ts F) := P0.built LFs.lt
 have hbz : (builtOf ts F).length ≤ 1000 := by
  have := List.length_filter_le (fun x => decide ((tmAt ts x).args ≠ [])) F
  unfold builtOf; (first | lia | omega)
 have iF : ∀ x ∈ inz, x ∈ F := fun x hx => LFs.rt x (List.mem_append_left _ (List.mem_append_left _ hx))
 have tF : ∀ x ∈ tr, x ∈ F := fun x hx => LFs.rt x (List.mem_append_left _ (List.mem_append_right _ hx))
 show wpAny (model PR w) A (execs (_ :: _ :: _) env) Q Never ⟨h, g, d, t, o⟩
 wtm_at "qgo"
 refine r_newlist V ?_; clear V; intro pl h1 lo1 s1 V
 wtm_at "qst"; clear V; intro h2 t2 V
 let Jx1 : Shared → Prop := fun s => Ex5 fun h t i l σ => Al5 (s = ⟨h, g, d, t, o⟩) (0 < i) (i ≤ 5) (Fm b env h l σ) (EIn w b sa ta tl bl cl ia ha ga pl kf kb ki fa of' ob oi B C ts inz tr F (some (.int (1 : Nat) u1)) (some (.int (2 : Nat) u2)) i l σ)
 repeat wtm_at "qkt"
 refine r_consJK Jx1 (fun _ _ => ?_) ?_
 ·wtm_at "qgo"; wtm_at "qbn"; wtm_at "qgo"; wtm_at "qgl"; wtm_at "qgo"
  refine ⟨V.sub, ?_⟩
  refine draw_in (wd := 4) G R V (fun o' => by wtm_at "qputs") Fe ((L.cells).sub (I.in (by wtm_at "qwi") V)) (by (first | lia | omega)) (by decide) ?_
  clear V Fe; intro oF1 r u3 t3 h3 hr Fe V
  wtm_at "qgo"
  rw [show ((2 : Int) + (r : Nat)) = ((2 + r : Nat) : Int) from by (first | lia | omega)]
  refine r_range V ?_; clear V; intro ra h4 t4 v1 v2 v3 lo4 s4 V
  wtm_at "qgo"
  let Jx2 : Nat → List (Str × Option Value) → List (Addr × Obj) → Prop := fun i l σ => ∃ σ', σ = (ra, rangeOf (2 + r) v1 v2 v3) :: σ' ∧ EIn w b sa ta tl bl cl ia ha ga pl kf kb ki fa of' ob oi B C ts inz tr F (some (.int (1 : Nat) u1)) (some (.int (2 : Nat) u2)) i l σ'
  refine loop_range (n := 2 + r) R.h V (.inl (by wtm_at "qmem")) (by (first | lia | omega)) Jx2 ?_ ?_ ?_
  ·repeat wtm_at "qkt"
   exact ⟨_, rfl, c, kt, oF1, sp + 1, oL, oH, oG, id, _, gs, ktG, [], 0, [], _, _, _, _, _, rfl, rfl, L, X, I, Fe, by (first | lia | omega), .nil, Nat.le_refl _, kk0 ts, fun q => absurd q (by decide)⟩
  ·clear V L X I Fe
   rintro i ui I0 ito h5 t5 l σ hi5 ⟨_, rfl, c, kt, oF, sp, oL, oH, oG, cc, hm, gs, ktG, pv, kp, P, z1, z2, z3, z4, z5, rfl, rfl, L, X, I, Fe, hsp, HP, hP, KKs, _⟩ V
   refine wpAny_assign_Name ?_
   wtm_at "qst"; clear V; intro h6 t6 V
   let Jx3 : Shared → Prop := fun s => Ex7 fun h t c kt oF sa' S => Al11 (s = ⟨h, g, d, t, o⟩) (Fm b env h (LL sa (some (.ref ta)) (some (.int (1 : Nat) u1)) (some (.int (2 : Nat) u2)) (some (.ref tl)) z1 (some (.ref bl)) (some (.ref C.c)) (some (.ref ga)) (some (.ref ha)) (some (.ref pl)) (some (.int (i : Nat) ui)) (some (.ref sa')) z4 z5 N0 N0 N0)
     ((I0, ito) :: (ra, rangeOf (2 + r) v1 v2 v3) :: (pl, listOf (pv : List Value).toArray kp) :: (kf, of') :: (kb, ob) :: (ki, oi) :: (fa, oF) :: (C.ld, oL) :: (kt ++ (ha, oH) :: (ga, oG) :: ktG))) (LS w c B ts cl ia ta inz tr) (LG w b c B ts F C bl ha ga oL oH oG cc hm gs ktG) (InB c b kt) (FeedO w oF cl (sp + 1)) (All2 (IsPr c) pv P) (ListN c sa' S) (S ≠ []) (S.length ≤ 20) (∀ x ∈ S, x ∈ F)
   repeat wtm_at "qkt"
   refine r_consJK Jx3 (fun _ _ => ?_) ?_
   ·wtm_at "qgo"; wtm_at "qgl"; wtm_at "qgo"
    refine ⟨V.sub, ?_⟩
    refine draw_in (wd := 3) G R V (fun o' => by wtm_at "qputs") Fe ((L.cells).sub (I.in (by wtm_at "qwi") V)) (by (first | lia | omega)) (by decide) ?_
    clear V Fe; intro oF1 rr u7 t7 h7 hrr Fe V
    wtm_at "qgo"
    by_cases q : rr = 0
    ·first | refine ite_t (by simp [q]) ?_ | rw [if_pos (by simp [q])]
     obtain ⟨vt, kt', et, Nt⟩ := L.lt
     have lt := Nt.length
     have zt := L.zt
     simp only [Array.length_toList] at lt
     wtm_at "qgo"
     refine r_newlist V ?_; clear V; intro la2 h8 lo8 s8 V
     refine r_addL V (I.at (by wtm_at "qwi") et) (.list _ _) (.inl (by wtm_at "qmem")) (.list _ _) (by simp; (first | lia | omega)) ?_
     clear V; intro la3 h9 V
     wtm_at "qst"; clear V; intro h10 t10 V
     replace V : Fm b env h10 _ ((la3, _) :: ([(I0, ito), (ra, rangeOf (2 + r) v1 v2 v3), (pl, listOf (pv : List Value).toArray kp), (kf, of'), (kb, ob), (ki, oi), (fa, oF1), (C.ld, oL)] ++ (kt ++ (ha, oH) :: (ga, oG) :: ktG))) := V.drop (.cons_cons _ (.cons _ (.refl _)))
     obtain ⟨c2, V2, I2, e2, s2⟩ := frzM V I
     repeat wtm_at "qkt"
     refine ⟨_, _, c2, _, oF1, la3, tr ++ [1, 2], rfl, V2, L.sub s2, X.sub s2, I2, Fe, HP.mono fun _ _ q => q.sub s2, ⟨_, _, e2, ?_⟩, by simp, by simp; (first | lia | omega), fun x hx => ?_⟩
     ·simp only [Array.toList_append]
      exact Nt.append (.cons ⟨_, rfl⟩ (.cons ⟨_, rfl⟩ .nil))
     ·rcases List.mem_append.mp hx with hx | hx
      ·exact tF x hx
      ·exact LFs.rt x (List.mem_append_right _ hx)
    ·first | refine ite_f (by simp; (first | lia | omega)) ?_ | rw [if_neg (by simp; (first | lia | omega))]
     wtm_at "qgo"
     wtm_at "qst"; clear V; intro h8 t8 V
     have hti := L.ti
     repeat wtm_at "qkt"
     exact ⟨_, _, c, kt, oF1, ia, inz, rfl, V, L, X, I, Fe, HP, L.li, by obtain ⟨q, rfl⟩ := hti; simp, by have := L.zi; (first | lia | omega), iF⟩
   ·clear V L X I Fe HP
    rintro _ ⟨h7, t7, c, kt, oF, sa', S, rfl, V, L, X, I, Fe, HP, ⟨vS, kS, eS, NS⟩, hS0, hS20, hSF⟩
    have hX : ∀ c ∈ [ha, ga], (b.get? c).isSome = true ∨ c = ha ∨ c = ga := fun c hc => .inr (by first | exact hc | simpa using hc)
    repeat wtm_at "qkt"
    refine r_consK fun _ _ => r_assign2 R.h e (by decide +kernel) (by decide +kernel) (by decide +kernel) ?_
    wtm_at "qgo"; wtm_at "qgl"; wtm_at "qgo"
    refine ⟨V.sub, ?_⟩
    refine pick_in (ns := S) G R V (fun o' => by wtm_at "qputs") Fe ((L.cells).sub (I.in (by wtm_at "qwi") V)) (by (first | lia | omega)) (I.at (by wtm_at "qwi") eS) NS hS0 (by (first | lia | omega)) ?_
    clear V Fe; intro oF2 x vx t8 h8 hvx hx Fe V
    wtm_at "qgo"; wtm_at "qgl"; wtm_at "qgo"
    refine ⟨V.sub, ?_⟩
    refine pick_in (ns := S) G R V (fun o' => by wtm_at "qputs") Fe ((L.cells).sub (I.in (by wtm_at "qwi") V)) (by (first | lia | omega)) (I.at (by wtm_at "qwi") eS) NS hS0 (by (first | lia | omega)) ?_
    clear V Fe; intro oF3 y vy t9 h9 hvy hy Fe V
    refine later fun h10 t10 s10 => ?_
    replace V := V.mono s10
    wtm_at "qst"; clear V; intro h11 t11 V
    wtm_at "qst"; clear V; intro h12 t12 V
    have hxF := hSF x hx
    have hyF := hSF y hy
    wtm_at "qgo"
    refine r_lmeth V (.inl (by wtm_at "qmem")) PySem.F.slot_list_append PySem.F.type_list_append ?_
    dsimp only
    refine r_cwm ?_
    wtm_at "qgo"
    refine r_newtuple V ?_; clear V; intro pp h13 lo13 s13 V
    wtm_at "qgo"
    refine r_appendL V (by wtm_at "qputs") (by have := HP.length; (first | lia | omega)) ?_
    clear V; intro h14 V
    obtain ⟨c2, V2, I2, e2, s2⟩ := frzM (E := [(I0, ito), (ra, rangeOf (2 + r) v1 v2 v3), (pl, listOf (pv ++ [Value.ref pp]).toArray (kp + 1)), (kf, of'), (kb, ob), (ki, oi), (fa, oF3), (C.ld, oL)]) V I
    have L2 := L.sub s2
    have X2 := X.sub s2
    have HP2 : All2 (IsPr c2) (pv ++ [Value.ref pp]) (P ++ [(x, y)]) := (HP.mono fun _ _ q => q.sub s2).snoc ⟨pp, rfl, _, e2, .cons hvx (.cons hvy .nil)⟩
    clear V I L X HP
    generalize hkt : (pp, tupOf [vx, vy]) :: kt = kt2 at V2 I2
    have V : Fm b env h14 _ ((I0, ito) :: (ra, rangeOf (2 + r) v1 v2 v3) :: (pl, listOf (pv ++ [Value.ref pp]).toArray (kp + 1)) :: (kf, of') :: (kb, ob) :: (ki, oi) :: (fa, oF3) :: (C.ld, oL) :: (kt2 ++ (ha, oH) :: (ga, oG) :: ktG)) := V2
    clear V2
    wtm_at "qgo"
    refine r_fmeth G V I2 (by wtm_at "qwi") X2.cls.self (ml_join _) (by rfl) ?_
    dsimp only
    wtm_at "qgo"
    refine ⟨V.sub, ?_⟩
    refine join_ok G V.sub R (X2.cls.sub (I2.in (by wtm_at "qwi") V)) (V.nw (C.ld, oL) (by wtm_at "qmem")).1 (V.nw (C.ld, oL) (by wtm_at "qmem")).2.2 X2.M (Nat.le_refl _) hvx hvy hxF hyF ?_
    intro oL2 t15 h15 M2 kp15 ek15
    have V1 := V.put (by wtm_at "qputs" : PutS C.ld oL oL2 _ ((I0, ito) :: (ra, rangeOf (2 + r) v1 v2 v3) :: (pl, listOf (pv ++ [Value.ref pp]).toArray (kp + 1)) :: (kf, of') :: (kb, ob) :: (ki, oi) :: (fa, oF3) :: (C.ld, oL2) :: (kt2 ++ (ha, oH) :: (ga, oG) :: ktG))) kp15 ek15
    clear V; have V := V1; clear V1
    wtm_at "qgo"; wtm_at "qgl"; wtm_at "qgo"
    refine ⟨V.sub, ?_⟩
    refine tied_in (X := [ha, ga]) (pre := (I0, ito) :: (ra, rangeOf (2 + r) v1 v2 v3) :: (pl, listOf (pv ++ [Value.ref pp]).toArray (kp + 1)) :: (kf, of') :: (kb, ob) :: (ki, oi) :: (fa, oF3) :: (C.ld, oL2) :: kt2) (kt := ktG) G R V hX X2.N (Nat.le_refl _) X2.K X2.O hvx hvy hxF hyF ?_
    clear V; intro oH2 oG2 ktG2 t16 h16 V N2 K2 O2
    replace V : Fm b env h16 _ ((I0, ito) :: (ra, rangeOf (2 + r) v1 v2 v3) :: (pl, listOf (pv ++ [Value.ref pp]).toArray (kp + 1)) :: (kf, of') :: (kb, ob) :: (ki, oi) :: (fa, oF3) :: (C.ld, oL2) :: (kt2 ++ (ha, oH2) :: (ga, oG2) :: ktG2)) := V
    wtm_at "qgo"
    have hbb : (cc x != cc y) = (hm x != hm y) := by unfold bne; rw [beq_of_iff (KKs.q x hxF y hyF)]
    rw [hbb, if_neg (by simp)]
    wtm_at "qgo"
    refine r_fmeth G V I2 (by wtm_at "qwi") X2.cls.self (ml_close _) (by rfl) ?_
    dsimp only
    wtm_at "qgo"
    refine close_ok W.toWfT G V.sub R (X2.cls.sub (I2.in (by wtm_at "qwi") V)) (V.nw (C.ld, oL2) (by wtm_at "qmem")).1 (V.nw (C.ld, oL2) (by wtm_at "qmem")).2.2 M2 (Nat.le_refl _) ?_
    intro oL3 c' t17 h17 CR M3 kp17 ek17
    have V1 := V.put (by wtm_at "qputs" : PutS C.ld oL2 oL3 _ ((I0, ito) :: (ra, rangeOf (2 + r) v1 v2 v3) :: (pl, listOf (pv ++ [Value.ref pp]).toArray (kp + 1)) :: (kf, of') :: (kb, ob) :: (ki, oi) :: (fa, oF3) :: (C.ld, oL3) :: (kt2 ++ (ha, oH2) :: (ga, oG2) :: ktG2))) kp17 ek17
    clear V; have V := V1; clear V1
    wtm_at "qgo"; wtm_at "qgl"; wtm_at "qgo"
    refine ⟨V.sub, ?_⟩
    refine closed_in (X := [ha, ga]) (kt := kt2) (pre := (I0, ito) :: (ra, rangeOf (2 + r) v1 v2 v3) :: (pl, listOf (pv ++ [Value.ref pp]).toArray (kp + 1)) :: (kf, of') :: (kb, ob) :: (ki, oi) :: (fa, oF3) :: (C.ld, oL3) :: kt2) (ktG := ktG2) W.toWfT BO hbz G R V I2 (fun p hp => by simp [hp]) hX L2.bank X2.bl N2 (Nat.le_refl _) K2 O2 ?_
    clear V; intro oH3 oG3 gs3 hm' ktG3 t18 h18 HR V N3 K3 O3
    replace V : Fm b env h18 _ ((I0, ito) :: (ra, rangeOf (2 + r) v1 v2 v3) :: (pl, listOf (pv ++ [Value.ref pp]).toArray (kp + 1)) :: (kf, of') :: (kb, ob) :: (ki, oi) :: (fa, oF3) :: (C.ld, oL3) :: (kt2 ++ (ha, oH3) :: (ga, oG3) :: ktG3)) := V
    obtain ⟨KK2, CO⟩ := KKs.next W BO hxF hyF CR HR
    have hha : At b ((I0, ito) :: (ra, rangeOf (2 + r) v1 v2 v3) :: (pl, listOf (pv ++ [Value.ref pp]).toArray (kp + 1)) :: (kf, of') :: (kb, ob) :: (ki, oi) :: (fa, oF3) :: (C.ld, oL3) :: (kt2 ++ (ha, oH3) :: (ga, oG3) :: ktG3)) ha oH3 := .inl (by simp)
    wtm_at "qgo"; wtm_at "qgl"; wtm_at "qgo"
    refine ⟨V.sub, ?_⟩
    refine alike_ok W.toWfT G V.sub R (X2.cls.sub (I2.in (by wtm_at "qwi") V)) (V.nw (C.ld, oL3) (by wtm_at "qmem")).1 M3 ((hC ▸ X2.cls.terms : ListN c2 tl F).sub (I2.in (by wtm_at "qwi") V)) (V.at hha) N3 KK2.q ?_
    intro t19 h19 s19
    replace V := V.mono s19
    wtm_at "qgo"
    first | refine ite_f (by simp) ?_ | rw [if_neg (by simp)]
    wtm_at "qgo"
    repeat wtm_at "qkt"
    exact ⟨_, _, _, _, rfl, V, _, rfl, c2, kt2, oF3, sp + 1 + 1 + 1, oL3, oH3, oG3, c', hm', gs3, ktG3, pv ++ [.ref pp], kp + 1, P ++ [(x, y)], _, _, _, _, _, rfl, rfl, L2, ⟨X2.cls, X2.bl, M3, N3, K3, O3⟩, I2, Fe, by (first | lia | omega), HP2, by rw [List.length_append, List.length_singleton]; (first | lia | omega), KK2, fun _ => CO⟩
  ·clear V L X I Fe
   rintro h5 t5 l σ ⟨_, rfl, E⟩ V
   repeat wtm_at "qkt"
   exact ⟨_, _, 2 + r, l, _, rfl, by (first | lia | omega), by (first | lia | omega), V.tail, E⟩
 ·clear V
  rintro _ ⟨h5, t5, i, l, σ, rfl, hi0, hi5, V, E⟩
  repeat wtm_at "qkt"
  exact k h5 t5 pl i l σ hi0 hi5 E V
end
end
section
theorem closA {cells : List (Str × Addr)} {kf ki : Addr} (h : cells.lookup ("feed" : Str) = some kf) (h' : cells.lookup ("ints" : Str) = some ki) : closL cells [((".0" : Str), NameKind.local), (("lap" : Str), NameKind.local), (("_law_pick" : Str), NameKind.globalImplicit), (("feed" : Str), NameKind.free), (("ints" : Str), NameKind.free)] [] = some [(("ints" : Str), ki), (("feed" : Str), kf)] := by
 show (match cells.lookup ("feed" : Str) with | some a => closL cells [(("ints" : Str), NameKind.free)] ((("feed" : Str), a) :: []) | none => none) = _
 rw [h]
 show (match cells.lookup ("ints" : Str) with | some a => closL cells [] ((("ints" : Str), a) :: [(("feed" : Str), kf)]) | none => none) = _
 rw [h']; rfl
section
variable {w : World} {b h : Heap} {env : Env} {A : Around} {g : Array GenState} {d : Drawn} {t : Nat} {o : OsState} {n : Nat} {Q : Flow → Shared → Prop}
theorem law_f {sa kf kb ki fa cl ia ta tl bl ha ga pl : Addr} {of' ob oi : Obj} {B : BankL} {C : ClL} {ts : List Tm} {inz tr F : List Nat} {u1 u2 : Tok} {i0 : Nat} {l : List (Str × Option Value)} {σ : List (Addr × Obj)} (G : Gd w b) (e : Ev env fn494.fd.scope.names) (R : Rm A (n + 20)) (C0 : LC env kf kb ki fa B.x ia of' ob oi) (hC : C.tl = tl) (LFs : LF ts F inz tr) (hi0 : 0 < i0) (hi5 : i0 ≤ 5)
  (E : EIn w b sa ta tl bl cl ia ha ga pl kf kb ki fa of' ob oi B C ts inz tr F (some (.int (1 : Nat) u1)) (some (.int (2 : Nat) u2)) i0 l σ) (V : Fm b env h l σ)
  (k : ∀ h' t' c kt oF oL oH cc hm pv kp P z1 z2 z3 z4 z5 z6 z7, Fm b env h' (LL sa (some (.ref ta)) (some (.int (1 : Nat) u1)) (some (.int (2 : Nat) u2)) (some (.ref tl)) z1 (some (.ref bl)) (some (.ref C.c)) (some (.ref ga)) (some (.ref ha)) (some (.ref pl)) z2 z3 z4 z5 z6 z7 N0)
    ((pl, listOf (pv : List Value).toArray kp) :: (kf, of') :: (kb, ob) :: (ki, oi) :: (fa, oF) :: (C.ld, oL) :: (ha, oH) :: kt) →
   LS w c B ts cl ia ta inz tr → Cls c C B ts F → NMap w IsN oL (onT F cc) 1000 → NMap w IsN oH (onT F hm) 1000 → InB c b kt → All2 (IsPr c) pv P → P.length ≤ 5 → KK ts F P cc hm → ClsOf ts F P hm →
   wpAny (model PR w) A (execs (body494.drop 13) env) Q Never ⟨h', g, d, t', o⟩) :
  wpAny (model PR w) A (execs (body494.drop 9) env) Q Never ⟨h, g, d, t, o⟩ := by
 obtain ⟨hf, hbk, hi, ho1, ho2, ho3⟩ := C0
 obtain ⟨c, kt, oF, sp, oL, oH, oG, cc, hm, gs, ktG, pv, kp, P, z1, z2, z3, z4, z5, rfl, rfl, L, X, I, Fe, hsp, HP, hP, KKs, hCO⟩ := E
 have CO := hCO hi0
 have hFl : F.length ≤ ts.length := nodup_len _ _ LFs.nd LFs.lt
 have hts := L.len
 have P0 := L.pool
 have m1 : 1 ∈ F := LFs.rt 1 (by simp)
 have m2 : 2 ∈ F := LFs.rt 2 (by simp)
 have W : WfS ts F := P0.wf hts LFs.nd LFs.lt LFs.cl m1 m2
 have iF : ∀ x ∈ inz, x ∈ F := fun x hx => LFs.rt x (List.mem_append_left _ (List.mem_append_left _ hx))
 obtain ⟨ir, hir⟩ := L.ti
 have m6 : 6 ∈ F := iF 6 (by rw [hir]; simp)
 have m7 : 7 ∈ F := iF 7 (by rw [hir]; simp)
 have XC := X.cls
 have M := X.M
 have N := X.N
 have hvals := P0.vals LFs.nd LFs.lt m6 m7 cc
 clear hCO X
 have V1 : Fm b env h _ ([(pl, listOf (pv : List Value).toArray kp), (kf, of'), (kb, ob), (ki, oi), (fa, oF), (C.ld, oL)] ++ (kt ++ [(ha, oH)])) := V.drop ((List.Sublist.refl _).append ((List.Sublist.refl _).append (.cons_cons _ (List.nil_sublist _))))
 clear V
 have V : Fm b env h _ ((pl, listOf (pv : List Value).toArray kp) :: (kf, of') :: (kb, ob) :: (ki, oi) :: (fa, oF) :: (C.ld, oL) :: (ha, oH) :: kt) := V1.perm (List.Perm.append_left _ List.perm_append_comm)
 clear V1
 show wpAny (model PR w) A (execs (_ :: _ :: _) env) Q Never ⟨h, g, d, t, o⟩
 let Jx1 : Shared → Prop := fun s => Ex7 fun h t c kt oF D ap => Al9 (s = ⟨h, g, d, t, o⟩) (Fm b env h (LL sa (some (.ref ta)) (some (.int (1 : Nat) u1)) (some (.int (2 : Nat) u2)) (some (.ref tl)) z1 (some (.ref bl)) (some (.ref C.c)) (some (.ref ga)) (some (.ref ha)) (some (.ref pl)) z2 z3 z4 z5 (some (.ref D)) N0 N0)
    ((pl, listOf (pv : List Value).toArray kp) :: (kf, of') :: (kb, ob) :: (ki, oi) :: (fa, oF) :: (C.ld, oL) :: (ha, oH) :: kt)) (LS w c B ts cl ia ta inz tr) (Cls c C B ts F) (InB c b kt) (All2 (IsPr c) pv P) (ListP (IsPr c) c D ap) (ap.length ≤ 2) (∀ p ∈ ap, p.1 ∈ F ∧ p.2 ∈ F)
 repeat wtm_at "qkt"
 refine r_consJK Jx1 (fun _ _ => ?_) ?_
 ·refine r_compA [("ints", ki), ("feed", kf)] e (by decide +kernel) (closA hf hi) ?_
  wtm_at "qgo"; wtm_at "qbn"; wtm_at "qgo"; wtm_at "qgl"; wtm_at "qgo"
  refine ⟨V.sub, ?_⟩
  refine draw_in (wd := 3) G R V (fun o' => by wtm_at "qputs") Fe ((L.cells).sub (I.in (by wtm_at "qwi") V)) (by (first | lia | omega)) (by decide) ?_
  clear V Fe; intro oF1 r u3 t3 h3 hr Fe V
  wtm_at "qgo"
  refine r_range V ?_; clear V; intro ra h4 t4 v1 v2 v3 lo4 s4 V
  wtm_at "qgo"
  let Jx2 : Nat → List (Addr × Obj) → List Value → Prop := fun i σ vs => Ex5 fun c kt oF sp ap => Al11 (σ = (ra, rangeOf r v1 v2 v3) :: (pl, listOf (pv : List Value).toArray kp) :: (kf, of') :: (kb, ob) :: (ki, oi) :: (fa, oF) :: (C.ld, oL) :: (ha, oH) :: kt) (LS w c B ts cl ia ta inz tr) (Cls c C B ts F) (InB c b kt) (FeedO w oF cl sp) (sp ≤ 100 + 2 * i) (All2 (IsPr c) pv P) (All2 (IsPr c) vs ap) (ap.length = i) (i ≤ r) (∀ p ∈ ap, p.1 ∈ F ∧ p.2 ∈ F)
  refine compit_range (n := r) R.h e V (.inl (by wtm_at "qmem")) (by (first | lia | omega)) Jx2 ?_ ?_ (by decide +kernel) (by decide +kernel) ?_ ?_
  ·exact ⟨c, kt, oF1, sp + 1, [], rfl, L, XC, I, Fe, by (first | lia | omega), HP, .nil, rfl, Nat.zero_le _, fun _ q => nomatch q⟩
  ·rintro i σ vs ⟨c, kt, oF, sp, ap, rfl, L, XC, I, Fe, hsp, HP, HA, hap, hir', hpF⟩
   have := HA.length
   (first | lia | omega)
  ·clear V L XC I Fe HP
   rintro i ui cenv h5 t5 m5 oL' L' D I' ito vs σ hi' ⟨c, kt, oF, sp, ap, rfl, L, XC, I, Fe, hsp, HP, HA, hap, hir', hpF⟩ ec hcc V
   refine compTurn_plain ?_
   have hce1 : cenv.cells.lookup ("feed" : Str) = some kf := by rw [hcc]; rfl
   have hce2 : cenv.cells.lookup ("ints" : Str) = some ki := by rw [hcc]; rfl
   obtain ⟨vi, ki', ei, Ni⟩ := L.li
   have hne : inz ≠ [] := by rw [hir]; simp
   have zi := L.zi
   wtm_at "qgo"; wtm_at "qgl"; wtm_at "qgo"
   refine ⟨V.sub, ?_⟩
   refine pick_in (ns := inz) G R V (fun o' => by wtm_at "qputs") Fe ((L.cells).sub (I.in (by wtm_at "qwi") V)) (by (first | lia | omega)) (I.at (by wtm_at "qwi") ei) Ni hne (by (first | lia | omega)) ?_
   clear V Fe; intro oF2 x vx t6 h6 hvx hx Fe V
   wtm_at "qgo"; wtm_at "qgl"; wtm_at "qgo"
   refine ⟨V.sub, ?_⟩
   refine pick_in (ns := inz) G R V (fun o' => by wtm_at "qputs") Fe ((L.cells).sub (I.in (by wtm_at "qwi") V)) (by (first | lia | omega)) (I.at (by wtm_at "qwi") ei) Ni hne (by (first | lia | omega)) ?_
   clear V Fe; intro oF3 y vy t7 h7 hvy hy Fe V
   wtm_at "qgo"
   refine r_newtuple V ?_; clear V; intro pp h8 lo8 s8 V
   obtain ⟨c2, V2, I2, e2, s2⟩ := frz1 (pre := [(D, _), (I', ito), (L', oL'), (ra, rangeOf r v1 v2 v3), (pl, listOf (pv : List Value).toArray kp), (kf, of'), (kb, ob), (ki, oi), (fa, oF3), (C.ld, oL), (ha, oH)]) V I
   repeat wtm_at "qkt"
   refine ⟨_, _, _, _, rfl, V2, rfl, c2, _, oF3, sp + 1 + 1, ap ++ [(x, y)], rfl, L.sub s2, XC.sub s2, I2, Fe, by (first | lia | omega), HP.mono fun _ _ q => q.sub s2, (HA.mono fun _ _ q => q.sub s2).snoc ⟨pp, rfl, _, e2, .cons hvx (.cons hvy .nil)⟩, by rw [List.length_append, List.length_singleton, hap], by (first | lia | omega), fun p hp => ?_⟩
   rcases List.mem_append.mp hp with hp | hp
   ·exact hpF p hp
   ·rw [List.mem_singleton.mp hp]; exact ⟨iF x hx, iF y hy⟩
  ·clear V L XC I Fe HP
   rintro D CC oC m5 h5 t5 vs σ mC hD ⟨c, kt, oF, sp, ap, rfl, L, XC, I, Fe, hsp, HP, HA, hap, hir', hpF⟩ V hns hoC
   refine fin_store e V hns hoC (by decide +kernel) (by wtm_at "qput") ?_
   clear V hns hoC; intro h9 t9 V
   have V1 : Fm b env h9 _ ((D, listOf vs.toArray m5) :: ([(pl, listOf (pv : List Value).toArray kp), (kf, of'), (kb, ob), (ki, oi), (fa, oF), (C.ld, oL), (ha, oH)] ++ kt)) := V.drop (.cons_cons _ (.cons _ (.refl _)))
   obtain ⟨c2, V2, I2, e2, s2⟩ := frz1 V1 I
   repeat wtm_at "qkt"
   exact ⟨_, _, c2, _, oF, D, ap, rfl, V2, L.sub s2, XC.sub s2, I2, HP.mono fun _ _ q => q.sub s2, ⟨_, _, e2, HA.mono fun _ _ q => q.sub s2⟩, by (first | lia | omega), hpF⟩
 clear V L XC I Fe HP hsp
 rintro _ ⟨h5, t5, c, kt, oF, D, ap, rfl, V, L, XC, I, HP, ⟨vD, kD, eD, ND⟩, hap, hpF⟩
 let Jx3 : Shared → Prop := fun s => Ex3 fun h t dd => Al3 (s = ⟨h, g, d, t, o⟩) (Fm b env h (LL sa (some (.ref ta)) (some (.int (1 : Nat) u1)) (some (.int (2 : Nat) u2)) (some (.ref tl)) z1 (some (.ref bl)) (some (.ref C.c)) (some (.ref ga)) (some (.ref ha)) (some (.ref pl)) z2 z3 z4 z5 (some (.ref D)) (some (.bool dd)) N0) ((pl, listOf (pv : List Value).toArray kp) :: (kf, of') :: (kb, ob) :: (ki, oi) :: (fa, oF) :: (C.ld, oL) :: (ha, oH) :: kt)) ((dd = true ↔ hm 1 = hm 2 ∨ hm 6 = hm 7))
 repeat wtm_at "qkt"
 refine r_consJK Jx3 (fun _ _ => ?_) ?_
 ·wtm_at "qgo"
  refine r_orv ?_
  wtm_at "qgo"
  refine r_getN V (.inl (by wtm_at "qmem")) N ⟨_, rfl⟩ (onT_mem m1) ?_
  rintro _ t6 ⟨u6, rfl⟩
  wtm_at "qgo"
  refine r_getN V (.inl (by wtm_at "qmem")) N ⟨_, rfl⟩ (onT_mem m2) ?_
  rintro _ t7 ⟨u7, rfl⟩
  wtm_at "qgo"
  rw [nat_beq]
  by_cases q : hm 1 = hm 2
  ·first | refine ite_t (by simp [q]) ?_ | rw [if_pos (by simp [q])]
   wtm_at "qst"; clear V; intro h8 t8 V
   repeat wtm_at "qkt"
   exact ⟨_, _, _, rfl, V, by simp [q]⟩
  ·first | refine ite_f (by simp [q]) ?_ | rw [if_neg (by simp [q])]
   obtain ⟨vi, ki', ei, Ni⟩ := L.li
   obtain ⟨w6, hw6, n6⟩ := Ni.get (i := 3) (y := 6) (by rw [hir]; rfl)
   obtain ⟨w7, hw7, n7⟩ := Ni.get (i := 4) (y := 7) (by rw [hir]; rfl)
   wtm_at "qgo"
   refine r_item_list V (I.at (by wtm_at "qwi") ei) (by decide) (by decide) (by first | exact hw6 | simpa using hw6) ?_
   refine r_getN V (.inl (by wtm_at "qmem")) N n6 (onT_mem m6) ?_
   rintro _ t8 ⟨u8, rfl⟩
   wtm_at "qgo"
   refine r_item_list V (I.at (by wtm_at "qwi") ei) (by decide) (by decide) (by first | exact hw7 | simpa using hw7) ?_
   refine r_getN V (.inl (by wtm_at "qmem")) N n7 (onT_mem m7) ?_
   rintro _ t9 ⟨u9, rfl⟩
   wtm_at "qgo"
   wtm_at "qst"; clear V; intro h10 t10 V
   repeat wtm_at "qkt"
   exact ⟨_, _, _, rfl, V, by rw [nat_beq]; simp [q]⟩
 clear V
 rintro _ ⟨h6, t6, d0, rfl, V, hd0⟩
 let Jx4 : Shared → Prop := fun s => Ex5 fun h t dd z4 z5 => Al3 (s = ⟨h, g, d, t, o⟩) (Fm b env h (LL sa (some (.ref ta)) (some (.int (1 : Nat) u1)) (some (.int (2 : Nat) u2)) (some (.ref tl)) z1 (some (.ref bl)) (some (.ref C.c)) (some (.ref ga)) (some (.ref ha)) (some (.ref pl)) z2 z3 z4 z5 (some (.ref D)) (some (.bool dd)) N0) ((pl, listOf (pv : List Value).toArray kp) :: (kf, of') :: (kb, ob) :: (ki, oi) :: (fa, oF) :: (C.ld, oL) :: (ha, oH) :: kt)) ((dd = true ↔ (hm 1 = hm 2 ∨ hm 6 = hm 7) ∨ ∃ p ∈ ap, hm p.1 = hm p.2))
 repeat wtm_at "qkt"
 refine r_consJK Jx4 (fun _ _ => ?_) ?_
 ·have sD : vD.size = ap.length := by rw [← ND.length]; simp
  wtm_at "qgo"
  let Jx5 : Nat → List (Str × Option Value) → List (Addr × Obj) → Prop := fun i l σ => Ex3 fun dd z4 z5 => Al3 (l = LL sa (some (.ref ta)) (some (.int (1 : Nat) u1)) (some (.int (2 : Nat) u2)) (some (.ref tl)) z1 (some (.ref bl)) (some (.ref C.c)) (some (.ref ga)) (some (.ref ha)) (some (.ref pl)) z2 z3 z4 z5 (some (.ref D)) (some (.bool dd)) N0) (σ = (pl, listOf (pv : List Value).toArray kp) :: (kf, of') :: (kb, ob) :: (ki, oi) :: (fa, oF) :: (C.ld, oL) :: (ha, oH) :: kt) ((dd = true ↔ (hm 1 = hm 2 ∨ hm 6 = hm 7) ∨ ∃ p ∈ ap.take i, hm p.1 = hm p.2))
  refine loop_listT (vs := vD) (k := kD) R.h V Jx5 ⟨d0, _, _, rfl, rfl, by simp [hd0]⟩ ?_ ?_ ?_
  ·rintro i l σ ⟨dd, z4, z5, rfl, rfl, _⟩
   exact I.at (by wtm_at "qwi") eD
  ·clear V
   rintro i tv it ito h7 t7 l σ hi' ⟨dd, z4, z5, rfl, rfl, hdd⟩ V
   obtain ⟨p, hpi, pa, rfl, pvs, ep, Np⟩ := ND.back (by first | exact hi' | simpa using hi')
   have hpm := hpF p (List.mem_of_getElem? hpi)
   have htk : ap.take (i + 1) = ap.take i ++ [p] := by rw [List.take_add_one, hpi]; rfl
   cases Np with
   | @cons w1 _ _ _ hw1 Np =>
   cases Np with
   | @cons w2 _ _ _ hw2 Np =>
   cases Np
   refine r_target2 R.h (I.in (by wtm_at "qwi") V _ _ ep) (later fun h8 t8 s8 => ?_)
   replace V := V.mono s8
   wtm_at "qst"; clear V; intro h9 t9 V
   wtm_at "qst"; clear V; intro h10 t10 V
   wtm_at "qgo"
   refine r_orv ?_
   wtm_at "qgo"
   cases dd with
   | true =>
    first | refine ite_t rfl ?_ | rw [if_pos rfl]
    wtm_at "qst"; clear V; intro h11 t11 V
    wtm_at "qgo"
    repeat wtm_at "qkt"
    refine ⟨_, _, _, _, rfl, V, true, _, _, rfl, rfl, ?_⟩
    rw [htk]
    refine ⟨fun _ => ?_, fun _ => rfl⟩
    rcases hdd.mp rfl with q | ⟨p', hp', q⟩
    ·exact .inl q
    ·exact .inr ⟨p', List.mem_append_left _ hp', q⟩
   | false =>
    first | refine ite_f (by decide) ?_ | rw [if_neg (by decide)]
    wtm_at "qgo"
    refine r_getN V (.inl (by wtm_at "qmem")) N hw1 (onT_mem hpm.1) ?_
    rintro _ t11 ⟨u11, rfl⟩
    wtm_at "qgo"
    refine r_getN V (.inl (by wtm_at "qmem")) N hw2 (onT_mem hpm.2) ?_
    rintro _ t12 ⟨u12, rfl⟩
    wtm_at "qgo"
    rw [nat_beq]
    wtm_at "qst"; clear V; intro h13 t13 V
    wtm_at "qgo"
    repeat wtm_at "qkt"
    refine ⟨_, _, _, _, rfl, V, _, _, _, rfl, rfl, ?_⟩
    rw [htk, beq_iff_eq]
    constructor
    ·intro q; exact .inr ⟨p, by simp, q⟩
    ·rintro (q | ⟨p', hp', q⟩)
     ·exact absurd (hdd.mpr (.inl q)) (by decide)
     ·rcases List.mem_append.mp hp' with hp' | hp'
      ·exact absurd (hdd.mpr (.inr ⟨p', hp', q⟩)) (by decide)
      ·rw [List.mem_singleton.mp hp'] at q; exact q
  ·clear V
   rintro h7 t7 l σ ⟨dd, z4, z5, rfl, rfl, hdd⟩ V
   rw [List.take_of_length_le (by (first | lia | omega))] at hdd
   repeat wtm_at "qkt"
   exact ⟨_, _, dd, _, _, rfl, V, hdd⟩
 clear V
 rintro _ ⟨h7, t7, dd, z4', z5', rfl, V, hdd⟩
 wtm_at "qgo"
 refine r_fmeth G V I (by wtm_at "qwi") XC.self (ml_has_clash _) (by rfl) ?_
 dsimp only
 wtm_at "qgo"
 refine ⟨V.sub, ?_⟩
 have Sc : Sub c h7 := I.in (by wtm_at "qwi") V
 refine has_clash_ok W.toWfT G V.sub R (XC.sub Sc) (V.nw (C.ld, oL) (by wtm_at "qmem")).1 M (Nat.le_refl _) ⟨vD, kD, Sc _ _ eD, ND.mono fun _ _ q => q.sub Sc⟩ hpF ?_
 intro r t8 h8 hr s8
 replace V := V.mono s8
 have hrd : r = dd := by
  rw [Bool.eq_iff_iff, hr, hdd, hvals]
  constructor
  ·rintro (⟨p, hp, q⟩ | q | q)
   ·exact .inr ⟨p, hp, (KKs.q _ (hpF p hp).1 _ (hpF p hp).2).mp q⟩
   ·exact .inl (.inl ((KKs.q _ m1 _ m2).mp q))
   ·exact .inl (.inr ((KKs.q _ m6 _ m7).mp q))
  ·rintro ((q | q) | ⟨p, hp, q⟩)
   ·exact .inr (.inl ((KKs.q _ m1 _ m2).mpr q))
   ·exact .inr (.inr ((KKs.q _ m6 _ m7).mpr q))
   ·exact .inl ⟨p, hp, (KKs.q _ (hpF p hp).1 _ (hpF p hp).2).mpr q⟩
 wtm_at "qgo"
 rw [hrd, if_neg (by simp)]
 refine r_nil ?_
 repeat wtm_at "qkt"
 exact k _ _ c kt oF oL oH cc hm pv kp P _ _ _ _ _ _ _ V L XC M N I HP (by (first | lia | omega)) KKs CO
end
end
section
theorem All2.rev {α β : Type} {P : α → β → Prop} {xs : List α} {ys : List β} (N : All2 P xs ys) : All2 P xs.reverse ys.reverse := by
 induction N with
 | nil => exact .nil
 | cons h _ ih => rw [List.reverse_cons, List.reverse_cons]; exact ih.snoc h
section
variable {w : World} {b c h : Heap} {env : Env} {A : Around} {g : Array GenState} {d : Drawn} {t : Nat} {o : OsState} {n : Nat} {Q : Flow → Shared → Prop}
theorem law_g {sa kf kb ki fa cl ia ta tl bl ha ga pl : Addr} {of' ob oi oF oL oH : Obj} {B : BankL} {C : ClL} {ts : List Tm} {inz tr F : List Nat} {u1 u2 : Tok} {kt : List (Addr × Obj)} {cc hm : Nat → Nat} {pv : List Value} {kp : Nat} {P : List (Nat × Nat)} {z1 z2 z3 z4 z5 z6 z7 : Option Value} (G : Gd w b) (e : Ev env fn494.fd.scope.names) (R : Rm A (n + 20)) (C0 : LC env kf kb ki fa B.x ia of' ob oi) (hC : C.tl = tl) (LFs : LF ts F inz tr)
  (V : Fm b env h (LL sa (some (.ref ta)) (some (.int (1 : Nat) u1)) (some (.int (2 : Nat) u2)) (some (.ref tl)) z1 (some (.ref bl)) (some (.ref C.c)) (some (.ref ga)) (some (.ref ha)) (some (.ref pl)) z2 z3 z4 z5 z6 z7 N0)
    ((pl, listOf (pv : List Value).toArray kp) :: (kf, of') :: (kb, ob) :: (ki, oi) :: (fa, oF) :: (C.ld, oL) :: (ha, oH) :: kt))
  (L : LS w c B ts cl ia ta inz tr) (XC : Cls c C B ts F) (M : NMap w IsN oL (onT F cc) 1000) (N : NMap w IsN oH (onT F hm) 1000) (I : InB c b kt) (HP : All2 (IsPr c) pv P) (hP : P.length ≤ 5) (KKs : KK ts F P cc hm) (CO : ClsOf ts F P hm)
  (k : ∀ h' t', Sub b h' → Q (.ret (.bool true)) ⟨h', g, d, t', o⟩) :
  wpAny (model PR w) A (execs (body494.drop 13) env) Q Never ⟨h, g, d, t, o⟩ := by
 obtain ⟨hf, hbk, hi, ho1, ho2, ho3⟩ := C0
 have hFl : F.length ≤ ts.length := nodup_len _ _ LFs.nd LFs.lt
 have hts := L.len
 have P0 := L.pool
 have m1 : 1 ∈ F := LFs.rt 1 (by simp)
 have m2 : 2 ∈ F := LFs.rt 2 (by simp)
 have W : WfS ts F := P0.wf hts LFs.nd LFs.lt LFs.cl m1 m2
 have hTl : ListN c tl F := hC ▸ XC.terms
 show wpAny (model PR w) A (execs (_ :: _ :: _) env) Q Never ⟨h, g, d, t, o⟩
 wtm_at "qgo"
 refine r_fmeth G V I (by wtm_at "qwi") XC.self (ml_close _) (by rfl) ?_
 dsimp only
 wtm_at "qgo"
 refine close_ok W.toWfT G V.sub R (XC.sub (I.in (by wtm_at "qwi") V)) (V.nw (C.ld, oL) (by wtm_at "qmem")).1 (V.nw (C.ld, oL) (by wtm_at "qmem")).2.2 M (Nat.le_refl _) ?_
 intro oL1 cc1 t1 h1 CR M1 kp1 ek1
 have V1 := V.put (by wtm_at "qputs" : PutS C.ld oL oL1 _ ((pl, listOf (pv : List Value).toArray kp) :: (kf, of') :: (kb, ob) :: (ki, oi) :: (fa, oF) :: (C.ld, oL1) :: (ha, oH) :: kt)) kp1 ek1
 clear V; have V := V1; clear V1
 obtain ⟨KC1, CO1⟩ := KKs.c.close W CR
 wtm_at "qgo"; wtm_at "qgl"; wtm_at "qgo"
 refine ⟨V.sub, ?_⟩
 have Sc : Sub c h1 := I.in (by wtm_at "qwi") V
 refine new_closing_ok2 (B := B) (tl := tl) (terms := F) G V R (hTl.sub Sc) (by (first | lia | omega)) ?_
 intro C2 oL2 t2 h2 hC2 SC eL ML hnew s2
 have fr := fun a ha => V.fresh (hnew a ha)
 have bs := fun a ha => V.base (hnew a ha)
 have V1 := (V.mono s2).plus1 eL (bs C2.ld mem2) (fr C2.ld mem2)
 have off := SC.off eL ML
 obtain ⟨kt2, V2, I2⟩ := V1.frz (pre := [(C2.ld, oL2), (pl, listOf (pv : List Value).toArray kp), (kf, of'), (kb, ob), (ki, oi), (fa, oF), (C.ld, oL1), (ha, oH)]) I [C2.c, C2.dc] (fun a ha => by
  have ha' : a ∈ [C2.c, C2.dc, C2.ld] := List.mem_append_left [C2.ld] ha
  refine ⟨(fr a ha').1, fun q => ?_⟩
  rcases List.mem_cons.mp q with q | q
  ·first | replace ha := in1 ha | replace ha := in2 ha | replace ha := in3 ha | replace ha := in4 ha | replace ha := in5 ha | simp only [List.mem_cons, List.not_mem_nil, or_false] at ha
   rcases ha with rfl | rfl
   ·exact off.1 (List.mem_singleton.mpr q)
   ·exact off.2 (List.mem_singleton.mpr q)
  ·refine (fr a ha').2 ?_
   first | exact List.mem_append_left _ q | (simp only [List.map_cons, List.map_nil, List.mem_cons, List.not_mem_nil, or_false] at q ⊢; rcases q with q | q | q | q | q | q | q <;> simp [q]))
 have sc := plus_more (D := [C2.c, C2.dc]) (I.sub (pre := [(C2.ld, oL2), (pl, listOf (pv : List Value).toArray kp), (kf, of'), (kb, ob), (ki, oi), (fa, oF), (C.ld, oL1), (ha, oH)]) V1)
 have SC2 : Self (plus c h2 [C2.c, C2.dc]) C2.c 72 C2.dc (C2.fields B) := by
  obtain ⟨es, m, ex, ed, E⟩ := SC
  exact ⟨es, m, plus_get (.inr (.head _)) ex, plus_get (.inr (.tail _ (.head _))) ed, E⟩
 have L2 := L.sub sc
 have XC2 := XC.sub sc
 have hT2 := hTl.sub sc
 have HP2 := HP.mono (P' := IsPr (plus c h2 [C2.c, C2.dc])) fun _ _ q => q.sub sc
 generalize plus c h2 [C2.c, C2.dc] = c2 at *
 clear V V1 I Sc
 have XB : Cls c2 C2 B ts F := ⟨SC2, L2.bank, hC2 ▸ hT2⟩
 have V : Fm b env h2 _ ((pl, listOf (pv : List Value).toArray kp) :: (kf, of') :: (kb, ob) :: (ki, oi) :: (fa, oF) :: (C.ld, oL1) :: (ha, oH) :: (C2.ld, oL2) :: kt2) := V2.perm (List.perm_middle (l₁ := [(pl, _), (kf, of'), (kb, ob), (ki, oi), (fa, oF), (C.ld, oL1), (ha, oH)]) (l₂ := kt2)).symm
 clear V2
 wtm_at "qst"; clear V; intro h3 t3 V
 let Jx1 : Shared → Prop := fun s => Ex6 fun h t oL2 c2' z4 z5 => Al4 (s = ⟨h, g, d, t, o⟩) (Fm b env h (LL sa (some (.ref ta)) (some (.int (1 : Nat) u1)) (some (.int (2 : Nat) u2)) (some (.ref tl)) z1 (some (.ref bl)) (some (.ref C.c)) (some (.ref ga)) (some (.ref ha)) (some (.ref pl)) z2 z3 z4 z5 z6 z7 (some (.ref C2.c)))
   ((pl, listOf (pv : List Value).toArray kp) :: (kf, of') :: (kb, ob) :: (ki, oi) :: (fa, oF) :: (C.ld, oL1) :: (ha, oH) :: (C2.ld, oL2) :: kt2)) (NMap w IsN oL2 (onT F c2') 1000) (KC ts F (P.reverse.map fun p => (p.2, p.1)) c2')
 repeat wtm_at "qkt"
 refine r_consJK Jx1 (fun _ _ => ?_) ?_
 ·wtm_at "qgo"
  refine r_neg1 fun u4 t4 => ?_
  have lp := HP2.length
  refine r_slicel V (.inl (by wtm_at "qmem")) (LOf.list _ _) .none .none (.int _ _) (by decide) (by rw [List.size_toArray]; (first | lia | omega)) ?_
  clear V; intro sl h5 V
  rw [slice_rev] at V
  have HR : All2 (IsPr c2) pv.reverse P.reverse := HP2.rev
  wtm_at "qgo"
  let Jx2 : Nat → List (Str × Option Value) → List (Addr × Obj) → Prop := fun i l σ => Ex4 fun oL2 c2' z4 z5 => Al4 (l = LL sa (some (.ref ta)) (some (.int (1 : Nat) u1)) (some (.int (2 : Nat) u2)) (some (.ref tl)) z1 (some (.ref bl)) (some (.ref C.c)) (some (.ref ga)) (some (.ref ha)) (some (.ref pl)) z2 z3 z4 z5 z6 z7 (some (.ref C2.c))) (σ = (sl, listOf pv.reverse.toArray 0) :: (pl, listOf (pv : List Value).toArray kp) :: (kf, of') :: (kb, ob) :: (ki, oi) :: (fa, oF) :: (C.ld, oL1) :: (ha, oH) :: (C2.ld, oL2) :: kt2) (NMap w IsN oL2 (onT F c2') 1000) (KC ts F ((P.reverse.take i).map fun p => (p.2, p.1)) c2')
  refine loop_listT (vs := pv.reverse.toArray) (k := 0) R.h V Jx2 ⟨oL2, id, _, _, rfl, rfl, ML, KC.init ts F⟩ ?_ ?_ ?_
  ·rintro i l σ ⟨oL2, c2', z4, z5, rfl, rfl, _⟩
   exact .inl (.head _)
  ·clear V ML
   rintro i tv it ito h6 t6 l σ hi' ⟨oL2, c2', z4, z5, rfl, rfl, ML, KC2⟩ V
   obtain ⟨p, hpi, pa, rfl, pvs, ep, Np⟩ := HR.back (by first | exact hi' | simpa using hi')
   have hpm := KKs.c.tm p (List.mem_reverse.mp (List.mem_of_getElem? hpi))
   have htk : P.reverse.take (i + 1) = P.reverse.take i ++ [p] := by rw [List.take_add_one, hpi]; rfl
   cases Np with
   | @cons w1 _ _ _ hw1 Np =>
   cases Np with
   | @cons w2 _ _ _ hw2 Np =>
   cases Np
   refine r_target2 R.h (I2.in (by wtm_at "qwi") V _ _ ep) (later fun h8 t8 s8 => ?_)
   replace V := V.mono s8
   wtm_at "qst"; clear V; intro h9 t9 V
   wtm_at "qst"; clear V; intro h10 t10 V
   wtm_at "qgo"
   refine r_fmeth G V I2 (by wtm_at "qwi") XB.self (ml_join _) (by rfl) ?_
   dsimp only
   wtm_at "qgo"
   refine ⟨V.sub, ?_⟩
   refine join_ok G V.sub R (XB.sub (I2.in (by wtm_at "qwi") V)) (V.nw (C2.ld, oL2) (by wtm_at "qmem")).1 (V.nw (C2.ld, oL2) (by wtm_at "qmem")).2.2 ML (Nat.le_refl _) hw2 hw1 hpm.2 hpm.1 ?_
   intro oL3 t11 h11 M3 kp11 ek11
   have V1 := V.put (by wtm_at "qputs" : PutS C2.ld oL2 oL3 _ ((it, ito) :: (sl, listOf pv.reverse.toArray 0) :: (pl, listOf (pv : List Value).toArray kp) :: (kf, of') :: (kb, ob) :: (ki, oi) :: (fa, oF) :: (C.ld, oL1) :: (ha, oH) :: (C2.ld, oL3) :: kt2)) kp11 ek11
   clear V; have V := V1; clear V1
   wtm_at "qgo"
   repeat wtm_at "qkt"
   refine ⟨_, _, _, _, rfl, V, oL3, _, _, _, rfl, rfl, M3, ?_⟩
   rw [htk, List.map_append]
   exact KC2.join hpm.2 hpm.1
  ·clear V ML
   rintro h6 t6 l σ ⟨oL2, c2', z4, z5, rfl, rfl, ML, KC2⟩ V
   rw [List.take_of_length_le (by simp; (first | lia | omega))] at KC2
   repeat wtm_at "qkt"
   exact ⟨_, _, oL2, c2', _, _, rfl, V.tail, ML, KC2⟩
 clear V ML
 rintro _ ⟨h4, t4, oL2, c2', z4, z5, rfl, V, ML, KC2⟩
 wtm_at "qgo"
 refine r_fmeth G V I2 (by wtm_at "qwi") XB.self (ml_close _) (by rfl) ?_
 dsimp only
 wtm_at "qgo"
 refine close_ok W.toWfT G V.sub R (XB.sub (I2.in (by wtm_at "qwi") V)) (V.nw (C2.ld, oL2) (by wtm_at "qmem")).1 (V.nw (C2.ld, oL2) (by wtm_at "qmem")).2.2 ML (Nat.le_refl _) ?_
 intro oL4 cc4 t5 h5 CR2 M4 kp5 ek5
 have V1 := V.put (by wtm_at "qputs" : PutS C2.ld oL2 oL4 _ ((pl, listOf (pv : List Value).toArray kp) :: (kf, of') :: (kb, ob) :: (ki, oi) :: (fa, oF) :: (C.ld, oL1) :: (ha, oH) :: (C2.ld, oL4) :: kt2)) kp5 ek5
 clear V; have V := V1; clear V1
 obtain ⟨KC4, CO4⟩ := KC2.close W CR2
 have CO4' := CO4.turn
 wtm_at "qgo"
 refine r_andv ?_
 wtm_at "qgo"; wtm_at "qgl"; wtm_at "qgo"
 refine ⟨V.sub, ?_⟩
 refine alike_ok W.toWfT G V.sub R (XC2.sub (I2.in (by wtm_at "qwi") V)) (V.nw (C.ld, oL1) (by wtm_at "qmem")).1 M1 (hT2.sub (I2.in (by wtm_at "qwi") V)) (V.nw (ha, oH) (by wtm_at "qmem")).1 N (CO1.same CO) ?_
 intro t6 h6 s6
 replace V := V.mono s6
 wtm_at "qgo"
 first | refine ite_t rfl ?_ | rw [if_pos rfl]
 wtm_at "qgo"; wtm_at "qgl"; wtm_at "qgo"
 refine ⟨V.sub, ?_⟩
 refine alike_ok W.toWfT G V.sub R (XB.sub (I2.in (by wtm_at "qwi") V)) (V.nw (C2.ld, oL4) (by wtm_at "qmem")).1 M4 (hT2.sub (I2.in (by wtm_at "qwi") V)) (V.nw (ha, oH) (by wtm_at "qmem")).1 N (CO4'.same CO) ?_
 intro t7 h7 s7
 repeat wtm_at "qkt"
 exact k h7 _ (V.mono s7).sub
end
end
section
section
variable {w : World} {b h : Heap} {env : Env} {A : Around} {g : Array GenState} {d : Drawn} {t : Nat} {o : OsState} {n : Nat} {Q : Flow → Shared → Prop}
theorem law_ok {sa kf kb ki : Addr} {of' ob oi oS : Obj} {vs : Array Value} (G : Gd w b) (e : Ev env fn494.fd.scope.names) (hf : env.cells.lookup ("feed" : Str) = some kf) (hbk : env.cells.lookup ("bank" : Str) = some kb) (hi : env.cells.lookup ("ints" : Str) = some ki) (R : Rm A (n + 20))
  (V : Fm b env h (LL sa N0 N0 N0 N0 N0 N0 N0 N0 N0 N0 N0 N0 N0 N0 N0 N0 N0) [(ki, oi), (kb, ob), (kf, of')]) (ho1 : of'.data = .cell none) (ho2 : ob.data = .cell none) (ho3 : oi.data = .cell none)
  (hS : b.get? sa = some oS) (hL : LOf oS vs) (hI : ∀ v ∈ vs.toList, IsI v) (hz : vs.size ≤ 63)
  (k : ∀ h' t', Sub b h' → Q (.ret (.bool true)) ⟨h', g, d, t', o⟩) : wpAny (model PR w) A (execs body494 env) Q Never ⟨h, g, d, t, o⟩ := by
 with_reducible refine law_a G e hf hbk hi R V ho1 ho2 ho3 hS hL hI hz ?_
 intro h1 t1 fa cl ia ta B ts inz tr c kt of1 ob1 oi1 oF sp C0 L I Fe hsp V
 with_reducible refine law_c G e R C0 L I V ?_
 intro h2 t2 tl bl F u1 u2 c2 kt2 L hT hB nd lt cl' rt I V
 have LFs : LF ts F inz tr := ⟨nd, lt, cl', rt⟩
 with_reducible refine law_d G e R C0 L hT hB LFs I V ?_
 intro h3 t3 C ha ga oL oH oG gs ktG c3 kt3 y3 L hC X I V
 with_reducible refine law_e G e R C0 L hC LFs X I Fe hsp V ?_
 intro h4 t4 pl i l σ hi0 hi5 E V
 with_reducible refine law_f G e R C0 hC LFs hi0 hi5 E V ?_
 intro h5 t5 c5 kt5 oF5 oL5 oH5 cc hm pv kp P z1 z2 z3 z4 z5 z6 z7 V L XC M N I HP hP KKs CO
 with_reducible exact law_g G e R C0 hC LFs V L XC M N I HP hP KKs CO k
end
end
section
theorem lawH : PySem.Challenge.rw_no0008_01.Holds := by
 refine lawH0 ?_
 intro w b h env A g d t o n Q sa kf kb ki of' ob oi oS vs G e hf hbk hi R V ho1 ho2 ho3 hS hL hI hz k
 with_reducible exact law_ok G e hf hbk hi R V ho1 ho2 ho3 hS hL hI hz k
end
end Mine
end
theorem PySem.Challenge.cw_no0008_01_holds : PySem.Challenge.rw_no0008_01.Holds := by
  exact Mine.lawH
