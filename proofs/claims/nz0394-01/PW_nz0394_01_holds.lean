import PyProof.Rows.All
import Wide.All
import OpenK.AllK
import Wide.FinOn
import PySem.Challenge.RW_nz0394_01
open PySem PySem.W PyProof.Rows
set_option Elab.async false
set_option rowWalk.seconds 0
set_option compiler.extract_closed false
set_option maxRecDepth 100000
set_option maxHeartbeats 8000000
namespace Mine
section
open PySem.Calls
namespace hd
noncomputable abbrev q (x : String) : PySem.Str := PySem.Str.ofString x
noncomputable def tp (xs : List Value) : Obj := ⟨.type "tuple", none, .seq xs.toArray 0, #[]⟩
noncomputable def fl (xs : List Value) : Obj := ⟨.none, none, .fields xs.toArray, #[]⟩
noncomputable def cd (a b c d e f g h i j k l m n o p r s t : Value) : Obj := ⟨.type "code", none, .fields [a, b, c, d, e, f, g, h, i, j, k, l, m, n, o, p, r, s, t].toArray, #[]⟩
noncomputable def de (P : Params) (x : String) (t : Tok) (v : Value) : DictEntry := ⟨PyData.keyHash P (q x), .str (q x) t, v⟩
noncomputable abbrev PW : Program := PySem.Challenge.rw_nz0394_01.row.toRowW.prog
noncomputable def top (i : Nat) : Option Stmt := PW.main.body[i]?
noncomputable def mth (i j : Nat) : Option Stmt := match top i with | some (.ClassDef _ _ _ b ..) => b[j]? | _ => none
noncomputable def bodyOf : Option Stmt → Option (Arguments × List Stmt × Scope)
  | some (.FunctionDef _ a b _ _ _ s ..) => some (a, b, s)
  | _ => none
noncomputable def fn {o : Option (Arguments × List Stmt × Scope)} {a : Arguments} {b : List Stmt} {s : Scope} (_ : o = some (a, b, s)) (cls : Value) (dict : Option Addr) (n ql : PySem.Str) (g : Addr) (cl : List (PySem.Str × Addr)) (dV kV doc pm : Value) (an : Option Addr) (code ct : Value) (bi : Addr) (slots : List (Option Value)) : Obj :=
  ⟨cls, dict, .func ⟨n, ql, a, .stmts b, s, g, cl, dV, kV, doc, pm, an, code, ct, bi⟩, slots.toArray⟩
noncomputable def o2 (P : Params) : Obj := ⟨.none, none, .dict [de P "type.__subclasses__.Exception.0" 230 (.int 47 0), de P "type.__subclasses__.Exception.n" 231 (.int 1 0)].toArray 2, #[]⟩
noncomputable def o3 (P : Params) : Obj := ⟨.type "dict", none, .dict [de P "__name__" 165 (.str (q "law_nz0394_01") 754), de P "__doc__" 166 .none, de P "__package__" 167 .none, de P "__loader__" 168 (.builtin "__main__.__loader__#opaque"), de P "__spec__" 169 .none, de P "__annotations__" 170 (.ref 6), de P "__builtins__" 171 (.ref 4), de P "__file__" 173 (.str (q "/claim/cut.py") 172), de P "__cached__" 174 .none, de P "_wall" 193 (.ref 21), de P "FinderError" 233 (.ref 47), de P "SpotFault" 268 (.ref 76), de P "KindFault" 284 (.ref 88), de P "ScopeFault" 300 (.ref 100), de P "LimitFault" 316 (.ref 112), de P "set_of" 324 (.ref 119), de P "union" 332 (.ref 126), de P "product" 338 (.ref 131), de P "USUAL" 342 (.int 3 341), de P "MOST_ATOMS" 344 (.int 500 343), de P "MOST_TUPLES" 346 (.int 100000 345), de P "NOWHERE" 349 (.int (-1) 348), de P "Numbers" 422 (.ref 174), de P "Uppers" 481 (.ref 214), de P "Scopes" 526 (.ref 247), de P "ORDERING" 530 (.str (q "util/ordering") 529), de P "Signatures" 753 (.ref 416), de P "_law_sizes" 761 (.ref 427), de P "_law_next" 770 (.ref 434), de P "_law_model" 776 (.ref 439), de P "_law_scope" 791 (.ref 446), de P "_law_lot" 797 (.ref 451), de P "_law_due" 803 (.ref 456), de P "_law_heard" 811 (.ref 463), de P "_law_product" 817 (.ref 468), de P "_law_is_column_right" 823 (.ref 473), de P "law" 837 (.ref 480)].toArray 37, #[]⟩
noncomputable def o11 : Obj := tp []
noncomputable def o12 : Obj := fl [.int 1 0, .int 0 0, .ref 20, .int 5 0, .int 0 0, .ref 28, .int 13 0, .int 0 0, .ref 57, .int 21 0, .int 0 0, .ref 84, .int 23 0, .int 0 0, .ref 96, .int 25 0, .int 0 0, .ref 108, .int 28 0, .int 0 0, .ref 118, .int 30 0, .int 0 0, .ref 125, .int 32 0, .int 0 0, .ref 130, .int 39 0, .int 0 0, .ref 137, .int 88 0, .int 0 0, .ref 184, .int 117 0, .int 0 0, .ref 224, .int 139 0, .int 0 0, .ref 257, .int 273 0, .int 0 0, .ref 426, .int 275 0, .int 0 0, .ref 433, .int 281 0, .int 0 0, .ref 438, .int 294 0, .int 0 0, .ref 445, .int 305 0, .int 0 0, .ref 450, .int 318 0, .int 0 0, .ref 455, .int 332 0, .int 0 0, .ref 462, .int 339 0, .int 0 0, .ref 467, .int 349 0, .int 0 0, .ref 472, .int 360 0, .int 0 0, .ref 479]
noncomputable def o13 : Obj := cd (.str (q "<module>") 182) (.str (q "<module>") 183) (.str (q "/claim/cut.py") 184) (.int 1 0) (.int 0 0) (.int 0 0) (.int 0 0) (.int 0 0) (.ref 11) (.bool false) (.int 181 0) (.ref 12) .none .none .none .none (.int 185 0) (.int 1 0) (.str (q "/claim/cut.py") 186)
noncomputable def o14 : Obj := ⟨.type "frame", none, .plain, ([some (.ref 13), some (.ref 3), some (.ref 3), none, some (.str (q "__main__") 164), none, some (.ref 0)]).toArray⟩
noncomputable def o15 : Obj := tp []
noncomputable def o16 : Obj := fl []
noncomputable def o17 : Obj := tp [.str (q "k") 190]
noncomputable def o18 : Obj := tp []
noncomputable def o19 : Obj := @fn _ _ _ _ (rfl : bodyOf (top 0) = some (_, _, _)) (.none) none (q "_wall") (q "_wall") 0 [] .none .none .none .none none .none .none 0 []
noncomputable def o20 : Obj := cd (.str (q "_wall") 187) (.str (q "_wall") 188) (.str (q "/claim/cut.py") 189) (.int 1 0) (.int 1 0) (.int 0 0) (.int 0 0) (.int 3 0) (.ref 15) (.bool true) (.int 181 0) (.ref 16) .none (.ref 17) (.ref 18) (.ref 19) (.int 191 0) (.int 1 0) (.str (q "/claim/cut.py") 192)
noncomputable def o21 : Obj := @fn _ _ _ _ (rfl : bodyOf (top 0) = some (_, _, _)) (.type "function") none (q "_wall") (q "_wall") 3 [] .none .none .none (.str (q "__main__") 164) none (.ref 20) .none 0 []
noncomputable def o22 : Obj := tp [.type "Exception"]
noncomputable def o23 : Obj := ⟨.type "builtin_function_or_method", none, .fields [.builtin "type.__prepare__", .type "type"].toArray, #[]⟩
noncomputable def o24 (P : Params) : Obj := ⟨.type "dict", none, .dict [de P "__module__" 203 (.str (q "relfinder.errors") 194), de P "__qualname__" 205 (.str (q "FinderError") 204), de P "__firstlineno__" 207 (.int 5 206), de P "__init__" 216 (.ref 37), de P "told" 223 (.ref 44), de P "__static_attributes__" 225 (.ref 45), de P "__classcell__" 226 (.ref 25)].toArray 7, #[]⟩
noncomputable def o25 : Obj := ⟨.type "cell", none, .cell (some (.ref 47)), #[]⟩
noncomputable def o26 : Obj := tp []
noncomputable def o27 : Obj := fl [.int 7 0, .int 4 0, .ref 36, .int 11 0, .int 4 0, .ref 43]
noncomputable def o28 : Obj := cd (.str (q "FinderError") 198) (.str (q "FinderError") 199) (.str (q "/claim/cut.py") 200) (.int 5 0) (.int 0 0) (.int 0 0) (.int 0 0) (.int 0 0) (.ref 26) (.bool false) (.int 181 0) (.ref 27) .none .none .none .none (.int 201 0) (.int 5 0) (.str (q "/claim/cut.py") 202)
noncomputable def o29 : Obj := ⟨.type "frame", none, .plain, ([some (.ref 28), some (.ref 3), some (.ref 24), none, some (.str (q "relfinder.errors") 194), none, some (.ref 0)]).toArray⟩
noncomputable def o30 : Obj := tp [.ref 25]
noncomputable def o31 : Obj := tp [.str (q "__class__") 211]
noncomputable def o32 : Obj := fl []
noncomputable def o33 : Obj := tp [.str (q "self") 212, .str (q "what") 213]
noncomputable def o34 : Obj := tp []
noncomputable def o35 : Obj := @fn _ _ _ _ (rfl : bodyOf (mth 2 0) = some (_, _, _)) (.none) none (q "__init__") (q "FinderError.__init__") 0 [] .none .none .none .none none .none .none 0 []
noncomputable def o36 : Obj := cd (.str (q "__init__") 208) (.str (q "FinderError.__init__") 209) (.str (q "/claim/cut.py") 210) (.int 7 0) (.int 2 0) (.int 0 0) (.int 0 0) (.int 3 0) (.ref 31) (.bool true) (.int 181 0) (.ref 32) .none (.ref 33) (.ref 34) (.ref 35) (.int 214 0) (.int 7 0) (.str (q "/claim/cut.py") 215)
noncomputable def o37 : Obj := @fn _ _ _ _ (rfl : bodyOf (mth 2 0) = some (_, _, _)) (.type "function") none (q "__init__") (q "FinderError.__init__") 3 [((q "__class__"), 25)] .none .none .none (.str (q "relfinder.errors") 194) none (.ref 36) (.ref 30) 0 []
noncomputable def o38 : Obj := tp []
noncomputable def o39 : Obj := fl []
noncomputable def o40 : Obj := tp [.str (q "self") 220]
noncomputable def o41 : Obj := tp []
noncomputable def o42 : Obj := @fn _ _ _ _ (rfl : bodyOf (mth 2 1) = some (_, _, _)) (.none) none (q "told") (q "FinderError.told") 0 [] .none .none .none .none none .none .none 0 []
noncomputable def o43 : Obj := cd (.str (q "told") 217) (.str (q "FinderError.told") 218) (.str (q "/claim/cut.py") 219) (.int 11 0) (.int 1 0) (.int 0 0) (.int 0 0) (.int 3 0) (.ref 38) (.bool true) (.int 181 0) (.ref 39) .none (.ref 40) (.ref 41) (.ref 42) (.int 221 0) (.int 11 0) (.str (q "/claim/cut.py") 222)
noncomputable def o44 : Obj := @fn _ _ _ _ (rfl : bodyOf (mth 2 1) = some (_, _, _)) (.type "function") none (q "told") (q "FinderError.told") 3 [] .none .none .none (.str (q "relfinder.errors") 194) none (.ref 43) .none 0 []
noncomputable def o45 : Obj := tp [.str (q "what") 224]
noncomputable def o46 (P : Params) : Obj := ⟨.type "dict", none, .dict [de P "__module__" 203 (.str (q "relfinder.errors") 194), de P "__firstlineno__" 207 (.int 5 206), de P "__init__" 216 (.ref 37), de P "told" 223 (.ref 44), de P "__static_attributes__" 225 (.ref 45), de P "__weakref__" 228 (.ref 48), de P "__doc__" 229 .none].toArray 4, #[]⟩
noncomputable def o47 : Obj := ⟨.type "type", none, .cls ⟨(q "FinderError"), [.type "Exception"], [.ref 47, .type "Exception", .type "BaseException", .type "object"], 46, (q "FinderError"), true, [], [.ref 76, .ref 112], false, none, false⟩, ([some (.ref 22), none, some (.str (q "FinderError") 196), some (.str (q "FinderError") 204), some (.builtin "Exception.__new__"), some (.bool true)]).toArray⟩
noncomputable def o48 : Obj := ⟨.type "getset_descriptor", none, .fields [.str (q "__weakref__") 227, .ref 47, .builtin "ExceptionGroup.__weakref__", .none].toArray, #[]⟩
noncomputable def o49 : Obj := ⟨.type "super", none, .fields [.ref 47, .ref 47, .ref 47].toArray, #[]⟩
noncomputable def o50 : Obj := ⟨.type "builtin_function_or_method", none, .fields [.builtin "object.__init_subclass__", .ref 47].toArray, #[]⟩
noncomputable def o51 : Obj := tp [.ref 47]
noncomputable def o52 : Obj := ⟨.type "builtin_function_or_method", none, .fields [.builtin "type.__prepare__", .type "type"].toArray, #[]⟩
noncomputable def o53 (P : Params) : Obj := ⟨.type "dict", none, .dict [de P "__module__" 241 (.str (q "relfinder.errors") 194), de P "__qualname__" 243 (.str (q "SpotFault") 242), de P "__firstlineno__" 245 (.int 13 244), de P "__init__" 255 (.ref 66), de P "told" 262 (.ref 73), de P "__static_attributes__" 264 (.ref 74), de P "__classcell__" 265 (.ref 54)].toArray 7, #[]⟩
noncomputable def o54 : Obj := ⟨.type "cell", none, .cell (some (.ref 76)), #[]⟩
noncomputable def o55 : Obj := tp []
noncomputable def o56 : Obj := fl [.int 15 0, .int 4 0, .ref 65, .int 19 0, .int 4 0, .ref 72]
noncomputable def o57 : Obj := cd (.str (q "SpotFault") 236) (.str (q "SpotFault") 237) (.str (q "/claim/cut.py") 238) (.int 13 0) (.int 0 0) (.int 0 0) (.int 0 0) (.int 0 0) (.ref 55) (.bool false) (.int 181 0) (.ref 56) .none .none .none .none (.int 239 0) (.int 13 0) (.str (q "/claim/cut.py") 240)
noncomputable def o58 : Obj := ⟨.type "frame", none, .plain, ([some (.ref 57), some (.ref 3), some (.ref 53), none, some (.str (q "relfinder.errors") 194), none, some (.ref 0)]).toArray⟩
noncomputable def o59 : Obj := tp [.ref 54]
noncomputable def o60 : Obj := tp [.str (q "__class__") 249]
noncomputable def o61 : Obj := fl []
noncomputable def o62 : Obj := tp [.str (q "self") 250, .str (q "what") 251, .str (q "spot") 252]
noncomputable def o63 : Obj := tp []
noncomputable def o64 : Obj := @fn _ _ _ _ (rfl : bodyOf (mth 3 0) = some (_, _, _)) (.none) none (q "__init__") (q "SpotFault.__init__") 0 [] .none .none .none .none none .none .none 0 []
noncomputable def o65 : Obj := cd (.str (q "__init__") 246) (.str (q "SpotFault.__init__") 247) (.str (q "/claim/cut.py") 248) (.int 15 0) (.int 3 0) (.int 0 0) (.int 0 0) (.int 3 0) (.ref 60) (.bool true) (.int 181 0) (.ref 61) .none (.ref 62) (.ref 63) (.ref 64) (.int 253 0) (.int 15 0) (.str (q "/claim/cut.py") 254)
noncomputable def o66 : Obj := @fn _ _ _ _ (rfl : bodyOf (mth 3 0) = some (_, _, _)) (.type "function") none (q "__init__") (q "SpotFault.__init__") 3 [((q "__class__"), 54)] .none .none .none (.str (q "relfinder.errors") 194) none (.ref 65) (.ref 59) 0 []
noncomputable def o67 : Obj := tp []
noncomputable def o68 : Obj := fl []
noncomputable def o69 : Obj := tp [.str (q "self") 259]
noncomputable def o70 : Obj := tp []
noncomputable def o71 : Obj := @fn _ _ _ _ (rfl : bodyOf (mth 3 1) = some (_, _, _)) (.none) none (q "told") (q "SpotFault.told") 0 [] .none .none .none .none none .none .none 0 []
noncomputable def o72 : Obj := cd (.str (q "told") 256) (.str (q "SpotFault.told") 257) (.str (q "/claim/cut.py") 258) (.int 19 0) (.int 1 0) (.int 0 0) (.int 0 0) (.int 3 0) (.ref 67) (.bool true) (.int 181 0) (.ref 68) .none (.ref 69) (.ref 70) (.ref 71) (.int 260 0) (.int 19 0) (.str (q "/claim/cut.py") 261)
noncomputable def o73 : Obj := @fn _ _ _ _ (rfl : bodyOf (mth 3 1) = some (_, _, _)) (.type "function") none (q "told") (q "SpotFault.told") 3 [] .none .none .none (.str (q "relfinder.errors") 194) none (.ref 72) .none 0 []
noncomputable def o74 : Obj := tp [.str (q "spot") 263]
noncomputable def o75 (P : Params) : Obj := ⟨.type "dict", none, .dict [de P "__module__" 241 (.str (q "relfinder.errors") 194), de P "__firstlineno__" 245 (.int 13 244), de P "__init__" 255 (.ref 66), de P "told" 262 (.ref 73), de P "__static_attributes__" 264 (.ref 74), de P "__doc__" 266 .none].toArray 3, #[]⟩
noncomputable def o76 : Obj := ⟨.type "type", none, .cls ⟨(q "SpotFault"), [.ref 47], [.ref 76, .ref 47, .type "Exception", .type "BaseException", .type "object"], 75, (q "SpotFault"), true, [], [.ref 88, .ref 100], false, none, false⟩, ([some (.ref 51), none, some (.str (q "SpotFault") 234), some (.str (q "SpotFault") 242), some (.builtin "Exception.__new__"), some (.bool true)]).toArray⟩
noncomputable def o77 : Obj := ⟨.type "super", none, .fields [.ref 76, .ref 76, .ref 76].toArray, #[]⟩
noncomputable def o78 : Obj := ⟨.type "builtin_function_or_method", none, .fields [.builtin "object.__init_subclass__", .ref 76].toArray, #[]⟩
noncomputable def o79 : Obj := tp [.ref 76]
noncomputable def o80 : Obj := ⟨.type "builtin_function_or_method", none, .fields [.builtin "type.__prepare__", .type "type"].toArray, #[]⟩
noncomputable def o81 (P : Params) : Obj := ⟨.type "dict", none, .dict [de P "__module__" 276 (.str (q "relfinder.errors") 194), de P "__qualname__" 278 (.str (q "KindFault") 277), de P "__firstlineno__" 280 (.int 21 279), de P "__static_attributes__" 281 (.ref 86)].toArray 4, #[]⟩
noncomputable def o82 : Obj := tp []
noncomputable def o83 : Obj := fl []
noncomputable def o84 : Obj := cd (.str (q "KindFault") 271) (.str (q "KindFault") 272) (.str (q "/claim/cut.py") 273) (.int 21 0) (.int 0 0) (.int 0 0) (.int 0 0) (.int 0 0) (.ref 82) (.bool false) (.int 181 0) (.ref 83) .none .none .none .none (.int 274 0) (.int 21 0) (.str (q "/claim/cut.py") 275)
noncomputable def o85 : Obj := ⟨.type "frame", none, .plain, ([some (.ref 84), some (.ref 3), some (.ref 81), none, some (.str (q "relfinder.errors") 194), none, some (.ref 0)]).toArray⟩
noncomputable def o86 : Obj := tp []
noncomputable def o87 (P : Params) : Obj := ⟨.type "dict", none, .dict [de P "__module__" 276 (.str (q "relfinder.errors") 194), de P "__firstlineno__" 280 (.int 21 279), de P "__static_attributes__" 281 (.ref 86), de P "__doc__" 282 .none].toArray 2, #[]⟩
noncomputable def o88 : Obj := ⟨.type "type", none, .cls ⟨(q "KindFault"), [.ref 76], [.ref 88, .ref 76, .ref 47, .type "Exception", .type "BaseException", .type "object"], 87, (q "KindFault"), true, [], [], false, none, false⟩, ([some (.ref 79), none, some (.str (q "KindFault") 269), some (.str (q "KindFault") 277), some (.builtin "Exception.__new__"), some (.bool true)]).toArray⟩
noncomputable def o89 : Obj := ⟨.type "super", none, .fields [.ref 88, .ref 88, .ref 88].toArray, #[]⟩
noncomputable def o90 : Obj := ⟨.type "builtin_function_or_method", none, .fields [.builtin "object.__init_subclass__", .ref 88].toArray, #[]⟩
noncomputable def o91 : Obj := tp [.ref 76]
noncomputable def o92 : Obj := ⟨.type "builtin_function_or_method", none, .fields [.builtin "type.__prepare__", .type "type"].toArray, #[]⟩
noncomputable def o93 (P : Params) : Obj := ⟨.type "dict", none, .dict [de P "__module__" 292 (.str (q "relfinder.errors") 194), de P "__qualname__" 294 (.str (q "ScopeFault") 293), de P "__firstlineno__" 296 (.int 23 295), de P "__static_attributes__" 297 (.ref 98)].toArray 4, #[]⟩
noncomputable def o94 : Obj := tp []
noncomputable def o95 : Obj := fl []
noncomputable def o96 : Obj := cd (.str (q "ScopeFault") 287) (.str (q "ScopeFault") 288) (.str (q "/claim/cut.py") 289) (.int 23 0) (.int 0 0) (.int 0 0) (.int 0 0) (.int 0 0) (.ref 94) (.bool false) (.int 181 0) (.ref 95) .none .none .none .none (.int 290 0) (.int 23 0) (.str (q "/claim/cut.py") 291)
noncomputable def o97 : Obj := ⟨.type "frame", none, .plain, ([some (.ref 96), some (.ref 3), some (.ref 93), none, some (.str (q "relfinder.errors") 194), none, some (.ref 0)]).toArray⟩
noncomputable def o98 : Obj := tp []
noncomputable def o99 (P : Params) : Obj := ⟨.type "dict", none, .dict [de P "__module__" 292 (.str (q "relfinder.errors") 194), de P "__firstlineno__" 296 (.int 23 295), de P "__static_attributes__" 297 (.ref 98), de P "__doc__" 298 .none].toArray 2, #[]⟩
noncomputable def o100 : Obj := ⟨.type "type", none, .cls ⟨(q "ScopeFault"), [.ref 76], [.ref 100, .ref 76, .ref 47, .type "Exception", .type "BaseException", .type "object"], 99, (q "ScopeFault"), true, [], [], false, none, false⟩, ([some (.ref 91), none, some (.str (q "ScopeFault") 285), some (.str (q "ScopeFault") 293), some (.builtin "Exception.__new__"), some (.bool true)]).toArray⟩
noncomputable def o101 : Obj := ⟨.type "super", none, .fields [.ref 100, .ref 100, .ref 100].toArray, #[]⟩
noncomputable def o102 : Obj := ⟨.type "builtin_function_or_method", none, .fields [.builtin "object.__init_subclass__", .ref 100].toArray, #[]⟩
noncomputable def o103 : Obj := tp [.ref 47]
noncomputable def o104 : Obj := ⟨.type "builtin_function_or_method", none, .fields [.builtin "type.__prepare__", .type "type"].toArray, #[]⟩
noncomputable def o105 (P : Params) : Obj := ⟨.type "dict", none, .dict [de P "__module__" 308 (.str (q "relfinder.errors") 194), de P "__qualname__" 310 (.str (q "LimitFault") 309), de P "__firstlineno__" 312 (.int 25 311), de P "__static_attributes__" 313 (.ref 110)].toArray 4, #[]⟩
noncomputable def o106 : Obj := tp []
noncomputable def o107 : Obj := fl []
noncomputable def o108 : Obj := cd (.str (q "LimitFault") 303) (.str (q "LimitFault") 304) (.str (q "/claim/cut.py") 305) (.int 25 0) (.int 0 0) (.int 0 0) (.int 0 0) (.int 0 0) (.ref 106) (.bool false) (.int 181 0) (.ref 107) .none .none .none .none (.int 306 0) (.int 25 0) (.str (q "/claim/cut.py") 307)
noncomputable def o109 : Obj := ⟨.type "frame", none, .plain, ([some (.ref 108), some (.ref 3), some (.ref 105), none, some (.str (q "relfinder.errors") 194), none, some (.ref 0)]).toArray⟩
noncomputable def o110 : Obj := tp []
noncomputable def o111 (P : Params) : Obj := ⟨.type "dict", none, .dict [de P "__module__" 308 (.str (q "relfinder.errors") 194), de P "__firstlineno__" 312 (.int 25 311), de P "__static_attributes__" 313 (.ref 110), de P "__doc__" 314 .none].toArray 2, #[]⟩
noncomputable def o112 : Obj := ⟨.type "type", none, .cls ⟨(q "LimitFault"), [.ref 47], [.ref 112, .ref 47, .type "Exception", .type "BaseException", .type "object"], 111, (q "LimitFault"), true, [], [], false, none, false⟩, ([some (.ref 103), none, some (.str (q "LimitFault") 301), some (.str (q "LimitFault") 309), some (.builtin "Exception.__new__"), some (.bool true)]).toArray⟩
noncomputable def o113 : Obj := ⟨.type "super", none, .fields [.ref 112, .ref 112, .ref 112].toArray, #[]⟩
noncomputable def o114 : Obj := ⟨.type "builtin_function_or_method", none, .fields [.builtin "object.__init_subclass__", .ref 112].toArray, #[]⟩
noncomputable def o115 : Obj := tp []
noncomputable def o116 : Obj := fl []
noncomputable def o117 : Obj := @fn _ _ _ _ (rfl : bodyOf (top 8) = some (_, _, _)) (.none) none (q "set_of") (q "set_of") 0 [] .none .none .none .none none .none .none 0 []
noncomputable def o118 : Obj := cd (.str (q "set_of") 319) (.str (q "set_of") 320) (.str (q "/claim/cut.py") 321) (.int 28 0) (.int 1 0) (.int 0 0) (.int 0 0) (.int 3 0) (.ref 115) (.bool true) (.int 181 0) (.ref 116) .none .none .none (.ref 117) (.int 322 0) (.int 28 0) (.str (q "/claim/cut.py") 323)
noncomputable def o119 : Obj := @fn _ _ _ _ (rfl : bodyOf (top 8) = some (_, _, _)) (.type "function") none (q "set_of") (q "set_of") 3 [] .none .none .none (.str (q "relfinder.sets") 317) none (.ref 118) .none 0 []
noncomputable def o120 : Obj := tp []
noncomputable def o121 : Obj := fl []
noncomputable def o122 : Obj := tp [.str (q "s") 328, .str (q "t") 329]
noncomputable def o123 : Obj := tp []
noncomputable def o124 : Obj := @fn _ _ _ _ (rfl : bodyOf (top 9) = some (_, _, _)) (.none) none (q "union") (q "union") 0 [] .none .none .none .none none .none .none 0 []
noncomputable def o125 : Obj := cd (.str (q "union") 325) (.str (q "union") 326) (.str (q "/claim/cut.py") 327) (.int 30 0) (.int 2 0) (.int 0 0) (.int 0 0) (.int 3 0) (.ref 120) (.bool true) (.int 181 0) (.ref 121) .none (.ref 122) (.ref 123) (.ref 124) (.int 330 0) (.int 30 0) (.str (q "/claim/cut.py") 331)
noncomputable def o126 : Obj := @fn _ _ _ _ (rfl : bodyOf (top 9) = some (_, _, _)) (.type "function") none (q "union") (q "union") 3 [] .none .none .none (.str (q "relfinder.sets") 317) none (.ref 125) .none 0 []
noncomputable def o127 : Obj := tp []
noncomputable def o128 : Obj := fl []
noncomputable def o129 : Obj := @fn _ _ _ _ (rfl : bodyOf (top 10) = some (_, _, _)) (.none) none (q "product") (q "product") 0 [] .none .none .none .none none .none .none 0 []
noncomputable def o130 : Obj := cd (.str (q "product") 333) (.str (q "product") 334) (.str (q "/claim/cut.py") 335) (.int 32 0) (.int 2 0) (.int 0 0) (.int 0 0) (.int 3 0) (.ref 127) (.bool true) (.int 181 0) (.ref 128) .none .none .none (.ref 129) (.int 336 0) (.int 32 0) (.str (q "/claim/cut.py") 337)
noncomputable def o131 : Obj := @fn _ _ _ _ (rfl : bodyOf (top 10) = some (_, _, _)) (.type "function") none (q "product") (q "product") 3 [] .none .none .none (.str (q "relfinder.sets") 317) none (.ref 130) .none 0 []
noncomputable def o132 : Obj := tp []
noncomputable def o133 : Obj := ⟨.type "builtin_function_or_method", none, .fields [.builtin "type.__prepare__", .type "type"].toArray, #[]⟩
noncomputable def o134 (P : Params) : Obj := ⟨.type "dict", none, .dict [de P "__module__" 357 (.str (q "relfinder.scopes") 339), de P "__qualname__" 359 (.str (q "Numbers") 358), de P "__firstlineno__" 361 (.int 39 360), de P "__init__" 374 (.ref 145), de P "take" 384 (.ref 152), de P "usual_for" 390 (.ref 157), de P "lot_of" 401 (.ref 164), de P "formula_of" 410 (.ref 171), de P "__static_attributes__" 415 (.ref 172)].toArray 9, #[]⟩
noncomputable def o135 : Obj := tp []
noncomputable def o136 : Obj := fl [.int 41 0, .int 4 0, .ref 144, .int 53 0, .int 4 0, .ref 151, .int 66 0, .int 4 0, .ref 156, .int 73 0, .int 4 0, .ref 163, .int 86 0, .int 4 0, .ref 170]
noncomputable def o137 : Obj := cd (.str (q "Numbers") 352) (.str (q "Numbers") 353) (.str (q "/claim/cut.py") 354) (.int 39 0) (.int 0 0) (.int 0 0) (.int 0 0) (.int 0 0) (.ref 135) (.bool false) (.int 181 0) (.ref 136) .none .none .none .none (.int 355 0) (.int 39 0) (.str (q "/claim/cut.py") 356)
noncomputable def o138 : Obj := ⟨.type "frame", none, .plain, ([some (.ref 137), some (.ref 3), some (.ref 134), none, some (.str (q "relfinder.scopes") 339), none, some (.ref 0)]).toArray⟩
noncomputable def o139 : Obj := tp []
noncomputable def o140 : Obj := fl []
noncomputable def o141 : Obj := tp [.str (q "self") 365, .str (q "signatures") 366, .str (q "scope") 367, .str (q "is_exact") 368, .str (q "number") 369, .str (q "sig") 370, .str (q "alias") 371]
noncomputable def o142 : Obj := tp []
noncomputable def o143 : Obj := @fn _ _ _ _ (rfl : bodyOf (mth 16 0) = some (_, _, _)) (.none) none (q "__init__") (q "Numbers.__init__") 0 [] .none .none .none .none none .none .none 0 []
noncomputable def o144 : Obj := cd (.str (q "__init__") 362) (.str (q "Numbers.__init__") 363) (.str (q "/claim/cut.py") 364) (.int 41 0) (.int 3 0) (.int 0 0) (.int 0 0) (.int 3 0) (.ref 139) (.bool true) (.int 181 0) (.ref 140) .none (.ref 141) (.ref 142) (.ref 143) (.int 372 0) (.int 41 0) (.str (q "/claim/cut.py") 373)
noncomputable def o145 : Obj := @fn _ _ _ _ (rfl : bodyOf (mth 16 0) = some (_, _, _)) (.type "function") none (q "__init__") (q "Numbers.__init__") 3 [] .none .none .none (.str (q "relfinder.scopes") 339) none (.ref 144) .none 0 []
noncomputable def o146 : Obj := tp []
noncomputable def o147 : Obj := fl []
noncomputable def o148 : Obj := tp [.str (q "self") 378, .str (q "is_exact") 379, .str (q "number") 380, .str (q "sig") 381]
noncomputable def o149 : Obj := tp []
noncomputable def o150 : Obj := @fn _ _ _ _ (rfl : bodyOf (mth 16 1) = some (_, _, _)) (.none) none (q "take") (q "Numbers.take") 0 [] .none .none .none .none none .none .none 0 []
noncomputable def o151 : Obj := cd (.str (q "take") 375) (.str (q "Numbers.take") 376) (.str (q "/claim/cut.py") 377) (.int 53 0) (.int 4 0) (.int 0 0) (.int 0 0) (.int 3 0) (.ref 146) (.bool true) (.int 181 0) (.ref 147) .none (.ref 148) (.ref 149) (.ref 150) (.int 382 0) (.int 53 0) (.str (q "/claim/cut.py") 383)
noncomputable def o152 : Obj := @fn _ _ _ _ (rfl : bodyOf (mth 16 1) = some (_, _, _)) (.type "function") none (q "take") (q "Numbers.take") 3 [] .none .none .none (.str (q "relfinder.scopes") 339) none (.ref 151) .none 0 []
noncomputable def o153 : Obj := tp []
noncomputable def o154 : Obj := fl []
noncomputable def o155 : Obj := @fn _ _ _ _ (rfl : bodyOf (mth 16 2) = some (_, _, _)) (.none) none (q "usual_for") (q "Numbers.usual_for") 0 [] .none .none .none .none none .none .none 0 []
noncomputable def o156 : Obj := cd (.str (q "usual_for") 385) (.str (q "Numbers.usual_for") 386) (.str (q "/claim/cut.py") 387) (.int 66 0) (.int 2 0) (.int 0 0) (.int 0 0) (.int 3 0) (.ref 153) (.bool true) (.int 181 0) (.ref 154) .none .none .none (.ref 155) (.int 388 0) (.int 66 0) (.str (q "/claim/cut.py") 389)
noncomputable def o157 : Obj := @fn _ _ _ _ (rfl : bodyOf (mth 16 2) = some (_, _, _)) (.type "function") none (q "usual_for") (q "Numbers.usual_for") 3 [] .none .none .none (.str (q "relfinder.scopes") 339) none (.ref 156) .none 0 []
noncomputable def o158 : Obj := tp []
noncomputable def o159 : Obj := fl []
noncomputable def o160 : Obj := tp [.str (q "self") 394, .str (q "sig") 395, .str (q "is_exact") 396, .str (q "many") 397, .str (q "mult") 398]
noncomputable def o161 : Obj := tp []
noncomputable def o162 : Obj := @fn _ _ _ _ (rfl : bodyOf (mth 16 3) = some (_, _, _)) (.none) none (q "lot_of") (q "Numbers.lot_of") 0 [] .none .none .none .none none .none .none 0 []
noncomputable def o163 : Obj := cd (.str (q "lot_of") 391) (.str (q "Numbers.lot_of") 392) (.str (q "/claim/cut.py") 393) (.int 73 0) (.int 2 0) (.int 0 0) (.int 0 0) (.int 3 0) (.ref 158) (.bool true) (.int 181 0) (.ref 159) .none (.ref 160) (.ref 161) (.ref 162) (.int 399 0) (.int 73 0) (.str (q "/claim/cut.py") 400)
noncomputable def o164 : Obj := @fn _ _ _ _ (rfl : bodyOf (mth 16 3) = some (_, _, _)) (.type "function") none (q "lot_of") (q "Numbers.lot_of") 3 [] .none .none .none (.str (q "relfinder.scopes") 339) none (.ref 163) .none 0 []
noncomputable def o165 : Obj := tp []
noncomputable def o166 : Obj := fl []
noncomputable def o167 : Obj := tp [.str (q "self") 405, .str (q "sig") 406, .str (q "r") 407]
noncomputable def o168 : Obj := tp []
noncomputable def o169 : Obj := @fn _ _ _ _ (rfl : bodyOf (mth 16 4) = some (_, _, _)) (.none) none (q "formula_of") (q "Numbers.formula_of") 0 [] .none .none .none .none none .none .none 0 []
noncomputable def o170 : Obj := cd (.str (q "formula_of") 402) (.str (q "Numbers.formula_of") 403) (.str (q "/claim/cut.py") 404) (.int 86 0) (.int 3 0) (.int 0 0) (.int 0 0) (.int 3 0) (.ref 165) (.bool true) (.int 181 0) (.ref 166) .none (.ref 167) (.ref 168) (.ref 169) (.int 408 0) (.int 86 0) (.str (q "/claim/cut.py") 409)
noncomputable def o171 : Obj := @fn _ _ _ _ (rfl : bodyOf (mth 16 4) = some (_, _, _)) (.type "function") none (q "formula_of") (q "Numbers.formula_of") 3 [] .none .none .none (.str (q "relfinder.scopes") 339) none (.ref 170) .none 0 []
noncomputable def o172 : Obj := tp [.str (q "default") 411, .str (q "ordered") 412, .str (q "signatures") 413, .str (q "told") 414]
noncomputable def o173 (P : Params) : Obj := ⟨.type "dict", none, .dict [de P "__module__" 357 (.str (q "relfinder.scopes") 339), de P "__firstlineno__" 361 (.int 39 360), de P "__init__" 374 (.ref 145), de P "take" 384 (.ref 152), de P "usual_for" 390 (.ref 157), de P "lot_of" 401 (.ref 164), de P "formula_of" 410 (.ref 171), de P "__static_attributes__" 415 (.ref 172), de P "__dict__" 417 (.ref 175), de P "__weakref__" 419 (.ref 176), de P "__doc__" 420 .none].toArray 4, #[]⟩
noncomputable def o174 : Obj := ⟨.type "type", none, .cls ⟨(q "Numbers"), [.type "object"], [.ref 174, .type "object"], 173, (q "Numbers"), true, [], [], false, none, false⟩, ([none, none, some (.str (q "Numbers") 350), some (.str (q "Numbers") 358), some (.builtin "object.__new__"), some (.bool true)]).toArray⟩
noncomputable def o175 : Obj := ⟨.type "getset_descriptor", none, .fields [.str (q "__dict__") 416, .ref 174, .builtin "function.__dict__", .builtin "function.__dict__#set"].toArray, #[]⟩
noncomputable def o176 : Obj := ⟨.type "getset_descriptor", none, .fields [.str (q "__weakref__") 418, .ref 174, .builtin "ExceptionGroup.__weakref__", .none].toArray, #[]⟩
noncomputable def o177 : Obj := ⟨.type "super", none, .fields [.ref 174, .ref 174, .ref 174].toArray, #[]⟩
noncomputable def o178 : Obj := ⟨.type "builtin_function_or_method", none, .fields [.builtin "object.__init_subclass__", .ref 174].toArray, #[]⟩
noncomputable def o179 : Obj := tp []
noncomputable def o180 : Obj := ⟨.type "builtin_function_or_method", none, .fields [.builtin "type.__prepare__", .type "type"].toArray, #[]⟩
noncomputable def o181 (P : Params) : Obj := ⟨.type "dict", none, .dict [de P "__module__" 430 (.str (q "relfinder.scopes") 339), de P "__qualname__" 432 (.str (q "Uppers") 431), de P "__firstlineno__" 434 (.int 88 433), de P "__init__" 444 (.ref 192), de P "of_sig" 455 (.ref 199), de P "of_column" 461 (.ref 204), de P "of_field" 470 (.ref 211), de P "__static_attributes__" 474 (.ref 212)].toArray 8, #[]⟩
noncomputable def o182 : Obj := tp []
noncomputable def o183 : Obj := fl [.int 90 0, .int 4 0, .ref 191, .int 95 0, .int 4 0, .ref 198, .int 104 0, .int 4 0, .ref 203, .int 115 0, .int 4 0, .ref 210]
noncomputable def o184 : Obj := cd (.str (q "Uppers") 425) (.str (q "Uppers") 426) (.str (q "/claim/cut.py") 427) (.int 88 0) (.int 0 0) (.int 0 0) (.int 0 0) (.int 0 0) (.ref 182) (.bool false) (.int 181 0) (.ref 183) .none .none .none .none (.int 428 0) (.int 88 0) (.str (q "/claim/cut.py") 429)
noncomputable def o185 : Obj := ⟨.type "frame", none, .plain, ([some (.ref 184), some (.ref 3), some (.ref 181), none, some (.str (q "relfinder.scopes") 339), none, some (.ref 0)]).toArray⟩
noncomputable def o186 : Obj := tp []
noncomputable def o187 : Obj := fl []
noncomputable def o188 : Obj := tp [.str (q "self") 438, .str (q "signatures") 439, .str (q "kinds") 440, .str (q "lots") 441]
noncomputable def o189 : Obj := tp []
noncomputable def o190 : Obj := @fn _ _ _ _ (rfl : bodyOf (mth 17 0) = some (_, _, _)) (.none) none (q "__init__") (q "Uppers.__init__") 0 [] .none .none .none .none none .none .none 0 []
noncomputable def o191 : Obj := cd (.str (q "__init__") 435) (.str (q "Uppers.__init__") 436) (.str (q "/claim/cut.py") 437) (.int 90 0) (.int 4 0) (.int 0 0) (.int 0 0) (.int 3 0) (.ref 186) (.bool true) (.int 181 0) (.ref 187) .none (.ref 188) (.ref 189) (.ref 190) (.int 442 0) (.int 90 0) (.str (q "/claim/cut.py") 443)
noncomputable def o192 : Obj := @fn _ _ _ _ (rfl : bodyOf (mth 17 0) = some (_, _, _)) (.type "function") none (q "__init__") (q "Uppers.__init__") 3 [] .none .none .none (.str (q "relfinder.scopes") 339) none (.ref 191) .none 0 []
noncomputable def o193 : Obj := tp []
noncomputable def o194 : Obj := fl []
noncomputable def o195 : Obj := tp [.str (q "self") 448, .str (q "sig") 449, .str (q "top") 450, .str (q "found") 451, .str (q "one") 452]
noncomputable def o196 : Obj := tp []
noncomputable def o197 : Obj := @fn _ _ _ _ (rfl : bodyOf (mth 17 1) = some (_, _, _)) (.none) none (q "of_sig") (q "Uppers.of_sig") 0 [] .none .none .none .none none .none .none 0 []
noncomputable def o198 : Obj := cd (.str (q "of_sig") 445) (.str (q "Uppers.of_sig") 446) (.str (q "/claim/cut.py") 447) (.int 95 0) (.int 2 0) (.int 0 0) (.int 0 0) (.int 3 0) (.ref 193) (.bool true) (.int 181 0) (.ref 194) .none (.ref 195) (.ref 196) (.ref 197) (.int 453 0) (.int 95 0) (.str (q "/claim/cut.py") 454)
noncomputable def o199 : Obj := @fn _ _ _ _ (rfl : bodyOf (mth 17 1) = some (_, _, _)) (.type "function") none (q "of_sig") (q "Uppers.of_sig") 3 [] .none .none .none (.str (q "relfinder.scopes") 339) none (.ref 198) .none 0 []
noncomputable def o200 : Obj := tp []
noncomputable def o201 : Obj := fl []
noncomputable def o202 : Obj := @fn _ _ _ _ (rfl : bodyOf (mth 17 2) = some (_, _, _)) (.none) none (q "of_column") (q "Uppers.of_column") 0 [] .none .none .none .none none .none .none 0 []
noncomputable def o203 : Obj := cd (.str (q "of_column") 456) (.str (q "Uppers.of_column") 457) (.str (q "/claim/cut.py") 458) (.int 104 0) (.int 2 0) (.int 0 0) (.int 0 0) (.int 3 0) (.ref 200) (.bool true) (.int 181 0) (.ref 201) .none .none .none (.ref 202) (.int 459 0) (.int 104 0) (.str (q "/claim/cut.py") 460)
noncomputable def o204 : Obj := @fn _ _ _ _ (rfl : bodyOf (mth 17 2) = some (_, _, _)) (.type "function") none (q "of_column") (q "Uppers.of_column") 3 [] .none .none .none (.str (q "relfinder.scopes") 339) none (.ref 203) .none 0 []
noncomputable def o205 : Obj := tp []
noncomputable def o206 : Obj := fl []
noncomputable def o207 : Obj := tp [.str (q "self") 465, .str (q "sig") 466, .str (q "field") 467]
noncomputable def o208 : Obj := tp []
noncomputable def o209 : Obj := @fn _ _ _ _ (rfl : bodyOf (mth 17 3) = some (_, _, _)) (.none) none (q "of_field") (q "Uppers.of_field") 0 [] .none .none .none .none none .none .none 0 []
noncomputable def o210 : Obj := cd (.str (q "of_field") 462) (.str (q "Uppers.of_field") 463) (.str (q "/claim/cut.py") 464) (.int 115 0) (.int 3 0) (.int 0 0) (.int 0 0) (.int 3 0) (.ref 205) (.bool true) (.int 181 0) (.ref 206) .none (.ref 207) (.ref 208) (.ref 209) (.int 468 0) (.int 115 0) (.str (q "/claim/cut.py") 469)
noncomputable def o211 : Obj := @fn _ _ _ _ (rfl : bodyOf (mth 17 3) = some (_, _, _)) (.type "function") none (q "of_field") (q "Uppers.of_field") 3 [] .none .none .none (.str (q "relfinder.scopes") 339) none (.ref 210) .none 0 []
noncomputable def o212 : Obj := tp [.str (q "kinds") 471, .str (q "lots") 472, .str (q "signatures") 473]
noncomputable def o213 (P : Params) : Obj := ⟨.type "dict", none, .dict [de P "__module__" 430 (.str (q "relfinder.scopes") 339), de P "__firstlineno__" 434 (.int 88 433), de P "__init__" 444 (.ref 192), de P "of_sig" 455 (.ref 199), de P "of_column" 461 (.ref 204), de P "of_field" 470 (.ref 211), de P "__static_attributes__" 474 (.ref 212), de P "__dict__" 476 (.ref 215), de P "__weakref__" 478 (.ref 216), de P "__doc__" 479 .none].toArray 4, #[]⟩
noncomputable def o214 : Obj := ⟨.type "type", none, .cls ⟨(q "Uppers"), [.type "object"], [.ref 214, .type "object"], 213, (q "Uppers"), true, [], [], false, none, false⟩, ([none, none, some (.str (q "Uppers") 423), some (.str (q "Uppers") 431), some (.builtin "object.__new__"), some (.bool true)]).toArray⟩
noncomputable def o215 : Obj := ⟨.type "getset_descriptor", none, .fields [.str (q "__dict__") 475, .ref 214, .builtin "function.__dict__", .builtin "function.__dict__#set"].toArray, #[]⟩
noncomputable def o216 : Obj := ⟨.type "getset_descriptor", none, .fields [.str (q "__weakref__") 477, .ref 214, .builtin "ExceptionGroup.__weakref__", .none].toArray, #[]⟩
noncomputable def o217 : Obj := ⟨.type "super", none, .fields [.ref 214, .ref 214, .ref 214].toArray, #[]⟩
noncomputable def o218 : Obj := ⟨.type "builtin_function_or_method", none, .fields [.builtin "object.__init_subclass__", .ref 214].toArray, #[]⟩
noncomputable def o219 : Obj := tp []
noncomputable def o220 : Obj := ⟨.type "builtin_function_or_method", none, .fields [.builtin "type.__prepare__", .type "type"].toArray, #[]⟩
noncomputable def o221 (P : Params) : Obj := ⟨.type "dict", none, .dict [de P "__module__" 489 (.str (q "relfinder.scopes") 339), de P "__qualname__" 491 (.str (q "Scopes") 490), de P "__firstlineno__" 493 (.int 117 492), de P "__init__" 502 (.ref 232), de P "atoms_of" 508 (.ref 237), de P "bounds_of" 516 (.ref 244), de P "__static_attributes__" 519 (.ref 245)].toArray 7, #[]⟩
noncomputable def o222 : Obj := tp []
noncomputable def o223 : Obj := fl [.int 119 0, .int 4 0, .ref 231, .int 123 0, .int 4 0, .ref 236, .int 135 0, .int 4 0, .ref 243]
noncomputable def o224 : Obj := cd (.str (q "Scopes") 484) (.str (q "Scopes") 485) (.str (q "/claim/cut.py") 486) (.int 117 0) (.int 0 0) (.int 0 0) (.int 0 0) (.int 0 0) (.ref 222) (.bool false) (.int 181 0) (.ref 223) .none .none .none .none (.int 487 0) (.int 117 0) (.str (q "/claim/cut.py") 488)
noncomputable def o225 : Obj := ⟨.type "frame", none, .plain, ([some (.ref 224), some (.ref 3), some (.ref 221), none, some (.str (q "relfinder.scopes") 339), none, some (.ref 0)]).toArray⟩
noncomputable def o226 : Obj := tp []
noncomputable def o227 : Obj := fl []
noncomputable def o228 : Obj := tp [.str (q "self") 497, .str (q "signatures") 498, .str (q "kinds") 499]
noncomputable def o229 : Obj := tp []
noncomputable def o230 : Obj := @fn _ _ _ _ (rfl : bodyOf (mth 18 0) = some (_, _, _)) (.none) none (q "__init__") (q "Scopes.__init__") 0 [] .none .none .none .none none .none .none 0 []
noncomputable def o231 : Obj := cd (.str (q "__init__") 494) (.str (q "Scopes.__init__") 495) (.str (q "/claim/cut.py") 496) (.int 119 0) (.int 3 0) (.int 0 0) (.int 0 0) (.int 3 0) (.ref 226) (.bool true) (.int 181 0) (.ref 227) .none (.ref 228) (.ref 229) (.ref 230) (.int 500 0) (.int 119 0) (.str (q "/claim/cut.py") 501)
noncomputable def o232 : Obj := @fn _ _ _ _ (rfl : bodyOf (mth 18 0) = some (_, _, _)) (.type "function") none (q "__init__") (q "Scopes.__init__") 3 [] .none .none .none (.str (q "relfinder.scopes") 339) none (.ref 231) .none 0 []
noncomputable def o233 : Obj := tp []
noncomputable def o234 : Obj := fl []
noncomputable def o235 : Obj := @fn _ _ _ _ (rfl : bodyOf (mth 18 1) = some (_, _, _)) (.none) none (q "atoms_of") (q "Scopes.atoms_of") 0 [] .none .none .none .none none .none .none 0 []
noncomputable def o236 : Obj := cd (.str (q "atoms_of") 503) (.str (q "Scopes.atoms_of") 504) (.str (q "/claim/cut.py") 505) (.int 123 0) (.int 2 0) (.int 0 0) (.int 0 0) (.int 3 0) (.ref 233) (.bool true) (.int 181 0) (.ref 234) .none .none .none (.ref 235) (.int 506 0) (.int 123 0) (.str (q "/claim/cut.py") 507)
noncomputable def o237 : Obj := @fn _ _ _ _ (rfl : bodyOf (mth 18 1) = some (_, _, _)) (.type "function") none (q "atoms_of") (q "Scopes.atoms_of") 3 [] .none .none .none (.str (q "relfinder.scopes") 339) none (.ref 236) .none 0 []
noncomputable def o238 : Obj := tp []
noncomputable def o239 : Obj := fl []
noncomputable def o240 : Obj := tp [.str (q "self") 512, .str (q "scope") 513]
noncomputable def o241 : Obj := tp []
noncomputable def o242 : Obj := @fn _ _ _ _ (rfl : bodyOf (mth 18 2) = some (_, _, _)) (.none) none (q "bounds_of") (q "Scopes.bounds_of") 0 [] .none .none .none .none none .none .none 0 []
noncomputable def o243 : Obj := cd (.str (q "bounds_of") 509) (.str (q "Scopes.bounds_of") 510) (.str (q "/claim/cut.py") 511) (.int 135 0) (.int 2 0) (.int 0 0) (.int 0 0) (.int 3 0) (.ref 238) (.bool true) (.int 181 0) (.ref 239) .none (.ref 240) (.ref 241) (.ref 242) (.int 514 0) (.int 135 0) (.str (q "/claim/cut.py") 515)
noncomputable def o244 : Obj := @fn _ _ _ _ (rfl : bodyOf (mth 18 2) = some (_, _, _)) (.type "function") none (q "bounds_of") (q "Scopes.bounds_of") 3 [] .none .none .none (.str (q "relfinder.scopes") 339) none (.ref 243) .none 0 []
noncomputable def o245 : Obj := tp [.str (q "kinds") 517, .str (q "signatures") 518]
noncomputable def o246 (P : Params) : Obj := ⟨.type "dict", none, .dict [de P "__module__" 489 (.str (q "relfinder.scopes") 339), de P "__firstlineno__" 493 (.int 117 492), de P "__init__" 502 (.ref 232), de P "atoms_of" 508 (.ref 237), de P "bounds_of" 516 (.ref 244), de P "__static_attributes__" 519 (.ref 245), de P "__dict__" 521 (.ref 248), de P "__weakref__" 523 (.ref 249), de P "__doc__" 524 .none].toArray 4, #[]⟩
noncomputable def o247 : Obj := ⟨.type "type", none, .cls ⟨(q "Scopes"), [.type "object"], [.ref 247, .type "object"], 246, (q "Scopes"), true, [], [], false, none, false⟩, ([none, none, some (.str (q "Scopes") 482), some (.str (q "Scopes") 490), some (.builtin "object.__new__"), some (.bool true)]).toArray⟩
noncomputable def o248 : Obj := ⟨.type "getset_descriptor", none, .fields [.str (q "__dict__") 520, .ref 247, .builtin "function.__dict__", .builtin "function.__dict__#set"].toArray, #[]⟩
noncomputable def o249 : Obj := ⟨.type "getset_descriptor", none, .fields [.str (q "__weakref__") 522, .ref 247, .builtin "ExceptionGroup.__weakref__", .none].toArray, #[]⟩
noncomputable def o250 : Obj := ⟨.type "super", none, .fields [.ref 247, .ref 247, .ref 247].toArray, #[]⟩
noncomputable def o251 : Obj := ⟨.type "builtin_function_or_method", none, .fields [.builtin "object.__init_subclass__", .ref 247].toArray, #[]⟩
noncomputable def o252 : Obj := tp []
noncomputable def o253 : Obj := ⟨.type "builtin_function_or_method", none, .fields [.builtin "type.__prepare__", .type "type"].toArray, #[]⟩
noncomputable def o254 (P : Params) : Obj := ⟨.type "dict", none, .dict [de P "__module__" 538 (.str (q "relfinder.sigs") 527), de P "__qualname__" 540 (.str (q "Signatures") 539), de P "__firstlineno__" 542 (.int 139 541), de P "__init__" 552 (.ref 265), de P "take_sig" 561 (.ref 272), de P "look_above" 570 (.ref 279), de P "direct" 578 (.ref 286), de P "parents_first" 584 (.ref 291), de P "all_fields" 600 (.ref 298), de P "look_fields" 615 (.ref 305), de P "take_order" 621 (.ref 310), de P "names" 628 (.ref 317), de P "has" 636 (.ref 324), de P "spot" 644 (.ref 331), de P "parent" 652 (.ref 338), de P "supers" 660 (.ref 345), de P "is_subset" 668 (.ref 352), de P "children" 674 (.ref 357), de P "above" 683 (.ref 364), de P "top" 691 (.ref 371), de P "all_above" 702 (.ref 378), de P "is_abstract" 710 (.ref 385), de P "mult" 718 (.ref 392), de P "fields" 725 (.ref 399), de P "facts" 733 (.ref 406), de P "orders" 740 (.ref 413), de P "__static_attributes__" 746 (.ref 414)].toArray 27, #[]⟩
noncomputable def o255 : Obj := tp []
noncomputable def o256 : Obj := fl [.int 141 0, .int 4 0, .ref 264, .int 157 0, .int 4 0, .ref 271, .int 166 0, .int 4 0, .ref 278, .int 173 0, .int 4 0, .ref 285, .int 176 0, .int 4 0, .ref 290, .int 186 0, .int 4 0, .ref 297, .int 195 0, .int 4 0, .ref 304, .int 205 0, .int 4 0, .ref 309, .int 216 0, .int 4 0, .ref 316, .int 219 0, .int 4 0, .ref 323, .int 222 0, .int 4 0, .ref 330, .int 225 0, .int 4 0, .ref 337, .int 228 0, .int 4 0, .ref 344, .int 231 0, .int 4 0, .ref 351, .int 234 0, .int 4 0, .ref 356, .int 237 0, .int 4 0, .ref 363, .int 244 0, .int 4 0, .ref 370, .int 249 0, .int 4 0, .ref 377, .int 258 0, .int 4 0, .ref 384, .int 261 0, .int 4 0, .ref 391, .int 264 0, .int 4 0, .ref 398, .int 267 0, .int 4 0, .ref 405, .int 270 0, .int 4 0, .ref 412]
noncomputable def o257 : Obj := cd (.str (q "Signatures") 533) (.str (q "Signatures") 534) (.str (q "/claim/cut.py") 535) (.int 139 0) (.int 0 0) (.int 0 0) (.int 0 0) (.int 0 0) (.ref 255) (.bool false) (.int 181 0) (.ref 256) .none .none .none .none (.int 536 0) (.int 139 0) (.str (q "/claim/cut.py") 537)
noncomputable def o258 : Obj := ⟨.type "frame", none, .plain, ([some (.ref 257), some (.ref 3), some (.ref 254), none, some (.str (q "relfinder.sigs") 527), none, some (.ref 0)]).toArray⟩
noncomputable def o259 : Obj := tp []
noncomputable def o260 : Obj := fl []
noncomputable def o261 : Obj := tp [.str (q "self") 546, .str (q "items") 547, .str (q "item") 548, .str (q "name") 549]
noncomputable def o262 : Obj := tp []
noncomputable def o263 : Obj := @fn _ _ _ _ (rfl : bodyOf (mth 21 0) = some (_, _, _)) (.none) none (q "__init__") (q "Signatures.__init__") 0 [] .none .none .none .none none .none .none 0 []
noncomputable def o264 : Obj := cd (.str (q "__init__") 543) (.str (q "Signatures.__init__") 544) (.str (q "/claim/cut.py") 545) (.int 141 0) (.int 2 0) (.int 0 0) (.int 0 0) (.int 3 0) (.ref 259) (.bool true) (.int 181 0) (.ref 260) .none (.ref 261) (.ref 262) (.ref 263) (.int 550 0) (.int 141 0) (.str (q "/claim/cut.py") 551)
noncomputable def o265 : Obj := @fn _ _ _ _ (rfl : bodyOf (mth 21 0) = some (_, _, _)) (.type "function") none (q "__init__") (q "Signatures.__init__") 3 [] .none .none .none (.str (q "relfinder.sigs") 527) none (.ref 264) .none 0 []
noncomputable def o266 : Obj := tp []
noncomputable def o267 : Obj := fl []
noncomputable def o268 : Obj := tp [.str (q "self") 556, .str (q "item") 557, .str (q "name") 558]
noncomputable def o269 : Obj := tp []
noncomputable def o270 : Obj := @fn _ _ _ _ (rfl : bodyOf (mth 21 1) = some (_, _, _)) (.none) none (q "take_sig") (q "Signatures.take_sig") 0 [] .none .none .none .none none .none .none 0 []
noncomputable def o271 : Obj := cd (.str (q "take_sig") 553) (.str (q "Signatures.take_sig") 554) (.str (q "/claim/cut.py") 555) (.int 157 0) (.int 2 0) (.int 0 0) (.int 0 0) (.int 3 0) (.ref 266) (.bool true) (.int 181 0) (.ref 267) .none (.ref 268) (.ref 269) (.ref 270) (.int 559 0) (.int 157 0) (.str (q "/claim/cut.py") 560)
noncomputable def o272 : Obj := @fn _ _ _ _ (rfl : bodyOf (mth 21 1) = some (_, _, _)) (.type "function") none (q "take_sig") (q "Signatures.take_sig") 3 [] .none .none .none (.str (q "relfinder.sigs") 527) none (.ref 271) .none 0 []
noncomputable def o273 : Obj := tp []
noncomputable def o274 : Obj := fl []
noncomputable def o275 : Obj := tp [.str (q "self") 565, .str (q "name") 566, .str (q "other") 567]
noncomputable def o276 : Obj := tp []
noncomputable def o277 : Obj := @fn _ _ _ _ (rfl : bodyOf (mth 21 2) = some (_, _, _)) (.none) none (q "look_above") (q "Signatures.look_above") 0 [] .none .none .none .none none .none .none 0 []
noncomputable def o278 : Obj := cd (.str (q "look_above") 562) (.str (q "Signatures.look_above") 563) (.str (q "/claim/cut.py") 564) (.int 166 0) (.int 2 0) (.int 0 0) (.int 0 0) (.int 3 0) (.ref 273) (.bool true) (.int 181 0) (.ref 274) .none (.ref 275) (.ref 276) (.ref 277) (.int 568 0) (.int 166 0) (.str (q "/claim/cut.py") 569)
noncomputable def o279 : Obj := @fn _ _ _ _ (rfl : bodyOf (mth 21 2) = some (_, _, _)) (.type "function") none (q "look_above") (q "Signatures.look_above") 3 [] .none .none .none (.str (q "relfinder.sigs") 527) none (.ref 278) .none 0 []
noncomputable def o280 : Obj := tp []
noncomputable def o281 : Obj := fl []
noncomputable def o282 : Obj := tp [.str (q "self") 574, .str (q "name") 575]
noncomputable def o283 : Obj := tp []
noncomputable def o284 : Obj := @fn _ _ _ _ (rfl : bodyOf (mth 21 3) = some (_, _, _)) (.none) none (q "direct") (q "Signatures.direct") 0 [] .none .none .none .none none .none .none 0 []
noncomputable def o285 : Obj := cd (.str (q "direct") 571) (.str (q "Signatures.direct") 572) (.str (q "/claim/cut.py") 573) (.int 173 0) (.int 2 0) (.int 0 0) (.int 0 0) (.int 3 0) (.ref 280) (.bool true) (.int 181 0) (.ref 281) .none (.ref 282) (.ref 283) (.ref 284) (.int 576 0) (.int 173 0) (.str (q "/claim/cut.py") 577)
noncomputable def o286 : Obj := @fn _ _ _ _ (rfl : bodyOf (mth 21 3) = some (_, _, _)) (.type "function") none (q "direct") (q "Signatures.direct") 3 [] .none .none .none (.str (q "relfinder.sigs") 527) none (.ref 285) .none 0 []
noncomputable def o287 : Obj := tp []
noncomputable def o288 : Obj := fl []
noncomputable def o289 : Obj := @fn _ _ _ _ (rfl : bodyOf (mth 21 4) = some (_, _, _)) (.none) none (q "parents_first") (q "Signatures.parents_first") 0 [] .none .none .none .none none .none .none 0 []
noncomputable def o290 : Obj := cd (.str (q "parents_first") 579) (.str (q "Signatures.parents_first") 580) (.str (q "/claim/cut.py") 581) (.int 176 0) (.int 1 0) (.int 0 0) (.int 0 0) (.int 3 0) (.ref 287) (.bool true) (.int 181 0) (.ref 288) .none .none .none (.ref 289) (.int 582 0) (.int 176 0) (.str (q "/claim/cut.py") 583)
noncomputable def o291 : Obj := @fn _ _ _ _ (rfl : bodyOf (mth 21 4) = some (_, _, _)) (.type "function") none (q "parents_first") (q "Signatures.parents_first") 3 [] .none .none .none (.str (q "relfinder.sigs") 527) none (.ref 290) .none 0 []
noncomputable def o292 : Obj := tp []
noncomputable def o293 : Obj := fl []
noncomputable def o294 : Obj := tp [.str (q "self") 588, .str (q "found") 589, .str (q "group") 590, .str (q "name") 591, .str (q "spot") 592, .str (q "is_disj") 593, .str (q "fields") 594, .str (q "mult") 595, .str (q "node") 596, .str (q "field") 597]
noncomputable def o295 : Obj := tp []
noncomputable def o296 : Obj := @fn _ _ _ _ (rfl : bodyOf (mth 21 5) = some (_, _, _)) (.none) none (q "all_fields") (q "Signatures.all_fields") 0 [] .none .none .none .none none .none .none 0 []
noncomputable def o297 : Obj := cd (.str (q "all_fields") 585) (.str (q "Signatures.all_fields") 586) (.str (q "/claim/cut.py") 587) (.int 186 0) (.int 1 0) (.int 0 0) (.int 0 0) (.int 3 0) (.ref 292) (.bool true) (.int 181 0) (.ref 293) .none (.ref 294) (.ref 295) (.ref 296) (.int 598 0) (.int 186 0) (.str (q "/claim/cut.py") 599)
noncomputable def o298 : Obj := @fn _ _ _ _ (rfl : bodyOf (mth 21 5) = some (_, _, _)) (.type "function") none (q "all_fields") (q "Signatures.all_fields") 3 [] .none .none .none (.str (q "relfinder.sigs") 527) none (.ref 297) .none 0 []
noncomputable def o299 : Obj := tp []
noncomputable def o300 : Obj := fl []
noncomputable def o301 : Obj := tp [.str (q "self") 604, .str (q "seen") 605, .str (q "field") 606, .str (q "name") 607, .str (q "mult") 608, .str (q "node") 609, .str (q "spot") 610, .str (q "group") 611, .str (q "other") 612]
noncomputable def o302 : Obj := tp []
noncomputable def o303 : Obj := @fn _ _ _ _ (rfl : bodyOf (mth 21 6) = some (_, _, _)) (.none) none (q "look_fields") (q "Signatures.look_fields") 0 [] .none .none .none .none none .none .none 0 []
noncomputable def o304 : Obj := cd (.str (q "look_fields") 601) (.str (q "Signatures.look_fields") 602) (.str (q "/claim/cut.py") 603) (.int 195 0) (.int 1 0) (.int 0 0) (.int 0 0) (.int 3 0) (.ref 299) (.bool true) (.int 181 0) (.ref 300) .none (.ref 301) (.ref 302) (.ref 303) (.int 613 0) (.int 195 0) (.str (q "/claim/cut.py") 614)
noncomputable def o305 : Obj := @fn _ _ _ _ (rfl : bodyOf (mth 21 6) = some (_, _, _)) (.type "function") none (q "look_fields") (q "Signatures.look_fields") 3 [] .none .none .none (.str (q "relfinder.sigs") 527) none (.ref 304) .none 0 []
noncomputable def o306 : Obj := tp []
noncomputable def o307 : Obj := fl []
noncomputable def o308 : Obj := @fn _ _ _ _ (rfl : bodyOf (mth 21 7) = some (_, _, _)) (.none) none (q "take_order") (q "Signatures.take_order") 0 [] .none .none .none .none none .none .none 0 []
noncomputable def o309 : Obj := cd (.str (q "take_order") 616) (.str (q "Signatures.take_order") 617) (.str (q "/claim/cut.py") 618) (.int 205 0) (.int 2 0) (.int 0 0) (.int 0 0) (.int 3 0) (.ref 306) (.bool true) (.int 181 0) (.ref 307) .none .none .none (.ref 308) (.int 619 0) (.int 205 0) (.str (q "/claim/cut.py") 620)
noncomputable def o310 : Obj := @fn _ _ _ _ (rfl : bodyOf (mth 21 7) = some (_, _, _)) (.type "function") none (q "take_order") (q "Signatures.take_order") 3 [] .none .none .none (.str (q "relfinder.sigs") 527) none (.ref 309) .none 0 []
noncomputable def o311 : Obj := tp []
noncomputable def o312 : Obj := fl []
noncomputable def o313 : Obj := tp [.str (q "self") 625]
noncomputable def o314 : Obj := tp []
noncomputable def o315 : Obj := @fn _ _ _ _ (rfl : bodyOf (mth 21 8) = some (_, _, _)) (.none) none (q "names") (q "Signatures.names") 0 [] .none .none .none .none none .none .none 0 []
noncomputable def o316 : Obj := cd (.str (q "names") 622) (.str (q "Signatures.names") 623) (.str (q "/claim/cut.py") 624) (.int 216 0) (.int 1 0) (.int 0 0) (.int 0 0) (.int 3 0) (.ref 311) (.bool true) (.int 181 0) (.ref 312) .none (.ref 313) (.ref 314) (.ref 315) (.int 626 0) (.int 216 0) (.str (q "/claim/cut.py") 627)
noncomputable def o317 : Obj := @fn _ _ _ _ (rfl : bodyOf (mth 21 8) = some (_, _, _)) (.type "function") none (q "names") (q "Signatures.names") 3 [] .none .none .none (.str (q "relfinder.sigs") 527) none (.ref 316) .none 0 []
noncomputable def o318 : Obj := tp []
noncomputable def o319 : Obj := fl []
noncomputable def o320 : Obj := tp [.str (q "self") 632, .str (q "name") 633]
noncomputable def o321 : Obj := tp []
noncomputable def o322 : Obj := @fn _ _ _ _ (rfl : bodyOf (mth 21 9) = some (_, _, _)) (.none) none (q "has") (q "Signatures.has") 0 [] .none .none .none .none none .none .none 0 []
noncomputable def o323 : Obj := cd (.str (q "has") 629) (.str (q "Signatures.has") 630) (.str (q "/claim/cut.py") 631) (.int 219 0) (.int 2 0) (.int 0 0) (.int 0 0) (.int 3 0) (.ref 318) (.bool true) (.int 181 0) (.ref 319) .none (.ref 320) (.ref 321) (.ref 322) (.int 634 0) (.int 219 0) (.str (q "/claim/cut.py") 635)
noncomputable def o324 : Obj := @fn _ _ _ _ (rfl : bodyOf (mth 21 9) = some (_, _, _)) (.type "function") none (q "has") (q "Signatures.has") 3 [] .none .none .none (.str (q "relfinder.sigs") 527) none (.ref 323) .none 0 []
noncomputable def o325 : Obj := tp []
noncomputable def o326 : Obj := fl []
noncomputable def o327 : Obj := tp [.str (q "self") 640, .str (q "name") 641]
noncomputable def o328 : Obj := tp []
noncomputable def o329 : Obj := @fn _ _ _ _ (rfl : bodyOf (mth 21 10) = some (_, _, _)) (.none) none (q "spot") (q "Signatures.spot") 0 [] .none .none .none .none none .none .none 0 []
noncomputable def o330 : Obj := cd (.str (q "spot") 637) (.str (q "Signatures.spot") 638) (.str (q "/claim/cut.py") 639) (.int 222 0) (.int 2 0) (.int 0 0) (.int 0 0) (.int 3 0) (.ref 325) (.bool true) (.int 181 0) (.ref 326) .none (.ref 327) (.ref 328) (.ref 329) (.int 642 0) (.int 222 0) (.str (q "/claim/cut.py") 643)
noncomputable def o331 : Obj := @fn _ _ _ _ (rfl : bodyOf (mth 21 10) = some (_, _, _)) (.type "function") none (q "spot") (q "Signatures.spot") 3 [] .none .none .none (.str (q "relfinder.sigs") 527) none (.ref 330) .none 0 []
noncomputable def o332 : Obj := tp []
noncomputable def o333 : Obj := fl []
noncomputable def o334 : Obj := tp [.str (q "self") 648, .str (q "name") 649]
noncomputable def o335 : Obj := tp []
noncomputable def o336 : Obj := @fn _ _ _ _ (rfl : bodyOf (mth 21 11) = some (_, _, _)) (.none) none (q "parent") (q "Signatures.parent") 0 [] .none .none .none .none none .none .none 0 []
noncomputable def o337 : Obj := cd (.str (q "parent") 645) (.str (q "Signatures.parent") 646) (.str (q "/claim/cut.py") 647) (.int 225 0) (.int 2 0) (.int 0 0) (.int 0 0) (.int 3 0) (.ref 332) (.bool true) (.int 181 0) (.ref 333) .none (.ref 334) (.ref 335) (.ref 336) (.int 650 0) (.int 225 0) (.str (q "/claim/cut.py") 651)
noncomputable def o338 : Obj := @fn _ _ _ _ (rfl : bodyOf (mth 21 11) = some (_, _, _)) (.type "function") none (q "parent") (q "Signatures.parent") 3 [] .none .none .none (.str (q "relfinder.sigs") 527) none (.ref 337) .none 0 []
noncomputable def o339 : Obj := tp []
noncomputable def o340 : Obj := fl []
noncomputable def o341 : Obj := tp [.str (q "self") 656, .str (q "name") 657]
noncomputable def o342 : Obj := tp []
noncomputable def o343 : Obj := @fn _ _ _ _ (rfl : bodyOf (mth 21 12) = some (_, _, _)) (.none) none (q "supers") (q "Signatures.supers") 0 [] .none .none .none .none none .none .none 0 []
noncomputable def o344 : Obj := cd (.str (q "supers") 653) (.str (q "Signatures.supers") 654) (.str (q "/claim/cut.py") 655) (.int 228 0) (.int 2 0) (.int 0 0) (.int 0 0) (.int 3 0) (.ref 339) (.bool true) (.int 181 0) (.ref 340) .none (.ref 341) (.ref 342) (.ref 343) (.int 658 0) (.int 228 0) (.str (q "/claim/cut.py") 659)
noncomputable def o345 : Obj := @fn _ _ _ _ (rfl : bodyOf (mth 21 12) = some (_, _, _)) (.type "function") none (q "supers") (q "Signatures.supers") 3 [] .none .none .none (.str (q "relfinder.sigs") 527) none (.ref 344) .none 0 []
noncomputable def o346 : Obj := tp []
noncomputable def o347 : Obj := fl []
noncomputable def o348 : Obj := tp [.str (q "self") 664, .str (q "name") 665]
noncomputable def o349 : Obj := tp []
noncomputable def o350 : Obj := @fn _ _ _ _ (rfl : bodyOf (mth 21 13) = some (_, _, _)) (.none) none (q "is_subset") (q "Signatures.is_subset") 0 [] .none .none .none .none none .none .none 0 []
noncomputable def o351 : Obj := cd (.str (q "is_subset") 661) (.str (q "Signatures.is_subset") 662) (.str (q "/claim/cut.py") 663) (.int 231 0) (.int 2 0) (.int 0 0) (.int 0 0) (.int 3 0) (.ref 346) (.bool true) (.int 181 0) (.ref 347) .none (.ref 348) (.ref 349) (.ref 350) (.int 666 0) (.int 231 0) (.str (q "/claim/cut.py") 667)
noncomputable def o352 : Obj := @fn _ _ _ _ (rfl : bodyOf (mth 21 13) = some (_, _, _)) (.type "function") none (q "is_subset") (q "Signatures.is_subset") 3 [] .none .none .none (.str (q "relfinder.sigs") 527) none (.ref 351) .none 0 []
noncomputable def o353 : Obj := tp []
noncomputable def o354 : Obj := fl []
noncomputable def o355 : Obj := @fn _ _ _ _ (rfl : bodyOf (mth 21 14) = some (_, _, _)) (.none) none (q "children") (q "Signatures.children") 0 [] .none .none .none .none none .none .none 0 []
noncomputable def o356 : Obj := cd (.str (q "children") 669) (.str (q "Signatures.children") 670) (.str (q "/claim/cut.py") 671) (.int 234 0) (.int 2 0) (.int 0 0) (.int 0 0) (.int 3 0) (.ref 353) (.bool true) (.int 181 0) (.ref 354) .none .none .none (.ref 355) (.int 672 0) (.int 234 0) (.str (q "/claim/cut.py") 673)
noncomputable def o357 : Obj := @fn _ _ _ _ (rfl : bodyOf (mth 21 14) = some (_, _, _)) (.type "function") none (q "children") (q "Signatures.children") 3 [] .none .none .none (.str (q "relfinder.sigs") 527) none (.ref 356) .none 0 []
noncomputable def o358 : Obj := tp []
noncomputable def o359 : Obj := fl []
noncomputable def o360 : Obj := tp [.str (q "self") 678, .str (q "name") 679, .str (q "found") 680]
noncomputable def o361 : Obj := tp []
noncomputable def o362 : Obj := @fn _ _ _ _ (rfl : bodyOf (mth 21 15) = some (_, _, _)) (.none) none (q "above") (q "Signatures.above") 0 [] .none .none .none .none none .none .none 0 []
noncomputable def o363 : Obj := cd (.str (q "above") 675) (.str (q "Signatures.above") 676) (.str (q "/claim/cut.py") 677) (.int 237 0) (.int 2 0) (.int 0 0) (.int 0 0) (.int 3 0) (.ref 358) (.bool true) (.int 181 0) (.ref 359) .none (.ref 360) (.ref 361) (.ref 362) (.int 681 0) (.int 237 0) (.str (q "/claim/cut.py") 682)
noncomputable def o364 : Obj := @fn _ _ _ _ (rfl : bodyOf (mth 21 15) = some (_, _, _)) (.type "function") none (q "above") (q "Signatures.above") 3 [] .none .none .none (.str (q "relfinder.sigs") 527) none (.ref 363) .none 0 []
noncomputable def o365 : Obj := tp []
noncomputable def o366 : Obj := fl []
noncomputable def o367 : Obj := tp [.str (q "self") 687, .str (q "name") 688]
noncomputable def o368 : Obj := tp []
noncomputable def o369 : Obj := @fn _ _ _ _ (rfl : bodyOf (mth 21 16) = some (_, _, _)) (.none) none (q "top") (q "Signatures.top") 0 [] .none .none .none .none none .none .none 0 []
noncomputable def o370 : Obj := cd (.str (q "top") 684) (.str (q "Signatures.top") 685) (.str (q "/claim/cut.py") 686) (.int 244 0) (.int 2 0) (.int 0 0) (.int 0 0) (.int 3 0) (.ref 365) (.bool true) (.int 181 0) (.ref 366) .none (.ref 367) (.ref 368) (.ref 369) (.int 689 0) (.int 244 0) (.str (q "/claim/cut.py") 690)
noncomputable def o371 : Obj := @fn _ _ _ _ (rfl : bodyOf (mth 21 16) = some (_, _, _)) (.type "function") none (q "top") (q "Signatures.top") 3 [] .none .none .none (.str (q "relfinder.sigs") 527) none (.ref 370) .none 0 []
noncomputable def o372 : Obj := tp []
noncomputable def o373 : Obj := fl []
noncomputable def o374 : Obj := tp [.str (q "self") 695, .str (q "name") 696, .str (q "found") 697, .str (q "waiting") 698, .str (q "other") 699]
noncomputable def o375 : Obj := tp []
noncomputable def o376 : Obj := @fn _ _ _ _ (rfl : bodyOf (mth 21 17) = some (_, _, _)) (.none) none (q "all_above") (q "Signatures.all_above") 0 [] .none .none .none .none none .none .none 0 []
noncomputable def o377 : Obj := cd (.str (q "all_above") 692) (.str (q "Signatures.all_above") 693) (.str (q "/claim/cut.py") 694) (.int 249 0) (.int 2 0) (.int 0 0) (.int 0 0) (.int 3 0) (.ref 372) (.bool true) (.int 181 0) (.ref 373) .none (.ref 374) (.ref 375) (.ref 376) (.int 700 0) (.int 249 0) (.str (q "/claim/cut.py") 701)
noncomputable def o378 : Obj := @fn _ _ _ _ (rfl : bodyOf (mth 21 17) = some (_, _, _)) (.type "function") none (q "all_above") (q "Signatures.all_above") 3 [] .none .none .none (.str (q "relfinder.sigs") 527) none (.ref 377) .none 0 []
noncomputable def o379 : Obj := tp []
noncomputable def o380 : Obj := fl []
noncomputable def o381 : Obj := tp [.str (q "self") 706, .str (q "name") 707]
noncomputable def o382 : Obj := tp []
noncomputable def o383 : Obj := @fn _ _ _ _ (rfl : bodyOf (mth 21 18) = some (_, _, _)) (.none) none (q "is_abstract") (q "Signatures.is_abstract") 0 [] .none .none .none .none none .none .none 0 []
noncomputable def o384 : Obj := cd (.str (q "is_abstract") 703) (.str (q "Signatures.is_abstract") 704) (.str (q "/claim/cut.py") 705) (.int 258 0) (.int 2 0) (.int 0 0) (.int 0 0) (.int 3 0) (.ref 379) (.bool true) (.int 181 0) (.ref 380) .none (.ref 381) (.ref 382) (.ref 383) (.int 708 0) (.int 258 0) (.str (q "/claim/cut.py") 709)
noncomputable def o385 : Obj := @fn _ _ _ _ (rfl : bodyOf (mth 21 18) = some (_, _, _)) (.type "function") none (q "is_abstract") (q "Signatures.is_abstract") 3 [] .none .none .none (.str (q "relfinder.sigs") 527) none (.ref 384) .none 0 []
noncomputable def o386 : Obj := tp []
noncomputable def o387 : Obj := fl []
noncomputable def o388 : Obj := tp [.str (q "self") 714, .str (q "name") 715]
noncomputable def o389 : Obj := tp []
noncomputable def o390 : Obj := @fn _ _ _ _ (rfl : bodyOf (mth 21 19) = some (_, _, _)) (.none) none (q "mult") (q "Signatures.mult") 0 [] .none .none .none .none none .none .none 0 []
noncomputable def o391 : Obj := cd (.str (q "mult") 711) (.str (q "Signatures.mult") 712) (.str (q "/claim/cut.py") 713) (.int 261 0) (.int 2 0) (.int 0 0) (.int 0 0) (.int 3 0) (.ref 386) (.bool true) (.int 181 0) (.ref 387) .none (.ref 388) (.ref 389) (.ref 390) (.int 716 0) (.int 261 0) (.str (q "/claim/cut.py") 717)
noncomputable def o392 : Obj := @fn _ _ _ _ (rfl : bodyOf (mth 21 19) = some (_, _, _)) (.type "function") none (q "mult") (q "Signatures.mult") 3 [] .none .none .none (.str (q "relfinder.sigs") 527) none (.ref 391) .none 0 []
noncomputable def o393 : Obj := tp []
noncomputable def o394 : Obj := fl []
noncomputable def o395 : Obj := tp [.str (q "self") 722]
noncomputable def o396 : Obj := tp []
noncomputable def o397 : Obj := @fn _ _ _ _ (rfl : bodyOf (mth 21 20) = some (_, _, _)) (.none) none (q "fields") (q "Signatures.fields") 0 [] .none .none .none .none none .none .none 0 []
noncomputable def o398 : Obj := cd (.str (q "fields") 719) (.str (q "Signatures.fields") 720) (.str (q "/claim/cut.py") 721) (.int 264 0) (.int 1 0) (.int 0 0) (.int 0 0) (.int 3 0) (.ref 393) (.bool true) (.int 181 0) (.ref 394) .none (.ref 395) (.ref 396) (.ref 397) (.int 723 0) (.int 264 0) (.str (q "/claim/cut.py") 724)
noncomputable def o399 : Obj := @fn _ _ _ _ (rfl : bodyOf (mth 21 20) = some (_, _, _)) (.type "function") none (q "fields") (q "Signatures.fields") 3 [] .none .none .none (.str (q "relfinder.sigs") 527) none (.ref 398) .none 0 []
noncomputable def o400 : Obj := tp []
noncomputable def o401 : Obj := fl []
noncomputable def o402 : Obj := tp [.str (q "self") 729, .str (q "name") 730]
noncomputable def o403 : Obj := tp []
noncomputable def o404 : Obj := @fn _ _ _ _ (rfl : bodyOf (mth 21 21) = some (_, _, _)) (.none) none (q "facts") (q "Signatures.facts") 0 [] .none .none .none .none none .none .none 0 []
noncomputable def o405 : Obj := cd (.str (q "facts") 726) (.str (q "Signatures.facts") 727) (.str (q "/claim/cut.py") 728) (.int 267 0) (.int 2 0) (.int 0 0) (.int 0 0) (.int 3 0) (.ref 400) (.bool true) (.int 181 0) (.ref 401) .none (.ref 402) (.ref 403) (.ref 404) (.int 731 0) (.int 267 0) (.str (q "/claim/cut.py") 732)
noncomputable def o406 : Obj := @fn _ _ _ _ (rfl : bodyOf (mth 21 21) = some (_, _, _)) (.type "function") none (q "facts") (q "Signatures.facts") 3 [] .none .none .none (.str (q "relfinder.sigs") 527) none (.ref 405) .none 0 []
noncomputable def o407 : Obj := tp []
noncomputable def o408 : Obj := fl []
noncomputable def o409 : Obj := tp [.str (q "self") 737]
noncomputable def o410 : Obj := tp []
noncomputable def o411 : Obj := @fn _ _ _ _ (rfl : bodyOf (mth 21 22) = some (_, _, _)) (.none) none (q "orders") (q "Signatures.orders") 0 [] .none .none .none .none none .none .none 0 []
noncomputable def o412 : Obj := cd (.str (q "orders") 734) (.str (q "Signatures.orders") 735) (.str (q "/claim/cut.py") 736) (.int 270 0) (.int 1 0) (.int 0 0) (.int 0 0) (.int 3 0) (.ref 407) (.bool true) (.int 181 0) (.ref 408) .none (.ref 409) (.ref 410) (.ref 411) (.int 738 0) (.int 270 0) (.str (q "/claim/cut.py") 739)
noncomputable def o413 : Obj := @fn _ _ _ _ (rfl : bodyOf (mth 21 22) = some (_, _, _)) (.type "function") none (q "orders") (q "Signatures.orders") 3 [] .none .none .none (.str (q "relfinder.sigs") 527) none (.ref 412) .none 0 []
noncomputable def o414 : Obj := tp [.str (q "entries") 741, .str (q "opened") 742, .str (q "ordered") 743, .str (q "own_fields") 744, .str (q "stands") 745]
noncomputable def o415 (P : Params) : Obj := ⟨.type "dict", none, .dict [de P "__module__" 538 (.str (q "relfinder.sigs") 527), de P "__firstlineno__" 542 (.int 139 541), de P "__init__" 552 (.ref 265), de P "take_sig" 561 (.ref 272), de P "look_above" 570 (.ref 279), de P "direct" 578 (.ref 286), de P "parents_first" 584 (.ref 291), de P "all_fields" 600 (.ref 298), de P "look_fields" 615 (.ref 305), de P "take_order" 621 (.ref 310), de P "names" 628 (.ref 317), de P "has" 636 (.ref 324), de P "spot" 644 (.ref 331), de P "parent" 652 (.ref 338), de P "supers" 660 (.ref 345), de P "is_subset" 668 (.ref 352), de P "children" 674 (.ref 357), de P "above" 683 (.ref 364), de P "top" 691 (.ref 371), de P "all_above" 702 (.ref 378), de P "is_abstract" 710 (.ref 385), de P "mult" 718 (.ref 392), de P "fields" 725 (.ref 399), de P "facts" 733 (.ref 406), de P "orders" 740 (.ref 413), de P "__static_attributes__" 746 (.ref 414), de P "__dict__" 748 (.ref 417), de P "__weakref__" 750 (.ref 418), de P "__doc__" 751 .none].toArray 4, #[]⟩
noncomputable def o416 : Obj := ⟨.type "type", none, .cls ⟨(q "Signatures"), [.type "object"], [.ref 416, .type "object"], 415, (q "Signatures"), true, [], [], false, none, false⟩, ([none, none, some (.str (q "Signatures") 531), some (.str (q "Signatures") 539), some (.builtin "object.__new__"), some (.bool true)]).toArray⟩
noncomputable def o417 : Obj := ⟨.type "getset_descriptor", none, .fields [.str (q "__dict__") 747, .ref 416, .builtin "function.__dict__", .builtin "function.__dict__#set"].toArray, #[]⟩
noncomputable def o418 : Obj := ⟨.type "getset_descriptor", none, .fields [.str (q "__weakref__") 749, .ref 416, .builtin "ExceptionGroup.__weakref__", .none].toArray, #[]⟩
noncomputable def o419 : Obj := ⟨.type "super", none, .fields [.ref 416, .ref 416, .ref 416].toArray, #[]⟩
noncomputable def o420 : Obj := ⟨.type "builtin_function_or_method", none, .fields [.builtin "object.__init_subclass__", .ref 416].toArray, #[]⟩
noncomputable def o421 : Obj := tp []
noncomputable def o422 : Obj := fl []
noncomputable def o423 : Obj := tp []
noncomputable def o424 : Obj := tp []
noncomputable def o425 : Obj := @fn _ _ _ _ (rfl : bodyOf (top 23) = some (_, _, _)) (.none) none (q "_law_sizes") (q "_law_sizes") 0 [] .none .none .none .none none .none .none 0 []
noncomputable def o426 : Obj := cd (.str (q "_law_sizes") 756) (.str (q "_law_sizes") 757) (.str (q "/claim/cut.py") 758) (.int 273 0) (.int 0 0) (.int 0 0) (.int 0 0) (.int 3 0) (.ref 421) (.bool true) (.int 181 0) (.ref 422) .none (.ref 423) (.ref 424) (.ref 425) (.int 759 0) (.int 273 0) (.str (q "/claim/cut.py") 760)
noncomputable def o427 : Obj := @fn _ _ _ _ (rfl : bodyOf (top 23) = some (_, _, _)) (.type "function") none (q "_law_sizes") (q "_law_sizes") 3 [] .none .none .none (.str (q "law_nz0394_01") 754) none (.ref 426) .none 0 []
noncomputable def o428 : Obj := tp []
noncomputable def o429 : Obj := fl []
noncomputable def o430 : Obj := tp [.str (q "feed") 765, .str (q "wide") 766, .str (q "spot") 767]
noncomputable def o431 : Obj := tp []
noncomputable def o432 : Obj := @fn _ _ _ _ (rfl : bodyOf (top 24) = some (_, _, _)) (.none) none (q "_law_next") (q "_law_next") 0 [] .none .none .none .none none .none .none 0 []
noncomputable def o433 : Obj := cd (.str (q "_law_next") 762) (.str (q "_law_next") 763) (.str (q "/claim/cut.py") 764) (.int 275 0) (.int 2 0) (.int 0 0) (.int 0 0) (.int 3 0) (.ref 428) (.bool true) (.int 181 0) (.ref 429) .none (.ref 430) (.ref 431) (.ref 432) (.int 768 0) (.int 275 0) (.str (q "/claim/cut.py") 769)
noncomputable def o434 : Obj := @fn _ _ _ _ (rfl : bodyOf (top 24) = some (_, _, _)) (.type "function") none (q "_law_next") (q "_law_next") 3 [] .none .none .none (.str (q "law_nz0394_01") 754) none (.ref 433) .none 0 []
noncomputable def o435 : Obj := tp []
noncomputable def o436 : Obj := fl []
noncomputable def o437 : Obj := @fn _ _ _ _ (rfl : bodyOf (top 25) = some (_, _, _)) (.none) none (q "_law_model") (q "_law_model") 0 [] .none .none .none .none none .none .none 0 []
noncomputable def o438 : Obj := cd (.str (q "_law_model") 771) (.str (q "_law_model") 772) (.str (q "/claim/cut.py") 773) (.int 281 0) (.int 1 0) (.int 0 0) (.int 0 0) (.int 3 0) (.ref 435) (.bool true) (.int 181 0) (.ref 436) .none .none .none (.ref 437) (.int 774 0) (.int 281 0) (.str (q "/claim/cut.py") 775)
noncomputable def o439 : Obj := @fn _ _ _ _ (rfl : bodyOf (top 25) = some (_, _, _)) (.type "function") none (q "_law_model") (q "_law_model") 3 [] .none .none .none (.str (q "law_nz0394_01") 754) none (.ref 438) .none 0 []
noncomputable def o440 : Obj := tp []
noncomputable def o441 : Obj := fl []
noncomputable def o442 : Obj := tp [.str (q "feed") 780, .str (q "tops") 781, .str (q "told") 782, .str (q "default") 783, .str (q "name") 784, .str (q "mult") 785, .str (q "is_abstract") 786, .str (q "below") 787, .str (q "is_exact") 788]
noncomputable def o443 : Obj := tp []
noncomputable def o444 : Obj := @fn _ _ _ _ (rfl : bodyOf (top 26) = some (_, _, _)) (.none) none (q "_law_scope") (q "_law_scope") 0 [] .none .none .none .none none .none .none 0 []
noncomputable def o445 : Obj := cd (.str (q "_law_scope") 777) (.str (q "_law_scope") 778) (.str (q "/claim/cut.py") 779) (.int 294 0) (.int 2 0) (.int 0 0) (.int 0 0) (.int 3 0) (.ref 440) (.bool true) (.int 181 0) (.ref 441) .none (.ref 442) (.ref 443) (.ref 444) (.int 789 0) (.int 294 0) (.str (q "/claim/cut.py") 790)
noncomputable def o446 : Obj := @fn _ _ _ _ (rfl : bodyOf (top 26) = some (_, _, _)) (.type "function") none (q "_law_scope") (q "_law_scope") 3 [] .none .none .none (.str (q "law_nz0394_01") 754) none (.ref 445) .none 0 []
noncomputable def o447 : Obj := tp []
noncomputable def o448 : Obj := fl []
noncomputable def o449 : Obj := @fn _ _ _ _ (rfl : bodyOf (top 27) = some (_, _, _)) (.none) none (q "_law_lot") (q "_law_lot") 0 [] .none .none .none .none none .none .none 0 []
noncomputable def o450 : Obj := cd (.str (q "_law_lot") 792) (.str (q "_law_lot") 793) (.str (q "/claim/cut.py") 794) (.int 305 0) (.int 3 0) (.int 0 0) (.int 0 0) (.int 3 0) (.ref 447) (.bool true) (.int 181 0) (.ref 448) .none .none .none (.ref 449) (.int 795 0) (.int 305 0) (.str (q "/claim/cut.py") 796)
noncomputable def o451 : Obj := @fn _ _ _ _ (rfl : bodyOf (top 27) = some (_, _, _)) (.type "function") none (q "_law_lot") (q "_law_lot") 3 [] .none .none .none (.str (q "law_nz0394_01") 754) none (.ref 450) .none 0 []
noncomputable def o452 : Obj := tp []
noncomputable def o453 : Obj := fl []
noncomputable def o454 : Obj := @fn _ _ _ _ (rfl : bodyOf (top 28) = some (_, _, _)) (.none) none (q "_law_due") (q "_law_due") 0 [] .none .none .none .none none .none .none 0 []
noncomputable def o455 : Obj := cd (.str (q "_law_due") 798) (.str (q "_law_due") 799) (.str (q "/claim/cut.py") 800) (.int 318 0) (.int 3 0) (.int 0 0) (.int 0 0) (.int 3 0) (.ref 452) (.bool true) (.int 181 0) (.ref 453) .none .none .none (.ref 454) (.int 801 0) (.int 318 0) (.str (q "/claim/cut.py") 802)
noncomputable def o456 : Obj := @fn _ _ _ _ (rfl : bodyOf (top 28) = some (_, _, _)) (.type "function") none (q "_law_due") (q "_law_due") 3 [] .none .none .none (.str (q "law_nz0394_01") 754) none (.ref 455) .none 0 []
noncomputable def o457 : Obj := tp []
noncomputable def o458 : Obj := fl []
noncomputable def o459 : Obj := tp [.str (q "signatures") 807, .str (q "scope") 808]
noncomputable def o460 : Obj := tp []
noncomputable def o461 : Obj := @fn _ _ _ _ (rfl : bodyOf (top 29) = some (_, _, _)) (.none) none (q "_law_heard") (q "_law_heard") 0 [] .none .none .none .none none .none .none 0 []
noncomputable def o462 : Obj := cd (.str (q "_law_heard") 804) (.str (q "_law_heard") 805) (.str (q "/claim/cut.py") 806) (.int 332 0) (.int 2 0) (.int 0 0) (.int 0 0) (.int 3 0) (.ref 457) (.bool true) (.int 181 0) (.ref 458) .none (.ref 459) (.ref 460) (.ref 461) (.int 809 0) (.int 332 0) (.str (q "/claim/cut.py") 810)
noncomputable def o463 : Obj := @fn _ _ _ _ (rfl : bodyOf (top 29) = some (_, _, _)) (.type "function") none (q "_law_heard") (q "_law_heard") 3 [] .none .none .none (.str (q "law_nz0394_01") 754) none (.ref 462) .none 0 []
noncomputable def o464 : Obj := tp []
noncomputable def o465 : Obj := fl []
noncomputable def o466 : Obj := @fn _ _ _ _ (rfl : bodyOf (top 30) = some (_, _, _)) (.none) none (q "_law_product") (q "_law_product") 0 [] .none .none .none .none none .none .none 0 []
noncomputable def o467 : Obj := cd (.str (q "_law_product") 812) (.str (q "_law_product") 813) (.str (q "/claim/cut.py") 814) (.int 339 0) (.int 1 0) (.int 0 0) (.int 0 0) (.int 3 0) (.ref 464) (.bool true) (.int 181 0) (.ref 465) .none .none .none (.ref 466) (.int 815 0) (.int 339 0) (.str (q "/claim/cut.py") 816)
noncomputable def o468 : Obj := @fn _ _ _ _ (rfl : bodyOf (top 30) = some (_, _, _)) (.type "function") none (q "_law_product") (q "_law_product") 3 [] .none .none .none (.str (q "law_nz0394_01") 754) none (.ref 467) .none 0 []
noncomputable def o469 : Obj := tp []
noncomputable def o470 : Obj := fl []
noncomputable def o471 : Obj := @fn _ _ _ _ (rfl : bodyOf (top 31) = some (_, _, _)) (.none) none (q "_law_is_column_right") (q "_law_is_column_right") 0 [] .none .none .none .none none .none .none 0 []
noncomputable def o472 : Obj := cd (.str (q "_law_is_column_right") 818) (.str (q "_law_is_column_right") 819) (.str (q "/claim/cut.py") 820) (.int 349 0) (.int 3 0) (.int 0 0) (.int 0 0) (.int 3 0) (.ref 469) (.bool true) (.int 181 0) (.ref 470) .none .none .none (.ref 471) (.int 821 0) (.int 349 0) (.str (q "/claim/cut.py") 822)
noncomputable def o473 : Obj := @fn _ _ _ _ (rfl : bodyOf (top 31) = some (_, _, _)) (.type "function") none (q "_law_is_column_right") (q "_law_is_column_right") 3 [] .none .none .none (.str (q "law_nz0394_01") 754) none (.ref 472) .none 0 []
noncomputable def o474 : Obj := tp []
noncomputable def o475 : Obj := fl []
noncomputable def o476 : Obj := tp [.str (q "script") 827, .str (q "feed") 828, .str (q "items") 829, .str (q "tops") 830, .str (q "lined") 831, .str (q "signatures") 832, .str (q "lap") 833, .str (q "scope") 834]
noncomputable def o477 : Obj := tp []
noncomputable def o478 : Obj := @fn _ _ _ _ (rfl : bodyOf (top 32) = some (_, _, _)) (.none) none (q "law") (q "law") 0 [] .none .none .none .none none .none .none 0 []
noncomputable def o479 : Obj := cd (.str (q "law") 824) (.str (q "law") 825) (.str (q "/claim/cut.py") 826) (.int 360 0) (.int 1 0) (.int 0 0) (.int 0 0) (.int 3 0) (.ref 474) (.bool true) (.int 181 0) (.ref 475) .none (.ref 476) (.ref 477) (.ref 478) (.int 835 0) (.int 360 0) (.str (q "/claim/cut.py") 836)
noncomputable def o480 : Obj := @fn _ _ _ _ (rfl : bodyOf (top 32) = some (_, _, _)) (.type "function") none (q "law") (q "law") 3 [] .none .none .none (.str (q "law_nz0394_01") 754) none (.ref 479) .none 0 []
noncomputable def o3_2 (P : Params) : Obj := ⟨.type "dict", none, .dict [de P "__name__" 165 (.str (q "relfinder.sigs") 527), de P "__doc__" 166 .none, de P "__package__" 167 .none, de P "__loader__" 168 (.builtin "__main__.__loader__#opaque"), de P "__spec__" 169 .none, de P "__annotations__" 170 (.ref 6), de P "__builtins__" 171 (.ref 4), de P "__file__" 173 (.str (q "/claim/cut.py") 172), de P "__cached__" 174 .none, de P "_wall" 193 (.ref 21), de P "FinderError" 233 (.ref 47), de P "SpotFault" 268 (.ref 76), de P "KindFault" 284 (.ref 88), de P "ScopeFault" 300 (.ref 100), de P "LimitFault" 316 (.ref 112), de P "set_of" 324 (.ref 119), de P "union" 332 (.ref 126), de P "product" 338 (.ref 131), de P "USUAL" 342 (.int 3 341), de P "MOST_ATOMS" 344 (.int 500 343), de P "MOST_TUPLES" 346 (.int 100000 345), de P "NOWHERE" 349 (.int (-1) 348), de P "Numbers" 422 (.ref 174), de P "Uppers" 481 (.ref 214), de P "Scopes" 526 (.ref 247), de P "ORDERING" 530 (.str (q "util/ordering") 529)].toArray 26, #[]⟩
noncomputable def o12_2 : Obj := fl [.int 1 0, .int 0 0, .ref 20, .int 5 0, .int 0 0, .ref 28, .int 13 0, .int 0 0, .ref 57, .int 21 0, .int 0 0, .ref 84, .int 23 0, .int 0 0, .ref 96, .int 25 0, .int 0 0, .ref 108, .int 28 0, .int 0 0, .ref 118, .int 30 0, .int 0 0, .ref 125, .int 32 0, .int 0 0, .ref 130, .int 39 0, .int 0 0, .ref 137, .int 88 0, .int 0 0, .ref 184, .int 117 0, .int 0 0, .ref 224]
noncomputable def o3_1 (P : Params) : Obj := ⟨.type "dict", none, .dict [de P "__name__" 165 (.str (q "relfinder.scopes") 339), de P "__doc__" 166 .none, de P "__package__" 167 .none, de P "__loader__" 168 (.builtin "__main__.__loader__#opaque"), de P "__spec__" 169 .none, de P "__annotations__" 170 (.ref 6), de P "__builtins__" 171 (.ref 4), de P "__file__" 173 (.str (q "/claim/cut.py") 172), de P "__cached__" 174 .none, de P "_wall" 193 (.ref 21), de P "FinderError" 233 (.ref 47), de P "SpotFault" 268 (.ref 76), de P "KindFault" 284 (.ref 88), de P "ScopeFault" 300 (.ref 100), de P "LimitFault" 316 (.ref 112), de P "set_of" 324 (.ref 119), de P "union" 332 (.ref 126), de P "product" 338 (.ref 131), de P "USUAL" 342 (.int 3 341), de P "MOST_ATOMS" 344 (.int 500 343), de P "MOST_TUPLES" 346 (.int 100000 345), de P "NOWHERE" 349 (.int (-1) 348)].toArray 22, #[]⟩
noncomputable def o12_1 : Obj := fl [.int 1 0, .int 0 0, .ref 20, .int 5 0, .int 0 0, .ref 28, .int 13 0, .int 0 0, .ref 57, .int 21 0, .int 0 0, .ref 84, .int 23 0, .int 0 0, .ref 96, .int 25 0, .int 0 0, .ref 108, .int 28 0, .int 0 0, .ref 118, .int 30 0, .int 0 0, .ref 125, .int 32 0, .int 0 0, .ref 130]
noncomputable def o12_b : Obj := fl []
noncomputable def ta (P : Params) : BT := (.node (PySem.W.boot_o_0 P) (.node (PySem.W.boot_o_1 P) (.node (PySem.W.boot_o_3 P) (.node (PySem.W.boot_o_7 P) .nil .nil) (.node o11 .nil .nil)) (.node (PySem.W.boot_o_5 P) (.node (PySem.W.boot_o_9 P) .nil .nil) (.node o13 .nil .nil))) (.node (PySem.W.boot_o_2 P) (.node (PySem.W.boot_o_4 P) (.node (PySem.W.boot_o_8 P) .nil .nil) (.node o12_b .nil .nil)) (.node (PySem.W.boot_o_6 P) (.node (PySem.W.boot_o_10 P) .nil .nil) (.node o14 .nil .nil))))
noncomputable def tb (P : Params) : BT := (.node (PySem.W.boot_o_0 P) (.node (PySem.W.boot_o_1 P) (.node (PySem.W.boot_o_3 P) (.node (PySem.W.boot_o_7 P) .nil .nil) (.node o11 .nil .nil)) (.node (PySem.W.boot_o_5 P) (.node (PySem.W.boot_o_9 P) .nil .nil) (.node o13 .nil .nil))) (.node (PySem.W.boot_o_2 P) (.node (PySem.W.boot_o_4 P) (.node (PySem.W.boot_o_8 P) .nil .nil) (.node o12_b .nil .nil)) (.node (PySem.W.boot_o_6 P) (.node (PySem.W.boot_o_10 P) .nil .nil) (.node o14 .nil .nil))))
noncomputable def t1 (P : Params) : BT := (.node (PySem.W.boot_o_0 P) (.node (PySem.W.boot_o_1 P) (.node (o3_1 P) (.node (PySem.W.boot_o_7 P) (.node o15 (.node o31 (.node o63 (.node o127 .nil .nil) .nil) (.node o95 .nil .nil)) (.node o47 (.node o79 .nil .nil) (.node (o111 P) .nil .nil))) (.node o23 (.node o39 (.node o71 .nil .nil) (.node o103 .nil .nil)) (.node o55 (.node (o87 P) .nil .nil) (.node o119 .nil .nil)))) (.node o11 (.node o19 (.node o35 (.node o67 (.node o131 .nil .nil) .nil) (.node (o99 P) .nil .nil)) (.node o51 (.node o83 .nil .nil) (.node o115 .nil .nil))) (.node o27 (.node o43 (.node (o75 P) .nil .nil) (.node o107 .nil .nil)) (.node o59 (.node o91 .nil .nil) (.node o123 .nil .nil))))) (.node (PySem.W.boot_o_5 P) (.node (PySem.W.boot_o_9 P) (.node o17 (.node o33 (.node o65 (.node o129 .nil .nil) .nil) (.node o97 .nil .nil)) (.node o49 (.node (o81 P) .nil .nil) (.node o113 .nil .nil))) (.node o25 (.node o41 (.node o73 .nil .nil) (.node (o105 P) .nil .nil)) (.node o57 (.node o89 .nil .nil) (.node o121 .nil .nil)))) (.node o13 (.node o21 (.node o37 (.node o69 .nil .nil) (.node o101 .nil .nil)) (.node (o53 P) (.node o85 .nil .nil) (.node o117 .nil .nil))) (.node o29 (.node o45 (.node o77 .nil .nil) (.node o109 .nil .nil)) (.node o61 (.node (o93 P) .nil .nil) (.node o125 .nil .nil)))))) (.node (o2 P) (.node (PySem.W.boot_o_4 P) (.node (PySem.W.boot_o_8 P) (.node o16 (.node o32 (.node o64 (.node o128 .nil .nil) .nil) (.node o96 .nil .nil)) (.node o48 (.node o80 .nil .nil) (.node o112 .nil .nil))) (.node (o24 P) (.node o40 (.node o72 .nil .nil) (.node o104 .nil .nil)) (.node o56 (.node o88 .nil .nil) (.node o120 .nil .nil)))) (.node o12_1 (.node o20 (.node o36 (.node o68 .nil .nil) (.node o100 .nil .nil)) (.node o52 (.node o84 .nil .nil) (.node o116 .nil .nil))) (.node o28 (.node o44 (.node o76 .nil .nil) (.node o108 .nil .nil)) (.node o60 (.node o92 .nil .nil) (.node o124 .nil .nil))))) (.node (PySem.W.boot_o_6 P) (.node (PySem.W.boot_o_10 P) (.node o18 (.node o34 (.node o66 (.node o130 .nil .nil) .nil) (.node o98 .nil .nil)) (.node o50 (.node o82 .nil .nil) (.node o114 .nil .nil))) (.node o26 (.node o42 (.node o74 .nil .nil) (.node o106 .nil .nil)) (.node o58 (.node o90 .nil .nil) (.node o122 .nil .nil)))) (.node o14 (.node o22 (.node o38 (.node o70 .nil .nil) (.node o102 .nil .nil)) (.node o54 (.node o86 .nil .nil) (.node o118 .nil .nil))) (.node o30 (.node (o46 P) (.node o78 .nil .nil) (.node o110 .nil .nil)) (.node o62 (.node o94 .nil .nil) (.node o126 .nil .nil)))))))
noncomputable def t2 (P : Params) : BT := (.node (PySem.W.boot_o_0 P) (.node (PySem.W.boot_o_1 P) (.node (o3_2 P) (.node (PySem.W.boot_o_7 P) (.node o15 (.node o31 (.node o63 (.node o127 .nil .nil) (.node o191 .nil .nil)) (.node o95 (.node o159 .nil .nil) (.node o223 .nil .nil))) (.node o47 (.node o79 (.node o143 .nil .nil) (.node o207 .nil .nil)) (.node (o111 P) (.node o175 .nil .nil) (.node o239 .nil .nil)))) (.node o23 (.node o39 (.node o71 (.node o135 .nil .nil) (.node o199 .nil .nil)) (.node o103 (.node o167 .nil .nil) (.node o231 .nil .nil))) (.node o55 (.node (o87 P) (.node o151 .nil .nil) (.node o215 .nil .nil)) (.node o119 (.node o183 .nil .nil) (.node o247 .nil .nil))))) (.node o11 (.node o19 (.node o35 (.node o67 (.node o131 .nil .nil) (.node o195 .nil .nil)) (.node (o99 P) (.node o163 .nil .nil) (.node o227 .nil .nil))) (.node o51 (.node o83 (.node o147 .nil .nil) (.node o211 .nil .nil)) (.node o115 (.node o179 .nil .nil) (.node o243 .nil .nil)))) (.node o27 (.node o43 (.node (o75 P) (.node o139 .nil .nil) (.node o203 .nil .nil)) (.node o107 (.node o171 .nil .nil) (.node o235 .nil .nil))) (.node o59 (.node o91 (.node o155 .nil .nil) (.node o219 .nil .nil)) (.node o123 (.node o187 .nil .nil) (.node o251 .nil .nil)))))) (.node (PySem.W.boot_o_5 P) (.node (PySem.W.boot_o_9 P) (.node o17 (.node o33 (.node o65 (.node o129 .nil .nil) (.node o193 .nil .nil)) (.node o97 (.node o161 .nil .nil) (.node o225 .nil .nil))) (.node o49 (.node (o81 P) (.node o145 .nil .nil) (.node o209 .nil .nil)) (.node o113 (.node o177 .nil .nil) (.node o241 .nil .nil)))) (.node o25 (.node o41 (.node o73 (.node o137 .nil .nil) (.node o201 .nil .nil)) (.node (o105 P) (.node o169 .nil .nil) (.node o233 .nil .nil))) (.node o57 (.node o89 (.node o153 .nil .nil) (.node o217 .nil .nil)) (.node o121 (.node o185 .nil .nil) (.node o249 .nil .nil))))) (.node o13 (.node o21 (.node o37 (.node o69 (.node o133 .nil .nil) (.node o197 .nil .nil)) (.node o101 (.node o165 .nil .nil) (.node o229 .nil .nil))) (.node (o53 P) (.node o85 (.node o149 .nil .nil) (.node (o213 P) .nil .nil)) (.node o117 (.node (o181 P) .nil .nil) (.node o245 .nil .nil)))) (.node o29 (.node o45 (.node o77 (.node o141 .nil .nil) (.node o205 .nil .nil)) (.node o109 (.node (o173 P) .nil .nil) (.node o237 .nil .nil))) (.node o61 (.node (o93 P) (.node o157 .nil .nil) (.node (o221 P) .nil .nil)) (.node o125 (.node o189 .nil .nil) .nil)))))) (.node (o2 P) (.node (PySem.W.boot_o_4 P) (.node (PySem.W.boot_o_8 P) (.node o16 (.node o32 (.node o64 (.node o128 .nil .nil) (.node o192 .nil .nil)) (.node o96 (.node o160 .nil .nil) (.node o224 .nil .nil))) (.node o48 (.node o80 (.node o144 .nil .nil) (.node o208 .nil .nil)) (.node o112 (.node o176 .nil .nil) (.node o240 .nil .nil)))) (.node (o24 P) (.node o40 (.node o72 (.node o136 .nil .nil) (.node o200 .nil .nil)) (.node o104 (.node o168 .nil .nil) (.node o232 .nil .nil))) (.node o56 (.node o88 (.node o152 .nil .nil) (.node o216 .nil .nil)) (.node o120 (.node o184 .nil .nil) (.node o248 .nil .nil))))) (.node o12_2 (.node o20 (.node o36 (.node o68 (.node o132 .nil .nil) (.node o196 .nil .nil)) (.node o100 (.node o164 .nil .nil) (.node o228 .nil .nil))) (.node o52 (.node o84 (.node o148 .nil .nil) (.node o212 .nil .nil)) (.node o116 (.node o180 .nil .nil) (.node o244 .nil .nil)))) (.node o28 (.node o44 (.node o76 (.node o140 .nil .nil) (.node o204 .nil .nil)) (.node o108 (.node o172 .nil .nil) (.node o236 .nil .nil))) (.node o60 (.node o92 (.node o156 .nil .nil) (.node o220 .nil .nil)) (.node o124 (.node o188 .nil .nil) .nil))))) (.node (PySem.W.boot_o_6 P) (.node (PySem.W.boot_o_10 P) (.node o18 (.node o34 (.node o66 (.node o130 .nil .nil) (.node o194 .nil .nil)) (.node o98 (.node o162 .nil .nil) (.node o226 .nil .nil))) (.node o50 (.node o82 (.node o146 .nil .nil) (.node o210 .nil .nil)) (.node o114 (.node o178 .nil .nil) (.node o242 .nil .nil)))) (.node o26 (.node o42 (.node o74 (.node o138 .nil .nil) (.node o202 .nil .nil)) (.node o106 (.node o170 .nil .nil) (.node o234 .nil .nil))) (.node o58 (.node o90 (.node o154 .nil .nil) (.node o218 .nil .nil)) (.node o122 (.node o186 .nil .nil) (.node o250 .nil .nil))))) (.node o14 (.node o22 (.node o38 (.node o70 (.node (o134 P) .nil .nil) (.node o198 .nil .nil)) (.node o102 (.node o166 .nil .nil) (.node o230 .nil .nil))) (.node o54 (.node o86 (.node o150 .nil .nil) (.node o214 .nil .nil)) (.node o118 (.node o182 .nil .nil) (.node (o246 P) .nil .nil)))) (.node o30 (.node (o46 P) (.node o78 (.node o142 .nil .nil) (.node o206 .nil .nil)) (.node o110 (.node o174 .nil .nil) (.node o238 .nil .nil))) (.node o62 (.node o94 (.node o158 .nil .nil) (.node o222 .nil .nil)) (.node o126 (.node o190 .nil .nil) .nil)))))))
noncomputable def t3 (P : Params) : BT := (.node (PySem.W.boot_o_0 P) (.node (PySem.W.boot_o_1 P) (.node (o3 P) (.node (PySem.W.boot_o_7 P) (.node o15 (.node o31 (.node o63 (.node o127 (.node o255 .nil .nil) (.node o383 .nil .nil)) (.node o191 (.node o319 .nil .nil) (.node o447 .nil .nil))) (.node o95 (.node o159 (.node o287 .nil .nil) (.node (o415 P) .nil .nil)) (.node o223 (.node o351 .nil .nil) (.node o479 .nil .nil)))) (.node o47 (.node o79 (.node o143 (.node o271 .nil .nil) (.node o399 .nil .nil)) (.node o207 (.node o335 .nil .nil) (.node o463 .nil .nil))) (.node (o111 P) (.node o175 (.node o303 .nil .nil) (.node o431 .nil .nil)) (.node o239 (.node o367 .nil .nil) .nil)))) (.node o23 (.node o39 (.node o71 (.node o135 (.node o263 .nil .nil) (.node o391 .nil .nil)) (.node o199 (.node o327 .nil .nil) (.node o455 .nil .nil))) (.node o103 (.node o167 (.node o295 .nil .nil) (.node o423 .nil .nil)) (.node o231 (.node o359 .nil .nil) .nil))) (.node o55 (.node (o87 P) (.node o151 (.node o279 .nil .nil) (.node o407 .nil .nil)) (.node o215 (.node o343 .nil .nil) (.node o471 .nil .nil))) (.node o119 (.node o183 (.node o311 .nil .nil) (.node o439 .nil .nil)) (.node o247 (.node o375 .nil .nil) .nil))))) (.node o11 (.node o19 (.node o35 (.node o67 (.node o131 (.node o259 .nil .nil) (.node o387 .nil .nil)) (.node o195 (.node o323 .nil .nil) (.node o451 .nil .nil))) (.node (o99 P) (.node o163 (.node o291 .nil .nil) (.node o419 .nil .nil)) (.node o227 (.node o355 .nil .nil) .nil))) (.node o51 (.node o83 (.node o147 (.node o275 .nil .nil) (.node o403 .nil .nil)) (.node o211 (.node o339 .nil .nil) (.node o467 .nil .nil))) (.node o115 (.node o179 (.node o307 .nil .nil) (.node o435 .nil .nil)) (.node o243 (.node o371 .nil .nil) .nil)))) (.node o27 (.node o43 (.node (o75 P) (.node o139 (.node o267 .nil .nil) (.node o395 .nil .nil)) (.node o203 (.node o331 .nil .nil) (.node o459 .nil .nil))) (.node o107 (.node o171 (.node o299 .nil .nil) (.node o427 .nil .nil)) (.node o235 (.node o363 .nil .nil) .nil))) (.node o59 (.node o91 (.node o155 (.node o283 .nil .nil) (.node o411 .nil .nil)) (.node o219 (.node o347 .nil .nil) (.node o475 .nil .nil))) (.node o123 (.node o187 (.node o315 .nil .nil) (.node o443 .nil .nil)) (.node o251 (.node o379 .nil .nil) .nil)))))) (.node (PySem.W.boot_o_5 P) (.node (PySem.W.boot_o_9 P) (.node o17 (.node o33 (.node o65 (.node o129 (.node o257 .nil .nil) (.node o385 .nil .nil)) (.node o193 (.node o321 .nil .nil) (.node o449 .nil .nil))) (.node o97 (.node o161 (.node o289 .nil .nil) (.node o417 .nil .nil)) (.node o225 (.node o353 .nil .nil) .nil))) (.node o49 (.node (o81 P) (.node o145 (.node o273 .nil .nil) (.node o401 .nil .nil)) (.node o209 (.node o337 .nil .nil) (.node o465 .nil .nil))) (.node o113 (.node o177 (.node o305 .nil .nil) (.node o433 .nil .nil)) (.node o241 (.node o369 .nil .nil) .nil)))) (.node o25 (.node o41 (.node o73 (.node o137 (.node o265 .nil .nil) (.node o393 .nil .nil)) (.node o201 (.node o329 .nil .nil) (.node o457 .nil .nil))) (.node (o105 P) (.node o169 (.node o297 .nil .nil) (.node o425 .nil .nil)) (.node o233 (.node o361 .nil .nil) .nil))) (.node o57 (.node o89 (.node o153 (.node o281 .nil .nil) (.node o409 .nil .nil)) (.node o217 (.node o345 .nil .nil) (.node o473 .nil .nil))) (.node o121 (.node o185 (.node o313 .nil .nil) (.node o441 .nil .nil)) (.node o249 (.node o377 .nil .nil) .nil))))) (.node o13 (.node o21 (.node o37 (.node o69 (.node o133 (.node o261 .nil .nil) (.node o389 .nil .nil)) (.node o197 (.node o325 .nil .nil) (.node o453 .nil .nil))) (.node o101 (.node o165 (.node o293 .nil .nil) (.node o421 .nil .nil)) (.node o229 (.node o357 .nil .nil) .nil))) (.node (o53 P) (.node o85 (.node o149 (.node o277 .nil .nil) (.node o405 .nil .nil)) (.node (o213 P) (.node o341 .nil .nil) (.node o469 .nil .nil))) (.node o117 (.node (o181 P) (.node o309 .nil .nil) (.node o437 .nil .nil)) (.node o245 (.node o373 .nil .nil) .nil)))) (.node o29 (.node o45 (.node o77 (.node o141 (.node o269 .nil .nil) (.node o397 .nil .nil)) (.node o205 (.node o333 .nil .nil) (.node o461 .nil .nil))) (.node o109 (.node (o173 P) (.node o301 .nil .nil) (.node o429 .nil .nil)) (.node o237 (.node o365 .nil .nil) .nil))) (.node o61 (.node (o93 P) (.node o157 (.node o285 .nil .nil) (.node o413 .nil .nil)) (.node (o221 P) (.node o349 .nil .nil) (.node o477 .nil .nil))) (.node o125 (.node o189 (.node o317 .nil .nil) (.node o445 .nil .nil)) (.node o253 (.node o381 .nil .nil) .nil))))))) (.node (o2 P) (.node (PySem.W.boot_o_4 P) (.node (PySem.W.boot_o_8 P) (.node o16 (.node o32 (.node o64 (.node o128 (.node o256 .nil .nil) (.node o384 .nil .nil)) (.node o192 (.node o320 .nil .nil) (.node o448 .nil .nil))) (.node o96 (.node o160 (.node o288 .nil .nil) (.node o416 .nil .nil)) (.node o224 (.node o352 .nil .nil) (.node o480 .nil .nil)))) (.node o48 (.node o80 (.node o144 (.node o272 .nil .nil) (.node o400 .nil .nil)) (.node o208 (.node o336 .nil .nil) (.node o464 .nil .nil))) (.node o112 (.node o176 (.node o304 .nil .nil) (.node o432 .nil .nil)) (.node o240 (.node o368 .nil .nil) .nil)))) (.node (o24 P) (.node o40 (.node o72 (.node o136 (.node o264 .nil .nil) (.node o392 .nil .nil)) (.node o200 (.node o328 .nil .nil) (.node o456 .nil .nil))) (.node o104 (.node o168 (.node o296 .nil .nil) (.node o424 .nil .nil)) (.node o232 (.node o360 .nil .nil) .nil))) (.node o56 (.node o88 (.node o152 (.node o280 .nil .nil) (.node o408 .nil .nil)) (.node o216 (.node o344 .nil .nil) (.node o472 .nil .nil))) (.node o120 (.node o184 (.node o312 .nil .nil) (.node o440 .nil .nil)) (.node o248 (.node o376 .nil .nil) .nil))))) (.node o12 (.node o20 (.node o36 (.node o68 (.node o132 (.node o260 .nil .nil) (.node o388 .nil .nil)) (.node o196 (.node o324 .nil .nil) (.node o452 .nil .nil))) (.node o100 (.node o164 (.node o292 .nil .nil) (.node o420 .nil .nil)) (.node o228 (.node o356 .nil .nil) .nil))) (.node o52 (.node o84 (.node o148 (.node o276 .nil .nil) (.node o404 .nil .nil)) (.node o212 (.node o340 .nil .nil) (.node o468 .nil .nil))) (.node o116 (.node o180 (.node o308 .nil .nil) (.node o436 .nil .nil)) (.node o244 (.node o372 .nil .nil) .nil)))) (.node o28 (.node o44 (.node o76 (.node o140 (.node o268 .nil .nil) (.node o396 .nil .nil)) (.node o204 (.node o332 .nil .nil) (.node o460 .nil .nil))) (.node o108 (.node o172 (.node o300 .nil .nil) (.node o428 .nil .nil)) (.node o236 (.node o364 .nil .nil) .nil))) (.node o60 (.node o92 (.node o156 (.node o284 .nil .nil) (.node o412 .nil .nil)) (.node o220 (.node o348 .nil .nil) (.node o476 .nil .nil))) (.node o124 (.node o188 (.node o316 .nil .nil) (.node o444 .nil .nil)) (.node o252 (.node o380 .nil .nil) .nil)))))) (.node (PySem.W.boot_o_6 P) (.node (PySem.W.boot_o_10 P) (.node o18 (.node o34 (.node o66 (.node o130 (.node o258 .nil .nil) (.node o386 .nil .nil)) (.node o194 (.node o322 .nil .nil) (.node o450 .nil .nil))) (.node o98 (.node o162 (.node o290 .nil .nil) (.node o418 .nil .nil)) (.node o226 (.node o354 .nil .nil) .nil))) (.node o50 (.node o82 (.node o146 (.node o274 .nil .nil) (.node o402 .nil .nil)) (.node o210 (.node o338 .nil .nil) (.node o466 .nil .nil))) (.node o114 (.node o178 (.node o306 .nil .nil) (.node o434 .nil .nil)) (.node o242 (.node o370 .nil .nil) .nil)))) (.node o26 (.node o42 (.node o74 (.node o138 (.node o266 .nil .nil) (.node o394 .nil .nil)) (.node o202 (.node o330 .nil .nil) (.node o458 .nil .nil))) (.node o106 (.node o170 (.node o298 .nil .nil) (.node o426 .nil .nil)) (.node o234 (.node o362 .nil .nil) .nil))) (.node o58 (.node o90 (.node o154 (.node o282 .nil .nil) (.node o410 .nil .nil)) (.node o218 (.node o346 .nil .nil) (.node o474 .nil .nil))) (.node o122 (.node o186 (.node o314 .nil .nil) (.node o442 .nil .nil)) (.node o250 (.node o378 .nil .nil) .nil))))) (.node o14 (.node o22 (.node o38 (.node o70 (.node (o134 P) (.node o262 .nil .nil) (.node o390 .nil .nil)) (.node o198 (.node o326 .nil .nil) (.node o454 .nil .nil))) (.node o102 (.node o166 (.node o294 .nil .nil) (.node o422 .nil .nil)) (.node o230 (.node o358 .nil .nil) .nil))) (.node o54 (.node o86 (.node o150 (.node o278 .nil .nil) (.node o406 .nil .nil)) (.node o214 (.node o342 .nil .nil) (.node o470 .nil .nil))) (.node o118 (.node o182 (.node o310 .nil .nil) (.node o438 .nil .nil)) (.node (o246 P) (.node o374 .nil .nil) .nil)))) (.node o30 (.node (o46 P) (.node o78 (.node o142 (.node o270 .nil .nil) (.node o398 .nil .nil)) (.node o206 (.node o334 .nil .nil) (.node o462 .nil .nil))) (.node o110 (.node o174 (.node o302 .nil .nil) (.node o430 .nil .nil)) (.node o238 (.node o366 .nil .nil) .nil))) (.node o62 (.node o94 (.node o158 (.node o286 .nil .nil) (.node o414 .nil .nil)) (.node o222 (.node o350 .nil .nil) (.node o478 .nil .nil))) (.node o126 (.node o190 (.node o318 .nil .nil) (.node o446 .nil .nil)) (.node (o254 P) (.node o382 .nil .nil) .nil))))))))
noncomputable def hF (P : Params) : Heap := ⟨([(PySem.W.boot_o_0 P), (PySem.W.boot_o_1 P), (o2 P), (o3 P), (PySem.W.boot_o_4 P), (PySem.W.boot_o_5 P), (PySem.W.boot_o_6 P), (PySem.W.boot_o_7 P), (PySem.W.boot_o_8 P), (PySem.W.boot_o_9 P), (PySem.W.boot_o_10 P), o11, o12, o13, o14, o15, o16, o17, o18, o19, o20, o21, o22, o23, (o24 P), o25, o26, o27, o28, o29, o30, o31, o32, o33, o34, o35, o36, o37, o38, o39, o40, o41, o42, o43, o44, o45, (o46 P), o47, o48, o49, o50, o51, o52, (o53 P), o54, o55, o56, o57, o58, o59, o60, o61, o62, o63, o64, o65, o66, o67, o68, o69, o70, o71, o72, o73, o74, (o75 P), o76, o77, o78, o79, o80, (o81 P), o82, o83, o84, o85, o86, (o87 P), o88, o89, o90, o91, o92, (o93 P), o94, o95, o96, o97, o98, (o99 P), o100, o101, o102, o103, o104, (o105 P), o106, o107, o108, o109, o110, (o111 P), o112, o113, o114, o115, o116, o117, o118, o119, o120, o121, o122, o123, o124, o125, o126, o127, o128, o129, o130, o131, o132, o133, (o134 P), o135, o136, o137, o138, o139, o140, o141, o142, o143, o144, o145, o146, o147, o148, o149, o150, o151, o152, o153, o154, o155, o156, o157, o158, o159, o160, o161, o162, o163, o164, o165, o166, o167, o168, o169, o170, o171, o172, (o173 P), o174, o175, o176, o177, o178, o179, o180, (o181 P), o182, o183, o184, o185, o186, o187, o188, o189, o190, o191, o192, o193, o194, o195, o196, o197, o198, o199, o200, o201, o202, o203, o204, o205, o206, o207, o208, o209, o210, o211, o212, (o213 P), o214, o215, o216, o217, o218, o219, o220, (o221 P), o222, o223, o224, o225, o226, o227, o228, o229, o230, o231, o232, o233, o234, o235, o236, o237, o238, o239, o240, o241, o242, o243, o244, o245, (o246 P), o247, o248, o249, o250, o251, o252, o253, (o254 P), o255, o256, o257, o258, o259, o260, o261, o262, o263, o264, o265, o266, o267, o268, o269, o270, o271, o272, o273, o274, o275, o276, o277, o278, o279, o280, o281, o282, o283, o284, o285, o286, o287, o288, o289, o290, o291, o292, o293, o294, o295, o296, o297, o298, o299, o300, o301, o302, o303, o304, o305, o306, o307, o308, o309, o310, o311, o312, o313, o314, o315, o316, o317, o318, o319, o320, o321, o322, o323, o324, o325, o326, o327, o328, o329, o330, o331, o332, o333, o334, o335, o336, o337, o338, o339, o340, o341, o342, o343, o344, o345, o346, o347, o348, o349, o350, o351, o352, o353, o354, o355, o356, o357, o358, o359, o360, o361, o362, o363, o364, o365, o366, o367, o368, o369, o370, o371, o372, o373, o374, o375, o376, o377, o378, o379, o380, o381, o382, o383, o384, o385, o386, o387, o388, o389, o390, o391, o392, o393, o394, o395, o396, o397, o398, o399, o400, o401, o402, o403, o404, o405, o406, o407, o408, o409, o410, o411, o412, o413, o414, (o415 P), o416, o417, o418, o419, o420, o421, o422, o423, o424, o425, o426, o427, o428, o429, o430, o431, o432, o433, o434, o435, o436, o437, o438, o439, o440, o441, o442, o443, o444, o445, o446, o447, o448, o449, o450, o451, o452, o453, o454, o455, o456, o457, o458, o459, o460, o461, o462, o463, o464, o465, o466, o467, o468, o469, o470, o471, o472, o473, o474, o475, o476, o477, o478, o479, o480] : List Obj).toArray, {}⟩
noncomputable def sA (w : World) (os : OsState) : SharedT := ⟨ta w.params, 15, {}, Array.mk [], {}, 187, os⟩
noncomputable def sB (w : World) (os : OsState) : SharedT := ⟨tb w.params, 15, {}, Array.mk [], {}, 187, os⟩
noncomputable def s1 (w : World) (os : OsState) : SharedT := ⟨t1 w.params, 132, {}, Array.mk [], {}, 350, os⟩
noncomputable def s2 (w : World) (os : OsState) : SharedT := ⟨t2 w.params, 252, {}, Array.mk [], {}, 531, os⟩
noncomputable def s3 (w : World) (os : OsState) : SharedT := ⟨t3 w.params, 481, {}, Array.mk [], {}, 838, os⟩
noncomputable def ev : Env := { scope := PW.main.scope, locals := mainNs, globals := mainNs, cells := [], code := .ref 13, frame := some 14 }
noncomputable abbrev bE : List Stmt := behindTheImports PW
noncomputable abbrev cE : Code := .body bE ev
noncomputable abbrev p0 : Pos := ⟨0, 0, 0, 0⟩
noncomputable abbrev p1 : Pos := ⟨38, 0, 38, 7⟩
noncomputable abbrev p2 : Pos := ⟨138, 0, 138, 8⟩
noncomputable abbrev p3 : Pos := ⟨360, 0, 371, 55⟩
noncomputable abbrev fB : List Frame := [topFrame p0]
noncomputable def g1 : List Stmt := bE.take 16
noncomputable def g2 : List Stmt := (bE.drop 16).take 5
noncomputable def g3 : List Stmt := bE.drop 21
theorem r0 (w : World) (os : OsState) : topGo treeTable PW w 11 (some (.ref 6)) 12 ⟨boot_heap w.params, Array.mk [], boot_drawn, boot_toks, os⟩ (topStub PW) = some ((sA w os).abs, ⟨denote treeTable cE, cE, p0, fB⟩) := by kernel_rfl
theorem rB (w : World) (os : OsState) : segRun treeTable PW w 11 (some (.ref 6)) 1 1 (sA w os).abs (blockOf bE ev cE p0 fB) = some (.next, (sB w os).abs, cE, p0) := by kernel_rfl
theorem r1 (w : World) (os : OsState) : segRunT treeTable PW w 11 (some (.ref 6)) 1 1500 (sB w os) (piecesOf g1 ev cE p0 fB) = some (.next, s1 w os, cE, p1) := by kernel_rfl
theorem r2 (w : World) (os : OsState) : segRunT treeTable PW w 11 (some (.ref 6)) 1 1500 (s1 w os) (piecesOf g2 ev cE p1 fB) = some (.next, s2 w os, cE, p2) := by kernel_rfl
theorem r3 (w : World) (os : OsState) : segRunT treeTable PW w 11 (some (.ref 6)) 1 1500 (s2 w os) (piecesOf g3 ev cE p2 fB) = some (.next, s3 w os, cE, p3) := by kernel_rfl
theorem rF (w : World) (os : OsState) : topRun treeTable PW w 11 (some (.ref 6)) 2 (s3 w os).abs ⟨doneF .next, cE, p3, fB⟩ = some ⟨hF w.params, Array.mk [], {}, 838, os⟩ := by kernel_rfl
theorem gs : bE = g1 ++ (g2 ++ (g3 ++ [])) := by kernel_rfl
theorem rAll (w : World) (os : OsState) : topRun treeTable PW w 11 (some (.ref 6)) (12 + (1 + (1500 + (1500 + (1500 + 2))))) ⟨boot_heap w.params, Array.mk [], boot_drawn, boot_toks, os⟩ (topStub PW) = some ⟨hF w.params, Array.mk [], {}, 838, os⟩ := by
  refine go_top (r0 w os) (piece_block (rB w os) ?_)
  have h := piece_app (q := p0) (segRun_of (r3 w os)) (rest := []) (piece_nil (rF w os))
  have h := piece_app (q := p0) (segRun_of (r2 w os)) h
  have h := piece_app (q := p0) (segRun_of (r1 w os)) h
  rw [← gs] at h
  exact h
noncomputable def view_39 : Program := { PW with main := { PW.main with body := ([0, 2, 3, 4, 5, 6, 8, 9, 10, 12, 13, 14, 15, 16, 17, 18, 20, 21, 23, 24, 25, 26, 27, 28, 29, 30, 31, 32] : List Nat).filterMap fun i => PW.main.body[i]? } }
noncomputable def heap_39 : Params → Frag := fun P => (nat_lit 2, (o2 P)) :: (nat_lit 3, (o3 P)) :: (nat_lit 15, o15) :: (nat_lit 17, o17) :: (nat_lit 18, o18) :: (nat_lit 20, o20) :: (nat_lit 21, o21) :: (nat_lit 22, o22) :: (nat_lit 25, o25) :: (nat_lit 30, o30) :: (nat_lit 31, o31) :: (nat_lit 33, o33) :: (nat_lit 34, o34) :: (nat_lit 36, o36) :: (nat_lit 37, o37) :: (nat_lit 38, o38) :: (nat_lit 40, o40) :: (nat_lit 41, o41) :: (nat_lit 43, o43) :: (nat_lit 44, o44) :: (nat_lit 45, o45) :: (nat_lit 46, (o46 P)) :: (nat_lit 47, o47) :: (nat_lit 48, o48) :: (nat_lit 51, o51) :: (nat_lit 54, o54) :: (nat_lit 59, o59) :: (nat_lit 60, o60) :: (nat_lit 62, o62) :: (nat_lit 63, o63) :: (nat_lit 65, o65) :: (nat_lit 66, o66) :: (nat_lit 67, o67) :: (nat_lit 69, o69) :: (nat_lit 70, o70) :: (nat_lit 72, o72) :: (nat_lit 73, o73) :: (nat_lit 74, o74) :: (nat_lit 75, (o75 P)) :: (nat_lit 76, o76) :: (nat_lit 79, o79) :: (nat_lit 86, o86) :: (nat_lit 87, (o87 P)) :: (nat_lit 88, o88) :: (nat_lit 91, o91) :: (nat_lit 98, o98) :: (nat_lit 99, (o99 P)) :: (nat_lit 100, o100) :: (nat_lit 103, o103) :: (nat_lit 110, o110) :: (nat_lit 111, (o111 P)) :: (nat_lit 112, o112) :: (nat_lit 115, o115) :: (nat_lit 118, o118) :: (nat_lit 119, o119) :: (nat_lit 120, o120) :: (nat_lit 122, o122) :: (nat_lit 123, o123) :: (nat_lit 125, o125) :: (nat_lit 126, o126) :: (nat_lit 127, o127) :: (nat_lit 130, o130) :: (nat_lit 131, o131) :: (nat_lit 139, o139) :: (nat_lit 141, o141) :: (nat_lit 142, o142) :: (nat_lit 144, o144) :: (nat_lit 145, o145) :: (nat_lit 146, o146) :: (nat_lit 148, o148) :: (nat_lit 149, o149) :: (nat_lit 151, o151) :: (nat_lit 152, o152) :: (nat_lit 153, o153) :: (nat_lit 156, o156) :: (nat_lit 157, o157) :: (nat_lit 158, o158) :: (nat_lit 160, o160) :: (nat_lit 161, o161) :: (nat_lit 163, o163) :: (nat_lit 164, o164) :: (nat_lit 165, o165) :: (nat_lit 167, o167) :: (nat_lit 168, o168) :: (nat_lit 170, o170) :: (nat_lit 171, o171) :: (nat_lit 172, o172) :: (nat_lit 173, (o173 P)) :: (nat_lit 174, o174) :: (nat_lit 175, o175) :: (nat_lit 176, o176) :: (nat_lit 186, o186) :: (nat_lit 188, o188) :: (nat_lit 189, o189) :: (nat_lit 191, o191) :: (nat_lit 192, o192) :: (nat_lit 193, o193) :: (nat_lit 195, o195) :: (nat_lit 196, o196) :: (nat_lit 198, o198) :: (nat_lit 199, o199) :: (nat_lit 200, o200) :: (nat_lit 203, o203) :: (nat_lit 204, o204) :: (nat_lit 205, o205) :: (nat_lit 207, o207) :: (nat_lit 208, o208) :: (nat_lit 210, o210) :: (nat_lit 211, o211) :: (nat_lit 212, o212) :: (nat_lit 213, (o213 P)) :: (nat_lit 214, o214) :: (nat_lit 215, o215) :: (nat_lit 216, o216) :: (nat_lit 226, o226) :: (nat_lit 228, o228) :: (nat_lit 229, o229) :: (nat_lit 231, o231) :: (nat_lit 232, o232) :: (nat_lit 233, o233) :: (nat_lit 236, o236) :: (nat_lit 237, o237) :: (nat_lit 238, o238) :: (nat_lit 240, o240) :: (nat_lit 241, o241) :: (nat_lit 243, o243) :: (nat_lit 244, o244) :: (nat_lit 245, o245) :: (nat_lit 246, (o246 P)) :: (nat_lit 247, o247) :: (nat_lit 248, o248) :: (nat_lit 249, o249) :: (nat_lit 259, o259) :: (nat_lit 261, o261) :: (nat_lit 262, o262) :: (nat_lit 264, o264) :: (nat_lit 265, o265) :: (nat_lit 266, o266) :: (nat_lit 268, o268) :: (nat_lit 269, o269) :: (nat_lit 271, o271) :: (nat_lit 272, o272) :: (nat_lit 273, o273) :: (nat_lit 275, o275) :: (nat_lit 276, o276) :: (nat_lit 278, o278) :: (nat_lit 279, o279) :: (nat_lit 280, o280) :: (nat_lit 282, o282) :: (nat_lit 283, o283) :: (nat_lit 285, o285) :: (nat_lit 286, o286) :: (nat_lit 287, o287) :: (nat_lit 290, o290) :: (nat_lit 291, o291) :: (nat_lit 292, o292) :: (nat_lit 294, o294) :: (nat_lit 295, o295) :: (nat_lit 297, o297) :: (nat_lit 298, o298) :: (nat_lit 299, o299) :: (nat_lit 301, o301) :: (nat_lit 302, o302) :: (nat_lit 304, o304) :: (nat_lit 305, o305) :: (nat_lit 306, o306) :: (nat_lit 309, o309) :: (nat_lit 310, o310) :: (nat_lit 311, o311) :: (nat_lit 313, o313) :: (nat_lit 314, o314) :: (nat_lit 316, o316) :: (nat_lit 317, o317) :: (nat_lit 318, o318) :: (nat_lit 320, o320) :: (nat_lit 321, o321) :: (nat_lit 323, o323) :: (nat_lit 324, o324) :: (nat_lit 325, o325) :: (nat_lit 327, o327) :: (nat_lit 328, o328) :: (nat_lit 330, o330) :: (nat_lit 331, o331) :: (nat_lit 332, o332) :: (nat_lit 334, o334) :: (nat_lit 335, o335) :: (nat_lit 337, o337) :: (nat_lit 338, o338) :: (nat_lit 339, o339) :: (nat_lit 341, o341) :: (nat_lit 342, o342) :: (nat_lit 344, o344) :: (nat_lit 345, o345) :: (nat_lit 346, o346) :: (nat_lit 348, o348) :: (nat_lit 349, o349) :: (nat_lit 351, o351) :: (nat_lit 352, o352) :: (nat_lit 353, o353) :: (nat_lit 356, o356) :: (nat_lit 357, o357) :: (nat_lit 358, o358) :: (nat_lit 360, o360) :: (nat_lit 361, o361) :: (nat_lit 363, o363) :: (nat_lit 364, o364) :: (nat_lit 365, o365) :: (nat_lit 367, o367) :: (nat_lit 368, o368) :: (nat_lit 370, o370) :: (nat_lit 371, o371) :: (nat_lit 372, o372) :: (nat_lit 374, o374) :: (nat_lit 375, o375) :: (nat_lit 377, o377) :: (nat_lit 378, o378) :: (nat_lit 379, o379) :: (nat_lit 381, o381) :: (nat_lit 382, o382) :: (nat_lit 384, o384) :: (nat_lit 385, o385) :: (nat_lit 386, o386) :: (nat_lit 388, o388) :: (nat_lit 389, o389) :: (nat_lit 391, o391) :: (nat_lit 392, o392) :: (nat_lit 393, o393) :: (nat_lit 395, o395) :: (nat_lit 396, o396) :: (nat_lit 398, o398) :: (nat_lit 399, o399) :: (nat_lit 400, o400) :: (nat_lit 402, o402) :: (nat_lit 403, o403) :: (nat_lit 405, o405) :: (nat_lit 406, o406) :: (nat_lit 407, o407) :: (nat_lit 409, o409) :: (nat_lit 410, o410) :: (nat_lit 412, o412) :: (nat_lit 413, o413) :: (nat_lit 414, o414) :: (nat_lit 415, (o415 P)) :: (nat_lit 416, o416) :: (nat_lit 417, o417) :: (nat_lit 418, o418) :: (nat_lit 421, o421) :: (nat_lit 423, o423) :: (nat_lit 424, o424) :: (nat_lit 426, o426) :: (nat_lit 427, o427) :: (nat_lit 428, o428) :: (nat_lit 430, o430) :: (nat_lit 431, o431) :: (nat_lit 433, o433) :: (nat_lit 434, o434) :: (nat_lit 435, o435) :: (nat_lit 438, o438) :: (nat_lit 439, o439) :: (nat_lit 440, o440) :: (nat_lit 442, o442) :: (nat_lit 443, o443) :: (nat_lit 445, o445) :: (nat_lit 446, o446) :: (nat_lit 447, o447) :: (nat_lit 450, o450) :: (nat_lit 451, o451) :: (nat_lit 452, o452) :: (nat_lit 455, o455) :: (nat_lit 456, o456) :: (nat_lit 457, o457) :: (nat_lit 459, o459) :: (nat_lit 460, o460) :: (nat_lit 462, o462) :: (nat_lit 463, o463) :: (nat_lit 464, o464) :: (nat_lit 467, o467) :: (nat_lit 468, o468) :: (nat_lit 469, o469) :: (nat_lit 472, o472) :: (nat_lit 473, o473) :: (nat_lit 474, o474) :: (nat_lit 476, o476) :: (nat_lit 477, o477) :: (nat_lit 479, o479) :: (nat_lit 480, o480) :: []
noncomputable def as39 : List Addr := [2, 3, 15, 17, 18, 20, 21, 22, 25, 30, 31, 33, 34, 36, 37, 38, 40, 41, 43, 44, 45, 46, 47, 48, 51, 54, 59, 60, 62, 63, 65, 66, 67, 69, 70, 72, 73, 74, 75, 76, 79, 86, 87, 88, 91, 98, 99, 100, 103, 110, 111, 112, 115, 118, 119, 120, 122, 123, 125, 126, 127, 130, 131, 139, 141, 142, 144, 145, 146, 148, 149, 151, 152, 153, 156, 157, 158, 160, 161, 163, 164, 165, 167, 168, 170, 171, 172, 173, 174, 175, 176, 186, 188, 189, 191, 192, 193, 195, 196, 198, 199, 200, 203, 204, 205, 207, 208, 210, 211, 212, 213, 214, 215, 216, 226, 228, 229, 231, 232, 233, 236, 237, 238, 240, 241, 243, 244, 245, 246, 247, 248, 249, 259, 261, 262, 264, 265, 266, 268, 269, 271, 272, 273, 275, 276, 278, 279, 280, 282, 283, 285, 286, 287, 290, 291, 292, 294, 295, 297, 298, 299, 301, 302, 304, 305, 306, 309, 310, 311, 313, 314, 316, 317, 318, 320, 321, 323, 324, 325, 327, 328, 330, 331, 332, 334, 335, 337, 338, 339, 341, 342, 344, 345, 346, 348, 349, 351, 352, 353, 356, 357, 358, 360, 361, 363, 364, 365, 367, 368, 370, 371, 372, 374, 375, 377, 378, 379, 381, 382, 384, 385, 386, 388, 389, 391, 392, 393, 395, 396, 398, 399, 400, 402, 403, 405, 406, 407, 409, 410, 412, 413, 414, 415, 416, 417, 418, 421, 423, 424, 426, 427, 428, 430, 431, 433, 434, 435, 438, 439, 440, 442, 443, 445, 446, 447, 450, 451, 452, 455, 456, 457, 459, 460, 462, 463, 464, 467, 468, 469, 472, 473, 474, 476, 477, 479, 480]
noncomputable abbrev XT : Shared → Bool := fun s => xlAt view_39 [] s && recOk PySem.Challenge.rw_nz0394_01.row.toRowW.records s
theorem as_ok (P : Params) : as39 = (heap_39 P).map (·.1) := by kernel_rfl
theorem said : PySem.Challenge.rw_nz0394_01.wellSaid = true := by kernel_rfl
theorem opened : opening PW = plainProg PW.main.scope.names := by kernel_rfl
theorem fenced (s : Shared) : fenceModules? PW s = some s := by kernel_rfl
theorem sized (w : World) : ((boot_heap w.params).isNs mainGlobals && (Array.mk [] : Array GenState).size == 0, (boot_heap w.params).objs.size, (boot_heap w.params).nsMap mainGlobals "__annotations__") = (true, 11, some (.ref 6)) := by kernel_rfl
theorem left : LeftO PW view_39 [] XT (Hook.obs (kHook heap_39 as39 as_ok)) (Hook.val (kHook heap_39 as39 as_ok)) 7400 :=
  LeftO.of_pieces (boot_open opened (by kernel_rfl) fenced) sized rAll (by kernel_rfl) fun w => by kernel_rfl
end hd
end
set_option linter.unusedVariables false
set_option pp.deepTerms false
set_option pp.maxSteps 3000
set_option autoImplicit false
 local macro_rules | `(tactic| wp_step) => `(tactic| k_extra "wp")
theorem wp0 : True := by
  (k_with "wp" => first | with_reducible (first | refine PySem.wpAny_bind ?_ | refine PySem.wpAny_pure ?_ | refine PySem.wpAny_holding ?_ | refine PySem.wpAny_standAt ?_ | refine PySem.wpAny_point ?_ | refine PySem.wpAny_letGo ?_ | refine PySem.wpAny_alloc' ?_ | refine PySem.wpAny_attempt ?_ | refine PySem.wpAny_throw ?_ | refine PySem.wpAny_mkInt' ?_ | ((refine' PySem.wpAny_mkStr' ?_ ?zzx); (case zzx => size_fits)) | refine PySem.wpAny_fresh' ?_ | ((refine' PySem.wpAny_of_eq ?zza ?_); (case zza => assumption)) | refine PySem.wpAny_rule ?_ | ((refine' PySem.wpAny_typeOf ?zza ?_); (case zza => assumption)) | ((refine' PySem.wpAny_specialOf_val ?zza ?zzb ?_); (case zza => assumption); (case zzb => assumption)) | ((refine' PySem.wpAny_specialOf ?zza ?zzb ?_); (case zza => assumption); (case zzb => assumption)) | ((refine' PySem.wpAny_isInstance_val ?zza ?zzb ?_); (case zza => assumption); (case zzb => assumption)) | ((refine' PySem.wpAny_isInstance ?zza ?zzb ?_); (case zza => assumption); (case zzb => assumption)) | refine PySem.wpAny_call ?_ | refine PySem.wpAny_runValue ?_ | refine PySem.wpAny_run ?_) | ((with_reducible apply PySem.wpAny_load'); focus (heap_get; done)) | ((with_reducible apply PySem.wpAny_update'); focus (heap_get; done)) | ((with_reducible apply PySem.wpAny_loadPart'); focus (heap_get; done)) | ((with_reducible apply PySem.wpAny_handled_none); focus (assumption; done)) | ((with_reducible apply PySem.wpAny_ite_false); focus (rfl; done)) | ((with_reducible apply PySem.wpAny_ite_true); focus (rfl; done)) | ((with_reducible apply PySem.wpAny_updatePart'); focus (heap_get; done)) | ((with_reducible apply PySem.wpAny_ite_false); focus (simp [*]; done)) | ((with_reducible apply PySem.wpAny_ite_true); focus (simp [*]; done)) | wp_delta)
  trivial
section
noncomputable abbrev Led := List (Addr × Obj)
/-- a call of f within a frame of a def: what it hands back (or raises), with the ledger behind it -/
noncomputable def Spec (w : World) (loose : List Str) (mean : ExcName → Option Value) (mg mb : Str → Option Value) (d u : Nat) (f : Value) (vs : List Value) (news : Led) (Ret Exc : Value → Led → Prop) : Prop :=
  ∀ (dp un : Nat) (gd : Option (List Code)) (cn : Str) (cs : Scope) (a : Addr) (ccd : Value) (cl : List (Str × Addr)) (outer : List Env) (A₀ : Around) (base h₀ : Heap) (L : Addr) (m : Str → Option Value) (s : Shared)
    (Q E : Value → Shared → Prop),
    Below A₀ base outer h₀ → Fr h₀ L s.heap m → (Mine.hd.heap_39 w.params).In h₀ → News h₀ L s.heap news → Top Mine.hd.view_39 loose mean mg mb h₀ → cs.kind = .function → dp + d < recursionLimit → un + u < cLine →
    (∀ r news' h' tk', Fr h₀ L h' m → News h₀ L h' news' → Ret r news' → Q r { s with heap := h', toks := tk' }) →
    (∀ e news' h' tk', Fr h₀ L h' m → News h₀ L h' news' → Exc e news' → E e { s with heap := h', toks := tk' }) →
    wpAny (model PySem.Challenge.rw_nz0394_01.row.prog w) (ktrTop dp un gd cn cs L a ccd cl outer) (call f vs) Q E s
noncomputable def None2 (_ : Value) (_ : Led) : Prop := False
/-- the feed's dict: the cells, the spot -/
noncomputable def Feed (w : World) (c : Addr) (o : Obj) (k : Int) : Prop :=
  ∃ t tc ts, o.IsDictOf (PySem.strKind PySem.Challenge.rw_nz0394_01.row.prog w) (strPairs [(Value.str (Str.ofString "cells") tc, .ref c), (Value.str (Str.ofString "spot") ts, .int k t)])
end
section
open PySem.Calls PySem.Spec
theorem room1 {x a b l : Nat} (h : x + b < l) (e : Nat.ble a b = true) : x + a < l := Nat.lt_of_le_of_lt (Nat.add_le_add_left (Nat.le_of_ble_eq_true e) x) h
theorem room2 {x k a b l : Nat} (h : x + b < l) (e : Nat.ble (k + a) b = true) : x + k + a < l := by rw [Nat.add_assoc]; exact room1 h e
theorem room3 {x j k a b l : Nat} (h : x + b < l) (e : Nat.ble (j + (k + a)) b = true) : x + j + k + a < l := by rw [Nat.add_assoc, Nat.add_assoc]; exact room1 h e
theorem le_t {x c d : Nat} (h : x ≤ c) (e : Nat.ble c d = true) : x ≤ d := Nat.le_trans h (Nat.le_of_ble_eq_true e)
section
variable {prog : Program} {w : World} {A : Around} {s : Shared} {env : Env} {h₀ : Heap} {L : Addr} {m : Str → Option Value} {news : Led} {body : List Stmt} {E : Value → Shared → Prop}
theorem join_end {M : Model} {out : Str} {Q : Value → Shared → Prop} (hsz : out.length ≤ sizeLine) (h : Q (.str out s.toks) { s with toks := s.toks + 1 }) : wpAny M A (joinParts out (evalEach [] env)) Q E s := joinParts_nilE (joinParts_nil h hsz)
/-- an iterable to a loop: the iterator that it makes, its walk, and what of the ledger it leans on -/
noncomputable def Src (prog : Program) (w : World) (A : Around) (h₀ : Heap) (L : Addr) (target : Expr) (xv : Value) (n : Nat) (P : Nat → Value → Prop) (S : Led → Prop) (s : Shared) : Prop :=
  ∀ (Q : Value → Shared → Prop) (E : Value → Shared → Prop),
    (∀ (h' : Heap) (fp : List Addr) (St : Nat → Heap → Prop), (∃ ob, h' = s.heap.push ob) →
      Walks prog w A s.heap.objs.size fp [s.heap.objs.size] n P St →
      (∀ i h, St i h → ∃ o, h.get? s.heap.objs.size = some o) →
      (∀ i h h' o nw, St i h → h.get? s.heap.objs.size = some o → h'.get? s.heap.objs.size = some o → (∀ b o, h₀.get? b = some o → h'.get? b = some o) → News h₀ L h' nw → S nw → St i h') →
      St 0 h' → (∀ b ∈ fp, b = s.heap.objs.size ∨ (b < s.heap.objs.size ∧ ∃ o, ∀ nw, S nw → (b, o) ∈ nw)) →
      (∀ i (s' : Shared) v (Q' : Unit → Shared → Prop) (E' : Value → Shared → Prop), St i s'.heap → Q' () s' → wpAny (model prog w) A (letOwnedTupleGo target (.ref s.heap.objs.size) v) Q' E' s') →
      Q (.ref s.heap.objs.size) { s with heap := h' }) →
    wpAny (model prog w) A (pyIter xv) Q E s
theorem src_list {target : Expr} {ax : Addr} {o : Obj} {vs : List Value} {k : Nat} (hh : A.handled = none) (N : News h₀ L s.heap news) (hm : (ax, o) ∈ news) (hc : o.cls = .type "list" := by rfl) (hd : o.data = .seq vs.toArray k := by rfl) :
    Src prog w A h₀ L target (.ref ax) vs.length (fun i v => vs[i]? = some v) (fun nw => (ax, o) ∈ nw) s := by
  intro Q E h
  have hl : s.heap.IsList ax vs.toArray := ⟨o, (N _ hm).1, hc, k, hd⟩
  have hlt : ax < s.heap.objs.size := Heap.lt_size (N _ hm).1
  refine wpAny_pyIter_list hl ?_
  have W := Walks.list (prog := prog) (w := w) hh s.heap.objs.size ax (Nat.ne_of_lt hlt) vs.toArray
  have e : (fun (i : Nat) (v : Value) => vs.toArray[i]? = some v) = fun i v => vs[i]? = some v := by funext i v; simp
  have e2 : vs.toArray.size = vs.length := by simp
  rw [e, e2] at W
  refine h _ [s.heap.objs.size, ax] (fun i h => h.IsListIter s.heap.objs.size ax i ∧ h.IsList ax vs.toArray) ⟨_, rfl⟩ W (fun i h st => ?_) (fun i h h' o' nw st e1 e2 _ Nw Sn => ?_) ⟨⟨_, Heap.get?_push_size _ rfl, rfl, rfl⟩, hl.push _⟩ (fun b hb => ?_) fun i s' v Q' E' st hq => letGo_listiter st.1 hq
  · obtain ⟨o', q, _⟩ := st.1; exact ⟨o', q⟩
  · refine ⟨?_, o, (Nw _ Sn).1, hc, k, hd⟩
    obtain ⟨o2, q, r⟩ := st.1
    rw [e1] at q; cases q
    exact ⟨o', e2, r⟩
  · rcases List.mem_cons.mp hb with rfl | hb
    · exact .inl rfl
    · rw [List.mem_singleton.mp hb]; exact .inr ⟨hlt, o, fun _ q => q⟩
theorem src_tup {target : Expr} {ax : Addr} {o : Obj} {vs : List Value} {k : Nat} (hh : A.handled = none) (N : News h₀ L s.heap news) (hm : (ax, o) ∈ news) (hc : o.cls = .type "tuple" := by rfl) (hd : o.data = .seq vs.toArray k := by rfl) :
    Src prog w A h₀ L target (.ref ax) vs.length (fun i v => vs[i]? = some v) (fun nw => (ax, o) ∈ nw) s := by
  intro Q E h
  have hl : s.heap.IsTuple ax vs.toArray := ⟨o, (N _ hm).1, hc, k, hd⟩
  have hlt : ax < s.heap.objs.size := Heap.lt_size (N _ hm).1
  refine wpAny_pyIter_tuple hl ?_
  have W := Walks.tuple (prog := prog) (w := w) hh s.heap.objs.size ax (Nat.ne_of_lt hlt) vs.toArray
  have e : (fun (i : Nat) (v : Value) => vs.toArray[i]? = some v) = fun i v => vs[i]? = some v := by funext i v; simp
  have e2 : vs.toArray.size = vs.length := by simp
  rw [e, e2] at W
  refine h _ [s.heap.objs.size, ax] (fun i h => h.IsTupleIter s.heap.objs.size ax i ∧ h.IsTuple ax vs.toArray) ⟨_, rfl⟩ W (fun i h st => ?_) (fun i h h' o' nw st e1 e2 _ Nw Sn => ?_) ⟨⟨_, Heap.get?_push_size _ rfl, rfl, rfl⟩, hl.push _⟩ (fun b hb => ?_) fun i s' v Q' E' st hq => letGo_tupleiter st.1 hq
  · obtain ⟨o', q, _⟩ := st.1; exact ⟨o', q⟩
  · refine ⟨?_, o, (Nw _ Sn).1, hc, k, hd⟩
    obtain ⟨o2, q, r⟩ := st.1
    rw [e1] at q; cases q
    exact ⟨o', e2, r⟩
  · rcases List.mem_cons.mp hb with rfl | hb
    · exact .inl rfl
    · rw [List.mem_singleton.mp hb]; exact .inr ⟨hlt, o, fun _ q => q⟩
theorem src_range {x : Str} {px : Pos} {r : Addr} {a b : Int} {t u v : Tok} {n : Nat} (hh : A.handled = none) (hr : IsRange s.heap r a b 1 t u v) (hsm : Builtin.Range.small a b 1 = true) (hn : Builtin.Range.rangeSize a b 1 = ((n : Nat) : Int)) :
    Src prog w A h₀ L (.Name x px) (.ref r) n (fun i v => ∃ t, v = .int (a + (i : Int)) t) (fun _ => True) s := by
  intro Q E h
  refine wpAny_pyIter_range hr hsm ?_
  refine h _ [s.heap.objs.size] _ ⟨_, rfl⟩ (LCg.range_walks hh a n) (fun i h st => ⟨_, st⟩) LCg.range_st (by show IsRangeIter _ _ _ _ _; rw [hn]; simpa using Heap.get?_push_size _ rfl) (fun b hb => .inl (List.mem_singleton.mp hb)) fun i s' v Q' E' st hq => ?_
  exact wpAny_of_eq (show letOwnedTupleGo (.Name x px) _ v = pure () from rfl) hq
/-- a turn's end -/
inductive TEnd (h₀ : Heap) (L I : Addr) (oI : Obj) (J : (Str → Option Value) → Led → Prop) (gs : Array GenState) (dr : Drawn) (os : OsState) (s₂ : Shared) : Prop
  | mk (h' tk m' nx : _) (c1 : s₂ = ⟨h', gs, dr, tk, os⟩) (c2 : Fr h₀ L h' m') (c3 : News h₀ L h' ((I, oI) :: nx)) (c4 : ∀ p ∈ nx, p.1 ≠ I) (c5 : J m' nx) : TEnd h₀ L I oI J gs dr os s₂
theorem TEnd.intro {I : Addr} {oI : Obj} {J : (Str → Option Value) → Led → Prop} {gs : Array GenState} {dr : Drawn} {os : OsState} {h' : Heap} {tk : Nat} {m' : Str → Option Value} {all nx : Led} (F : Fr h₀ L h' m') (N : News h₀ L h' all) (hs : ∀ p ∈ (I, oI) :: nx, p ∈ all) (ho : ∀ p ∈ nx, p.1 ≠ I) (hj : J m' nx) :
    TEnd h₀ L I oI J gs dr os ⟨h', gs, dr, tk, os⟩ := ⟨h', tk, m', nx, rfl, F, fun p hp => N p (hs p hp), ho, hj⟩
/-- what a turn's end promises the loop -/
noncomputable def TEndQ (h₀ : Heap) (L I : Addr) (oI : Obj) (J : (Str → Option Value) → Led → Prop) (gs : Array GenState) (dr : Drawn) (os : OsState) (Q : Flow → Shared → Prop) (f : Flow) (s₂ : Shared) : Prop :=
  match f with
  | .ret v => Q (.ret v) s₂
  | .brk => Q .next s₂
  | _ => TEnd h₀ L I oI J gs dr os s₂
/-- R stands for an end that is kept out of sight -/
noncomputable def KontT (h₀ : Heap) (L I : Addr) (oI : Obj) (J : (Str → Option Value) → Led → Prop) (gs : Array GenState) (dr : Drawn) (os : OsState) (Q : Flow → Shared → Prop) (R : Flow → Shared → Prop) : Prop := ∀ f s₂, TEndQ h₀ L I oI J gs dr os Q f s₂ → R f s₂
noncomputable def TEndV (R : Flow → Shared → Prop) (f : Flow) (s : Shared) : Prop := R f s
noncomputable def Kont {α : Type} (R Q : α → Shared → Prop) : Prop := ∀ v s, Q v s → R v s
noncomputable def KEnd {α : Type} (R : α → Shared → Prop) (v : α) (s : Shared) : Prop := R v s
theorem kuse {α : Type} {R Q : α → Shared → Prop} {v : α} {s : Shared} (k : Kont R Q) (h : Q v s) : KEnd R v s := k v s h
theorem opq {M : Model} {A : Around} {env : Env} {b : List Stmt} {Q : Flow → Shared → Prop} {E : Value → Shared → Prop} {s : Shared} (pE : PassesOwn M A env E)
    (h : let A' := A; ∀ (R : Flow → Shared → Prop) (E' : Value → Shared → Prop), Kont R Q → Kont E' E → PassesOwn M A' env (KEnd E') → wpAny M A' (execs b env) (KEnd R) (KEnd E') s) : wpAny M A (execs b env) Q E s := h Q E (fun _ _ h => h) (fun _ _ h => h) pE
/-- a loop at its iterable: the source, an invariant over the frame's map and the ledger, the turn, the end -/
inductive LoopX (prog : Program) (w : World) (A : Around) (h₀ : Heap) (env : Env) (target : Expr) (body : List Stmt) (Q : Flow → Shared → Prop) (E : Value → Shared → Prop) (xv : Value) (s : Shared) : Prop
  | mk (n : Nat) (P : Nat → Value → Prop) (S : Led → Prop) (J : Nat → (Str → Option Value) → Led → Prop) (m : Str → Option Value) (news : Led) (c1 : Src prog w A h₀ env.locals target xv n P S s) (c2 : Fr h₀ env.locals s.heap m) (c3 : News h₀ env.locals s.heap news) (c4 : ∀ i m nx, J i m nx → S nx) (c5 : J 0 m news) (c6 : ∀ i v m₁ nx h tk I oI (R : Flow → Shared → Prop), KontT h₀ env.locals I oI (J (i + 1)) s.gens s.drawn s.os Q R → i < n → P i v → J i m₁ nx → (∀ p ∈ nx, p.1 ≠ I) → Fr h₀ env.locals h m₁ → News h₀ env.locals h ((I, oI) :: nx) → wpAny (model prog w) A (assign target env v) (fun _ s₃ => wpAny (model prog w) A (execs body env) (TEndV R) E s₃) E { s with heap := h, toks := tk }) (c7 : ∀ m₁ nx h tk, J n m₁ nx → Fr h₀ env.locals h m₁ → News h₀ env.locals h nx → Q .next { s with heap := h, toks := tk }) : LoopX prog w A h₀ env target body Q E xv s
inductive ForI (h₀ : Heap) (L I : Addr) (St : Nat → Heap → Prop) (J : Nat → (Str → Option Value) → Led → Prop) (n : Nat) (s₁ : Shared) (k : Nat) (s' : Shared) : Prop
  | mk (h' : Heap) (tk : Nat) (m' : Str → Option Value) (nx : Led) (i : Nat) (e : s' = { s₁ with heap := h', toks := tk }) (hst : St i h') (F : Fr h₀ L h' m') (N : News h₀ L h' nx) (off : ∀ p ∈ nx, p.1 ≠ I) (hJ : J i m' nx) (hi : i ≤ n) (hk : k = n + 1 - i) : ForI h₀ L I St J n s₁ k s'
theorem For_X {target iter : Expr} {pos : Pos} {Q : Flow → Shared → Prop} (F₀ : Fr h₀ env.locals s.heap m)
    (h : wpAny (model prog w) A (eval iter env) (LoopX prog w A h₀ env target body Q E) E s)
    (hs : ∀ x, foldedSetIterable iter env x = pure x := by intro _; rfl) (hE : PassesOwn (model prog w) A env E := by passes_own) :
    wpAny (model prog w) A (exec (.For target iter body [] pos) env) Q E s := by
  refine wpAny_For (wpAny_mono h (fun xv s₁ h₁ => ?_) fun _ _ e => e) hs
  obtain ⟨n, P, S, J, m, news, hsrc, F, N, hS, h0, turn, done⟩ := h₁
  refine hsrc _ _ fun h' fp St hob W hIo hSt st0 hfp hgo => ?_
  obtain ⟨ob, rfl⟩ := hob
  have up : ∀ b o, s₁.heap.get? b = some o → (s₁.heap.push ob).get? b = some o := fun b o e => Heap.get?_push_of_some _ e
  have hIL : env.locals ≠ s₁.heap.objs.size := Nat.ne_of_lt F.ns.lt
  have hI₀ : h₀.get? s₁.heap.objs.size = none := next_is_new F
  have hno : ∀ p ∈ news, p.1 ≠ s₁.heap.objs.size := fun p hp => Nat.ne_of_lt (Heap.lt_size (N p hp).1)
  refine codeAny_forLoop_any
    (ForI h₀ env.locals s₁.heap.objs.size St J n s₁) ?_ (n + 1)
    ⟨_, s₁.toks, m, news, 0, rfl, st0, F.keeps up, N.grown up, hno, h0, Nat.zero_le _, rfl⟩
  rintro k s' ⟨h', tk, m', nx, i, rfl, hst', F', N', off', hJ, hi, rfl⟩
  by_cases hlt : i < n
  · refine W.item i _ _ _ hlt hst' fun v h₂ tk₂ hP hst₂ hk₂ => ?_
    refine hgo (i + 1) _ v _ _ hst₂ ?_
    obtain ⟨oI, hoI⟩ := hIo _ _ hst₂
    have F₂ := LCg.fr_but F' hk₂ hIL hI₀
    have N₂ := LCg.news_but N' hk₂ off'
    have N₃ : News h₀ env.locals h₂ ((s₁.heap.objs.size, oI) :: nx) := fun p hp => by
      rcases List.mem_cons.mp hp with rfl | hp
      · exact ⟨hoI, Ne.symm hIL, hI₀⟩
      · exact N₂ p hp
    refine wpAny_mono (wpAny_passesOwn hE (turn i v m' nx h₂ tk₂ _ oI (TEndQ h₀ env.locals s₁.heap.objs.size oI (J (i + 1)) s₁.gens s₁.drawn s₁.os Q) (fun _ _ h => h) hlt hP hJ off' F₂ N₃)) (fun _ s₃ q => wpAny_mono (wpAny_passesOwn hE q) (fun f s₄ p => ?_) fun _ _ e => e) fun _ _ e => e
    have fin : TEnd h₀ env.locals s₁.heap.objs.size oI (J (i + 1)) s₁.gens s₁.drawn s₁.os s₄ → ∃ k', k' < n + 1 - i ∧ ForI h₀ env.locals s₁.heap.objs.size St J n s₁ k' s₄ := by
      rintro ⟨h3, tk3, m3, nx3, rfl, F3, N3, off3, hJ3⟩
      refine ⟨n + 1 - (i + 1), by omega, h3, tk3, m3, nx3, i + 1, rfl, ?_, F3, fun p hp => N3 p (.tail _ hp), off3, hJ3, hlt, rfl⟩
      exact hSt _ _ _ oI nx3 hst₂ hoI (N3 _ (.head _)).1 F3.keep (fun p hp => N3 p (.tail _ hp)) (hS _ _ _ hJ3)
    cases f with
    | ret v => exact p
    | brk => exact p
    | next => exact fin p
    | cont => exact fin p
  · have hin : i = n := by omega
    subst hin
    refine W.done _ _ _ hst' fun h₁ tk₁ hk₁ => wpAny_execs_nil ?_
    exact done m' nx h₁ tk₁ hJ (LCg.fr_but F' hk₁ hIL hI₀) (LCg.news_but N' hk₁ off')
end
end
section
open PySem.Calls PySem.Spec
section
variable {prog : Program} {w : World} {A : Around} {s : Shared} {env : Env} {h₀ : Heap} {L : Addr} {m : Str → Option Value} {news : Led} {E : Value → Shared → Prop}
open LCg (NsObj lst)
structure COff (I C D : Addr) (nx : Led) : Prop where
  ic : I ≠ C
  id : I ≠ D
  cd : C ≠ D
  off : ∀ p ∈ nx, p.1 ≠ I ∧ p.1 ≠ C ∧ p.1 ≠ D
/-- an element's end within a block -/
inductive CEnd (h₀ : Heap) (L : Addr) (m : Str → Option Value) (I : Addr) (oI : Obj) (C D : Addr) (ys : List Value) (Z : Led → Prop) (gs : Array GenState) (dr : Drawn) (os : OsState) (s₂ : Shared) : Prop
  | mk (h' tk nx oC m' : _) (c1 : s₂ = ⟨h', gs, dr, tk, os⟩) (c2 : Fr h₀ L h' m) (c3 : News h₀ L h' ((I, oI) :: (C, oC) :: (D, lst ys) :: nx)) (c4 : NsObj oC m') (c5 : ∀ p ∈ nx, p.1 ≠ I ∧ p.1 ≠ C ∧ p.1 ≠ D) (c6 : Z nx) : CEnd h₀ L m I oI C D ys Z gs dr os s₂
noncomputable def KontC (h₀ : Heap) (L : Addr) (m : Str → Option Value) (I : Addr) (oI : Obj) (C D : Addr) (ys : List Value) (Z : Option Value → Led → Prop) (gs : Array GenState) (dr : Drawn) (os : OsState) (R : Option Value → Shared → Prop) : Prop := ∀ y s, CEnd h₀ L m I oI C D ys (Z y) gs dr os s → R y s
noncomputable def CEndV (R : Option Value → Shared → Prop) (y : Option Value) (s : Shared) : Prop := R y s
noncomputable def zNext (J : List Value → Led → Prop) (ys : List Value) : Option Value → Led → Prop
  | some y => J (ys ++ [y])
  | none => J ys
theorem CEnd.intro {I C D : Addr} {oI oC : Obj} {ys : List Value} {Z : Option Value → Led → Prop} {gs : Array GenState} {dr : Drawn} {os : OsState} {R : Option Value → Shared → Prop} {y : Option Value} {h' : Heap} {tk : Nat} {m' : Str → Option Value} {all nx : Led} (kR : KontC h₀ L m I oI C D ys Z gs dr os R) (F : Fr h₀ L h' m) (N : News h₀ L h' all) (hs : ∀ p ∈ (I, oI) :: (C, oC) :: (D, lst ys) :: nx, p ∈ all)
    (hC : NsObj oC m') (off : ∀ p ∈ nx, p.1 ≠ I ∧ p.1 ≠ C ∧ p.1 ≠ D) (z : Z y nx) : CEndV R y ⟨h', gs, dr, tk, os⟩ := kR _ _ ⟨h', tk, nx, oC, m', rfl, F, fun p hp => N p (hs p hp), hC, off, z⟩
noncomputable abbrev cTests (prog : Program) (w : World) (A : Around) (ifs : List Expr) (cenv : Env) (Q : Bool → Shared → Prop) (E : Value → Shared → Prop) (s : Shared) : Prop :=
  wpAny (model prog w) A (forIn ifs true fun c r => if r = true then do let ok ← isTrue c cenv (eval c cenv); pure (ForInStep.yield ok) else pure (ForInStep.yield r)) Q E s
theorem compLoop_X {elt target iter : Expr} {ifs : List Expr} {scope : Scope} {pos : Pos} {it acc : Value} {cenv : Env} {R : Result → Shared → Prop} (I : Nat → Shared → Prop)
    (turn : ∀ n s (E' : Value → Shared → Prop), I n s → wpAny (model prog w) A (pyNext it) (fun r s₁ => match r with
      | none => R (.ok .next) s₁
      | some v => wpAny (model prog w) A (letOwnedTupleGo target it v) (fun _ s₂ => wpAny (model prog w) A (assign target cenv v) (fun _ s₃ => cTests prog w A ifs cenv (fun ok s₄ =>
          if ok = true then wpAny (model prog w) A (eval elt cenv) (fun x s₅ => wpAny (model prog w) A (call (.builtin "list.append") [acc, x]) (fun _ s₆ => ∃ k, k < n ∧ I k s₆) E' s₅) E' s₄
          else ∃ k, k < n ∧ I k s₄) E' s₃) E' s₂) E' s₁) E' s)
    (n : Nat) (h : I n s) : codeAny (model prog w) A (.compLoop (.ListComp elt [⟨target, iter, ifs, 0⟩] scope pos) 0 it acc cenv) R s := by
  refine codeAny_loop rfl I (fun n s hI => ?_) n h
  show wpAny _ A ((compTurn (.ListComp elt [⟨target, iter, ifs, 0⟩] scope pos) 0 it acc cenv).onRaise (fun x => do noteFrame x cenv; theTreesLotGoes x)) _ _ s
  refine wpAny_noted ?_
  rw [compTurn_list]
  refine wpAny_bind (wpAny_standAt (wpAny_bind (wpAny_mono (turn n s _ hI) (fun r s₁ h₁ => ?_) fun _ _ e => e)))
  cases r with
  | none => exact wpAny_pure h₁
  | some v =>
    refine wpAny_bind (wpAny_mono h₁ (fun _ s₂ h₂ => ?_) fun _ _ e => e)
    refine wpAny_bind (wpAny_mono h₂ (fun _ s₃ h₃ => wpAny_bind (wpAny_mono h₃ (fun ok s₄ h₄ => ?_) fun _ _ e => e)) fun _ _ e => e)
    cases ok with
    | false => exact wpAny_pure ⟨rfl, h₄⟩
    | true => exact wpAny_bind (wpAny_bind (wpAny_mono h₄ (fun x s₅ h₅ => wpAny_bind (wpAny_mono h₅ (fun _ s₆ h₆ => wpAny_pure (wpAny_pure ⟨rfl, h₆⟩)) fun _ _ e => e)) fun _ _ e => e))
/-- a comprehension at its iterable -/
inductive CompX (prog : Program) (w : World) (A : Around) (h₀ : Heap) (L : Addr) (env : Env) (target : Expr) (ifs : List Expr) (elt : Expr) (scope : Scope) (cl : List (Str × Addr)) (Fin : (Str → Option Value) → List Value → Led → Shared → Prop) (xv : Value) (s : Shared) : Prop
  | mk (n : Nat) (P : Nat → Value → Prop) (S : Led → Prop) (J : Nat → List Value → Led → Prop) (m : Str → Option Value) (news : Led) (c1 : Src prog w A h₀ L target xv n P S s) (c2 : n ≤ sizeLine) (c3 : Fr h₀ L s.heap m) (c4 : News h₀ L s.heap news) (c5 : ∀ i ys nx, J i ys nx → S nx) (c6 : J 0 [] news) (c7 : ∀ i v ys nx I oI C oC D m₂ h tk (E' : Value → Shared → Prop) (R : Option Value → Shared → Prop), KontC h₀ L m I oI C D ys (zNext (J (i + 1)) ys) s.gens s.drawn s.os R → i < n → P i v → J i ys nx → ys.length ≤ i → NsObj oC m₂ → COff I C D nx → Fr h₀ L h m → News h₀ L h ((I, oI) :: (C, oC) :: (D, lst ys) :: nx) → wpAny (model prog w) A (assign target (compEnvC scope cl C env) v) (fun _ s₃ => cTests prog w A ifs (compEnvC scope cl C env) (fun ok s₄ => if ok = true then wpAny (model prog w) A (eval elt (compEnvC scope cl C env)) (fun y s₅ => CEndV R (some y) s₅) E' s₄ else CEndV R none s₄) E' s₃) E' { s with heap := h, toks := tk }) (c8 : ∀ ys nx, J n ys nx → ys.length ≤ n → Fin m ys nx s) : CompX prog w A h₀ L env target ifs elt scope cl Fin xv s
inductive BlkI (h₀ : Heap) (L : Addr) (m : Str → Option Value) (I C D : Addr) (St : Nat → Heap → Prop) (J : Nat → List Value → Led → Prop) (n : Nat) (s₂ : Shared) (k : Nat) (s' : Shared) : Prop
  | mk (h' : Heap) (tk i : Nat) (ys : List Value) (m' : Str → Option Value) (nx : Led) (e : s' = { s₂ with heap := h', toks := tk }) (hi : i ≤ n) (hk : k = n + 1 - i) (hyl : ys.length ≤ i) (hst : St i h') (F : Fr h₀ L h' m) (hn : h'.Ns C m') (N : News h₀ L h' ((D, lst ys) :: nx)) (off : ∀ p ∈ nx, p.1 ≠ I ∧ p.1 ≠ C ∧ p.1 ≠ D) (hJ : J i ys nx) : BlkI h₀ L m I C D St J n s₂ k s'
theorem block_X {elt iter target : Expr} {ifs : List Expr} {scope : Scope} {cl : List (Str × Addr)} {pos : Pos} {s₂ : Shared} {I : Addr} {fp : List Addr} {n : Nat} {P : Nat → Value → Prop} {St : Nat → Heap → Prop} {S : Led → Prop} {J : Nat → List Value → Led → Prop}
    {RR : Value → Addr → Result → Shared → Prop}
    (W : Walks prog w A I fp [I] n P St) (hsz : n ≤ sizeLine) (hIo : ∀ i h, St i h → ∃ o, h.get? I = some o)
    (hSt : ∀ i h h' o nw, St i h → h.get? I = some o → h'.get? I = some o → (∀ b o, h₀.get? b = some o → h'.get? b = some o) → News h₀ L h' nw → S nw → St i h')
    (hgo : ∀ i (s' : Shared) v (Q' : Unit → Shared → Prop) (E' : Value → Shared → Prop), St i s'.heap → Q' () s' → wpAny (model prog w) A (letOwnedTupleGo target (.ref I) v) Q' E' s')
    (hcell : ∀ y ∈ scope.names, y.2 ≠ .cell) (hkind : scope.kind = .function) (hst : St 0 s₂.heap) (hfp : ∀ b ∈ fp, b < s₂.heap.objs.size)
    (F : Fr h₀ L s₂.heap m) (N : News h₀ L s₂.heap news) (hIL : L ≠ I) (hI₀ : h₀.get? I = none) (off : ∀ p ∈ news, p.1 ≠ I) (hS : ∀ i ys nx, J i ys nx → S nx) (h0 : J 0 [] news)
    (turn : ∀ i v ys nx I oI C oC D m₂ h tk (E' : Value → Shared → Prop), i < n → P i v → J i ys nx → ys.length ≤ i → NsObj oC m₂ → COff I C D nx → Fr h₀ L h m → News h₀ L h ((I, oI) :: (C, oC) :: (D, lst ys) :: nx) →
      wpAny (model prog w) A (assign target (compEnvC scope cl C env) v) (fun _ s₃ => cTests prog w A ifs (compEnvC scope cl C env) (fun ok s₄ =>
        if ok = true then wpAny (model prog w) A (eval elt (compEnvC scope cl C env)) (fun y s₅ => CEnd h₀ L m I oI C D ys (J (i + 1) (ys ++ [y])) s₂.gens s₂.drawn s₂.os s₅) E' s₄
        else CEnd h₀ L m I oI C D ys (J (i + 1) ys) s₂.gens s₂.drawn s₂.os s₄) E' s₃) E' { s₂ with heap := h, toks := tk })
    (hRR : ∀ D C h tk m' ys nx, Fr h₀ L h m → News h₀ L h ((D, lst ys) :: nx) → (∀ p ∈ nx, p.1 ≠ D) → h.Ns C m' → h₀.get? C = none → C ≠ L → C ≠ D → (∀ p ∈ nx, p.1 ≠ C) → J n ys nx → ys.length ≤ n → RR (.ref D) C (.ok .next) { s₂ with heap := h, toks := tk }) :
    wpAny (model prog w) A (newList []) (fun acc s₃ => wpAny (model prog w) A (newFunctionEnv scope env.globals cl [] env.qual none .none (some env)) (fun cenv s₄ =>
      codeAny (model prog w) A (.compStart (.ListComp elt [⟨target, iter, ifs, 0⟩] scope pos) 0 (.ref I) acc { cenv with scope := relabel scope env }) (RR acc cenv.locals) s₄) E s₃) E s₂ := by
  refine wpAny_newObj_type (wpAny_newFunctionEnv hcell (by intro y hy; simp at hy) (fun h₁ hns₁ hsb₁ => ?_) hkind)
  dsimp only at hns₁ hsb₁ ⊢
  generalize hH2 : s₂.heap.push { cls := .type "list", dict := none, data := .seq ([] : List Value).toArray } = H2 at hns₁ hsb₁ ⊢
  generalize hDe : s₂.heap.objs.size = D
  have hCe : H2.objs.size = D + 1 := by rw [← hH2, Heap.size_push, hDe]
  generalize hCn : H2.objs.size = C at hns₁ hsb₁ hCe ⊢
  have lt : ∀ {b o}, s₂.heap.get? b = some o → b < D := fun e => hDe ▸ Heap.lt_size e
  have hIlt : I < D := hDe ▸ hfp _ (W.sub I (.head _))
  have hfp' : ∀ b ∈ fp, b < D := fun b hb => hDe ▸ hfp b hb
  have hLlt : L < D := hDe ▸ F.ns.lt
  have neN : ∀ {a b : Nat}, a < b → a ≠ b := fun h => Nat.ne_of_lt h
  have hCD : C ≠ D := by rw [hCe]; exact Ne.symm (neN (Nat.lt_succ_self D))
  have ltC : ∀ {b : Nat}, b < D → b ≠ C := fun h => by rw [hCe]; exact neN (Nat.lt_succ_of_lt h)
  have old : ∀ b o, s₂.heap.get? b = some o → h₁.get? b = some o := fun b o e => hsb₁.extBut b o (ltC (lt e)) (Heap.get?_push_of_some _ (hH2 ▸ Heap.get?_push_of_some _ e))
  have hacc : h₁.get? D = some (lst []) := hsb₁.extBut _ _ (Ne.symm hCD) (Heap.get?_push_of_some _ (by rw [← hDe, ← hH2]; exact Heap.get?_push_size _ rfl))
  have fresh₀ : ∀ a, D ≤ a → h₀.get? a = none := fun a ha => by
    cases e : h₀.get? a with
    | none => rfl
    | some o' => exact absurd (lt (F.keep a o' e)) (Nat.not_lt.mpr ha)
  have hD₀ := fresh₀ D (Nat.le_refl _)
  have hC₀ := fresh₀ C (by rw [hCe]; exact Nat.le_succ _)
  have hDL : D ≠ L := Ne.symm (neN hLlt)
  have hCL : C ≠ L := Ne.symm (ltC hLlt)
  have hCI : I ≠ C := ltC hIlt
  have hDI : I ≠ D := neN hIlt
  have off₀ : ∀ p ∈ news, p.1 ≠ I ∧ p.1 ≠ C ∧ p.1 ≠ D := fun p hp => ⟨off p hp, ltC (lt (N p hp).1), neN (lt (N p hp).1)⟩
  have loop : ∀ s₃ : Shared, s₃ = { s₂ with heap := h₁, toks := s₂.toks + ([] : List (Str × Value)).length } →
      codeAny (model prog w) A (.compLoop (.ListComp elt [⟨target, iter, ifs, 0⟩] scope pos) 0 (.ref I) (.ref D) (compEnvC scope cl C env)) (RR (.ref D) C) s₃ := by
    rintro s₃ rfl
    refine compLoop_X
      (BlkI h₀ L m I C D St J n s₂) ?_ (n + 1)
      ⟨h₁, _, 0, [], _, news, rfl, Nat.zero_le _, rfl, Nat.le_refl _, W.frame _ _ _ hst fun b _ o e => old b o e, F.keeps old, hns₁, fun p hp => ?_, off₀, h0⟩
    · rintro k s' E' ⟨h', tk, i, ys, m', nx, rfl, hi, rfl, hyl, hst', F', hn', N', off', hJ⟩
      by_cases hlt : i < n
      · refine W.item i _ _ _ hlt hst' fun v h₂ tk₂ hPv hst₂ hk₂ => ?_
        refine hgo (i + 1) _ v _ _ hst₂ ?_
        obtain ⟨oI, heI⟩ := hIo _ _ hst₂
        have hn₂ : h₂.Ns C m' := hn'.at' fun o e => hk₂ _ o (by simpa using Ne.symm hCI) e
        obtain ⟨oC, heC, hoC⟩ := LCg.ns_obj hn₂
        have F₂ := LCg.fr_but F' hk₂ hIL hI₀
        have N₂ : News h₀ L h₂ ((D, lst ys) :: nx) := LCg.news_but N' hk₂ fun p hp => by
          rcases List.mem_cons.mp hp with rfl | hp
          · exact Ne.symm hDI
          · exact (off' p hp).1
        have N₃ : News h₀ L h₂ ((I, oI) :: (C, oC) :: (D, lst ys) :: nx) := fun p hp => by
          rcases List.mem_cons.mp hp with rfl | hp
          · exact ⟨heI, Ne.symm hIL, hI₀⟩
          · rcases List.mem_cons.mp hp with rfl | hp
            · exact ⟨heC, hCL, hC₀⟩
            · exact N₂ p hp
        have back : ∀ {s₅ : Shared} {ys' : List Value}, ys'.length ≤ i + 1 → CEnd h₀ L m I oI C D ys' (J (i + 1) ys') s₂.gens s₂.drawn s₂.os s₅ →
            ∃ k', k' < n + 1 - i ∧ BlkI h₀ L m I C D St J n s₂ k' s₅ := by
          rintro s₅ ys' hl ⟨h5, tk5, nx5, oC5, m5, rfl, F5, N5, hoC5, off5, hJ5⟩
          have Nr : News h₀ L h5 nx5 := fun p hp => N5 p (.tail _ (.tail _ (.tail _ hp)))
          exact ⟨n + 1 - (i + 1), by omega, h5, tk5, i + 1, ys', m5, nx5, rfl, hlt, rfl, hl, hSt _ _ _ oI nx5 hst₂ heI (N5 _ (.head _)).1 F5.keep Nr (hS _ _ _ hJ5), F5, hoC5.ns (N5 _ (.tail _ (.head _))).1, fun p hp => N5 p (.tail _ (.tail _ hp)), off5, hJ5⟩
        refine wpAny_mono (turn i v ys nx I oI C oC D m' h₂ tk₂ E' hlt hPv hJ hyl hoC ⟨hCI, hDI, hCD, off'⟩ F₂ N₃) (fun _ s₃ q => wpAny_mono q (fun ok s₄ q => ?_) fun _ _ e => e) fun _ _ e => e
        cases ok with
        | false =>
          simp only [Bool.false_eq_true, if_false] at q ⊢
          exact back (Nat.le_succ_of_le hyl) q
        | true =>
          simp only [if_true] at q ⊢
          refine wpAny_mono q (fun y s₅ q => ?_) fun _ _ e => e
          obtain ⟨h5, tk5, nx5, oC5, m5, rfl, F5, N5, hoC5, off5, hJ5⟩ := q
          have zD := (N5 (D, lst ys) (.tail _ (.tail _ (.head _)))).1
          refine append_at (hsz := by show ys.toArray.size ≤ sizeLine; rw [List.size_toArray]; exact Nat.le_trans (Nat.le_trans hyl hi) hsz) zD fun h6 hs6 hD6 => ?_
          refine back (ys' := ys ++ [y]) (by rw [List.length_append, List.length_singleton]; exact Nat.succ_le_succ hyl) ⟨h6, tk5, nx5, oC5, m5, rfl, F5.change hs6 hDL hD₀, fun p hp => ?_, hoC5, off5, hJ5⟩
          rcases List.mem_cons.mp hp with rfl | hp
          · exact ⟨hs6.extBut _ _ hDI (N5 _ (.head _)).1, (N5 _ (.head _)).2⟩
          · rcases List.mem_cons.mp hp with rfl | hp
            · exact ⟨hs6.extBut _ _ hCD (N5 _ (.tail _ (.head _))).1, (N5 _ (.tail _ (.head _))).2⟩
            · rcases List.mem_cons.mp hp with rfl | hp
              · exact ⟨hD6.trans (congrArg some (LCg.lst_snoc ys y)), hDL, hD₀⟩
              · have z := N5 p (.tail _ (.tail _ (.tail _ hp)))
                exact ⟨hs6.extBut _ _ (off5 p hp).2.2 z.1, z.2⟩
      · obtain rfl : i = n := Nat.le_antisymm hi (Nat.not_lt.mp hlt)
        refine W.done _ _ _ hst' fun h₂ tk₂ hk₂ => ?_
        exact hRR _ _ h₂ tk₂ _ ys nx (LCg.fr_but F' hk₂ hIL hI₀) (LCg.news_but N' hk₂ fun p hp => by
          rcases List.mem_cons.mp hp with rfl | hp
          · exact Ne.symm hDI
          · exact (off' p hp).1) (fun p hp => (off' p hp).2.2) (hn'.at' fun o e => hk₂ _ o (by simpa using Ne.symm hCI) e) hC₀ hCL hCD (fun p hp => (off' p hp).2.1) hJ hyl
    · rcases List.mem_cons.mp hp with rfl | hp
      · exact ⟨hacc, hDL, hD₀⟩
      · exact ⟨old _ _ (N p hp).1, (N p hp).2⟩
  exact codeAny_compStart_list (loop _ rfl) (W.self 0 _ _ _ (W.frame _ _ _ hst fun b _ o e => old b o e) (loop _ rfl))
noncomputable def FinX (h₀ : Heap) (L : Addr) (Q : Value → Shared → Prop) (m : Str → Option Value) (ys : List Value) (nx : Led) (s : Shared) : Prop :=
  ∀ D h tk, Fr h₀ L h m → News h₀ L h ((D, lst ys) :: nx) → (∀ p ∈ nx, p.1 ≠ D) → Q (.ref D) { s with heap := h, toks := tk }
noncomputable def FinAX (h₀ : Heap) (L : Addr) (y : Str) (Q : Flow → Shared → Prop) (m : Str → Option Value) (ys : List Value) (nx : Led) (s : Shared) : Prop :=
  ∀ D h tk, Fr h₀ L h (fun z => if z = y then some (.ref D) else m z) → News h₀ L h ((D, lst ys) :: nx) → (∀ p ∈ nx, p.1 ≠ D) → Q .next { s with heap := h, toks := tk }
theorem ListComp_X {elt iter target : Expr} {ifs : List Expr} {scope : Scope} {cl : List (Str × Addr)} {pos : Pos} {Q : Value → Shared → Prop} (_F₀ : Fr h₀ L s.heap m)
    (hclos : closureFor scope env = pure cl) (hcell : ∀ y ∈ scope.names, y.2 ≠ .cell) (hkind : scope.kind = .function)
    (hnames : ∀ y ∈ scope.names, y.2 = .local → scope.names.lookup y.1 = some .local)
    (h : wpAny (model prog w) A (eval iter env) (CompX prog w A h₀ L env target ifs elt scope cl (FinX h₀ L Q)) E s)
    (hs : ∀ x, foldedSetIterable iter env x = pure x := by intro _; rfl) :
    wpAny (model prog w) A (eval (.ListComp elt [⟨target, iter, ifs, 0⟩] scope pos) env) Q E s := by
  rw [eval_ListComp]
  refine wpAny_comprehension_free (use := none) rfl hs hclos hkind hnames (wpAny_mono h (fun xv s₁ h₁ => ?_) fun _ _ e => e)
  obtain ⟨n, P, S, J, m, news, hsrc, hsz, F, N, hS, h0, turn, done⟩ := h₁
  refine hsrc _ _ fun h' fp St hob W hIo hSt st0 hfp hgo => ?_
  obtain ⟨ob, rfl⟩ := hob
  have up : ∀ b o, s₁.heap.get? b = some o → (s₁.heap.push ob).get? b = some o := fun b o e => Heap.get?_push_of_some _ e
  refine block_X W hsz hIo hSt hgo hcell hkind st0 (fun b hb => ?_) (F.keeps up) (N.grown up) (Nat.ne_of_lt F.ns.lt) (next_is_new F) (fun p hp => Nat.ne_of_lt (Heap.lt_size (N p hp).1)) hS h0 (fun i v ys nx I oI C oC D m₂ h tk E' => turn i v ys nx I oI C oC D m₂ h tk E' (fun y s' => CEnd h₀ _ m I oI C D ys (zNext (J (i + 1)) ys y) s₁.gens s₁.drawn s₁.os s') (fun _ _ h => h)) ?_
  · show b < (s₁.heap.push ob).objs.size
    rw [Heap.size_push]
    rcases hfp b hb with rfl | ⟨h1, _⟩
    · exact Nat.lt_succ_self _
    · exact Nat.lt_succ_of_lt h1
  · intro D C h tk m' ys nx F' N' o1 hn hC₀ hCL hCD offC hJ hl
    refine ⟨m', hn, fun h'' hs'' => done ys nx hJ hl D h'' tk (F'.change hs'' hCL hC₀) (fun p hp => ?_) o1⟩
    refine ⟨hs''.extBut _ _ ?_ (N' p hp).1, (N' p hp).2⟩
    rcases List.mem_cons.mp hp with rfl | hp
    · exact Ne.symm hCD
    · exact offC p hp
theorem Assign_ListComp_X {elt iter target : Expr} {ifs : List Expr} {y : Str} {py : Pos} {scope : Scope} {cl : List (Str × Addr)} {pos spos : Pos} {Q : Flow → Shared → Prop} (_F₀ : Fr h₀ env.locals s.heap m)
    (hsw : swapsWith (.ListComp elt [⟨target, iter, ifs, 0⟩] scope pos) (some (.Name y py)) spos.line env = pure true)
    (hclos : closureFor scope env = pure cl) (hcell : ∀ z ∈ scope.names, z.2 ≠ .cell) (hkind : scope.kind = .function)
    (hnames : ∀ z ∈ scope.names, z.2 = .local → scope.names.lookup z.1 = some .local)
    (hy : env.kindOf y = some .local) (hp : (env.scope.kind == .class || (env.scope.kind == .module && env.locals != env.globals)) = false)
    (h : wpAny (model prog w) A (eval iter env) (CompX prog w A h₀ env.locals env target ifs elt scope cl (FinAX h₀ env.locals y Q)) E s)
    (hs : ∀ x, foldedSetIterable iter env x = pure x := by intro _; rfl) :
    wpAny (model prog w) A (exec (.Assign [.Name y py] (.ListComp elt [⟨target, iter, ifs, 0⟩] scope pos) spos) env) Q E s := by
  rw [exec_Assign_Name_used _ _ _ _ hsw]
  refine wpAny_bind (wpAny_standAt (wpAny_bind ?_))
  show wpAny _ A (do let _ ← comprehension (.ListComp elt [⟨target, iter, ifs, 0⟩] scope pos) scope env _ (newList []) false (eval iter env) (some (assign (.Name y py) env))) _ _ s
  refine wpAny_bind (wpAny_mono (wpAny_comprehension_free (use := some (assign (.Name y py) env)) (Q := fun _ s' => Q .next s') rfl hs hclos hkind hnames
    (wpAny_mono h (fun xv s₁ h₁ => ?_) fun _ _ e => e)) (fun _ s' hq => wpAny_pure (wpAny_pure hq)) fun _ _ e => e)
  obtain ⟨n, P, S, J, m, news, hsrc, hsz, F, N, hS, h0, turn, done⟩ := h₁
  refine hsrc _ _ fun h' fp St hob W hIo hSt st0 hfp hgo => ?_
  obtain ⟨ob, rfl⟩ := hob
  have up : ∀ b o, s₁.heap.get? b = some o → (s₁.heap.push ob).get? b = some o := fun b o e => Heap.get?_push_of_some _ e
  refine block_X W hsz hIo hSt hgo hcell hkind st0 (fun b hb => ?_) (F.keeps up) (N.grown up) (Nat.ne_of_lt F.ns.lt) (next_is_new F) (fun p hp => Nat.ne_of_lt (Heap.lt_size (N p hp).1)) hS h0 (fun i v ys nx I oI C oC D m₂ h tk E' => turn i v ys nx I oI C oC D m₂ h tk E' (fun y s' => CEnd h₀ _ m I oI C D ys (zNext (J (i + 1)) ys y) s₁.gens s₁.drawn s₁.os s') (fun _ _ h => h)) ?_
  · show b < (s₁.heap.push ob).objs.size
    rw [Heap.size_push]
    rcases hfp b hb with rfl | ⟨h1, _⟩
    · exact Nat.lt_succ_self _
    · exact Nat.lt_succ_of_lt h1
  · intro D C h' tk m' ys nx F' N' o1 hn hC₀ hCL hCD offC hJ hl
    show wpAny _ A (assign (.Name y py) env (.ref D)) _ _ _
    refine wpAny_assign_Name (wpAny_storeName_local hy F'.ns (fun h₂ hn₂ hs₂ => ?_) hp)
    have F₂ : Fr h₀ env.locals h₂ (fun z => if z = y then some (.ref D) else m z) := F'.set hn₂ hs₂
    refine ⟨m', hn.sameBut hs₂ hCL, fun h'' hs'' => done ys nx hJ hl D h'' _ (F₂.change hs'' hCL hC₀) (fun p hp => ?_) o1⟩
    have z : h₂.get? p.1 = some p.2 := hs₂.extBut _ _ (N' p hp).2.1 (N' p hp).1
    refine ⟨hs''.extBut _ _ ?_ z, (N' p hp).2⟩
    rcases List.mem_cons.mp hp with rfl | hp
    · exact Ne.symm hCD
    · exact offC p hp
/-- a name of the block stored -/
theorem assignC {M : Model} {x : Str} {px : Pos} {scope : Scope} {cl : List (Str × Addr)} {I C D : Addr} {oI oC : Obj} {ys : List Value} {nx : Led} {m₂ : Str → Option Value} {v : Value} {Q : Unit → Shared → Prop}
    (hx : scope.names.lookup x = some .local) (hkind : scope.kind = .function) (off : COff I C D nx) (hC : NsObj oC m₂) (F : Fr h₀ L s.heap m) (N : News h₀ L s.heap ((I, oI) :: (C, oC) :: (D, lst ys) :: nx))
    (h : ∀ h' oC' tk, NsObj oC' (fun y => if y = x then some v else m₂ y) → Fr h₀ L h' m → News h₀ L h' ((I, oI) :: (C, oC') :: (D, lst ys) :: nx) → Q () { s with heap := h', toks := tk }) :
    wpAny M A (assign (.Name x px) (compEnvC scope cl C env) v) Q E s := by
  have zC := N _ (.tail _ (.head _))
  refine wpAny_assign_Name (wpAny_storeName_local (lookup_relabel_local hx) (hC.ns zC.1) (fun h₃ hn₃ hs₃ => ?_) (by simp [compEnvC, relabel, hkind]))
  obtain ⟨oC', heC, hoC⟩ := LCg.ns_obj hn₃
  refine h h₃ oC' _ hoC (F.change hs₃ zC.2.1 zC.2.2) fun p hp => ?_
  rcases List.mem_cons.mp hp with rfl | hp
  · exact ⟨hs₃.extBut _ _ off.ic (N _ (.head _)).1, (N _ (.head _)).2⟩
  · rcases List.mem_cons.mp hp with rfl | hp
    · exact ⟨heC, zC.2⟩
    · have z := N p (.tail _ (.tail _ hp))
      refine ⟨hs₃.extBut _ _ ?_ z.1, z.2⟩
      rcases List.mem_cons.mp hp with rfl | hp
      · exact Ne.symm off.cd
      · exact (off.off p hp).2.1
end
end
section
open PySem.Calls PySem.Spec
section
variable {prog : Program} {w : World} {A : Around} {s : Shared} {env : Env} {h₀ : Heap} {L : Addr} {m : Str → Option Value} {news : Led} {E : Value → Shared → Prop}
open LCg (NsObj lst)
/-- one clause's turn, whatever the body does -/
noncomputable def cTurn (e : Expr) (dep : Nat) (target : Expr) (p : Pos) (it acc : Value) (body : Sem Fin → Sem Fin) (cenv : Env) : Sem Fin :=
  standAt p >>= fun _ => pyNext it >>= fun r => match r with
    | none => pure (.done .next)
    | some v => letOwnedTupleGo target it v >>= fun _ => assign target cenv v >>= fun _ => body (again (.compLoop e dep it acc cenv))
noncomputable abbrev cc2 (elt t0 i0 t1 i1 : Expr) (scope : Scope) (pos : Pos) : Expr := .ListComp elt [⟨t0, i0, [], 0⟩, ⟨t1, i1, [], 0⟩] scope pos
noncomputable def emitB (elt : Expr) (acc : Value) (cenv : Env) (k : Sem Fin) : Sem Fin := (eval elt cenv >>= fun x => call (.builtin "list.append") [acc, x] >>= fun _ => (pure () : Sem Unit)) >>= fun _ => k
noncomputable def innerB (elt t0 i0 t1 i1 : Expr) (scope : Scope) (pos : Pos) (acc : Value) (cenv : Env) (k : Sem Fin) : Sem Fin :=
  eval i1 cenv >>= fun x => standAt i1.pos >>= fun _ => foldedSetIterable i1 cenv x >>= fun x => holding [x] (pyIter x) >>= fun i => runOwn (.compStart (cc2 elt t0 i0 t1 i1 scope pos) 1 i acc cenv) cenv >>= fun _ => k
theorem compTurn_d1 (elt t0 i0 t1 i1 : Expr) (scope : Scope) (pos : Pos) (it acc : Value) (cenv : Env) :
    compTurn (cc2 elt t0 i0 t1 i1 scope pos) 1 it acc cenv = cTurn (cc2 elt t0 i0 t1 i1 scope pos) 1 t1 i1.pos it acc (emitB elt acc cenv) cenv := by rfl
theorem compTurn_d0 (elt t0 i0 t1 i1 : Expr) (scope : Scope) (pos : Pos) (it acc : Value) (cenv : Env) :
    compTurn (cc2 elt t0 i0 t1 i1 scope pos) 0 it acc cenv = cTurn (cc2 elt t0 i0 t1 i1 scope pos) 0 t0 i0.pos it acc (innerB elt t0 i0 t1 i1 scope pos acc cenv) cenv := by rfl
theorem compStart_d1 {elt t0 i0 t1 i1 : Expr} {scope : Scope} {pos : Pos} {it acc : Value} {env : Env} {R : Result → Shared → Prop}
    (h0 : codeAny (model prog w) A (.compLoop (cc2 elt t0 i0 t1 i1 scope pos) 1 it acc env) R s)
    (h : wpAny (model prog w) A (pyIter it) (fun it' s' => codeAny (model prog w) A (.compLoop (cc2 elt t0 i0 t1 i1 scope pos) 1 it' acc env) R s')
      (notedBy (model prog w) A env fun x s' => R (.error x) s') s) :
    codeAny (model prog w) A (.compStart (cc2 elt t0 i0 t1 i1 scope pos) 1 it acc env) R s := by
  refine codeAny_of_tree ?_
  show wpAny _ _ ((compStart (cc2 elt t0 i0 t1 i1 scope pos) 1 it acc env).onRaise (fun x => do noteFrame x env; standAt theWindowsPlace)) _ _ s
  refine wpAny_notedAt ?_
  unfold compStart
  show wpAny _ _ (ask >>= _) _ _ s
  refine wpAny_bind (wpAny_askSetting (wpAny_ite ?_))
  split
  · first
      | exact wpAny_bind (wpAny_pure (wpAny_pure (And.intro rfl h0)))
      | exact wpAny_pure (And.intro rfl h0)
  · first
      | exact wpAny_bind (wpAny_rule (wpAny_bind (wpAny_standAt (wpAny_bind (wpAny_mono h (fun it' s' h' => wpAny_pure (And.intro rfl h')) fun _ _ x => x)))))
      | (refine wpAny_bind (wpAny_rule ?_); show wpAny _ _ (standAt i1.pos >>= _) _ _ s; exact wpAny_bind (wpAny_standAt (wpAny_bind (wpAny_mono h (fun it' s' h' => wpAny_pure (And.intro rfl h')) fun _ _ x => x))))
/-- a turn's end within a block -/
inductive GEnd (h₀ : Heap) (L : Addr) (m : Str → Option Value) (I : Addr) (oI : Obj) (C D : Addr) (Z : (Str → Option Value) → List Value → Led → Prop) (s₁ s₂ : Shared) : Prop
  | mk (h' tk nx oC m' ys : _) (c1 : s₂ = { s₁ with heap := h', toks := tk }) (c2 : Fr h₀ L h' m) (c3 : News h₀ L h' ((I, oI) :: (C, oC) :: (D, lst ys) :: nx)) (c4 : NsObj oC m') (c5 : ∀ p ∈ nx, p.1 ≠ I ∧ p.1 ≠ C ∧ p.1 ≠ D) (c6 : Z m' ys nx) : GEnd h₀ L m I oI C D Z s₁ s₂
inductive BlkG (h₀ : Heap) (L : Addr) (m : Str → Option Value) (I C D : Addr) (St : Nat → Heap → Prop) (J : Nat → (Str → Option Value) → List Value → Led → Prop) (n : Nat) (s₂ : Shared) (k : Nat) (s' : Shared) : Prop
  | mk (h' : Heap) (tk i : Nat) (ys : List Value) (m' : Str → Option Value) (nx : Led) (e : s' = { s₂ with heap := h', toks := tk }) (hi : i ≤ n) (hk : k = n + 1 - i) (hst : St i h') (F : Fr h₀ L h' m) (hn : h'.Ns C m') (N : News h₀ L h' ((D, lst ys) :: nx)) (off : ∀ p ∈ nx, p.1 ≠ I ∧ p.1 ≠ C ∧ p.1 ≠ D) (hJ : J i m' ys nx) : BlkG h₀ L m I C D St J n s₂ k s'
/-- the loop of one clause -/
theorem loop_G {e target : Expr} {dep : Nat} {p : Pos} {I C D : Addr} {cenv : Env} {body : Sem Fin → Sem Fin} {fp : List Addr} {n : Nat} {P : Nat → Value → Prop} {St : Nat → Heap → Prop} {S : Led → Prop} {J : Nat → (Str → Option Value) → List Value → Led → Prop} {R : Result → Shared → Prop} {s₂ : Shared}
    {ys₀ : List Value} {nx₀ : Led} {m₀ : Str → Option Value}
    (hq : (Code.compLoop e dep (.ref I) (.ref D) cenv).quiet = true) (hA : A.under (.compLoop e dep (.ref I) (.ref D) cenv) = A) (hden : (model prog w).den (.compLoop e dep (.ref I) (.ref D) cenv) = (compTurn e dep (.ref I) (.ref D) cenv).onRaise (fun x => do noteFrame x cenv; theTreesLotGoes x))
    (ht : compTurn e dep (.ref I) (.ref D) cenv = cTurn e dep target p (.ref I) (.ref D) body cenv)
    (W : Walks prog w A I fp [I] n P St) (hIo : ∀ i h, St i h → ∃ o, h.get? I = some o)
    (hSt : ∀ i h h' o nw, St i h → h.get? I = some o → h'.get? I = some o → (∀ b o, h₀.get? b = some o → h'.get? b = some o) → News h₀ L h' nw → S nw → St i h')
    (hgo : ∀ i (s' : Shared) v (Q' : Unit → Shared → Prop) (E' : Value → Shared → Prop), St i s'.heap → Q' () s' → wpAny (model prog w) A (letOwnedTupleGo target (.ref I) v) Q' E' s')
    (hIL : L ≠ I) (hI₀ : h₀.get? I = none) (hS : ∀ i m ys nx, J i m ys nx → S nx) (hIC : I ≠ C) (hID : I ≠ D) (hCD : C ≠ D) (hC₀ : h₀.get? C = none) (hCL : C ≠ L)
    (turn : ∀ i v ys nx oI oC m₂ h tk (E' : Value → Shared → Prop), i < n → P i v → J i m₂ ys nx → NsObj oC m₂ → COff I C D nx → Fr h₀ L h m → News h₀ L h ((I, oI) :: (C, oC) :: (D, lst ys) :: nx) →
      wpAny (model prog w) A (assign target cenv v) (fun _ s₃ => ∀ (k : Sem Fin) (Qk : Fin → Shared → Prop), (∀ s₄, GEnd h₀ L m I oI C D (J (i + 1)) { s₂ with heap := h, toks := tk } s₄ → wpAny (model prog w) A k Qk E' s₄) → wpAny (model prog w) A (body k) Qk E' s₃) E' { s₂ with heap := h, toks := tk })
    (hst : St 0 s₂.heap) (F : Fr h₀ L s₂.heap m) (hns : s₂.heap.Ns C m₀) (N : News h₀ L s₂.heap ((D, lst ys₀) :: nx₀)) (off₀ : ∀ p ∈ nx₀, p.1 ≠ I ∧ p.1 ≠ C ∧ p.1 ≠ D) (h0 : J 0 m₀ ys₀ nx₀)
    (done : ∀ h tk m' ys nx, Fr h₀ L h m → News h₀ L h ((D, lst ys) :: nx) → h.Ns C m' → (∀ p ∈ nx, p.1 ≠ I ∧ p.1 ≠ C ∧ p.1 ≠ D) → J n m' ys nx → R (.ok .next) { s₂ with heap := h, toks := tk }) :
    codeAny (model prog w) A (.compLoop e dep (.ref I) (.ref D) cenv) R s₂ := by
  refine codeAny_loop hq (BlkG h₀ L m I C D St J n s₂) ?_ (n + 1)
    ⟨s₂.heap, s₂.toks, 0, ys₀, m₀, nx₀, rfl, Nat.zero_le _, rfl, hst, F, hns, N, off₀, h0⟩
  rintro k s' ⟨h', tk, i, ys, m', nx, rfl, hi, rfl, hst', F', hn', N', off', hJ⟩
  rw [hA, hden]
  refine wpAny_noted ?_
  rw [ht]
  unfold cTurn
  refine wpAny_bind (wpAny_standAt (wpAny_bind ?_))
  by_cases hlt : i < n
  · refine W.item i _ _ _ hlt hst' fun v h₂ tk₂ hPv hst₂ hk₂ => ?_
    dsimp only
    refine wpAny_bind (hgo (i + 1) _ v _ _ hst₂ ?_)
    obtain ⟨oI, heI⟩ := hIo _ _ hst₂
    have hn₂ : h₂.Ns C m' := hn'.at' fun o e => hk₂ _ o (by simpa using Ne.symm hIC) e
    obtain ⟨oC, heC, hoC⟩ := LCg.ns_obj hn₂
    have F₂ := LCg.fr_but F' hk₂ hIL hI₀
    have N₂ : News h₀ L h₂ ((D, lst ys) :: nx) := LCg.news_but N' hk₂ fun p hp => by
      rcases List.mem_cons.mp hp with rfl | hp
      · exact Ne.symm hID
      · exact (off' p hp).1
    have N₃ : News h₀ L h₂ ((I, oI) :: (C, oC) :: (D, lst ys) :: nx) := fun p hp => by
      rcases List.mem_cons.mp hp with rfl | hp
      · exact ⟨heI, Ne.symm hIL, hI₀⟩
      · rcases List.mem_cons.mp hp with rfl | hp
        · exact ⟨heC, hCL, hC₀⟩
        · exact N₂ p hp
    refine wpAny_bind (wpAny_mono (turn i v ys nx oI oC m' h₂ tk₂ _ hlt hPv hJ hoC ⟨hIC, hID, hCD, off'⟩ F₂ N₃) (fun _ s₃ q => q _ _ fun s₄ q => ?_) fun _ _ e => e)
    obtain ⟨h5, tk5, nx5, oC5, m5, ys5, rfl, F5, N5, hoC5, off5, hJ5⟩ := q
    have Nr : News h₀ L h5 nx5 := fun p hp => N5 p (.tail _ (.tail _ (.tail _ hp)))
    exact wpAny_pure ⟨rfl, n + 1 - (i + 1), by omega, h5, tk5, i + 1, ys5, m5, nx5, rfl, hlt, rfl, hSt _ _ _ oI nx5 hst₂ heI (N5 _ (.head _)).1 F5.keep Nr (hS _ _ _ _ hJ5), F5, hoC5.ns (N5 _ (.tail _ (.head _))).1, fun p hp => N5 p (.tail _ (.tail _ hp)), off5, hJ5⟩
  · obtain rfl : i = n := Nat.le_antisymm hi (Nat.not_lt.mp hlt)
    refine W.done _ _ _ hst' fun h₂ tk₂ hk₂ => ?_
    dsimp only
    exact wpAny_pure (done h₂ tk₂ _ ys nx (LCg.fr_but F' hk₂ hIL hI₀) (LCg.news_but N' hk₂ fun p hp => by
      rcases List.mem_cons.mp hp with rfl | hp
      · exact Ne.symm hID
      · exact (off' p hp).1) (hn'.at' fun o e => hk₂ _ o (by simpa using Ne.symm hIC) e) off' hJ)
/-- an element's end, its names known -/
inductive CEnd2 (h₀ : Heap) (L : Addr) (m : Str → Option Value) (I : Addr) (oI : Obj) (C D : Addr) (ys : List Value) (Z : (Str → Option Value) → Led → Prop) (s₁ s₂ : Shared) : Prop
  | mk (h' tk nx oC m' : _) (c1 : s₂ = { s₁ with heap := h', toks := tk }) (c2 : Fr h₀ L h' m) (c3 : News h₀ L h' ((I, oI) :: (C, oC) :: (D, lst ys) :: nx)) (c4 : NsObj oC m') (c5 : ∀ p ∈ nx, p.1 ≠ I ∧ p.1 ≠ C ∧ p.1 ≠ D) (c6 : Z m' nx) : CEnd2 h₀ L m I oI C D ys Z s₁ s₂
theorem CEnd2.intro {I C D : Addr} {oI oC : Obj} {ys : List Value} {Z : (Str → Option Value) → Led → Prop} {s₁ : Shared} {h' : Heap} {tk : Nat} {m' : Str → Option Value} {all nx : Led} (F : Fr h₀ L h' m) (N : News h₀ L h' all) (hs : ∀ p ∈ (I, oI) :: (C, oC) :: (D, lst ys) :: nx, p ∈ all)
    (hC : NsObj oC m') (off : ∀ p ∈ nx, p.1 ≠ I ∧ p.1 ≠ C ∧ p.1 ≠ D) (z : Z m' nx) : CEnd2 h₀ L m I oI C D ys Z s₁ { s₁ with heap := h', toks := tk } := ⟨h', tk, nx, oC, m', rfl, F, fun p hp => N p (hs p hp), hC, off, z⟩
/-- the inner iterable, read in the block; J2 its invariants (the outer iterator stands in the ledger) -/
inductive InnerX (prog : Program) (w : World) (A : Around) (h₀ : Heap) (L : Addr) (m : Str → Option Value) (target elt : Expr) (cenv : Env) (I : Addr) (oI : Obj) (C D : Addr) (Z : List Value → Led → Prop) (s₁ : Shared) (x : Value) (s : Shared) : Prop
  | mk (n : Nat) (P : Nat → Value → Prop) (S : Led → Prop) (J : Nat → (Str → Option Value) → List Value → Led → Prop) (ys₀ : List Value) (nx₀ : Led) (oC : Obj) (m₀ : Str → Option Value) (hh : Heap) (tt : Nat) (c1 : s = { s₁ with heap := hh, toks := tt }) (c2 : Src prog w A h₀ L target x n P S s) (c3 : Fr h₀ L s.heap m) (c4 : News h₀ L s.heap ((I, oI) :: (C, oC) :: (D, lst ys₀) :: nx₀)) (c5 : NsObj oC m₀) (c6 : COff I C D nx₀) (c7 : ∀ i m ys nx, J i m ys nx → S ((I, oI) :: nx)) (c8 : ∀ i m ys nx, J i m ys nx → ys.length < sizeLine) (c9 : J 0 m₀ ys₀ nx₀) (c10 : ∀ i v ys nx I2 oI2 oC m₂ h tk (E' : Value → Shared → Prop), i < n → P i v → J i m₂ ys nx → NsObj oC m₂ → COff I2 C D ((I, oI) :: nx) → COff I C D nx → Fr h₀ L h m → News h₀ L h ((I2, oI2) :: (C, oC) :: (D, lst ys) :: (I, oI) :: nx) → wpAny (model prog w) A (assign target cenv v) (fun _ s₃ => wpAny (model prog w) A (eval elt cenv) (fun y s₅ => CEnd2 h₀ L m I2 oI2 C D ys (fun m' nx' => ∃ nx2, nx' = (I, oI) :: nx2 ∧ (∀ p ∈ nx2, p.1 ≠ I) ∧ J (i + 1) m' (ys ++ [y]) nx2) { s₁ with heap := h, toks := tk } s₅) E' s₃) E' { s₁ with heap := h, toks := tk }) (c11 : ∀ m ys nx, J n m ys nx → Z ys nx) : InnerX prog w A h₀ L m target elt cenv I oI C D Z s₁ x s
theorem inner_body {elt t0 i0 t1 i1 : Expr} {scope : Scope} {pos : Pos} {I C D : Addr} {oI : Obj} {cenv : Env} {Z : List Value → Led → Prop} {s₁ : Shared}
    (h : wpAny (model prog w) A (eval i1 cenv) (InnerX prog w A h₀ L m t1 elt cenv I oI C D Z s₁) E s)
    (hs : ∀ x, foldedSetIterable i1 cenv x = pure x := by intro _; rfl) :
    ∀ (k : Sem Fin) (Qk : Fin → Shared → Prop), (∀ s₄, GEnd h₀ L m I oI C D (fun _ => Z) s₁ s₄ → wpAny (model prog w) A k Qk E s₄) → wpAny (model prog w) A (innerB elt t0 i0 t1 i1 scope pos (.ref D) cenv k) Qk E s := by
  intro k Qk hk
  unfold innerB
  refine wpAny_bind (wpAny_mono h (fun x s₂ h₂ => ?_) fun _ _ e => e)
  obtain ⟨n, P, S, J, ys₀, nx₀, oC, m₀, hh, tt, rfl, hsrc, F, N, hoC, off, hS, hlen, h0, turn, done⟩ := h₂
  refine wpAny_bind (wpAny_standAt (wpAny_bind (wpAny_of_eq (hs x) (wpAny_bind (wpAny_holding ?_)))))
  refine hsrc _ _ fun h' fp St hob W hIo hSt st0 hfp hgo => ?_
  obtain ⟨ob, rfl⟩ := hob
  dsimp only at W hIo hSt st0 hfp hgo F N ⊢
  have up : ∀ b o, hh.get? b = some o → (hh.push ob).get? b = some o := fun b o e => Heap.get?_push_of_some _ e
  have fresh : ∀ {b o}, hh.get? b = some o → hh.objs.size ≠ b := fun e => Ne.symm (Nat.ne_of_lt (Heap.lt_size e))
  have NI := N _ (.head _)
  have NC := N _ (.tail _ (.head _))
  have ND := N _ (.tail _ (.tail _ (.head _)))
  refine wpAny_bind (wpAny_runOwn (A := A) (h := none) ?_)
  show codeAny (model prog w) A _ _ _
  have loop : ∀ (st : Shared), st = ({ s₁ with heap := hh.push ob, toks := tt } : Shared) → codeAny (model prog w) A (.compLoop (cc2 elt t0 i0 t1 i1 scope pos) 1 (.ref hh.objs.size) (.ref D) cenv)
      (fun r s' => match r with | .ok f => wpAny (model prog w) A k Qk E s' | .error e => cameBackBy (model prog w) A cenv E e s') st := by
    rintro st rfl
    refine loop_G (I := hh.objs.size) (C := C) (D := D) (J := fun i m' ys nx => ∃ nx2, nx = (I, oI) :: nx2 ∧ (∀ p ∈ nx2, p.1 ≠ I) ∧ J i m' ys nx2) (S := S) (nx₀ := (I, oI) :: nx₀) rfl rfl rfl (compTurn_d1 elt t0 i0 t1 i1 scope pos _ _ cenv) W hIo hSt hgo (Nat.ne_of_lt F.ns.lt) (next_is_new F)
      (fun i m' ys nx ⟨nx2, e, _, hj⟩ => e ▸ hS i m' ys nx2 hj) (fresh NC.1) (fresh ND.1) off.cd NC.2.2 NC.2.1 ?_ st0 (F.keeps up) (hoC.ns (up _ _ NC.1)) (fun p hp => ?_) (fun p hp => ?_) ⟨nx₀, rfl, fun p hp => (off.off p hp).1, h0⟩ ?_
    · rintro i v ys nx oI2 oC2 m₂ h tk E' hlt hP ⟨nx2, rfl, hI2, hJ⟩ hoC2 off2 F2 N2
      have offI : COff I C D nx2 := ⟨off.ic, off.id, off.cd, fun p hp => ⟨hI2 p hp, (off2.off p (.tail _ hp)).2.1, (off2.off p (.tail _ hp)).2.2⟩⟩
      refine wpAny_mono (turn i v ys nx2 _ oI2 oC2 m₂ h tk E' hlt hP hJ hoC2 off2 offI F2 N2) (fun _ s₃ q k2 Qk2 hk2 => ?_) fun _ _ e => e
      unfold emitB
      refine wpAny_bind (wpAny_bind (wpAny_mono q (fun y s₅ q => ?_) fun _ _ e => e))
      obtain ⟨h5, tk5, nx5, oC5, m5, rfl, F5, N5, hoC5, off5, nx6, rfl, hI6, hJ5⟩ := q
      have zD := (N5 (D, lst ys) (.tail _ (.tail _ (.head _)))).1
      refine wpAny_bind (append_at (hsz := by show ys.toArray.size ≤ sizeLine; rw [List.size_toArray]; exact Nat.le_of_lt (hlen _ _ _ _ hJ)) zD fun h6 hs6 hD6 => ?_)
      refine wpAny_pure (hk2 _ ⟨h6, tk5, (I, oI) :: nx6, oC5, m5, ys ++ [y], rfl, F5.change hs6 ND.2.1 ND.2.2, fun p hp => ?_, hoC5, off5, nx6, rfl, hI6, hJ5⟩)
      rcases List.mem_cons.mp hp with rfl | hp
      · exact ⟨hs6.extBut _ _ (fresh ND.1) (N5 _ (.head _)).1, (N5 _ (.head _)).2⟩
      · rcases List.mem_cons.mp hp with rfl | hp
        · exact ⟨hs6.extBut _ _ off.cd (N5 _ (.tail _ (.head _))).1, (N5 _ (.tail _ (.head _))).2⟩
        · rcases List.mem_cons.mp hp with rfl | hp
          · exact ⟨hD6.trans (congrArg some (LCg.lst_snoc ys y)), ND.2.1, ND.2.2⟩
          · have z := N5 p (.tail _ (.tail _ (.tail _ hp)))
            exact ⟨hs6.extBut _ _ (off5 p hp).2.2 z.1, z.2⟩
    · rcases List.mem_cons.mp hp with rfl | hp
      · exact ⟨up _ _ ND.1, ND.2⟩
      · rcases List.mem_cons.mp hp with rfl | hp
        · exact ⟨up _ _ NI.1, NI.2⟩
        · have z := N p (.tail _ (.tail _ (.tail _ hp)))
          exact ⟨up _ _ z.1, z.2⟩
    · rcases List.mem_cons.mp hp with rfl | hp
      · exact ⟨Ne.symm (fresh NI.1), off.ic, off.id⟩
      · exact ⟨Ne.symm (fresh (N p (.tail _ (.tail _ (.tail _ hp)))).1), (off.off p hp).2.1, (off.off p hp).2.2⟩
    · rintro h9 tk9 m9 ys9 nx9 F9 N9 hn9 off9 ⟨nx2, rfl, hI2, hJ9⟩
      obtain ⟨oC9, heC9, hoC9⟩ := LCg.ns_obj hn9
      refine hk _ ⟨h9, tk9, nx2, oC9, m9, ys9, rfl, F9, fun p hp => ?_, hoC9, fun p hp => ⟨hI2 p hp, (off9 p (.tail _ hp)).2⟩, done _ _ _ hJ9⟩
      rcases List.mem_cons.mp hp with rfl | hp
      · exact N9 _ (.tail _ (.head _))
      · rcases List.mem_cons.mp hp with rfl | hp
        · exact ⟨heC9, NC.2.1, NC.2.2⟩
        · rcases List.mem_cons.mp hp with rfl | hp
          · exact N9 _ (.head _)
          · exact N9 _ (.tail _ (.tail _ hp))
  exact compStart_d1 (loop _ rfl) (W.self 0 _ _ _ st0 (loop _ rfl))
/-- a comprehension of two clauses at its first iterable -/
inductive Comp2X (prog : Program) (w : World) (A : Around) (h₀ : Heap) (L : Addr) (env : Env) (t0 t1 i1 : Expr) (elt : Expr) (scope : Scope) (cl : List (Str × Addr)) (Fin : (Str → Option Value) → List Value → Led → Shared → Prop) (xv : Value) (s : Shared) : Prop
  | mk (n : Nat) (P : Nat → Value → Prop) (S : Led → Prop) (J : Nat → List Value → Led → Prop) (m : Str → Option Value) (news : Led) (c1 : Src prog w A h₀ L t0 xv n P S s) (c2 : Fr h₀ L s.heap m) (c3 : News h₀ L s.heap news) (c4 : ∀ i ys nx, J i ys nx → S nx) (c5 : J 0 [] news) (c6 : ∀ i v ys nx I oI C oC D m₂ h tk (E' : Value → Shared → Prop), i < n → P i v → J i ys nx → NsObj oC m₂ → COff I C D nx → Fr h₀ L h m → News h₀ L h ((I, oI) :: (C, oC) :: (D, lst ys) :: nx) → wpAny (model prog w) A (assign t0 (compEnvC scope cl C env) v) (fun _ s₃ => wpAny (model prog w) A (eval i1 (compEnvC scope cl C env)) (InnerX prog w A h₀ L m t1 elt (compEnvC scope cl C env) I oI C D (J (i + 1)) { s with heap := h, toks := tk }) E' s₃) E' { s with heap := h, toks := tk }) (c7 : ∀ ys nx, J n ys nx → Fin m ys nx s) : Comp2X prog w A h₀ L env t0 t1 i1 elt scope cl Fin xv s
theorem block_2 {elt i0 i1 t0 t1 : Expr} {scope : Scope} {cl : List (Str × Addr)} {pos : Pos} {xv : Value} {s₁ : Shared} {n : Nat} {P : Nat → Value → Prop} {S : Led → Prop} {J : Nat → List Value → Led → Prop} {RR : Value → Addr → Result → Shared → Prop}
    (hcell : ∀ y ∈ scope.names, y.2 ≠ .cell) (hkind : scope.kind = .function)
    (hsrc : Src prog w A h₀ L t0 xv n P S s₁) (F : Fr h₀ L s₁.heap m) (N : News h₀ L s₁.heap news) (hS : ∀ i ys nx, J i ys nx → S nx) (h0 : J 0 [] news)
    (turn : ∀ i v ys nx I oI C oC D m₂ h tk (E' : Value → Shared → Prop), i < n → P i v → J i ys nx → NsObj oC m₂ → COff I C D nx → Fr h₀ L h m → News h₀ L h ((I, oI) :: (C, oC) :: (D, lst ys) :: nx) →
      wpAny (model prog w) A (assign t0 (compEnvC scope cl C env) v) (fun _ s₃ => wpAny (model prog w) A (eval i1 (compEnvC scope cl C env)) (InnerX prog w A h₀ L m t1 elt (compEnvC scope cl C env) I oI C D (J (i + 1)) { s₁ with heap := h, toks := tk }) E' s₃) E' { s₁ with heap := h, toks := tk })
    (hs1 : ∀ env x, foldedSetIterable i1 env x = pure x)
    (hRR : ∀ D C h tk m' ys nx, Fr h₀ L h m → News h₀ L h ((D, lst ys) :: nx) → (∀ p ∈ nx, p.1 ≠ D) → h.Ns C m' → h₀.get? C = none → C ≠ L → C ≠ D → (∀ p ∈ nx, p.1 ≠ C) → J n ys nx → RR (.ref D) C (.ok .next) { s₁ with heap := h, toks := tk }) :
    wpAny (model prog w) A (pyIter xv) (fun it s₂ => wpAny (model prog w) A (newList []) (fun acc s₃ => wpAny (model prog w) A (newFunctionEnv scope env.globals cl [] env.qual none .none (some env)) (fun cenv s₄ =>
      codeAny (model prog w) A (.compStart (cc2 elt t0 i0 t1 i1 scope pos) 0 it acc { cenv with scope := relabel scope env }) (RR acc cenv.locals) s₄) E s₃) E s₂) E s₁ := by
  refine hsrc _ _ fun h' fp St hob W hIo hSt st0 hfp hgo => ?_
  obtain ⟨ob, rfl⟩ := hob
  have up : ∀ b o, s₁.heap.get? b = some o → (s₁.heap.push ob).get? b = some o := fun b o e => Heap.get?_push_of_some _ e
  refine wpAny_newObj_type (wpAny_newFunctionEnv hcell (by intro y hy; simp at hy) (fun h₁ hns₁ hsb₁ => ?_) hkind)
  dsimp only at hns₁ hsb₁ W hIo hSt st0 hfp hgo ⊢
  generalize hI : s₁.heap.objs.size = I at *
  generalize hH1 : s₁.heap.push ob = H1 at *
  have hI1 : H1.objs.size = I + 1 := by rw [← hH1, Heap.size_push, hI]
  have F1 : Fr h₀ L H1 m := F.keeps up
  have N1 : News h₀ L H1 news := N.grown up
  generalize hH2 : H1.push { cls := .type "list", dict := none, data := .seq ([] : List Value).toArray } = H2 at hns₁ hsb₁ ⊢
  generalize hDe : H1.objs.size = D at *
  have hCe : H2.objs.size = D + 1 := by rw [← hH2, Heap.size_push, hDe]
  generalize hCn : H2.objs.size = C at hns₁ hsb₁ hCe ⊢
  have lt : ∀ {b o}, H1.get? b = some o → b < D := fun e => hDe ▸ Heap.lt_size e
  have hIlt : I < D := by omega
  have hIL : L ≠ I := hI ▸ Nat.ne_of_lt F.ns.lt
  have hI₀ : h₀.get? I = none := hI ▸ next_is_new F
  have offI : ∀ p ∈ news, p.1 ≠ I := fun p hp => hI ▸ Nat.ne_of_lt (Heap.lt_size (N p hp).1)
  have hLlt : L < D := hDe ▸ F1.ns.lt
  have neN : ∀ {a b : Nat}, a < b → a ≠ b := fun h => Nat.ne_of_lt h
  have hCD : C ≠ D := by rw [hCe]; exact Ne.symm (neN (Nat.lt_succ_self D))
  have ltC : ∀ {b : Nat}, b < D → b ≠ C := fun h => by rw [hCe]; exact neN (Nat.lt_succ_of_lt h)
  have old : ∀ b o, H1.get? b = some o → h₁.get? b = some o := fun b o e => hsb₁.extBut b o (ltC (lt e)) (Heap.get?_push_of_some _ (hH2 ▸ Heap.get?_push_of_some _ e))
  have hacc : h₁.get? D = some (lst []) := hsb₁.extBut _ _ (Ne.symm hCD) (Heap.get?_push_of_some _ (by rw [← hDe, ← hH2]; exact Heap.get?_push_size _ rfl))
  have fresh₀ : ∀ a, D ≤ a → h₀.get? a = none := fun a ha => by
    cases e : h₀.get? a with
    | none => rfl
    | some o' => exact absurd (lt (F1.keep a o' e)) (Nat.not_lt.mpr ha)
  have hD₀ := fresh₀ D (Nat.le_refl _)
  have hC₀ := fresh₀ C (by rw [hCe]; exact Nat.le_succ _)
  have hDL : D ≠ L := Ne.symm (neN hLlt)
  have hCL : C ≠ L := Ne.symm (ltC hLlt)
  have hCI : I ≠ C := ltC hIlt
  have hDI : I ≠ D := neN hIlt
  have off₀ : ∀ p ∈ news, p.1 ≠ I ∧ p.1 ≠ C ∧ p.1 ≠ D := fun p hp => ⟨offI p hp, ltC (lt (N1 p hp).1), neN (lt (N1 p hp).1)⟩
  have loop : ∀ s₃ : Shared, s₃ = { s₁ with heap := h₁, toks := s₁.toks + ([] : List (Str × Value)).length } →
      codeAny (model prog w) A (.compLoop (cc2 elt t0 i0 t1 i1 scope pos) 0 (.ref I) (.ref D) (compEnvC scope cl C env)) (RR (.ref D) C) s₃ := by
    rintro s₃ rfl
    refine loop_G (C := C) (D := D) (J := fun i _ => J i) (S := S) rfl rfl rfl (compTurn_d0 elt t0 i0 t1 i1 scope pos _ _ _) W hIo hSt hgo hIL hI₀ (fun i _ => hS i) hCI hDI hCD hC₀ hCL ?_ (W.frame _ _ _ st0 fun b _ o e => old b o e) (F1.keeps old) hns₁ (fun p hp => ?_) off₀ h0 ?_
    · intro i v ys nx oI oC m₂ h tk E' hlt hP hJ hoC off F' N'
      exact wpAny_mono (turn i v ys nx I oI C oC D m₂ h tk E' hlt hP hJ hoC off F' N') (fun _ s₄ q => inner_body q (hs1 _)) fun _ _ e => e
    · rcases List.mem_cons.mp hp with rfl | hp
      · exact ⟨hacc, hDL, hD₀⟩
      · exact ⟨old _ _ (N1 p hp).1, (N1 p hp).2⟩
    · intro h' tk m' ys nx F' N' hn off' hJ
      exact hRR D C h' tk m' ys nx F' N' (fun p hp => (off' p hp).2.2) hn hC₀ hCL hCD (fun p hp => (off' p hp).2.1) hJ
  exact codeAny_compStart_list (loop _ rfl) (W.self 0 _ _ _ (W.frame _ _ _ st0 fun b _ o e => old b o e) (loop _ rfl))
theorem ListComp2_X {elt i0 i1 t0 t1 : Expr} {scope : Scope} {cl : List (Str × Addr)} {pos : Pos} {Q : Value → Shared → Prop} (_F₀ : Fr h₀ L s.heap m)
    (hclos : closureFor scope env = pure cl) (hcell : ∀ y ∈ scope.names, y.2 ≠ .cell) (hkind : scope.kind = .function)
    (hnames : ∀ y ∈ scope.names, y.2 = .local → scope.names.lookup y.1 = some .local)
    (h : wpAny (model prog w) A (eval i0 env) (Comp2X prog w A h₀ L env t0 t1 i1 elt scope cl (FinX h₀ L Q)) E s)
    (hs : ∀ x, foldedSetIterable i0 env x = pure x := by intro _; rfl) (hs1 : ∀ env x, foldedSetIterable i1 env x = pure x := by intro _ _; rfl) :
    wpAny (model prog w) A (eval (.ListComp elt [⟨t0, i0, [], 0⟩, ⟨t1, i1, [], 0⟩] scope pos) env) Q E s := by
  rw [eval_ListComp]
  refine wpAny_comprehension_free (use := none) rfl hs hclos hkind hnames (wpAny_mono h (fun xv s₁ h₁ => ?_) fun _ _ e => e)
  obtain ⟨n, P, S, J, m, news, hsrc, F, N, hS, h0, turn, done⟩ := h₁
  refine block_2 hcell hkind hsrc F N hS h0 turn hs1 ?_
  intro D C h tk m' ys nx F' N' o1 hn hC₀ hCL hCD offC hJ
  refine ⟨m', hn, fun h'' hs'' => done ys nx hJ D h'' tk (F'.change hs'' hCL hC₀) (fun p hp => ?_) o1⟩
  refine ⟨hs''.extBut _ _ ?_ (N' p hp).1, (N' p hp).2⟩
  rcases List.mem_cons.mp hp with rfl | hp
  · exact Ne.symm hCD
  · exact offC p hp
theorem Assign_ListComp2_X {elt i0 i1 t0 t1 : Expr} {y : Str} {py : Pos} {scope : Scope} {cl : List (Str × Addr)} {pos spos : Pos} {Q : Flow → Shared → Prop} (_F₀ : Fr h₀ env.locals s.heap m)
    (hsw : swapsWith (.ListComp elt [⟨t0, i0, [], 0⟩, ⟨t1, i1, [], 0⟩] scope pos) (some (.Name y py)) spos.line env = pure true)
    (hclos : closureFor scope env = pure cl) (hcell : ∀ z ∈ scope.names, z.2 ≠ .cell) (hkind : scope.kind = .function)
    (hnames : ∀ z ∈ scope.names, z.2 = .local → scope.names.lookup z.1 = some .local)
    (hy : env.kindOf y = some .local) (hp : (env.scope.kind == .class || (env.scope.kind == .module && env.locals != env.globals)) = false)
    (h : wpAny (model prog w) A (eval i0 env) (Comp2X prog w A h₀ env.locals env t0 t1 i1 elt scope cl (FinAX h₀ env.locals y Q)) E s)
    (hs : ∀ x, foldedSetIterable i0 env x = pure x := by intro _; rfl) (hs1 : ∀ env x, foldedSetIterable i1 env x = pure x := by intro _ _; rfl) :
    wpAny (model prog w) A (exec (.Assign [.Name y py] (.ListComp elt [⟨t0, i0, [], 0⟩, ⟨t1, i1, [], 0⟩] scope pos) spos) env) Q E s := by
  rw [exec_Assign_Name_used _ _ _ _ hsw]
  refine wpAny_bind (wpAny_standAt (wpAny_bind ?_))
  show wpAny _ A (do let _ ← comprehension (.ListComp elt [⟨t0, i0, [], 0⟩, ⟨t1, i1, [], 0⟩] scope pos) scope env _ (newList []) false (eval i0 env) (some (assign (.Name y py) env))) _ _ s
  refine wpAny_bind (wpAny_mono (wpAny_comprehension_free (use := some (assign (.Name y py) env)) (Q := fun _ s' => Q .next s') rfl hs hclos hkind hnames
    (wpAny_mono h (fun xv s₁ h₁ => ?_) fun _ _ e => e)) (fun _ s' hq => wpAny_pure (wpAny_pure hq)) fun _ _ e => e)
  obtain ⟨n, P, S, J, m, news, hsrc, F, N, hS, h0, turn, done⟩ := h₁
  refine block_2 hcell hkind hsrc F N hS h0 turn hs1 ?_
  intro D C h' tk m' ys nx F' N' o1 hn hC₀ hCL hCD offC hJ
  show wpAny _ A (assign (.Name y py) env (.ref D)) _ _ _
  refine wpAny_assign_Name (wpAny_storeName_local hy F'.ns (fun h₂ hn₂ hs₂ => ?_) hp)
  have F₂ : Fr h₀ env.locals h₂ (fun z => if z = y then some (.ref D) else m z) := F'.set hn₂ hs₂
  refine ⟨m', hn.sameBut hs₂ hCL, fun h'' hs'' => done ys nx hJ D h'' _ (F₂.change hs'' hCL hC₀) (fun p hp => ?_) o1⟩
  have z : h₂.get? p.1 = some p.2 := hs₂.extBut _ _ (N' p hp).2.1 (N' p hp).1
  refine ⟨hs''.extBut _ _ ?_ z, (N' p hp).2⟩
  rcases List.mem_cons.mp hp with rfl | hp
  · exact Ne.symm hCD
  · exact offC p hp
end
end
section
/-- a signature of the law's model, as the project's item has it -/
structure Item where
  name : Str
  abs : Bool
  mult : Str
  parent : Str
noncomputable abbrev S (x : String) : Str := Str.ofString x
noncomputable def Item.dat (i : Item) : Dat := .tuple [.str (S "sig"), .int 0, .tuple [.str i.name], .bool i.abs, .str i.mult, .str i.parent, .tuple [], .tuple [], .tuple []]
noncomputable abbrev tupObj (vs : List Value) (n : Nat) : Obj := { cls := .type "tuple", data := .seq vs.toArray n }
theorem dat_str {news : Led} {v : Value} {x : Str} (h : DatIn news v (.str x)) : ∃ t, v = .str x t := by cases h; exact ⟨_, rfl⟩
theorem dat_int {news : Led} {v : Value} {x : Int} (h : DatIn news v (.int x)) : ∃ t, v = .int x t := by cases h; exact ⟨_, rfl⟩
theorem dat_bool {news : Led} {v : Value} {x : Bool} (h : DatIn news v (.bool x)) : v = .bool x := by cases h; rfl
theorem dat_tuple {news : Led} {v : Value} {ds : List Dat} (h : DatIn news v (.tuple ds)) : ∃ a vs n, v = .ref a ∧ (a, tupObj vs n) ∈ news ∧ DatAll news vs ds := by
  cases h with | tuple hm hd => exact ⟨_, _, _, rfl, hm, hd⟩
theorem dat_list {news : Led} {v : Value} {ds : List Dat} (h : DatIn news v (.list ds)) : ∃ a vs n, v = .ref a ∧ (a, listOf vs.toArray n) ∈ news ∧ DatAll news vs ds := by
  cases h with | list hm hd => exact ⟨_, _, _, rfl, hm, hd⟩
theorem dat_nil {news : Led} {vs : List Value} (h : DatAll news vs []) : vs = [] := by cases h; rfl
theorem dat_cons {news : Led} {vs : List Value} {d : Dat} {ds : List Dat} (h : DatAll news vs (d :: ds)) : ∃ v r, vs = v :: r ∧ DatIn news v d ∧ DatAll news r ds := by
  cases h with | cons h r => exact ⟨_, _, rfl, h, r⟩
/-- a list's data in a ledger that grew by fr -/
inductive FrJ (L0 nb : Led) (ds : List Dat) (ys : List Value) (nx : Led) : Prop
  | mk (fr : Led) (hnx : nx = fr ++ L0) (hfr : ∀ p ∈ fr, ∀ q ∈ L0, q.1 ≠ p.1) (hys : DatAll (fr ++ nb) ys ds) : FrJ L0 nb ds ys nx
inductive FrR (L0 nb : Led) (d : Dat) (r : Value) (nx : Led) : Prop
  | mk (fr : Led) (hnx : nx = fr ++ L0) (hfr : ∀ p ∈ fr, ∀ q ∈ L0, q.1 ≠ p.1) (hys : DatIn (fr ++ nb) r d) : FrR L0 nb d r nx
theorem datAt {nw : Led} {vs : List Value} {ds : List Dat} {k : Nat} {v : Value} (h : DatAll nw vs ds) (hv : vs[k]? = some v) (hk : k < ds.length) : DatIn nw v ds[k] := by
  obtain ⟨v', hv', hd⟩ := h.get hk
  rw [hv] at hv'
  cases hv'
  exact hd
@[elab_as_elim] theorem eT {news : Led} {v : Value} {ds : List Dat} {K : Value → Prop} (h : DatIn news v (.tuple ds)) (k : ∀ a vs n, (a, tupObj vs n) ∈ news → DatAll news vs ds → K (.ref a)) : K v := by
  obtain ⟨_, _, _, rfl, hm, h⟩ := dat_tuple h; exact k _ _ _ hm h
@[elab_as_elim] theorem eL {news : Led} {v : Value} {ds : List Dat} {K : Value → Prop} (h : DatIn news v (.list ds)) (k : ∀ a vs n, (a, listOf vs.toArray n) ∈ news → DatAll news vs ds → K (.ref a)) : K v := by
  obtain ⟨_, _, _, rfl, hm, h⟩ := dat_list h; exact k _ _ _ hm h
@[elab_as_elim] theorem eC {news : Led} {vs : List Value} {d : Dat} {ds : List Dat} {K : List Value → Prop} (h : DatAll news vs (d :: ds)) (k : ∀ v r, DatIn news v d → DatAll news r ds → K (v :: r)) : K vs := by
  obtain ⟨_, _, rfl, h0, h⟩ := dat_cons h; exact k _ _ h0 h
@[elab_as_elim] theorem eN {news : Led} {vs : List Value} {K : List Value → Prop} (h : DatAll news vs []) (k : K []) : K vs := by
  have := dat_nil h; subst this; exact k
@[elab_as_elim] theorem eS {news : Led} {v : Value} {x : Str} {K : Value → Prop} (h : DatIn news v (.str x)) (k : ∀ t, K (.str x t)) : K v := by
  obtain ⟨_, rfl⟩ := dat_str h; exact k _
@[elab_as_elim] theorem eI {news : Led} {v : Value} {x : Int} {K : Value → Prop} (h : DatIn news v (.int x)) (k : ∀ t, K (.int x t)) : K v := by
  obtain ⟨_, rfl⟩ := dat_int h; exact k _
@[elab_as_elim] theorem eB {news : Led} {v : Value} {x : Bool} {K : Value → Prop} (h : DatIn news v (.bool x)) (k : K (.bool x)) : K v := by
  have := dat_bool h; subst this; exact k
/-- an item in the ledger -/
inductive RStr (x : Str) (news : Led) : Value → Led → Prop
  | mk (t : Tok) : RStr x news (.str x t) news
inductive RInt (k : Int) (news : Led) : Value → Led → Prop
  | mk (t : Tok) : RInt k news (.int k t) news
inductive RBool (b : Bool) (news : Led) : Value → Led → Prop
  | mk : RBool b news (.bool b) news
inductive RTup0 (news : Led) : Value → Led → Prop
  | mk (a : Addr) (n : Nat) (m : (a, tupObj [] n) ∈ news) : RTup0 news (.ref a) news
inductive RTup (ds : List Dat) (news : Led) : Value → Led → Prop
  | mk (a : Addr) (vs : List Value) (n : Nat) (d : DatAll news vs ds) : RTup ds news (.ref a) ((a, tupObj vs n) :: news)
inductive RNil (news : Led) : Value → Led → Prop
  | mk (D : Addr) (c : Nat) (l : ∀ p ∈ news, p.1 < D) : RNil news (.ref D) ((D, listOf #[] c) :: news)
inductive ROne (x : Str) (news : Led) : Value → Led → Prop
  | mk (D : Addr) (c : Nat) (t : Tok) (l : ∀ p ∈ news, p.1 < D) : ROne x news (.ref D) ((D, listOf #[.str x t] c) :: news)
inductive RLst (nb : Led) (ds : List Dat) (news : Led) : Value → Led → Prop
  | mk (D : Addr) (c : Nat) (vs : List Value) (d : DatAll nb vs ds) (l : ∀ p ∈ news, p.1 < D) : RLst nb ds news (.ref D) ((D, listOf vs.toArray c) :: news)
inductive ItemAt (news : Led) (i : Item) : Value → Prop
  | mk {a : Addr} {n : Nat} {t0 t1 : Tok} {b : Addr} {nb : Nat} {t2 t4 t5 : Tok} {c6 : Addr} {n6 : Nat} {c7 : Addr} {n7 : Nat} {c8 : Addr} {n8 : Nat}
      (m1 : (a, tupObj [.str (S "sig") t0, .int 0 t1, .ref b, .bool i.abs, .str i.mult t4, .str i.parent t5, .ref c6, .ref c7, .ref c8] n) ∈ news) (m2 : (b, tupObj [.str i.name t2] nb) ∈ news)
      (m6 : (c6, tupObj [] n6) ∈ news) (m7 : (c7, tupObj [] n7) ∈ news) (m8 : (c8, tupObj [] n8) ∈ news) : ItemAt news i (.ref a)
theorem item_open {news : Led} {v : Value} {i : Item} (h : DatIn news v i.dat) : ItemAt news i v := by
  refine eT h fun a vs n hm h => ?_
  revert hm
  refine eC h fun v0 r h0 h => ?_
  refine eS h0 fun t0 => ?_
  refine eC h fun v1 r h1 h => ?_
  refine eI h1 fun t1 => ?_
  refine eC h fun v2 r h2 h => ?_
  refine eT h2 fun b vb nb hb h2 => ?_
  revert hb
  refine eC h2 fun w0 r0 k0 h2 => ?_
  refine eN h2 ?_
  refine eS k0 fun t9 => ?_
  intro hb
  refine eC h fun v3 r h3 h => ?_
  refine eB h3 ?_
  refine eC h fun v4 r h4 h => ?_
  refine eS h4 fun t4 => ?_
  refine eC h fun v5 r h5 h => ?_
  refine eS h5 fun t5 => ?_
  refine eC h fun v6 r h6 h => ?_
  refine eT h6 fun c6 q6 n6 m6 h6 => ?_
  revert m6
  refine eN h6 ?_
  intro m6
  refine eC h fun v7 r h7 h => ?_
  refine eT h7 fun c7 q7 n7 m7 h7 => ?_
  revert m7
  refine eN h7 ?_
  intro m7
  refine eC h fun v8 r h8 h => ?_
  refine eT h8 fun c8 q8 n8 m8 h8 => ?_
  revert m8
  refine eN h8 ?_
  intro m8
  refine eN h ?_
  intro hm
  exact .mk hm hb m6 m7 m8
noncomputable abbrev PG : Program := PySem.Challenge.rw_nz0394_01.row.prog
/-- the entries: names in their order, each with its item -/
inductive Ents (news : Led) : List (Str × Value) → List Item → Prop
  | nil : Ents news [] []
  | snoc {kvs : List (Str × Value)} {its : List Item} {i : Item} {v : Value} : Ents news kvs its → DatIn news v i.dat → (∀ j ∈ its, j.name ≠ i.name) → Ents news (kvs ++ [(i.name, v)]) (its ++ [i])
theorem Ents.mono {news news' : Led} {kvs : List (Str × Value)} {its : List Item} (h : Ents news kvs its) (hs : ∀ p ∈ news, p ∈ news') : Ents news' kvs its := by
  induction h with
  | nil => exact .nil
  | snoc _ hd hn ih => exact .snoc ih (hd.mono hs) hn
theorem Ents.length {news : Led} {kvs : List (Str × Value)} {its : List Item} (h : Ents news kvs its) : kvs.length = its.length := by
  induction h with
  | nil => rfl
  | snoc _ _ _ ih => simp [ih]
theorem Ents.names {news : Led} {kvs : List (Str × Value)} {its : List Item} (h : Ents news kvs its) : kvs.map (·.1) = its.map (·.name) := by
  induction h with
  | nil => rfl
  | snoc _ _ _ ih => simp [ih]
theorem Ents.get {news : Led} {kvs : List (Str × Value)} {its : List Item} (h : Ents news kvs its) {i : Item} (hi : i ∈ its) : ∃ v, valueAt kvs i.name = some v ∧ DatIn news v i.dat := by
  induction h with
  | nil => cases hi
  | @snoc kvs its j v hE hd hn ih =>
    rcases List.mem_append.mp hi with h1 | h1
    · obtain ⟨v', e, d⟩ := ih h1
      refine ⟨v', ?_, d⟩
      unfold valueAt at e ⊢
      rw [List.find?_append]
      cases q : List.find? (fun kv => decide (kv.1 = i.name)) kvs with
      | none => rw [q] at e; cases e
      | some y => rw [q] at e; exact e
    · have e1 := List.mem_singleton.mp h1
      subst e1
      refine ⟨v, ?_, hd⟩
      unfold valueAt
      rw [List.find?_append]
      have : List.find? (fun kv => decide (kv.1 = i.name)) kvs = none := by
        rw [List.find?_eq_none]
        intro kv hk
        have : kv.1 ∈ kvs.map (·.1) := List.mem_map_of_mem hk
        rw [hE.names] at this
        obtain ⟨j, hj, e⟩ := List.mem_map.mp this
        simpa [← e] using hn j hj
      rw [this]
      simp
theorem Ents.none {news : Led} {kvs : List (Str × Value)} {its : List Item} (h : Ents news kvs its) {x : Str} (hx : ∀ j ∈ its, j.name ≠ x) : valueAt kvs x = none := by
  unfold valueAt
  have : List.find? (fun kv => decide (kv.1 = x)) kvs = Option.none := by
    rw [List.find?_eq_none]
    intro kv hk
    have : kv.1 ∈ kvs.map (·.1) := List.mem_map_of_mem hk
    rw [h.names] at this
    obtain ⟨j, hj, e⟩ := List.mem_map.mp this
    simpa [← e] using hx j hj
  rw [this]; rfl
theorem sub_cons {r l : Led} {a : Addr × Obj} (h : ∀ p ∈ r, p ∈ l) : ∀ p ∈ r, p ∈ a :: l := fun p hp => .tail _ (h p hp)
theorem sub_refl {r : Led} : ∀ p ∈ r, p ∈ r := fun _ h => h
/-- the texts of a list -/
noncomputable def Names (vs : List Value) (xs : List Str) : Prop := ∀ news : Led, DatAll news vs (xs.map Dat.str)
/-- a Signatures object, its parts -/
inductive Sigs (w : World) (x : Addr) (its : List Item) (op : List Dat) (news : Led) : Prop
  | mk {dx e st opn od ofd : Addr} {oe : Obj} {nd : Nat} {h1 : Int} {t1 : Tok} {h2 : Int} {t2 : Tok} {h3 : Int} {t3 : Tok} {h4 : Int} {t4 : Tok} {h5 : Int} {t5 : Tok} {kvs : List (Str × Value)} {vst : List Value} {nst : Nat} {vop : List Value} {nop : Nat} {vod : List Value} {nod nof : Nat}
    (a1 : (x, instObj 416 dx) ∈ news)
    (a2 : (dx, dictOf [⟨h1, .str (S "entries") t1, .ref e⟩, ⟨h2, .str (S "stands") t2, .ref st⟩, ⟨h3, .str (S "opened") t3, .ref opn⟩, ⟨h4, .str (S "ordered") t4, .ref od⟩, ⟨h5, .str (S "own_fields") t5, .ref ofd⟩] nd) ∈ news)
    (a3 : (e, oe) ∈ news) (a4 : (e == sysModules) = false) (a5 : oe.IsDictOf (PySem.strKind PySem.Challenge.rw_nz0394_01.row.prog w) kvs) (a6 : Ents news kvs its)
    (a7 : (st, listOf vst.toArray nst) ∈ news) (a8 : DatAll news vst (its.map fun i => Dat.str i.name))
    (a9 : (opn, listOf vop.toArray nop) ∈ news) (b1 : DatAll news vop op)
    (b2 : (od, listOf vod.toArray nod) ∈ news) (b3 : DatAll news vod (its.map fun i => Dat.str i.name))
    (b4 : (ofd, listOf #[] nof) ∈ news) : Sigs w x its op news
theorem Sigs.mono {w : World} {x : Addr} {its : List Item} {op : List Dat} {news news' : Led} (h : Sigs w x its op news) (hs : ∀ p ∈ news, p ∈ news') : Sigs w x its op news' := by
  cases h with
  | mk a1 a2 a3 a4 a5 a6 a7 a8 a9 b1 b2 b3 b4 => exact .mk (hs _ a1) (hs _ a2) (hs _ a3) a4 a5 (a6.mono hs) (hs _ a7) (a8.mono hs) (hs _ a9) (b1.mono hs) (hs _ b2) (b3.mono hs) (hs _ b4)
theorem Spec.use {w : World} {loose : List Str} {mean : ExcName → Option Value} {mg mb : Str → Option Value} {d u : Nat} {f : Value} {vs : List Value} {news : Led} {Ret Exc : Value → Led → Prop}
    {dp un : Nat} {gd : Option (List Code)} {cn : Str} {cs : Scope} {a : Addr} {ccd : Value} {cl : List (Str × Addr)} {outer : List Env} {A₀ : Around} {base h₀ : Heap} {L : Addr} {m : Str → Option Value} {s : Shared} {Q E : Value → Shared → Prop}
    (h : Spec w loose mean mg mb d u f vs news Ret Exc) (B : Below A₀ base outer h₀) (F : Fr h₀ L s.heap m) (X : (Mine.hd.heap_39 w.params).In h₀) (N : News h₀ L s.heap news) (T : Top Mine.hd.view_39 loose mean mg mb h₀) (hk : cs.kind = .function) (hd : dp + d < recursionLimit) (hu : un + u < cLine)
    (ret : ∀ r news' h' tk', Fr h₀ L h' m → News h₀ L h' news' → Ret r news' → Q r { s with heap := h', toks := tk' })
    (exc : ∀ e news' h' tk', Fr h₀ L h' m → News h₀ L h' news' → Exc e news' → E e { s with heap := h', toks := tk' }) :
    wpAny (model PySem.Challenge.rw_nz0394_01.row.prog w) (ktrTop dp un gd cn cs L a ccd cl outer) (call f vs) Q E s := h _ _ _ _ _ _ _ _ _ _ _ _ _ _ _ _ _ B F X N T hk hd hu ret exc
theorem Spec.c {w : World} {loose : List Str} {mean : ExcName → Option Value} {mg mb : Str → Option Value} {d u : Nat} {f : Value} {vs : List Value} {news : Led} {Ret : Value → Led → Prop}
    {dp un : Nat} {gd : Option (List Code)} {cn : Str} {cs : Scope} {a : Addr} {ccd : Value} {cl : List (Str × Addr)} {outer : List Env} {A₀ : Around} {base h₀ : Heap} {L : Addr} {m : Str → Option Value} {s : Shared} {Q E : Value → Shared → Prop}
    (N : News h₀ L s.heap news) (F : Fr h₀ L s.heap m) (B : Below A₀ base outer h₀) (X : (Mine.hd.heap_39 w.params).In h₀) (T : Top Mine.hd.view_39 loose mean mg mb h₀) (hk : cs.kind = .function) (h : Spec w loose mean mg mb d u f vs news Ret None2) (hd : dp + d < recursionLimit) (hu : un + u < cLine)
    (ret : ∀ r news' h' tk', Fr h₀ L h' m → News h₀ L h' news' → Ret r news' → Q r { s with heap := h', toks := tk' }) :
    wpAny (model PySem.Challenge.rw_nz0394_01.row.prog w) (ktrTop dp un gd cn cs L a ccd cl outer) (call f vs) Q E s := h.use B F X N T hk hd hu ret fun _ _ _ _ _ _ hf => hf.elim
theorem Spec.ck {w : World} {loose : List Str} {mean : ExcName → Option Value} {mg mb : Str → Option Value} {d u : Nat} {f : Value} {vs : List Value} {news : Led} {Ret : Value → Led → Prop}
    {dp un : Nat} {gd : Option (List Code)} {cn : Str} {cs : Scope} {a : Addr} {ccd : Value} {cl : List (Str × Addr)} {outer : List Env} {A₀ : Around} {base h₀ : Heap} {L : Addr} {m : Str → Option Value} {s : Shared} {Q E : Value → Shared → Prop} {C : (Value → Led → Prop) → Prop}
    (N : News h₀ L s.heap news) (F : Fr h₀ L s.heap m) (B : Below A₀ base outer h₀) (X : (Mine.hd.heap_39 w.params).In h₀) (T : Top Mine.hd.view_39 loose mean mg mb h₀) (hk : cs.kind = .function) (h : Spec w loose mean mg mb d u f vs news Ret None2) (el : ∀ K : Value → Led → Prop, C K → ∀ r n, Ret r n → K r n) (hd : dp + d < recursionLimit) (hu : un + u < cLine)
    (ret : ∀ h' tk', Fr h₀ L h' m → C (fun r n => News h₀ L h' n → Q r { s with heap := h', toks := tk' })) :
    wpAny (model PySem.Challenge.rw_nz0394_01.row.prog w) (ktrTop dp un gd cn cs L a ccd cl outer) (call f vs) Q E s := h.use B F X N T hk hd hu (fun r n h' tk' F' N' hr => el _ (ret h' tk' F') r n hr N') fun _ _ _ _ _ _ hf => hf.elim
theorem RStr.el {x : Str} {nw : Led} : ∀ K : Value → Led → Prop, (∀ t, K (.str x t) nw) → ∀ r n, RStr x nw r n → K r n := fun _ k _ _ h => by cases h; exact k _
theorem RInt.el {x : Int} {nw : Led} : ∀ K : Value → Led → Prop, (∀ t, K (.int x t) nw) → ∀ r n, RInt x nw r n → K r n := fun _ k _ _ h => by cases h; exact k _
theorem RBool.el {x : Bool} {nw : Led} : ∀ K : Value → Led → Prop, K (.bool x) nw → ∀ r n, RBool x nw r n → K r n := fun _ k _ _ h => by cases h; exact k
theorem RTup0.el {nw : Led} : ∀ K : Value → Led → Prop, (∀ a n, (a, tupObj [] n) ∈ nw → K (.ref a) nw) → ∀ r n, RTup0 nw r n → K r n := fun _ k _ _ h => by cases h; exact k _ _ (by assumption)
theorem RTup.el {ds : List Dat} {nw : Led} : ∀ K : Value → Led → Prop, (∀ a vs n, DatAll nw vs ds → K (.ref a) ((a, tupObj vs n) :: nw)) → ∀ r n, RTup ds nw r n → K r n := fun _ k _ _ h => by cases h; exact k _ _ _ (by assumption)
theorem RNil.el {nw : Led} : ∀ K : Value → Led → Prop, (∀ D c, (∀ p ∈ nw, p.1 < D) → K (.ref D) ((D, listOf #[] c) :: nw)) → ∀ r n, RNil nw r n → K r n := fun _ k _ _ h => by cases h; exact k _ _ (by assumption)
theorem ROne.el {x : Str} {nw : Led} : ∀ K : Value → Led → Prop, (∀ D c t, (∀ p ∈ nw, p.1 < D) → K (.ref D) ((D, listOf #[.str x t] c) :: nw)) → ∀ r n, ROne x nw r n → K r n := fun _ k _ _ h => by cases h; exact k _ _ _ (by assumption)
theorem RLst.el {nb : Led} {ds : List Dat} {nw : Led} : ∀ K : Value → Led → Prop, (∀ D c vs, DatAll nb vs ds → (∀ p ∈ nw, p.1 < D) → K (.ref D) ((D, listOf vs.toArray c) :: nw)) → ∀ r n, RLst nb ds nw r n → K r n := fun _ k _ _ h => by cases h; exact k _ _ _ (by assumption) (by assumption)
theorem ntake {h₀ h : Heap} {L : Addr} {l nx : Led} (N : News h₀ L h l) (hs : ∀ p ∈ nx, p ∈ l) : News h₀ L h nx := fun p hp => N p (hs p hp)
theorem sub_mk {a : Addr × Obj} {l r : Led} (h : a ∈ l) (h2 : ∀ p ∈ r, p ∈ l) : ∀ p ∈ a :: r, p ∈ l := fun p hp => by
  rcases List.mem_cons.mp hp with rfl | hp
  · exact h
  · exact h2 p hp
theorem sub_nil {l : Led} : ∀ p ∈ ([] : Led), p ∈ l := fun _ h => nomatch h
noncomputable def Item.top (i : Item) : Str := if i.parent = S "" then i.name else i.parent
/-- what its methods that look upward lean on, at any stage of its making -/
inductive Sg (w : World) (x : Addr) (its : List Item) (news : Led) : Prop
  | mk {dx e : Addr} {oe : Obj} {es : List DictEntry} {nd : Nat} {kvs : List (Str × Value)}
    (a1 : (x, instObj 416 dx) ∈ news) (a2 : (dx, dictOf es nd) ∈ news) (g0 : getL (Str.ofString "entries") es = some (some (.ref e))) (g1 : getL (Str.ofString "parent") es = some none) (g2 : getL (Str.ofString "supers") es = some none)
    (g3 : getL (Str.ofString "is_subset") es = some none) (g4 : getL (Str.ofString "direct") es = some none)
    (a3 : (e, oe) ∈ news) (a4 : (e == sysModules) = false) (a5 : oe.IsDictOf (PySem.strKind PySem.Challenge.rw_nz0394_01.row.prog w) kvs) (a6 : Ents news kvs its) : Sg w x its news
theorem Sg.mono {w : World} {x : Addr} {its : List Item} {news news' : Led} (h : Sg w x its news) (hs : ∀ p ∈ news, p ∈ news') : Sg w x its news' := by
  cases h with
  | mk a1 a2 g0 g1 g2 g3 g4 a3 a4 a5 a6 => exact .mk (hs _ a1) (hs _ a2) g0 g1 g2 g3 g4 (hs _ a3) a4 a5 (a6.mono hs)
theorem Sigs.sg {w : World} {x : Addr} {its : List Item} {op : List Dat} {news : Led} (h : Sigs w x its op news) : Sg w x its news := by
  cases h with
  | mk a1 a2 a3 a4 a5 a6 a7 a8 a9 b1 b2 b3 b4 => exact .mk a1 a2 (by rfl) (by rfl) (by rfl) (by rfl) (by rfl) a3 a4 a5 a6
end
section
theorem take_filter {α β : Type} (p : α → Bool) (f : α → β) {l : List α} {i : Nat} (h : i < l.length) : ((l.take (i + 1)).filter p).map f = ((l.take i).filter p).map f ++ (if p l[i] then [f l[i]] else []) := by
  rw [List.take_add_one, List.getElem?_eq_getElem h, List.filter_append, List.map_append]
  simp only [Option.toList_some]
  cases q : p l[i] <;> simp [q]
theorem take_map {α β : Type} (f : α → β) {l : List α} {i : Nat} (h : i < l.length) : (l.take (i + 1)).map f = (l.take i).map f ++ [f l[i]] := by
  rw [List.take_add_one, List.getElem?_eq_getElem h, List.map_append]
  rfl
end
section
noncomputable def Kn (m : Str → Option Value) : List (Str × Value) → Prop
  | [] => True
  | p :: r => m p.1 = some p.2 ∧ Kn m r
noncomputable def ov (l : List (Str × Value)) (m : Str → Option Value) : Str → Option Value := fun y => match l.lookup y with
  | some v => some v
  | none => m y
theorem Kn.eq {m : Str → Option Value} : ∀ {l : List (Str × Value)}, Kn m l → ov l m = m
  | [], _ => rfl
  | (x, v) :: r, ⟨h, k⟩ => by
    funext y
    have ih := congrFun (Kn.eq k) y
    unfold Mine.ov at ih ⊢
    rw [List.lookup_cons]
    cases e : y == x with
    | true => simp only; rw [eq_of_beq e]; exact h.symm
    | false => exact ih
theorem frov {h₀ h : Heap} {L : Addr} {m : Str → Option Value} {l : List (Str × Value)} (F : Fr h₀ L h m) (k : Kn m l) : Fr h₀ L h (ov l m) := by rw [k.eq]; exact F
theorem tend {h₀ : Heap} {L I : Addr} {oI : Obj} {J : (Str → Option Value) → Led → Prop} {gs : Array GenState} {dr : Drawn} {os : OsState} {Q R : Flow → Shared → Prop} {h' : Heap} {tk : Nat} {m' : Str → Option Value} {all nx : Led} (kR : KontT h₀ L I oI J gs dr os Q R) (F : Fr h₀ L h' m') (N : News h₀ L h' all) (hs : ∀ p ∈ (I, oI) :: nx, p ∈ all) (ho : ∀ p ∈ nx, p.1 ≠ I) (hj : J m' nx) :
    TEndV R .next ⟨h', gs, dr, tk, os⟩ := kR _ _ (TEnd.intro F N hs ho hj)
theorem valueAt_none_stored {kvs : List (Str × Value)} {x : Str} {v : Value} (h : valueAt kvs x = none) : stored kvs x v = kvs ++ [(x, v)] := by
  unfold stored
  rw [if_neg]
  intro q
  obtain ⟨kv, hk, e⟩ := List.any_eq_true.mp q
  unfold valueAt at h
  cases f : kvs.find? (fun kv => decide (kv.1 = x)) with
  | none => exact absurd e (by simpa using List.find?_eq_none.mp f kv hk)
  | some y => rw [f] at h; cases h
theorem off_cons {a b : Addr} {o : Obj} {r : Led} (h : b ≠ a) (h2 : ∀ p ∈ r, p.1 ≠ a) : ∀ p ∈ (b, o) :: r, p.1 ≠ a := fun p hp => by
  rcases List.mem_cons.mp hp with rfl | hp
  · exact h
  · exact h2 p hp
theorem off_tail {a : Addr} {q : Addr × Obj} {r : Led} (h : ∀ p ∈ q :: r, p.1 ≠ a) : ∀ p ∈ r, p.1 ≠ a := fun p hp => h p (.tail _ hp)
theorem off_head {a : Addr} {q : Addr × Obj} {r : Led} (h : ∀ p ∈ q :: r, p.1 ≠ a) : q.1 ≠ a := h q (.head _)
theorem off_lt {a : Addr} {r : Led} (h : ∀ p ∈ r, p.1 < a) : ∀ p ∈ r, p.1 ≠ a := fun p hp => Nat.ne_of_lt (h p hp)
theorem off_nil {a : Addr} : ∀ p ∈ ([] : Led), p.1 ≠ a := fun _ h => nomatch h
section
variable {w : World} {A : Around} {E : Value → Shared → Prop} {s : Shared} {h₀ : Heap} {L d : Addr} {m : Str → Option Value} {news : Led} {g : Obj → Led} {o : Obj} {kvs : List (Str × Value)} {k : Str} {t : Tok} {v : Value}
theorem in_no {Q : Value → Shared → Prop} (N : News h₀ L s.heap news) (hp : (d, o) ∈ news) (hd : o.IsDictOf (PySem.strKind PySem.Challenge.rw_nz0394_01.row.prog w) kvs) (lo : (d == sysModules) = false) (hn : valueAt kvs k = none) (h : Q (.bool false) { s with toks := s.toks + 1 }) :
    wpAny (model PySem.Challenge.rw_nz0394_01.row.prog w) A (compareOp .In (.str k t) (.ref d)) Q E s := kda_in (knd := PySem.strKind _ _) N hp hd lo (strKind_is _ _ _ _) false (by rw [hn]; rfl) h
theorem in_yes {Q : Value → Shared → Prop} (N : News h₀ L s.heap news) (hp : (d, o) ∈ news) (hd : o.IsDictOf (PySem.strKind PySem.Challenge.rw_nz0394_01.row.prog w) kvs) (lo : (d == sysModules) = false) (hn : valueAt kvs k = some v) (h : Q (.bool true) { s with toks := s.toks + 1 }) :
    wpAny (model PySem.Challenge.rw_nz0394_01.row.prog w) A (compareOp .In (.str k t) (.ref d)) Q E s := kda_in (knd := PySem.strKind _ _) N hp hd lo (strKind_is _ _ _ _) true (by rw [hn]; rfl) h
theorem notin_no {Q : Value → Shared → Prop} (N : News h₀ L s.heap news) (hp : (d, o) ∈ news) (hd : o.IsDictOf (PySem.strKind PySem.Challenge.rw_nz0394_01.row.prog w) kvs) (lo : (d == sysModules) = false) (hn : valueAt kvs k = some v) (h : Q (.bool false) { s with toks := s.toks + 1 }) :
    wpAny (model PySem.Challenge.rw_nz0394_01.row.prog w) A (compareOp .NotIn (.str k t) (.ref d)) Q E s := kdg_notin (knd := PySem.strKind _ _) N hp hd lo (strKind_is _ _ _ _) true (by rw [hn]; rfl) h
end
end
section
open PySem.Calls PySem.Spec
section
variable {prog : Program} {w : World} {A : Around} {s : Shared} {env : Env} {h₀ : Heap} {L : Addr} {m : Str → Option Value} {news news' : Led} {body : List Stmt} {E : Value → Shared → Prop}
noncomputable def WEndQ (h₀ : Heap) (L : Addr) (J : Nat → (Str → Option Value) → Led → Prop) (n : Nat) (gs : Array GenState) (dr : Drawn) (os : OsState) (Q : Flow → Shared → Prop) (f : Flow) (s₂ : Shared) : Prop :=
  match f with
  | .ret v => Q (.ret v) s₂
  | .brk => Q .next s₂
  | _ => ∃ h' tk m' nx n', n' < n ∧ s₂ = ⟨h', gs, dr, tk, os⟩ ∧ Fr h₀ L h' m' ∧ News h₀ L h' nx ∧ J n' m' nx
noncomputable def KontW (h₀ : Heap) (L : Addr) (J : Nat → (Str → Option Value) → Led → Prop) (n : Nat) (gs : Array GenState) (dr : Drawn) (os : OsState) (Q : Flow → Shared → Prop) (R : Flow → Shared → Prop) : Prop := ∀ f s₂, WEndQ h₀ L J n gs dr os Q f s₂ → R f s₂
theorem wend {J : Nat → (Str → Option Value) → Led → Prop} {n n' : Nat} {gs : Array GenState} {dr : Drawn} {os : OsState} {Q R : Flow → Shared → Prop} {h' : Heap} {tk : Nat} {m' : Str → Option Value} {all nx : Led} (kR : KontW h₀ L J n gs dr os Q R) (F : Fr h₀ L h' m') (N : News h₀ L h' all) (hs : ∀ p ∈ nx, p ∈ all) (hn : n' < n) (hj : J n' m' nx) :
    TEndV R .next ⟨h', gs, dr, tk, os⟩ := kR _ _ ⟨h', tk, m', nx, n', hn, rfl, F, fun p hp => N p (hs p hp), hj⟩
/-- a while by an invariant that bears its measure -/
theorem While_X {test : Expr} {pos : Pos} {Q : Flow → Shared → Prop} (J : Nat → (Str → Option Value) → Led → Prop) (n₀ : Nat) (F : Fr h₀ env.locals s.heap m) (N : News h₀ env.locals s.heap news) (h0 : J n₀ m news)
    (turn : ∀ n m₁ nx h tk (R : Flow → Shared → Prop), KontW h₀ env.locals J n s.gens s.drawn s.os Q R → J n m₁ nx → Fr h₀ env.locals h m₁ → News h₀ env.locals h nx →
      wpAny (model prog w) A (isTrue test env (eval test env)) (fun b s₂ => WhlIf b (wpAny (model prog w) A (execs body env) (TEndV R) E s₂) (wpAny (model prog w) A (execs [] env) Q E s₂)) E { s with heap := h, toks := tk })
    (hE : PassesOwn (model prog w) A env E := by passes_own) :
    wpAny (model prog w) A (exec (.While test body [] pos) env) Q E s := by
  have all : ∀ n m₁ nx h tk, J n m₁ nx → Fr h₀ env.locals h m₁ → News h₀ env.locals h nx → WhlRest prog w A E env test body [] Q 0 { s with heap := h, toks := tk } := by
    intro n
    induction n using Nat.strongRecOn with
    | ind n ih =>
      intro m₁ nx h tk hJ F₁ N₁
      refine whl_turn (k := 0) hE (wpAny_mono (turn n m₁ nx h tk (WEndQ h₀ env.locals J n s.gens s.drawn s.os Q) (fun _ _ h => h) hJ F₁ N₁) (fun b s₂ q => ?_) fun _ _ e => e)
      cases b with
      | false => exact WhlIf.no rfl (by unfold WhlIf at q; simpa using q)
      | true =>
        refine WhlIf.yes rfl (wpAny_mono (by unfold WhlIf at q; simpa using q : wpAny (model prog w) A (execs body env) (TEndV (WEndQ h₀ env.locals J n s.gens s.drawn s.os Q)) E s₂) (fun f s₃ p => ?_) fun _ _ e => e)
        cases f with
        | ret v => exact p
        | brk => exact p
        | next => obtain ⟨h', tk', m', nx', n', hn, rfl, F', N', hJ'⟩ := p; exact ih n' hn m' nx' h' tk' hJ' F' N'
        | cont => obtain ⟨h', tk', m', nx', n', hn, rfl, F', N', hJ'⟩ := p; exact ih n' hn m' nx' h' tk' hJ' F' N'
  exact whl_start 0 (all n₀ m news s.heap s.toks h0 F N)
theorem strs_of {nw : Led} : ∀ {vs : List Value} {xs : List Str}, DatAll nw vs (xs.map Dat.str) → StrsAre vs xs
  | vs, [], h => by rw [dat_nil h]; exact .nil
  | vs, x :: xs, h => by
    obtain ⟨v, r, rfl, h0, h1⟩ := dat_cons h
    obtain ⟨t, rfl⟩ := dat_str h0
    exact .cons x t (strs_of h1)
theorem strs_dat {nw : Led} : ∀ {vs : List Value} {xs : List Str}, StrsAre vs xs → DatAll nw vs (xs.map Dat.str)
  | _, _, .nil => .nil
  | _, _, .cons x t h => .cons (.str x t) (strs_dat h)
/-- list.remove of the very first text -/
theorem rem_first {D : Addr} {k : Str} {t t' : Tok} {r : List Value} {n : Nat} {ys : List Str} {Q : Value → Shared → Prop} (F : Fr h₀ L s.heap m) (N : News h₀ L s.heap news) (hi : StrsAre (.str k t' :: r) ys) (U : Upd D (listOf (Value.str k t' :: r).toArray n) (listOf r.toArray (n + 1)) news news')
    (hz : r.length + 1 ≤ sizeLine) (h : ∀ h', Fr h₀ L h' m → News h₀ L h' news' → Q .none { s with heap := h' }) : wpAny (model prog w) A (call (.builtin "list.remove") [.ref D, .str k t]) Q E s := by
  obtain ⟨pre, post, rfl, rfl, a', b'⟩ := U.split
  have z := N (D, listOf (Value.str k t' :: r).toArray n) (List.mem_append.mpr (.inr (.head _)))
  refine call_meets PySem.F.slot_list_remove ⟨_, z.1, rfl⟩ PySem.F.entry_list_remove (PySem.F.args_list_remove_2 _ _)
    (MeetsSeq.list_remove D (Value.str k t' :: r).toArray n (.str k t) (isStrOf k) (fun y hy => eq_isStrOf k t hi y (by simpa using hy)) 0 (by simp) (by simp [isStrOf, Value.isStr]) (fun i hi hlt => absurd hlt (Nat.not_lt_zero _)) (by simpa using hz))
    ⟨z.1, h _ (F.change (Heap.SameBut.update ..) z.2.1 z.2.2) (ki_turn _ N a' b' ?_ ?_)⟩
  · apply Array.toList_inj.mp
    simp [Array.toList_eraseIdxIfInBounds]
  · simp
end
theorem ne_l1 {l : Led} {a b : Addr} {o : Obj} (h : ∀ p ∈ l, p.1 < b) (hm : (a, o) ∈ l) : a ≠ b := Nat.ne_of_lt (h _ hm)
theorem ne_l2 {l : Led} {a b : Addr} {o : Obj} (h : ∀ p ∈ l, p.1 < b) (hm : (a, o) ∈ l) : b ≠ a := Ne.symm (Nat.ne_of_lt (h _ hm))
theorem ne_o1 {l : Led} {a b : Addr} {o : Obj} (h : ∀ p ∈ l, p.1 ≠ b) (hm : (a, o) ∈ l) : a ≠ b := h _ hm
theorem ne_o2 {l : Led} {a b : Addr} {o : Obj} (h : ∀ p ∈ l, p.1 ≠ b) (hm : (a, o) ∈ l) : b ≠ a := Ne.symm (h _ hm)
theorem off_l1 {l l2 : Led} {b : Addr} (h : ∀ p ∈ l2, p.1 < b) (hs : ∀ p ∈ l, p ∈ l2) : ∀ p ∈ l, p.1 ≠ b := fun p hp => Nat.ne_of_lt (h p (hs p hp))
theorem off_o1 {l l2 : Led} {b : Addr} (h : ∀ p ∈ l2, p.1 ≠ b) (hs : ∀ p ∈ l, p ∈ l2) : ∀ p ∈ l, p.1 ≠ b := fun p hp => h p (hs p hp)
theorem off_cell1 {l : Led} {L : Addr} (h : ∀ p ∈ l, p.1 < L) : ∀ p ∈ l, p.1 ≠ L + 1 := fun p hp => Nat.ne_of_lt (Nat.lt_succ_of_lt (h p hp))
theorem off_cell2 {l : Led} {L : Addr} (h : ∀ p ∈ l, p.1 < L) : ∀ p ∈ l, p.1 ≠ L + 1 + 1 := fun p hp => Nat.ne_of_lt (Nat.lt_succ_of_lt (Nat.lt_succ_of_lt (h p hp)))
theorem off_cell3 {l : Led} {L : Addr} (h : ∀ p ∈ l, p.1 < L) : ∀ p ∈ l, p.1 ≠ L + 1 + 1 + 1 := fun p hp => Nat.ne_of_lt (Nat.lt_succ_of_lt (Nat.lt_succ_of_lt (Nat.lt_succ_of_lt (h p hp))))
theorem allLt_off {d : Addr} : ∀ {l : Led}, AllLt d l → ∀ p ∈ l, p.1 ≠ d
  | [], _, _, h => nomatch h
  | _ :: _, x, p, h => by
    rcases List.mem_cons.mp h with rfl | h
    · exact Nat.ne_of_lt x.1
    · exact allLt_off x.2 p h
theorem strs_at {nw : Led} {vs : List Value} {ds : List Str} (h : StrsAre vs ds) {i : Nat} {v : Value} (hv : vs[i]? = some v) : ∃ (hi : i < ds.length) (t : Tok), v = .str ds[i] t := by
  have hl := h.length
  have hi : i < vs.length := (List.getElem?_eq_some_iff.mp hv).1
  have hd := datAt (strs_dat (nw := nw) h) hv (by simpa using hl ▸ hi)
  simp only [List.getElem_map] at hd
  obtain ⟨t, rfl⟩ := dat_str hd
  exact ⟨hl ▸ hi, t, rfl⟩
theorem strs_snoc {vs : List Value} {ds : List Str} (h : StrsAre vs ds) (d : Str) (t : Tok) : StrsAre (vs ++ [.str d t]) (ds ++ [d]) := by
  have := (strs_dat (nw := []) h).append (.one (.str d t))
  exact strs_of (nw := []) (by rw [List.map_append]; exact this)
section
variable {w : World} {A : Around} {E : Value → Shared → Prop} {s : Shared} {h₀ : Heap} {L a b : Addr} {m : Str → Option Value} {news : Led} {oa ob : Obj} {xs : List Value} {ka kb : Nat} {ds : List Str}
/-- a list of texts held against the empty list -/
theorem eq_empty {Q : Value → Shared → Prop} (N : News h₀ L s.heap news) (ma : (a, listOf xs.toArray ka) ∈ news) (mb : (b, listOf #[] kb) ∈ news) (hd : StrsAre xs ds) (hok : ∀ d ∈ ds, PyData.strOk d = true) (hu : A.units + 64 < cLine)
    (h : Q (.bool (decide (ds = []))) s) : wpAny (model PySem.Challenge.rw_nz0394_01.row.prog w) A (compareOp .Eq (.ref a) (.ref b)) Q E s := by
  refine kqd_eq (n₁ := news) (n₂ := news) (ds := ds.map Dat.str) (es := []) (xs := xs) (ys := []) N ma rfl rfl (strs_dat hd) (fun _ h => h) mb rfl rfl .nil (fun _ h => h) (fun d hd => ?_) (fun _ h => nomatch h) hu ?_
  · obtain ⟨x, hx, rfl⟩ := List.mem_map.mp hd
    simpa [kqdOk] using hok x hx
  · have e : decide (ds.map Dat.str = []) = decide (ds = []) := by simp
    rw [e]; exact h
end
theorem wMake (C : Addr) (vals : List Value) : (Code.builtin "type.__call__" ⟨.ref C :: vals, []⟩).weight = 1 := rfl
theorem uMake (C : Addr) (vals : List Value) : (Code.builtin "type.__call__" ⟨.ref C :: vals, []⟩).cUnits = 1 := rfl
theorem sub_trans {a b c : Led} (h : ∀ p ∈ a, p ∈ b) (h2 : ∀ p ∈ b, p ∈ c) : ∀ p ∈ a, p ∈ c := fun p hp => h2 p (h p hp)
end
section
open PySem.Calls PySem.Spec
section
variable {prog : Program} {w : World} {A : Around} {E : Value → Shared → Prop} {s : Shared} {h₀ : Heap} {L : Addr} {m : Str → Option Value} {news : Led}
theorem applied15 {sl : Addr} {u v : Tok} {Q : Int × Int × Nat → Shared → Prop} (hs : s.heap.IsSliceOf sl (.int 1 u) (.int 5 v) .none) (h : Q (1, 1, 4) s) :
    wpAny (model prog w) A (Builtin.Slice.sliceApplied (.ref sl) (pure (5 : Int))) Q E s := by
  obtain ⟨os, hos, hcs, hds⟩ := id hs
  unfold Builtin.Slice.sliceApplied Builtin.Slice.sliceFields
  refine wpAny_bind (wpAny_bind (wpAny_field hos hds (x := .int 1 u) rfl (wpAny_bind (wpAny_field hos hds (x := .int 5 v) rfl (wpAny_bind (wpAny_field hos hds (x := .none) rfl (wpAny_pure ?_)))))))
  refine wpAny_bind (slicePart_none ?_)
  show wpAny _ _ (if ((1 : Int) == 0) = true then _ else _) _ _ s
  rw [if_neg (by decide)]
  refine wpAny_bind (slicePart_int (wpAny_bind (slicePart_int (wpAny_bind (wpAny_pure ?_)))))
  exact wpAny_pure h
theorem getItem15 {t sl : Addr} {a b c d e : Value} {u v : Tok} {Q : Value → Shared → Prop} (ht : IsTup s.heap t #[a, b, c, d, e]) (hs : s.heap.IsSliceOf sl (.int 1 u) (.int 5 v) .none)
    (h : Q (.ref s.heap.objs.size) { s with heap := s.heap.push { cls := .type "tuple", data := .seq #[b, c, d, e] } }) : wpAny (model prog w) A (getItem (.ref t) (.ref sl)) Q E s := by
  have hdrop : sizeOk (.seq #[b, c, d, e]) := by
    show (#[b, c, d, e] : Array Value).size ≤ sizeLine
    rw [sizeLine_eq]; exact Nat.le_of_ble_eq_true rfl
  obtain ⟨os, hos, hcs, hds⟩ := id hs
  have hTs : s.TypeIs (.ref sl) "slice" := ⟨os, hos, hcs⟩
  unfold getItem
  try with_reducible refine wpAny_holding ?_
  first | refine wpAny_bind (wpAny_pure ?_) | skip
  refine wpAny_bind (wpAny_sequenceKey ht.typeIs (by decide) ?_)
  refine wpAny_bind (wpAny_callSpecial?_slot (name := Str.ofString "__getitem__") ht.typeIs slot_tuple_getitem
    (wpAny_call_entry slot_tuple_getitem ht.typeIs entry_tuple_getitem ?_ (args_tuple_getitem _ _)))
  show wpAny _ _ (Builtin.Tuple.tupleItemsOf (.ref t) >>= _) _ _ s
  refine wpAny_bind (tupleItemsOf_ ht ?_)
  refine wpAny_bind (wpAny_typeOf hTs ?_)
  rw [if_pos (by decide)]
  refine wpAny_bind (applied15 hs ?_)
  show wpAny _ _ (if ((1 : Int) == 0 && (1 : Int) == 1 && (4 : Nat) == 5) = true then _ else _) _ _ s
  rw [if_neg (by decide)]
  first
    | exact wpAny_bind (m := Builtin.Tuple.tupleExact _) (wpAny_newObj_type (wpAny_pure ⟨_, rfl, wpAny_pure h⟩) hdrop)
    | exact wpAny_bind (m := Builtin.Tuple.tupleExact _) (wpAny_newObj_type (wpAny_bind (wpAny_pure (wpAny_pure ⟨_, rfl, wpAny_pure h⟩))) hdrop)
    | exact wpAny_bind (wpAny_bind (m := Builtin.Tuple.tupleExact _) (wpAny_newObj_type (wpAny_pure (wpAny_pure ⟨_, rfl, wpAny_pure h⟩)) hdrop))
    | exact wpAny_bind (wpAny_bind (m := Builtin.Tuple.tupleExact _) (wpAny_newObj_type (wpAny_pure ⟨_, rfl, wpAny_pure h⟩) hdrop))
theorem slice15 {value slice : Expr} {t : Addr} {a b c d e : Value} {u v : Tok} {Q : Value → Shared → Prop}
    (F : Fr h₀ L s.heap m) (N : News h₀ L s.heap news) (ht : IsTup s.heap t #[a, b, c, d, e])
    (h : ∀ h' D, Fr h₀ L h' m → News h₀ L h' ((D, tupObj [b, c, d, e] 0) :: news) → Q (.ref D) { s with heap := h' })
    (hs : subscripted slice false (.ref t) (.ref s.heap.objs.size) = operate [.ref s.heap.objs.size, .ref t] (getItem (.ref t) (.ref s.heap.objs.size)) := by with_unfolding_all rfl)
    (hg : ∀ r, letTemporaryGo value (.ref t) r = pure () := by intro _; with_unfolding_all rfl) :
    wpAny (model prog w) A (subscriptTail value slice (.ref t) (.ref s.heap.objs.size)) Q E { s with heap := s.heap.push { cls := .type "slice", data := .fields #[.int 1 u, .int 5 v, .none] } } := by
  have ht' : IsTup (s.heap.push { cls := .type "slice", data := .fields #[.int 1 u, .int 5 v, .none] }) t #[a, b, c, d, e] := ht.keeps fun _ _ e => Heap.get?_push_of_some _ e
  refine subscriptTail_ops (s := { s with heap := s.heap.push { cls := .type "slice", data := .fields #[.int 1 u, .int 5 v, .none] } }) ht'.typeIs slot_tuple_getitem.lookup
    (getItem15 ht' (Heap.IsSliceOf.new ..) ?_) hs hg
  have N1 := News.push (F.push { cls := .type "slice", data := .fields #[.int 1 u, .int 5 v, .none] }) (N.grown fun _ _ e => Heap.get?_push_of_some _ e) { cls := .type "tuple", data := .seq #[b, c, d, e] }
  exact h _ _ ((F.push _).push _) N1
end
end
section
open PySem.Calls PySem.Spec
section
variable {M : Model} {A : Around} {E : Value → Shared → Prop} {h : Heap} {g : Array GenState} {d : Drawn} {t : Nat} {os : OsState}
variable {nm q : Str} {C N : Addr} {bs bm : List Value} {hdct : Bool} {sn : List Str} {sub : List Value} {ab : Bool} {col : Option Bool} {dd : Option Addr} {k0 k1 k2 k3 k5 : Option Value}
/-- an own exception's class, below Exception -/
structure XCls (bm : List Value) (C : Addr) : Prop where
  x : (Value.ref C :: bm).contains (.type "Exception") = true
  b : (Value.ref C :: bm).contains (.type "BaseException") = true
  a : (Value.ref C :: bm).contains (.type "AttributeError") = false
  n : (Value.ref C :: bm).contains (.type "NameError") = false
theorem xnew_check (X : XCls bm C) {rest : List Value} {Q : Unit → Shared → Prop} (hC : h.get? C = some (excClassObj nm q C N bs bm hdct sn sub ab col dd k0 k1 k2 k3 k5 "Exception.__new__"))
    (hq : Q () ⟨h, g, d, t, os⟩) : wpAny M A (checkBuiltinCall "Exception.__new__" ⟨.ref C :: rest, []⟩) Q E ⟨h, g, d, t, os⟩ := by
  have F := PySem.F.excBase_Exception
  have hx := X.x
  have hstar := F.noStar
  simp only [checkBuiltinCall, F.newKind, F.newSplit, F.newRow]
  repeat (first | with_reducible refine wpAny_loadPart_at hC ?_ | (with_reducible refine wpAny_isSubtype_exc hC ?_; rw [hx]) | with_reducible refine wpAny_staticBase_exc hC ?_ | with_reducible refine wpAny_madeBy_exc hC ?_ | simp only [bne_self_eq_false, Bool.false_eq_true, if_false] | wp_step)
  exact hq
theorem xnew_code {prog : Program} {w : World} {R : Result → Shared → Prop} (X : XCls bm C) {rest : List Value} (hC : h.get? C = some (excClassObj nm q C N bs bm hdct sn sub ab col dd k0 k1 k2 k3 k5 "Exception.__new__"))
    (hq : R (.ok (.ret (.ref (h.objs.size + 1)))) ⟨(h.push (tupObj rest 0)).push { cls := .ref C, data := .fields #[.ref h.objs.size, .none, .none, .none, .bool false, .none] }, g, d, t, os⟩) (hrest : rest.length ≤ sizeLine) :
    codeAny (model prog w) A (.builtin "Exception.__new__" ⟨.ref C :: rest, []⟩) R ⟨h, g, d, t, os⟩ := by
  have F := PySem.F.excBase_Exception
  have hends := F.ends
  have hx := X.x
  have ha := X.a
  have hn := X.n
  refine codeAny_builtinAt F.entry ?_
  unfold Builtin.«BaseException.__new__»
  refine PySem.wpAt_bind ?_
  show PySem.wpAt _ _ _ (stack >>= _) _ _ _
  refine PySem.wpAt_bind (PySem.wpAt_stack fun p below => PySem.wpAt_of_wpAny ?_)
  wp_walk
  refine PySem.wpAt_of_wpAny ?_
  rw [F.owner]
  repeat (first | with_reducible refine wpAny_madeHere_exc F.canon hC ?_ | with_reducible refine wpAny_loadPart_at hC ?_ | (with_reducible refine wpAny_isSubtype_exc hC ?_; first | rw [hx] | rw [ha] | rw [hn]) | wp_step)
  show R _ _
  rw [Heap.size_push]
  exact hq
end
noncomputable abbrev excObj (C t : Addr) (dd : Option Addr) : Obj := { cls := .ref C, dict := dd, data := .fields #[.ref t, .none, .none, .none, .bool false, .none] }
section
variable {prog : Program} {w : World} {A : Around} {E : Value → Shared → Prop} {K : Frag} {s : Shared} {h₀ : Heap} {L : Addr} {m : Str → Option Value} {news : Led}
variable {nm q : Str} {C N fI : Addr} {bs bm : List Value} {hdct : Bool} {sn : List Str} {sub : List Value} {ab : Bool} {col : Option Bool} {dd : Option Addr} {k0 k1 k2 k3 k5 : Option Value} {rest : List Value}
theorem call_exc {Q : Value → Shared → Prop} (F : Fr h₀ L s.heap m) (X₀ : K.In h₀) (N₀ : News h₀ L s.heap news) (X : XCls bm C) (hC : K.lookup C = some (excClassObj nm q C N bs bm hdct sn sub ab col dd k0 k1 k2 k3 k5 "Exception.__new__"))
    (hi : findIn K (.ref C) "__init__" = some (some (.ref fI))) (hf : isFn K (.ref fI) = true) (hrest : rest.length ≤ sizeLine)
    (h : ∀ e t h', Fr h₀ L h' m → News h₀ L h' ((e, excObj C t none) :: (t, tupObj rest 0) :: news) → (∀ p ∈ news, p.1 < t) → t < e →
      codeAny (model prog w) (A.under (.builtin "type.__call__" ⟨.ref C :: rest, []⟩)) (.call (.ref fI) ⟨.ref e :: rest, []⟩) (InitBack e fun r s' => match r with | .ok (.ret v) => Q v s' | .ok _ => False | .error e => E e s') { s with heap := h' }) :
    wpAny (model prog w) A (call (.ref C) rest) Q E s := by
  obtain ⟨hh, g, d, t, os⟩ := s
  have XX := X₀.keeps F.keep
  have hC0 := XX _ _ hC
  have H := h (hh.objs.size + 1) hh.objs.size _ ((F.push _).push _) (by have := (N₀.push F (tupObj rest 0)).push (F.push _) (excObj C hh.objs.size none); rwa [Heap.size_push] at this) (fun p hp => Heap.lt_size (N₀ p hp).1) (Nat.lt_succ_self _)
  have f1 := tc_lookup
  have f2 := tc_bind (.ref C)
  have hT : (⟨hh, g, d, t, os⟩ : Shared).TypeIs (.ref C) "type" := ⟨_, hC0, rfl⟩
  refine wpAny_call (codeAny_of_tree ?_)
  show wpAny _ _ (callAny (.ref C) _) _ _ _
  repeat (any_goals (first | with_reducible assumption | with_reducible refine wpAny_loadPart_at hC0 ?_ | wp_step))
  refine ⟨rfl, ?_⟩
  refine codeAny_call_builtin_at (Code.quiet_builtin _ (by decide +kernel)) entry_typeCall (wpAny_check_type_call_sub hC0 ?_)
  repeat (first | with_reducible refine wpAny_loadPart_at hC0 ?_ | with_reducible refine wpAny_madeBy_exc hC0 ?_ | wp_step)
  refine codeAny_call_builtin_code (Code.quiet_builtin _ PySem.F.excBase_Exception.quiet) (xnew_check X hC0 ?_)
  refine xnew_code X hC0 ?_ hrest
  show wpAny _ _ _ _ _ _
  have up : ∀ b o, hh.get? b = some o → ((hh.push (tupObj rest 0)).push (excObj C hh.objs.size none)).get? b = some o := fun b o e => Heap.get?_push_of_some _ (Heap.get?_push_of_some _ e)
  have X2 : K.In ((hh.push (tupObj rest 0)).push (excObj C hh.objs.size none)) := XX.keeps up
  have hC₁ := X2 _ _ hC
  have hget : ((hh.push (tupObj rest 0)).push (excObj C hh.objs.size none)).get? (hh.objs.size + 1) = some (excObj C hh.objs.size none) := by heap_get
  have hcC : (Value.ref C :: bm).contains (.ref C) = true := by simp
  unfold isInstance
  repeat (first | with_reducible refine wpAny_loadPart_at hget ?_ | wp_step)
  show wpAny _ _ (isSubtype (.ref C) (.ref C)) _ _ _
  refine wpAny_isSubtype_exc hC₁ ?_
  rw [hcC]
  repeat wp_step
  show wpAny _ _ (typeLookup (excObj C hh.objs.size none).cls _) _ _ _
  refine looks_findIn X2 hi _ _ _ _ (fun _ _ e => e) ?_
  refine wpAny_holding (wpAny_bind ?_)
  refine bind_fn X2 (.ref (hh.objs.size + 1)) (beq_iff_eq.mp hf) _ _ _ _ (fun _ _ e => e) ?_
  refine wpAny_bind (wpAny_call (codeAny_mono H fun r s' z => ?_))
  rcases r with e | (v | _ | _ | _) <;> first | exact z | exact z.elim | skip
  obtain ⟨rfl, z⟩ := z
  wp_walk
  exact z
end
end
section
open PySem.Calls PySem.Spec
theorem xs_slot_get : Slot "wrapper_descriptor" "__get__" "wrapper_descriptor.__get__" := .of (owner := "wrapper_descriptor") (n := "__get__") (by rw [typeLookup_type, builtinLookup_eq_fast]; kernel_rfl) (by decide +kernel) (by decide +kernel) (by decide +kernel)
  (by first | exact .inl (by decide +kernel) | exact .inr (by decide +kernel)) (by rw [isSubtype_type]; kernel_rfl)
theorem xs_entry_get : entryFor table "wrapper_descriptor.__get__" = some Builtin.«wrapper_descriptor.__get__» := entryFor_of_tree (by kernel_rfl)
theorem xs_args_get (a b c : Value) : argsOk "wrapper_descriptor.__get__" ⟨[a, b, c], []⟩ := by unfold argsOk; kernel_rfl
theorem xs_type : typeOf (.builtin "Exception.__init__") = pure (.type "wrapper_descriptor") := by kernel_rfl
section
variable {prog : Program} {w : World} {M : Model} {A : Around} {E : Value → Shared → Prop} {h : Heap} {g : Array GenState} {d : Drawn} {t : Nat} {os : OsState}
variable {nm q : Str} {x C N : Addr} {ox : Obj} {bs bm : List Value} {hdct : Bool} {sn : List Str} {sub : List Value} {ab : Bool} {col : Option Bool} {dd : Option Addr} {k0 k1 k2 k3 k5 : Option Value}
theorem xs_get {tp : Value} {Q : Fin → Shared → Prop} (X : XCls bm C) (hC : h.get? C = some (excClassObj nm q C N bs bm hdct sn sub ab col dd k0 k1 k2 k3 k5 "Exception.__new__")) (hx : h.get? x = some ox) (hc : ox.cls = .ref C) (htp : tp ≠ .none)
    (hq : Q (.done (.ret (.ref h.objs.size))) ⟨h.push { cls := .type "method-wrapper", data := .fields #[.builtin "Exception.__init__", .ref x] }, g, d, t, os⟩) :
    wpAny M A (Builtin.«wrapper_descriptor.__get__» ⟨[.builtin "Exception.__init__", .ref x, tp], []⟩) Q E ⟨h, g, d, t, os⟩ := by
  have hX := X.x
  unfold Builtin.«wrapper_descriptor.__get__»
  repeat (first | (with_reducible refine wpAny_loadPart_at hx ?_; rw [hc]) | (with_reducible refine wpAny_isSubtype_exc hC ?_; rw [hX]) | simp only [htp, beq_iff_eq, if_false] | wp_step)
  rw [show (".".intercalate ("Exception.__init__".cutAt '.').dropLast) = "Exception" from by decide +kernel]
  refine wpAny_isSubtype_exc hC ?_
  rw [hX]
  repeat wp_step
  exact hq
theorem xs_super_ga {so D : Addr} {l₀ l : List Value} {K : Frag} {name : Str} {tk : Tok} {Q : Fin → Shared → Prop} (XC : XCls bm C) (hCo : h.get? C = some (excClassObj nm q C N bs bm hdct sn sub ab col dd k0 k1 k2 k3 k5 "Exception.__new__")) (hx : h.get? x = some ox) (hc : ox.cls = .ref C)
    (hso : h.get? so = some { cls := .type "super", dict := none, data := .fields #[.ref D, .ref x, .ref C], slots := #[] }) (hno : Looks (model prog w) h (opaqueClassAbove (.ref C)) none)
    (hC : Looks (model prog w) h (mroOf (.ref C)) l₀) (hl : (l₀.dropWhile (· != .ref D)).drop 1 = l) (X : K.In h)
    (hf : alongIn K name l = some (some (.builtin "Exception.__init__"))) (hxC : x ≠ C) (hn : (name == ("__class__" : Str)) = false)
    (hq : Q (.done (.ret (.ref h.objs.size))) ⟨h.push { cls := .type "method-wrapper", data := .fields #[.builtin "Exception.__init__", .ref x] }, g, d, t, os⟩) :
    wpAny (model prog w) A (Builtin.«super.__getattribute__» ⟨[.ref so, .str name tk], []⟩) Q E ⟨h, g, d, t, os⟩ := by
  have hlk := xs_slot_get.lookup
  have hne : (Value.ref x == Value.ref C) = false := by simp [hxC]
  have hTf : (⟨h, g, d, t, os⟩ : Shared).TypeIs (.builtin "Exception.__init__") "wrapper_descriptor" := xs_type
  have hdt : ({ cls := .type "super", dict := none, data := .fields #[.ref D, .ref x, .ref C], slots := #[] } : Obj).data = .fields #[.ref D, .ref x, .ref C] := rfl
  have f0 : (#[.ref D, .ref x, .ref C] : Array Value)[0]? = some (.ref D) := rfl
  have f1 : (#[.ref D, .ref x, .ref C] : Array Value)[1]? = some (.ref x) := rfl
  have f2 : (#[.ref D, .ref x, .ref C] : Array Value)[2]? = some (.ref C) := rfl
  unfold Builtin.«super.__getattribute__»
  repeat (first
    | with_reducible refine PySem.wpAny_bind ?_
    | with_reducible refine PySem.wpAny_pure ?_
    | (with_reducible refine wpAny_field hso hdt f0 ?_) | (with_reducible refine wpAny_field hso hdt f1 ?_) | (with_reducible refine wpAny_field hso hdt f2 ?_)
    | (with_reducible refine ks_wpAny_notOpaque hno ?_)
    | (with_reducible refine Looks.at hC ?_; rw [hl])
    | (refine ks_forIn_along X (fun _ _ => rfl) rfl ?_ hf)
    | (with_reducible refine wpAny_typeOf hTf ?_)
    | (with_reducible refine wpAny_call_entry xs_slot_get hTf xs_entry_get ?_ (xs_args_get _ _ _))
    | ((with_reducible refine' xs_get XC hCo hx hc ?zzs ?_); (case zzs => simp))
    | (with_reducible refine ⟨_, rfl, ?_⟩)
    | (simp only [hn, hne, Bool.or_false, Bool.false_eq_true, if_false])
    | wp_step
    | dsimp only)
  all_goals exact hq
theorem xs_getMethod_super {so D : Addr} {l₀ l : List Value} {K : Frag} {name : Str} {pl : Sem Bool} {Q : Value × List Value → Shared → Prop} (XC : XCls bm C) (hCo : h.get? C = some (excClassObj nm q C N bs bm hdct sn sub ab col dd k0 k1 k2 k3 k5 "Exception.__new__")) (hx : h.get? x = some ox) (hc : ox.cls = .ref C)
    (hso : h.get? so = some { cls := .type "super", dict := none, data := .fields #[.ref D, .ref x, .ref C], slots := #[] }) (hno : Looks (model prog w) h (opaqueClassAbove (.ref C)) none)
    (hC : Looks (model prog w) h (mroOf (.ref C)) l₀) (hl : (l₀.dropWhile (· != .ref D)).drop 1 = l) (X : K.In h)
    (hf : alongIn K name l = some (some (.builtin "Exception.__init__"))) (hxC : x ≠ C) (hn : (name == ("__class__" : Str)) = false)
    (hq : Q (.ref h.objs.size, []) ⟨h.push { cls := .type "method-wrapper", data := .fields #[.builtin "Exception.__init__", .ref x] }, g, d, t + 1, os⟩) :
    wpAny (model prog w) A (getMethod (.ref so) name pl) Q E ⟨h, g, d, t, os⟩ := by
  have hlk := PySem.F.ks_slot_super_ga.lookup
  have hcan := PySem.F.ks_canon_super_ga
  have hT : ∀ t', (⟨h, g, d, t', os⟩ : Shared).TypeIs (.ref so) "super" := fun _ => ⟨_, hso, rfl⟩
  unfold getMethod
  refine wpAny_bind (wpAny_specialOf (hT _) hlk ?_)
  show wpAny _ _ (if (Manifest.canonical "super.__getattribute__" != "object.__getattribute__") = true then _ else _) _ _ _
  rw [if_pos hcan]
  unfold getAttr getAttrBy
  refine wpAny_bind (wpAny_bind (wpAny_mkText (wpAny_holding (wpAny_bind (wpAny_typeOf (hT _) (wpAny_bind (wpAny_of_eq hlk ?_)))))))
  show wpAny _ _ (getAttrByItsOwn (.ref so) (.str name t) (.type "super") (.builtin "super.__getattribute__") true false) _ _ _
  unfold getAttrByItsOwn hookBefore callGetattribute boundAndCalled
  refine wpAny_bind (wpAny_of_eq (show (if onTheHeap (.type "super") then typeLookup (.type "super") "__getattr__" else pure none) = pure none from rfl) ?_)
  refine wpAny_bind (wpAny_attempt (wpAny_holding ?_))
  show wpAny _ _ (bindSpecial (.builtin "super.__getattribute__") (.ref so) >>= _) _ _ _
  refine wpAny_bind (wpAny_of_eq (PySem.F.ks_slot_super_ga.bind _) ?_)
  refine wpAny_mono (Q := fun v s' => v = .ref h.objs.size ∧ s' = ⟨h.push { cls := .type "method-wrapper", data := .fields #[.builtin "Exception.__init__", .ref x] }, g, d, t + 1, os⟩) (E := fun _ _ => False)
    (wpAny_call_entry PySem.F.ks_slot_super_ga (hT _) PySem.F.ks_entry_super_ga (xs_super_ga XC hCo hx hc hso hno hC hl X hf hxC hn ⟨_, rfl, rfl, rfl⟩) (PySem.F.ks_gaArgs_super _ _)) (fun v s' hv => ?_) fun _ _ z => z.elim
  obtain ⟨rfl, rfl⟩ := hv
  exact wpAny_pure (wpAny_pure hq)
end
end
section
open PySem.Calls PySem.Spec
noncomputable abbrev mwObj (x : Addr) : Obj := { cls := .type "method-wrapper", data := .fields #[.builtin "Exception.__init__", .ref x] }
section
variable {prog : Program} {w : World} {A : Around} {E : Value → Shared → Prop} {s : Shared} {h₀ : Heap} {L q x C t : Addr} {dd : Option Addr} {m : Str → Option Value} {news : Led} {g : Obj → Led} {v : Value}
 variable {nm qn : Str} {Na : Addr} {bs bm : List Value} {hdct : Bool} {sn : List Str} {sub : List Value} {ab : Bool} {col : Option Bool} {dc : Option Addr} {k0 k1 k2 k3 k5 : Option Value}
theorem xs_call {Q : Value → Shared → Prop} (F : Fr h₀ L s.heap m) (N : News h₀ L s.heap news) (hq : (q, mwObj x) ∈ news) (U : UpdF x (excObj C t dd) news g) (hCo : s.heap.get? C = some (excClassObj nm qn C Na bs bm hdct sn sub ab col dc k0 k1 k2 k3 k5 "Exception.__new__"))
    (h : ∀ h' T, Fr h₀ L h' m → News h₀ L h' ((T, tupObj [v] 0) :: g (excObj C T dd)) → (∀ p ∈ news, p.1 < T) → Q .none { s with heap := h' }) :
    wpAny (model prog w) A (call (.ref q) [v]) Q E s := by
  obtain ⟨hh, gn, d, tk, os⟩ := s
  have hq' := (N _ hq).1
  have FF := PySem.F.excBase_Exception
  obtain ⟨pre, post, rfl, hg, ha, hb⟩ := U.split
  have hx := N (x, excObj C t dd) (List.mem_append.mpr (.inr (.head _)))
  refine wpAny_call (codeAny_of_tree ?_)
  show wpAny _ _ (callAny (.ref q) _) _ _ _
  unfold callAny checkBoundCall
  refine wpAny_bind (wpAny_load hq' ?_)
  simp only [FF.initRow, FF.initKind]
  have hx0 := hx.1
  repeat (first | (with_reducible refine wpAny_loadPart_at hx0 ?_) | with_reducible refine wpAny_loadPart_at hCo ?_ | wp_step)
  refine ⟨Code.quiet_builtin _ (by decide +kernel), codeAny_builtin FF.initEntry ?_⟩
  show wpAny _ _ (Builtin.«BaseException.__init__» ⟨[.ref x, v], []⟩) _ _ _
  have hx1 := Heap.get?_push_of_some (tupObj [v] 0) hx.1
  repeat (first | with_reducible refine wpAny_loadPart_at hx1 ?_ | wp_step)
  show Q .none _
  have N1 := N.push F (tupObj [v] 0)
  refine h _ hh.objs.size ((F.push _).change (Heap.SameBut.update ..) hx.2.1 hx.2.2) ?_ (fun p hp => Heap.lt_size (N p hp).1)
  rw [hg]
  refine news_set (pre := (hh.objs.size, tupObj [v] 0) :: pre) (post := post) N1 (fun p hp => ?_) hb (Heap.SameBut.update ..) ?_
  · rcases List.mem_cons.mp hp with rfl | hp
    · exact Ne.symm (Nat.ne_of_lt (Heap.lt_size hx.1))
    · exact ha p hp
  · rw [Heap.get?_update_self _ hx1 rfl]
    rfl
end
end
section
open PySem.Calls PySem.Spec Builtin Builtin.ObjectAttr
/-- a dict's object, by what it holds -/
noncomputable def NsO (o : Obj) (mA : Str → Option Value) : Prop := ∀ (h : Heap) (d : Addr), h.get? d = some o → h.Ns1 d mA
theorem ns1_obj {h : Heap} {d : Addr} {mA : Str → Option Value} (n : h.Ns1 d mA) : ∃ o, h.get? d = some o ∧ NsO o mA := by
  obtain ⟨o, es, ep, e1, r⟩ := n
  exact ⟨o, e1, fun h' d' e => ⟨o, es, ep, e, r⟩⟩
theorem any_some2 {α : Type} {o : Option α} {p : α → Bool} (h : o.any p = true) : ∃ x, o = some x ∧ p x = true := by
  cases o with | none => cases h | some x => exact ⟨x, rfl, h⟩
section
variable {prog : Program} {w : World} {A : Around} {E : Value → Shared → Prop} {s : Shared} {K : Frag} {h₀ : Heap} {L q x C t : Addr} {dd : Option Addr} {m : Str → Option Value} {news : Led} {g : Obj → Led} {v : Value} {R : Result → Shared → Prop}
theorem xs_open {ox : Obj} {od : Option Obj} {name : Str} {tk : Tok} {cd : ClassData} (X : K.In s.heap) (I : InstAt s.heap x ox C od) (hc : clsIn K C = some cd) (hov : refuseLoop (.ref x) "__setattr__" cd.mro = pure ()) (hobj : cd.mro.contains (.type "object") = true) (ht : takerIn K C name = some none)
    (h : ∀ b, wpAny (model prog w) A.in1 (storeInOwnDict (.ref x) (.ref C) (.str name tk) name v b)
      (fun fin s' => match fin with | .done f => R (.ok f) s' | .again c' => c'.quiet = true ∧ codeAny (model prog w) A c' R s') (fun e s' => R (.error e) s') s) :
    codeAny (model prog w) A (.call (.builtin "object.__setattr__") ⟨[.ref x, .str name tk, v], []⟩) R s := by
  have SF := PySem.F.store_object
  have ne : cd.mro.isEmpty = false := by cases q : cd.mro with | nil => rw [q] at hobj; cases hobj | cons _ _ => rfl
  have sub : Looks (model prog w) s.heap (isInstance (.ref x) (.type "object")) true := I.type.andThen (looks_mroIn X (by unfold mroIn; rw [hc, Option.bind_some, if_neg (by rw [ne]; decide), hobj]))
  refine codeAny_call_builtin SF.slot.plain SF.entry (@check_slot (model prog w) _ _ s "object.__setattr__" "object" "__setattr__" (.ref x) [.str name tk, v] [] _ SF.kind SF.split sub (SF.args (.ref x) (.str name tk) v) ?_)
  obtain ⟨attr, ha, hr⟩ := Option.bind_eq_some_iff.mp ht
  have hm : Looks (model prog w) s.heap (mroOf (.ref C)) cd.mro := (looks_clsIn X hc).andThen .now
  have L3 : Looks (model prog w) s.heap (storeTaker? attr) none := by
    cases attr with
    | none => exact .now
    | some a =>
      obtain ⟨b, hb, hr'⟩ := Option.map_eq_some_iff.mp hr
      refine (looks_takesIn X hb).andThen ?_
      cases b with
      | false => exact .now
      | true => cases hr'
  rw [osa_eq, refuse_eq]
  refine wpAny_bind (wpAny_bind (I.type.here (wpAny_bind (hm.here ?_))))
  rw [hov]
  exact wpAny_pure (wpAny_bind (I.type.here (wpAny_bind ((looks_findIn X ha).here (wpAny_bind (L3.here (h _)))))))
/-- the first name that is laid on an exception: its dict is made -/
theorem xs_set1 {name : Str} {cd : ClassData} {Q : Unit → Shared → Prop} (F : Fr h₀ L s.heap m) (X₀ : K.In h₀) (N : News h₀ L s.heap news) (U : UpdF x (excObj C t none) news g)
    (hs : findIn K (.ref C) "__setattr__" = some (some (.builtin "object.__setattr__"))) (hc : clsIn K C = some cd) (hov : ∀ x, refuseLoop (.ref x) "__setattr__" cd.mro = pure ()) (hobj : cd.mro.contains (.type "object") = true) (hdict : cd.hasDict = true) (ht : takerIn K C name = some none)
    (h : ∀ h' dx oD tk, Fr h₀ L h' m → News h₀ L h' ((dx, oD) :: g (excObj C t (some dx))) → (∀ p ∈ news, p.1 < dx) → NsO oD (fun y => if y = name then some v else none) → Q () { s with heap := h', toks := tk }) :
    wpAny (model prog w) A (setAttr (.ref x) name v) Q E s := by
  obtain ⟨hh, gn, d, tk, os⟩ := s
  have X := X₀.keeps F.keep
  obtain ⟨pre, post, rfl, hg, ha, hb⟩ := U.split
  have hx := N (x, excObj C t none) (List.mem_append.mpr (.inr (.head _)))
  have I : InstAt hh x (excObj C t none) C none := ⟨hx.1, rfl, rfl, trivial⟩
  refine set_plain X I hs (xs_open (s := ⟨hh, gn, d, tk + 1, os⟩) X I hc (hov x) hobj ht fun b => ?_)
  have hxs : x ≠ hh.objs.size := Nat.ne_of_lt (Heap.lt_size hx.1)
  have hx₁ : (hh.push { cls := .type "dict", data := .dict #[] }).get? x = some (excObj C t none) := Heap.get?_push_of_some _ hx.1
  refine wpAny_bind (wpAny_pure (wpAny_bind (wpAny_bind (wpAny_loadPart hx.1 (wpAny_bind (looks_clsIn X hc _ _ _ _ (fun _ _ e => e) ?_))))))
  rw [hdict]
  refine wpAny_bind (wpAny_alloc' ?_)
  refine wpAny_bind (wpAny_update' hx₁ ?_)
  refine wpAny_pure ?_
  have hx2 : ((hh.push { cls := .type "dict", data := .dict #[] }).update x fun o => { cls := o.cls, dict := some hh.objs.size, data := o.data, slots := o.slots }).get? x = some (excObj C t (some hh.objs.size)) := Heap.get?_update_self _ hx₁ rfl
  have hgd : ((hh.push { cls := .type "dict", data := .dict #[] }).update x fun o => { cls := o.cls, dict := some hh.objs.size, data := o.data, slots := o.slots }).get? hh.objs.size = some { cls := .type "dict", data := .dict #[] } :=
    (Heap.get?_update_ne _ _ _ _ hxs.symm).trans (Heap.get?_push_at rfl rfl)
  have hnd : ((hh.push { cls := .type "dict", data := .dict #[] }).update x fun o => { cls := o.cls, dict := some hh.objs.size, data := o.data, slots := o.slots }).Ns hh.objs.size (fun _ => none) :=
    ⟨_, #[], _, hgd, rfl, fun e he => absurd he (by simp), fun _ => rfl⟩
  show wpAny _ _ (storeInDict hh.objs.size (.str name tk) name v) _ _ _
  unfold storeInDict newKeyGuard
  refine wpAny_bind (wpAny_pure (wpAny_bind (wpAny_nsSet1 (Heap.Ns1.of_empty hnd) fun h' hn' hs' => ?_)))
  obtain ⟨oD, esD, epD, hoD, hdD, hcD⟩ := hn'.count (Within.cons name v Within.nil)
  refine wpAny_bind (wpAny_lookBehind hoD (by rw [hdD]; exact pastItsLine_dict (Nat.le_trans hcD (by rw [List.length_cons, List.length_nil, sizeLine_eq]; omega))) ?_)
  obtain ⟨oD2, hoD2, hnD2⟩ := ns1_obj hn'
  have N1 := N.push F { cls := .type "dict", data := .dict #[] }
  have F1 := F.push { cls := .type "dict", data := .dict #[] }
  have F2 := F1.change (Heap.SameBut.update _ x fun o => { cls := o.cls, dict := some hh.objs.size, data := o.data, slots := o.slots }) hx.2.1 hx.2.2
  have N2 := news_set (pre := (hh.objs.size, { cls := .type "dict", data := .dict #[] }) :: pre) (post := post) N1 (fun p hp => by
    rcases List.mem_cons.mp hp with rfl | hp
    · exact hxs.symm
    · exact ha p hp) hb (Heap.SameBut.update ..) hx2
  have z := N2 (hh.objs.size, { cls := .type "dict", data := .dict #[] }) (.head _)
  refine wpAny_pure (h h' hh.objs.size oD2 _ (F2.change hs' z.2.1 z.2.2) ?_ (fun p hp => Heap.lt_size (N p hp).1) hnD2)
  rw [hg]
  have hlt : ∀ p ∈ pre ++ (x, excObj C t none) :: post, p.1 ≠ hh.objs.size := fun p hp => Nat.ne_of_lt (Heap.lt_size (N p hp).1)
  refine news_set (pre := []) (o := { cls := .type "dict", data := .dict #[] }) N2 off_nil (fun p hp => ?_) hs' hoD2
  rcases List.mem_append.mp hp with hp | hp
  · exact hlt p (List.mem_append.mpr (.inl hp))
  · rcases List.mem_cons.mp hp with rfl | hp
    · exact hxs
    · exact hlt p (List.mem_append.mpr (.inr (.tail _ hp)))
/-- a further name -/
theorem xs_set2 {name : Str} {cd : ClassData} {dx : Addr} {oD : Obj} {mA : Str → Option Value} {ns : List Str} {Q : Unit → Shared → Prop} (F : Fr h₀ L s.heap m) (X₀ : K.In h₀) (N : News h₀ L s.heap news) (hx : (x, excObj C t (some dx)) ∈ news) (U : UpdF dx oD news g)
    (hs : findIn K (.ref C) "__setattr__" = some (some (.builtin "object.__setattr__"))) (hc : clsIn K C = some cd) (hov : ∀ x, refuseLoop (.ref x) "__setattr__" cd.mro = pure ()) (hobj : cd.mro.contains (.type "object") = true) (hdict : cd.hasDict = true) (ht : takerIn K C name = some none)
    (hD : NsO oD mA) (hw : Within mA ns) (hsz : ns.length ≤ 1000)
    (h : ∀ h' oD' tk, Fr h₀ L h' m → News h₀ L h' (g oD') → Q () { s with heap := h', toks := tk }) :
    wpAny (model prog w) A (setAttr (.ref x) name v) Q E s := by
  obtain ⟨hh, gn, d, tk, os⟩ := s
  have X := X₀.keeps F.keep
  obtain ⟨pre, post, rfl, hg, ha, hb⟩ := U.split
  have hx := N _ hx
  have hd := N (dx, oD) (List.mem_append.mpr (.inr (.head _)))
  have I : InstAt hh x (excObj C t (some dx)) C (some oD) := ⟨hx.1, rfl, rfl, hd.1⟩
  refine set_plain X I hs (xs_open (s := ⟨hh, gn, d, tk + 1, os⟩) X I hc (hov x) hobj ht fun b => ?_)
  refine wpAny_bind (wpAny_pure (wpAny_bind (wpAny_bind (wpAny_loadPart hx.1 (wpAny_bind (looks_clsIn X hc _ _ _ _ (fun _ _ e => e) ?_))))))
  rw [hdict]
  refine wpAny_pure (a := some dx) ?_
  show wpAny _ _ (storeInDict dx (.str name tk) name v) _ _ _
  unfold storeInDict newKeyGuard
  refine wpAny_bind (wpAny_pure (wpAny_bind (wpAny_nsSet1 (hD _ _ hd.1) fun h' hn' hs' => ?_)))
  obtain ⟨oD1, esD, epD, hoD, hdD, hcD⟩ := hn'.count (Within.cons name v hw)
  refine wpAny_bind (wpAny_lookBehind hoD (by rw [hdD]; exact pastItsLine_dict (Nat.le_trans hcD (by rw [List.length_cons, sizeLine_eq]; omega))) ?_)
  obtain ⟨oD2, hoD2, hnD2⟩ := ns1_obj hn'
  refine wpAny_pure (h h' oD2 _ (F.change hs' hd.2.1 hd.2.2) ?_)
  rw [hg]
  exact news_set N ha hb hs' hoD2
end
end
section
open PySem.Calls PySem.Spec
section
variable {M : Model} {A : Around} {E : Value → Shared → Prop} {s : Shared} {env : Env}
variable {nm q : Str} {C N e t : Addr} {bs bm : List Value} {hdct : Bool} {sn : List Str} {sub : List Value} {ab : Bool} {col : Option Bool} {dc dd : Option Addr} {k0 k1 k2 k3 k5 : Option Value}
end
section
variable {M : Model} {A : Around} {E : Value → Shared → Prop} {s' : Shared} {base g g₂ : Heap} {outer : List Env} {env : Env} {L e t C : Addr} {dd : Option Addr} {vs : List Value} {n : Nat} {m : Str → Option Value} {Q : Unit → Shared → Prop} {news nk : Led}
theorem frames_mem {b : Addr} (hf : env.frame = some L) (hm : b ∈ (env :: outer).filterMap (·.frame)) : b = L ∨ b ∈ outer.filterMap (·.frame) := by
  rw [List.filterMap_cons, hf] at hm
  exact List.mem_cons.mp hm
theorem leave_exc (K : Below A base outer g) (hf : env.frame = some L) (hk : env.scope.kind = .function) (F : Fr g L s'.heap m) (N : News g L s'.heap news) (he : (e, excObj C t dd) ∈ news) (ht : (t, tupObj vs n) ∈ news)
    (hs : ∀ p ∈ nk, p ∈ news) (hne : ∀ p ∈ nk, p.1 ≠ e) (hnt : ∀ p ∈ nk, p.1 ≠ t)
    (hQ : ∀ h', RaisedS base g outer e (.ref C) t vs nk h' → g.UpToSlots h' → Q () { s' with heap := h' }) :
    wpAny M (A.deeper env) (leaving env (.ref e)) Q E s' := by
  have zE := N _ he
  have zT := N _ ht
  have fresh : ∀ {b : Addr}, g.get? b = none → base.get? b = none := fun h => fresh_of_stays K.stays h
  have hLn : base.get? L = none := fresh (kts_self F)
  have all : s'.heap.FunFrames base (env :: outer) := .cons (by rw [hk]; decide) hf F.ns hLn (K.frames.of_keeps fun b o q _ => ⟨o, F.keep b o q, rfl⟩)
  generalize hfr : (env :: outer).filterMap (·.frame) = fr at all
  have inF : ∀ b ∈ fr, b = L ∨ b ∈ outer.filterMap (·.frame) := fun b hb => frames_mem hf (hfr ▸ hb)
  have gF : ∀ b ∈ outer.filterMap (·.frame), ∃ o, g.get? b = some o := fun b hb => by
    obtain ⟨_, o, ho, _⟩ := K.frames.mem hb
    exact ⟨o, ho⟩
  have bF : ∀ b ∈ fr, base.get? b = none := fun b hb => by
    rcases inF b hb with rfl | hb
    · exact hLn
    · exact (K.frames.mem hb).1
  have offN : ∀ p ∈ news, p.1 ∉ fr := fun p hp hm => by
    rcases inF _ hm with h | h
    · exact (N p hp).2.1 h
    · obtain ⟨o, ho⟩ := gF _ h
      rw [(N p hp).2.2] at ho; cases ho
  generalize hB : hideAll s'.heap (e :: t :: fr) = B
  have inB : ∀ {b o}, s'.heap.get? b = some o → b ≠ e → b ≠ t → b ∉ fr → B.get? b = some o := fun h h1 h2 h3 => hB ▸ hideAll_get _ h (by simp [h1, h2, h3])
  have ofB : ∀ {b o}, B.get? b = some o → s'.heap.get? b = some o := fun h => of_hideAll _ (hB ▸ h)
  have noB : ∀ {b}, b ∈ e :: t :: fr → B.get? b = none := fun h => hB ▸ hideAll_none _ h
  have neG : ∀ {b o}, g.get? b = some o → b ≠ e ∧ b ≠ t := fun h => ⟨fun q => (by rw [q, zE.2.2] at h; cases h), fun q => (by rw [q, zT.2.2] at h; cases h)⟩
  have stB : base.StaysIn B := fun b o h => by
    have hg := K.stays b o h
    exact inB (F.keep _ _ hg) (neG hg).1 (neG hg).2 fun hm => by rw [bF b hm] at h; cases h
  have fB : s'.heap.FunFrames B (env :: outer) := by
    have := funFrames_hide (as := e :: t :: fr) all (fun env' he' a ha => .tail _ (.tail _ (hfr ▸ List.mem_filterMap.mpr ⟨env', he', ha⟩)))
    rwa [hB] at this
  refine wpAny_leaving_firstW (base := B) (a0 := .ref t) (Around.frames_deeper K.stack) fB hf zE.1 (fun b o h => ofB h) (noB (.head _)) rfl rfl rfl fun h' hL => ?_
  obtain ⟨k1, ⟨_, _, k2⟩, k3, k4⟩ := hL
  refine hQ h' ⟨⟨B, stB, fun b o hg hm => ?_, fun p hp => ⟨inB (N p (hs p hp)).1 (hne p hp) (hnt p hp) (offN p (hs p hp)), (N p (hs p hp)).2.2, fresh (N p (hs p hp)).2.2⟩, ⟨k1, noB (.head _), k2, k3⟩, noB (.tail _ (.head _))⟩, ?_⟩ ((Heap.UpToSlots.of_keeps F.keep).trans k4)
  · refine inB (F.keep _ _ hg) (neG hg).1 (neG hg).2 fun hm' => ?_
    rcases inF b hm' with rfl | h
    · rw [kts_self F] at hg; cases hg
    · exact hm h
  · exact Heap.TupAt.of_slots ⟨_, _, zT.1, rfl, rfl⟩ k4
theorem leave_onX {cls : Value} (K : Below A base outer g) (hf : env.frame = some L) (F : Fr g L g₂ m) (R : RaisedS base g₂ (env :: outer) e cls t vs nk s'.heap) (hsm : g₂.UpToSlots s'.heap)
    (hQ : ∀ h', RaisedS base g outer e cls t vs nk h' → g.UpToSlots h' → Q () { s' with heap := h' }) :
    wpAny M (A.deeper env) (leaving env (.ref e)) Q E s' := by
  obtain ⟨⟨B, hB, hBG, hl, hfl, hnew⟩, htup⟩ := R
  refine wpAny_leaves_onW (Around.frames_deeper K.stack) hf hfl fun h' x1 x2 => hQ h' ⟨⟨B, hB, fun b o q nm => hBG b o (F.keep b o q) (fun hm => ?_), fun q hq => ⟨(hl q hq).1, kts_none F.keep (hl q hq).2.1, (hl q hq).2.2⟩, x1, hnew⟩, htup.of_slots x2⟩ ((Heap.UpToSlots.of_keeps F.keep).trans (hsm.trans x2))
  rcases frames_mem hf hm with z | z
  · rw [z, kts_self F] at q; cases q
  · exact nm z
end
end
local macro_rules | `(tactic| walk_at $s:str) => `(tactic| k_extra $s)
local macro_rules | `(tactic| omega) => `(tactic| k_extra "omega")
local macro_rules | `(tactic| ktr_room) => `(tactic| k_extra "ktr_room")
local macro_rules | `(tactic| ktr_units) => `(tactic| k_extra "ktr_units")
local macro_rules | `(tactic| k_all) => `(tactic| k_extra "k_all")
local macro_rules | `(tactic| k_mem) => `(tactic| k_extra "k_mem")
local macro_rules | `(tactic| ktr_unf) => `(tactic| k_extra "ktr_unf")
local macro_rules | `(tactic| k_ne) => `(tactic| k_extra "k_ne")
local macro_rules | `(tactic| k_inst) => `(tactic| k_extra "k_inst")
local macro_rules | `(tactic| k_lt $h:ident) => `(tactic| (replace $h := allLt_of $h; dsimp only [AllLt] at $h:ident))
local macro_rules | `(tactic| k_qdec) => `(tactic| decide +kernel)
local macro_rules | `(tactic| walk_at "i1") => `(tactic| (intro g' L' h' tk' cells' FG' F' N' Y' B' X' T' l1; (try (have q1' := off_cell1 l1; have q2' := off_cell2 l1; have q3' := off_cell3 l1)); k_cells Y'; (try simp only [List.cons_append, List.nil_append] at N'); (try dsimp only); (try k_fold)))
local macro_rules | `(tactic| walk_at "i2") => `(tactic| (intro r' n' h' tk' F' N' hr'; cases hr'; (try dsimp only at N'); (try dsimp only); (try k_sweep)))
theorem w1 : True := by
  (k_with "omega" => first | decide | with_reducible (first | exact room2 (by assumption) (by decide) | exact room1 (by assumption) (by decide) | exact le_t (by assumption) (by decide) | assumption | exact Nat.ne_of_lt (by assumption) | exact Nat.ne_of_gt (by assumption)) | (law_clear; lia) | omega +splitDisjunctions)
  (k_with "ktr_room" => ((try dsimp +zetaDelta only [ktrTop, Around.deeper, Around.under, Around.in1]); omega))
  (k_with "ktr_units" => ((have hcL9 := cLine_is); (try dsimp +zetaDelta only [ktrTop, Around.deeper, Around.under, Around.in1, Around.mark]); omega))
  (k_with "k_all" => assumption)
  (k_with "tb_rel" => ((repeat (first | exact sub_refl | refine sub_cons ?_)); done))
  (k_with "st" => ((fail_if_success (with_reducible show CEndV _ _ _)); (fail_if_success (with_reducible show TEndV _ _ _)); (fail_if_success (with_reducible show LoopX _ _ _ _ _ _ _ _ _ _ _)); (fail_if_success (with_reducible show CompX _ _ _ _ _ _ _ _ _ _ _ _ _ _)); (first | ((with_reducible show KEnd _ _ _); refine kuse (by with_reducible assumption) ?_) | ((with_reducible show wpAny _ _ (execs (Stmt.Raise _ _ _ :: _) _) _ _ _); exfalso; (first | omega | (simp only [List.size_toArray, List.length_cons] at *; omega))) | ((with_reducible show wpAny _ _ (execs (_ :: _) _) _ _ _); (try dsimp only); walk1) | ((with_reducible show wpAny _ _ (eval (Expr.BinOp _ _ _ _) _) _ _ _); (try dsimp only); walk1) | (k_unfold; (try dsimp only)) | (k_end; wrow_close) | walk1 | (dsimp only; walk1) | (leave1; walk_say "STEP leave1"; try dsimp only) | fail "no step")))
  (k_with "subscriptTail" => (k_here; (with_reducible show wpAny _ _ (subscriptTail _ _ (Value.ref _) (Value.str _ _)) _ _ _); k_dflt (refine kda_item (knd := PySem.strKind _ _) (by k_asm) (by k_mem) (by assumption) (strKind_is _ _ _ _) (by assumption) ?_)))
  (k_with "call builtin:len" => (k_here; k_dflt (first | refine len_list (News.isList (by k_asm) (by k_mem)) (by walk_at "ln") ?_ | refine PyProof.Rows.len_tuple (News.isTup (by k_asm) (by k_mem)) (by walk_at "ln") ?_)))
  (k_with "ln" => (simp only [List.size_toArray, List.length_cons, List.length_append, List.length_nil, List.length_map]; omega))
  (k_with "subscriptTail" => (k_here; (with_reducible show wpAny _ _ (subscriptTail _ _ (Value.ref _) (Value.int _ _)) _ _ _); k_dflt (refine' item_tupleT ?zzt ?zza ?zzb ?zzc ?zzd ?_; (case zzt => exact News.isTup (by k_asm) (by k_mem)); (case zza => decide); (case zzb => decide); (case zzc => rfl); (case zzd => rfl); k_whole)))
  (k_with "call type:tuple" => (k_here; (with_reducible show wpAny _ _ (call (Value.type _) [Value.ref _]) _ _ _); k_dflt (refine call_tuple_tup (News.isTup (by k_asm) (by k_mem)) ?_)))
  (k_with "k_mem" => first | with_reducible assumption | assumption)
  (k_with "call type:list" => (k_here; (with_reducible show wpAny _ _ (call (Value.type "list") [Value.ref _]) _ _ _); k_dflt (refine' kup_listOf ?zzF ?zzN ?zzb ?zze ?_ ?zzz; (case zzF => k_asm); (case zzN => k_asm); (case zzb => k_mem); (case zze => exact rfl); (case zzz => (simp only [sizeLine_eq]; omega))); intro _ _ _ _ _ _))
  (k_with "WhlIf" => (first | refine WhlIf.no (by assumption) ?_ | refine WhlIf.yes (by assumption) ?_))
  (k_with "ktr_unf" => (refine' code_defC ?zzk1 ?zzk2 ?zzk3 ?zzk4 ?zzk5 ?zzkA ?zzkF ?zzkK ?zzk6 ?zzk7 ?zzk8 ?zzk9 ?zzkB ?zzkD ?_ ?zzc2 ?zzc3 ?zzc4; (case zzkA => exact rfl); (case zzkF => exact rfl); (case zzkK => first | assumption | exact rfl); (case zzk1 => k_asm); (case zzk2 => k_asm); (case zzk3 => k_asm); (case zzk4 => k_asm); (case zzk5 => k_asm); (case zzk6 => k_is); (case zzk7 => k_is); (case zzk8 => ktr_room); (case zzk9 => exact BindsTo.of_eq rfl); (case zzkB => exact rfl); (case zzkD => decide +kernel); (case zzc2 => exact rfl); (case zzc3 => exact rfl); (case zzc4 => exact rfl); k_whole; walk_at "i1"))
  (k_with "eval ListComp" => (k_here; k_dflt (refine ListComp_X (by k_asm) (by rfl) (by decide) (by rfl) (by decide) ?_)))
  (k_with "exec Assign cons ListComp" => (k_here; k_dflt (refine Assign_ListComp_X (by k_asm) (by with_unfolding_all rfl) (by rfl) (by decide) (by rfl) (by decide) (by rfl) (by rfl) ?_)))
  (k_with "exec For Name Name cons nil" => walk_at "fx")
  (k_with "exec For Name Call cons nil" => walk_at "fx")
  (k_with "exec For Name Subscript cons nil" => walk_at "fx")
  (k_with "exec For Name Attribute cons nil" => walk_at "fx")
  (k_with "exec For Name IfExp cons nil" => walk_at "fx")
  (k_with "exec For Tuple Name cons nil" => walk_at "fx")
  (k_with "exec For Tuple Call cons nil" => walk_at "fx")
  (k_with "exec For Tuple Subscript cons nil" => walk_at "fx")
  (k_with "exec For Tuple Attribute cons nil" => walk_at "fx")
  (k_with "compareOp In str ref" => (k_here; k_dflt (first | refine in_no (by k_asm) (by k_mem) (by assumption) (by assumption) (by assumption) ?_ | refine in_yes (by k_asm) (by k_mem) (by assumption) (by assumption) (by assumption) ?_)))
  (k_with "compareOp NotIn str ref" => (k_here; k_dflt (refine notin_no (by k_asm) (by k_mem) (by assumption) (by assumption) (by assumption) ?_)))
  (k_with "setItem ref str" => (k_here; k_dflt (refine' kda_set (knd := PySem.strKind _ _) ?zzF ?zzN ?zzU ?zzd (strKind_is _ _ _ _) ?zzz ?_; (case zzF => k_asm); (case zzN => k_asm); (case zzU => k_updF); (case zzd => assumption); (case zzz => (simp only [sizeLine_eq]; omega))); intro _ _ _ zzN zzhd; (try dsimp only at zzN); (revert zzN zzhd; intro _ _)))
  (k_with "k_ne" => first | assumption | exact Ne.symm (by assumption))
  (k_with "getAttr ref" => (k_here; k_dflt (refine' get_own ?zzk1 ?zzk2 ?zzk3 ?zzk4 ?zzk5 ?zzk6 ?zzk7 ?zzk8 ?zzk9 ?_; (case zzk1 => k_asm); (case zzk2 => k_asm); (case zzk3 => k_inst); (case zzk4 => k_is); (case zzk5 => k_is); (case zzk6 => k_is); (case zzk7 => k_is); (case zzk8 => first | assumption | k_get); (case zzk9 => k_handed); k_whole)))
  (k_with "getMethod ref" => (k_here; k_dflt (refine' method_inst ?zzk1 ?zzk2 ?zzk3 ?zzk4 ?zzk5 ?zzk6 ?zzk7 ?_; (case zzk1 => k_asm); (case zzk2 => k_asm); (case zzk3 => k_inst); (case zzk4 => k_is); (case zzk5 => k_is); (case zzk6 => k_is); (case zzk7 => first | assumption | k_get); k_whole)))
  (k_with "k_ne" => first | with_reducible assumption | with_reducible exact Ne.symm (by assumption) | exact ne_l1 (by assumption) (by k_mem) | exact ne_l2 (by assumption) (by k_mem) | exact ne_o1 (by assumption) (by k_mem) | exact ne_o2 (by assumption) (by k_mem))
  (k_with "k_all" => first | with_reducible assumption | exact off_l1 (by assumption) (by k_extra "tb_rel") | exact off_o1 (by assumption) (by k_extra "tb_rel"))
  (k_with "ktr_rel" => ((fail_if_success (with_reducible show wpAny _ _ (exec (Stmt.While _ _ _ _) _) _ _ _)); walk_at "st"))
  (k_with "compareOp NotIn str ref" => (k_here; k_dflt (refine notin_list_strs (News.isList (by k_asm) (by k_mem)) (by assumption) ?_)))
  (k_with "compareOp Eq ref ref" => (k_here; k_dflt (refine' eq_empty ?zzN ?zza ?zzb ?zzd ?zzo ?zzu ?_; (case zzN => k_asm); (case zza => k_mem); (case zzb => k_mem); (case zzd => assumption); (case zzo => assumption); (case zzu => (dsimp +zetaDelta only [ktrTop, Around.deeper, Around.under, Around.in1]; (have hcL9 := cLine_is); omega)))))
  (k_with "subscriptTail Name Slice ref ref" => (k_here; k_dflt (refine' slice15 ?zzF ?zzN ?zzt ?_; (case zzF => k_asm); (case zzN => k_asm); (case zzt => exact News.isTup (by k_asm) (by k_mem))); intro _ _ _ _))
  (k_with "call ref" => (k_here; (with_reducible show wpAny _ _ (call (Value.ref _) _) _ _ _); k_dflt (refine' Spec.c (by k_asm) (by k_asm) (by k_asm) (by k_asm) (by k_asm) (by first | exact rfl | assumption) ?zzh ?zzD ?zzU ?_; (case zzh => walk_at "spec"); (case zzD => ktr_room); (case zzU => ktr_room)); walk_at "i2"))
  (k_with "call ref" => (k_here; (with_reducible show wpAny _ _ (call (Value.ref _) _) _ _ _); k_dflt (refine' Spec.ck (by k_asm) (by k_asm) (by k_asm) (by k_asm) (by k_asm) (by first | exact rfl | assumption) ?zzh ?zzel ?zzD ?zzU ?_; (case zzh => walk_at "spec"); (case zzel => walk_at "el"); (case zzD => ktr_room); (case zzU => ktr_room)); intros; (first | intro zzN | rename News _ _ _ _ => zzN); (try dsimp only at zzN); (revert zzN; intro _); (try dsimp only); (try k_sweep)))
  (k_with "el" => (first | exact RStr.el | exact RInt.el | exact RBool.el | exact NextRet.el | exact RTup0.el | exact RTup.el | exact RNil.el | exact ROne.el | exact RLst.el | exact NamesRet.el | exact ChRet.el | exact SizesRet.el))
  (k_with "spec" => (exact nextF_spec (by k_updF) (by assumption) (by omega) (by k_mem) (by first | decide | ((try simp only [List.size_toArray]); omega))))
  (k_with "fx" => (k_here; k_dflt (refine For_X (by k_asm) ?_)))
  (k_with "callWith" => (first | with_reducible refine PyProof.Rows.callWith_method0 ?_ | ((with_reducible refine' PyProof.Rows.callWith_builtin1 ?_ ?zzcwe ?zzcwp); (case zzcwe => rfl); (case zzcwp => rfl)) | ((with_reducible refine' PyProof.Rows.callWith_method1 ?_ ?zzcwe ?zzcwp); (case zzcwe => rfl); (case zzcwp => rfl))))
  (k_with "subscriptTail Name Constant ref int" => (first | (k_extra "subscriptTail") | (k_here; (with_reducible show wpAny _ _ (subscriptTail _ _ (Value.ref _) (Value.int _ _)) _ _ _); (with_unfolding_all refine' item_litK ?zzk1 ?zzk2 ?zzk3 ?zzk4 ?_ ?zzk6; (case zzk1 => is_list); (case zzk2 => decide); (case zzk3 => decide); (case zzk4 => rfl); (case zzk6 => with_unfolding_all rfl); k_whole))))
  (k_with "subscriptTail Name BinOp ref int" => (k_extra "subscriptTail"))
  (k_with "subscriptTail Name Name ref int" => (k_extra "subscriptTail"))
  (k_with "subscriptTail Name UnaryOp ref int" => (k_extra "subscriptTail"))
  (k_with "joinParts" => (k_here; (with_reducible refine' join_end ?zzjez ?_); (case zzjez => kt_le)))
  trivial
section
theorem inst_exc {h₀ h : Heap} {L x C t : Addr} {news : Led} (N : News h₀ L h news) (h1 : (x, excObj C t none) ∈ news) : InstAt h x (excObj C t none) C none := ⟨(N _ h1).1, rfl, rfl, trivial⟩
theorem w2 : True := by
  (k_with "k_inst" => (refine' inst_exc ?zzN ?zzh1; (case zzN => k_asm); (case zzh1 => k_mem)))
  trivial
theorem xs_meth {w : World} {A : Around} {E : Value → Shared → Prop} {K : Frag} {s : Shared} {h₀ : Heap} {L so x D C t : Addr} {dd : Option Addr} {m : Str → Option Value} {news : Led} {cd : ClassData}
   {nm qn : Str} {Na : Addr} {bs bm : List Value} {hdct : Bool} {sn : List Str} {sub : List Value} {ab : Bool} {col : Option Bool} {dc : Option Addr} {k0 k1 k2 k3 k5 : Option Value}
   {name : Str} {pl : Sem Bool} {Q : Value × List Value → Shared → Prop} (F : Fr h₀ L s.heap m) (X₀ : K.In h₀) (N : News h₀ L s.heap news) (hso : (so, ks_superObj D x C) ∈ news) (hx : (x, excObj C t dd) ∈ news) (XC : XCls bm C)
   (hCo : K.lookup C = some (excClassObj nm qn C Na bs bm hdct sn sub ab col dc k0 k1 k2 k3 k5 "Exception.__new__")) (hc : clsIn K C = some cd) (ho : nsIn K cStatics "thirdparty.any" = some none)
   (hf : alongIn K name ((cd.mro.dropWhile (· != .ref D)).drop 1) = some (some (.builtin "Exception.__init__"))) (hn : (name == ("__class__" : Str)) = false)
   (h : ∀ q h', Fr h₀ L h' m → News h₀ L h' ((q, mwObj x) :: news) → (∀ p ∈ news, p.1 < q) → Q (.ref q, []) { s with heap := h', toks := s.toks + 1 }) :
   wpAny (model PG w) A (getMethod (.ref so) name pl) Q E s := by
  have X := X₀.keeps F.keep
  obtain ⟨hh, g, d, t, os⟩ := s
  have hx' := (N _ hx).1
  have hne : x ≠ C := by
    rintro rfl
    have e := X _ _ hCo
    rw [hx'] at e
    cases e
  refine xs_getMethod_super XC (X _ _ hCo) hx' rfl (N _ hso).1 (looks_opaque X ho) ((looks_clsIn X hc).andThen .now) rfl X hf hne hn ?_
  obtain ⟨F', N', l'⟩ := ks_newsPush (s := ⟨hh, g, d, t, os⟩) (o := mwObj x) F N rfl (Heap.get?_push_at rfl rfl) (fun b o e => Heap.get?_push_of_some _ e)
  exact h _ _ F' N' l'
noncomputable def MwP (q x : Addr) (h : Heap) : Prop := h.get? q = some (mwObj x)
theorem callWith_mw {M : Model} {A : Around} {E : Value → Shared → Prop} {s : Shared} {env : Env} {pos : Pos} {q x : Addr} {e : Expr} {Q : Value → Shared → Prop} {h₀ : Heap} {L : Addr} {news : Led} (_N : News h₀ L s.heap news) (_q : (q, mwObj x) ∈ news)
    (h : wpAny M A (spliced (backTo pos (starEach [e] env))) (fun vs s₁ => MwP q x s₁.heap ∧ wpAny M A (call (.ref q) ([] ++ vs)) Q E s₁) E s)
    (he : starEach [e] env = [(false, eval e env)] := by rfl) :
    wpAny M A (callWith pos (.ref q) [] (backTo pos (starEach [e] env)) []) Q E s := by
  rw [he] at h ⊢
  exact callWith_of (by rfl) (fun hh (X : MwP q x hh) => ⟨.machine, .inr (.inl rfl), (Looks.ld (part := none) X).andThen .now⟩) (PySem.Calls.evalArgs_plain h)
theorem w3 : True := by
  (k_with "callWith ref nil nil" => (k_here; k_dflt (refine' callWith_mw ?zzk1 ?zzk2 ?_; (case zzk1 => k_asm); (case zzk2 => k_mem))))
  (k_with "callWith ref" => (k_here; k_dflt (refine' callWith_mw ?zzk1 ?zzk2 ?_; (case zzk1 => k_asm); (case zzk2 => k_mem))))
  (k_with "And" => (refine And.intro (show MwP _ _ _ from News.get (by k_asm) (by k_mem)) ?_))
  (k_with "MwP" => exact News.get (by k_asm) (by k_mem))
  (k_with "MwP ref" => exact News.get (by k_asm) (by k_mem))
  trivial
theorem xcls112 : XCls [.ref 47, .type "Exception", .type "BaseException", .type "object"] 112 := ⟨by decide +kernel, by decide +kernel, by decide +kernel, by decide +kernel⟩
theorem xref112 (x : Addr) : refuseLoop (.ref x) "__setattr__" [.ref 112, .ref 47, .type "Exception", .type "BaseException", .type "object"] = pure () := by rw [refuseLoop_ref, refuseLoop_ref]; exact PySem.F.store_Exception.passes _
theorem xcls100 : XCls [.ref 76, .ref 47, .type "Exception", .type "BaseException", .type "object"] 100 := ⟨by decide +kernel, by decide +kernel, by decide +kernel, by decide +kernel⟩
theorem xref100 (x : Addr) : refuseLoop (.ref x) "__setattr__" [.ref 100, .ref 76, .ref 47, .type "Exception", .type "BaseException", .type "object"] = pure () := by rw [refuseLoop_ref, refuseLoop_ref, refuseLoop_ref]; exact PySem.F.store_Exception.passes _
theorem w4 : True := by
  (k_with "getMethod ref" => (k_here; k_dflt (refine' xs_meth ?zzk1 ?zzk2 ?zzk3 ?zzk4 ?zzk5 ?zzk6 ?zzk7 ?zzk8 ?zzk9 ?zzka ?zzkb ?_; (case zzk1 => k_asm); (case zzk2 => k_asm); (case zzk3 => k_asm); (case zzk4 => k_mem); (case zzk5 => k_mem); (case zzk6 => first | exact xcls112 | exact xcls100); (case zzk7 => rfl); (case zzk8 => k_is); (case zzk9 => k_is); (case zzka => with_unfolding_all rfl); (case zzkb => decide); intro _ _ _ _ zzl1; (try k_lt zzl1); (revert zzl1; intro _))))
  (k_with "call ref" => (k_here; k_dflt (refine' xs_call ?zzk1 ?zzk2 ?zzk3 ?zzk4 ?zzk5 ?_; (case zzk1 => k_asm); (case zzk2 => k_asm); (case zzk3 => k_mem); (case zzk4 => k_updF); (case zzk5 => exact Frag.In.keeps (by k_asm) (Fr.keep (by k_asm)) _ _ rfl); intro _ _ _ _ zzl1; (try k_lt zzl1); (revert zzl1; intro _))))
  (k_with "setAttr ref" => (k_here; k_dflt (refine' xs_set1 ?zzk1 ?zzk2 ?zzk3 ?zzk4 ?zzk5 ?zzk6 ?zzk7 ?zzk8 ?zzk9 ?zzka ?_; (case zzk1 => k_asm); (case zzk2 => k_asm); (case zzk3 => k_asm); (case zzk4 => k_updF); (case zzk5 => k_is); (case zzk6 => k_is); (case zzk7 => first | with_reducible exact xref112 | with_reducible exact xref100 | exact xref112 | exact xref100); (case zzk8 => decide); (case zzk9 => rfl); (case zzka => k_is); intro _ _ _ _ _ _ zzl1 zzns1; (try k_lt zzl1); (revert zzl1 zzns1; intro _ _))))
  trivial
section
variable {w : World} {loose : List Str} {mean : ExcName → Option Value} {mg mb : Str → Option Value} {news : Led} {x : Str} {t : Tok}
inductive ExcRet (C : Addr) (news news' : Led) : Value → Prop
  | mk (e tt : Addr) (dd : Option Addr) (vs : List Value) (n : Nat) (me : (e, excObj C tt dd) ∈ news') (mt : (tt, tupObj vs n) ∈ news') (sub : ∀ p ∈ news, p ∈ news') (ne1 : ∀ p ∈ news, p.1 ≠ e) (ne2 : ∀ p ∈ news, p.1 ≠ tt) : ExcRet C news news' (.ref e)
theorem limit_spec : Spec w loose mean mg mb 30 200 (.ref 112) [.str x t] news (fun r news' => ExcRet 112 news news' r) None2 := by
  unfold Spec
  k_fill
  intro dp un gd cn cs a ccd cl outer A₀ base h₀ L m s Q E B F X N T hk hR hok hret hexc
  refine call_exc F X N xcls112 (by k_dflt rfl) (by k_dflt k_is) (by k_dflt k_is) (by simp only [sizeLine_eq, List.length_cons, List.length_nil]; omega) ?_
  intro e tt hh1 F0 N0 l1 l2
  replace l2 := ltN l2
  have ne1 : ∀ p ∈ news, p.1 ≠ e := fun p hp => Nat.ne_of_lt (Nat.lt_trans (l1 p hp) l2)
  clear l1
  k_dflt (refine' ks_code_super ?k1 ?k2 ?k3 ?k4 ?k5 ?kA ?kF ?kK ?k6 ?k7 ?k8 ?k9 ?kB ?_ ?c1 ?c2 ?c3 ?c4; (case kA => exact rfl); (case kF => exact rfl); (case kK => first | assumption | exact rfl); (case k1 => k_asm); (case k2 => k_asm); (case k3 => k_asm); (case k4 => k_asm); (case k5 => k_asm); (case k6 => k_is); (case k7 => k_is); (case k8 => ktr_room); (case k9 => exact BindsTo.of_eq rfl); (case kB => exact locs rfl); (case c1 => decide); (case c2 => exact rfl); (case c3 => exact rfl); (case c4 => exact rfl); intro g' L' h' FG' F' N' B' X' T' l1; (try dsimp only))
  repeat' (k_extra "st")
  rename News _ _ _ _ => kN
  refine hret _ _ _ _ (by k_asm) kN ⟨e, _, _, _, _, by k_mem, by k_mem, by k_extra "tb_rel", ne1, ?_⟩
  rename ∀ p ∈ news, p.1 ≠ e => ne1'
  first | assumption | exact allLt_off (by assumption) | (rename _ ∧ _ ∧ _ ∧ _ ∧ AllLt _ _ => la; exact allLt_off la.2.2.2.2) | (rename _ ∧ _ ∧ _ ∧ _ ∧ _ ∧ _ ∧ AllLt _ _ => la; exact allLt_off la.2.2.2.2.2.2)
theorem w5 : True := by
  (k_with "setAttr ref" => (k_here; k_dflt (refine' xs_set2 (ns := [Str.ofString "what"]) ?zzk1 ?zzk2 ?zzk3 ?zzkx ?zzk4 ?zzk5 ?zzk6 ?zzk7 ?zzk8 ?zzk9 ?zzka ?zzkb ?zzkc ?zzkd ?_; (case zzk1 => k_asm); (case zzk2 => k_asm); (case zzk3 => k_asm); (case zzkx => k_mem); (case zzk4 => k_updF); (case zzk5 => k_is); (case zzk6 => k_is); (case zzk7 => first | with_reducible exact xref112 | with_reducible exact xref100 | exact xref112 | exact xref100); (case zzk8 => decide); (case zzk9 => rfl); (case zzka => k_is); (case zzkb => assumption); (case zzkc => exact Within.cons _ _ Within.nil); (case zzkd => decide); intro _ _ _ _ _)))
  (k_with "call ref" => (k_here; k_dflt (refine' call_meth ?zzk1 ?zzk2 ?_; (case zzk1 => k_asm); (case zzk2 => k_mem); (refine' ks_code_super ?zzk1 ?zzk2 ?zzk3 ?zzk4 ?zzk5 ?zzkA ?zzkF ?zzkK ?zzk6 ?zzk7 ?zzk8 ?zzk9 ?zzkB ?_ ?zzc1 ?zzc2 ?zzc3 ?zzc4; (case zzkA => exact rfl); (case zzkF => exact rfl); (case zzkK => first | assumption | exact rfl); (case zzk1 => k_asm); (case zzk2 => k_asm); (case zzk3 => k_asm); (case zzk4 => k_asm); (case zzk5 => k_asm); (case zzk6 => k_is); (case zzk7 => k_is); (case zzk8 => ktr_room); (case zzk9 => exact BindsTo.of_eq rfl); (case zzkB => exact locs rfl); (case zzc1 => decide); (case zzc2 => exact rfl); (case zzc3 => exact rfl); (case zzc4 => exact rfl); intro _ _ _ _ _ _ _ _ _ _; (try dsimp only); refine ks_wpAt_execs_cons ?_; refine ks_wpAt_Expr_any ?_; refine ks_wpAt_MethodCall ?_))))
  trivial
theorem scope_spec {i : Int} {ti : Tok} : Spec w loose mean mg mb 30 200 (.ref 100) [.str x t, .int i ti] news (fun r news' => ExcRet 100 news news' r) None2 := by
  unfold Spec
  k_fill
  intro dp un gd cn cs a ccd cl outer A₀ base h₀ L m s Q E B F X N T hk hR hok hret hexc
  refine call_exc F X N xcls100 (by k_dflt rfl) (by k_dflt k_is) (by k_dflt k_is) (by simp only [sizeLine_eq, List.length_cons, List.length_nil]; omega) ?_
  intro e tt hh1 F0 N0 l1 l2
  replace l2 := ltN l2
  have ne1 : ∀ p ∈ news, p.1 ≠ e := fun p hp => Nat.ne_of_lt (Nat.lt_trans (l1 p hp) l2)
  clear l1
  k_dflt (refine' ks_code_super ?k1 ?k2 ?k3 ?k4 ?k5 ?kA ?kF ?kK ?k6 ?k7 ?k8 ?k9 ?kB ?_ ?c1 ?c2 ?c3 ?c4; (case kA => exact rfl); (case kF => exact rfl); (case kK => first | assumption | exact rfl); (case k1 => k_asm); (case k2 => k_asm); (case k3 => k_asm); (case k4 => k_asm); (case k5 => k_asm); (case k6 => k_is); (case k7 => k_is); (case k8 => ktr_room); (case k9 => exact BindsTo.of_eq rfl); (case kB => exact locs rfl); (case c1 => decide); (case c2 => exact rfl); (case c3 => exact rfl); (case c4 => exact rfl); intro g' L' h' FG' F' N' B' X' T' l1; (try dsimp only))
  walk1
  ks_step "exec Expr"
  refine ks_wpAt_Expr_any ?_
  ks_step "eval Call"
  refine ks_wpAt_MethodCall ?_
  repeat' (k_extra "st")
  rename News _ _ _ _ => kN
  refine hret _ _ _ _ (by k_asm) kN ⟨e, _, _, _, _, by k_mem, by k_mem, by k_extra "tb_rel", ne1, ?_⟩
  rename ∀ p ∈ news, p.1 ≠ e => ne1'
  first | assumption | exact allLt_off (by assumption) | (rename _ ∧ _ ∧ _ ∧ _ ∧ AllLt _ _ => la; exact allLt_off la.2.2.2.2) | (rename _ ∧ _ ∧ _ ∧ _ ∧ _ ∧ _ ∧ AllLt _ _ => la; exact allLt_off la.2.2.2.2.2.2)
end
end
theorem w6 : True := by
  k_with_none
  (k_with "omega" => first | decide | with_reducible (first | exact room2 (by assumption) (by decide) | exact room1 (by assumption) (by decide) | exact le_t (by assumption) (by decide) | assumption | exact Nat.ne_of_lt (by assumption) | exact Nat.ne_of_gt (by assumption)) | (law_clear; lia) | omega +splitDisjunctions)
  (k_with "ktr_room" => ((try dsimp +zetaDelta only [ktrTop, Around.deeper, Around.under, Around.in1]); omega))
  (k_with "ktr_units" => ((have hcL9 := cLine_is); (try dsimp +zetaDelta only [ktrTop, Around.deeper, Around.under, Around.in1, Around.mark]); omega))
  (k_with "k_all" => assumption)
  (k_with "tb_rel" => ((repeat (first | exact sub_refl | refine sub_cons ?_)); done))
  (k_with "st" => ((fail_if_success (with_reducible show CEndV _ _ _)); (fail_if_success (with_reducible show TEndV _ _ _)); (fail_if_success (with_reducible show LoopX _ _ _ _ _ _ _ _ _ _ _)); (fail_if_success (with_reducible show CompX _ _ _ _ _ _ _ _ _ _ _ _ _ _)); (first | ((with_reducible show KEnd _ _ _); refine kuse (by with_reducible assumption) ?_) | ((with_reducible show wpAny _ _ (execs (Stmt.Raise _ _ _ :: _) _) _ _ _); exfalso; (first | omega | (simp only [List.size_toArray, List.length_cons] at *; omega))) | ((with_reducible show wpAny _ _ (execs (_ :: _) _) _ _ _); (try dsimp only); walk1) | ((with_reducible show wpAny _ _ (eval (Expr.BinOp _ _ _ _) _) _ _ _); (try dsimp only); walk1) | (k_unfold; (try dsimp only)) | (k_end; wrow_close) | walk1 | (dsimp only; walk1) | (leave1; walk_say "STEP leave1"; try dsimp only) | fail "no step")))
  (k_with "subscriptTail" => (k_here; (with_reducible show wpAny _ _ (subscriptTail _ _ (Value.ref _) (Value.str _ _)) _ _ _); k_dflt (refine kda_item (knd := PySem.strKind _ _) (by k_asm) (by k_mem) (by assumption) (strKind_is _ _ _ _) (by assumption) ?_)))
  (k_with "call builtin:len" => (k_here; k_dflt (first | refine len_list (News.isList (by k_asm) (by k_mem)) (by walk_at "ln") ?_ | refine PyProof.Rows.len_tuple (News.isTup (by k_asm) (by k_mem)) (by walk_at "ln") ?_)))
  (k_with "ln" => (simp only [List.size_toArray, List.length_cons, List.length_append, List.length_nil, List.length_map]; omega))
  (k_with "subscriptTail" => (k_here; (with_reducible show wpAny _ _ (subscriptTail _ _ (Value.ref _) (Value.int _ _)) _ _ _); k_dflt (refine' item_tupleT ?zzt ?zza ?zzb ?zzc ?zzd ?_; (case zzt => exact News.isTup (by k_asm) (by k_mem)); (case zza => decide); (case zzb => decide); (case zzc => rfl); (case zzd => rfl); k_whole)))
  (k_with "call type:tuple" => (k_here; (with_reducible show wpAny _ _ (call (Value.type _) [Value.ref _]) _ _ _); k_dflt (refine call_tuple_tup (News.isTup (by k_asm) (by k_mem)) ?_)))
  (k_with "k_mem" => first | with_reducible assumption | assumption)
  (k_with "call type:list" => (k_here; (with_reducible show wpAny _ _ (call (Value.type "list") [Value.ref _]) _ _ _); k_dflt (refine' kup_listOf ?zzF ?zzN ?zzb ?zze ?_ ?zzz; (case zzF => k_asm); (case zzN => k_asm); (case zzb => k_mem); (case zze => exact rfl); (case zzz => (simp only [sizeLine_eq]; omega))); intro _ _ _ _ _ _))
  (k_with "WhlIf" => (first | refine WhlIf.no (by assumption) ?_ | refine WhlIf.yes (by assumption) ?_))
  (k_with "ktr_unf" => (refine' code_defC ?zzk1 ?zzk2 ?zzk3 ?zzk4 ?zzk5 ?zzkA ?zzkF ?zzkK ?zzk6 ?zzk7 ?zzk8 ?zzk9 ?zzkB ?zzkD ?_ ?zzc2 ?zzc3 ?zzc4; (case zzkA => exact rfl); (case zzkF => exact rfl); (case zzkK => first | assumption | exact rfl); (case zzk1 => k_asm); (case zzk2 => k_asm); (case zzk3 => k_asm); (case zzk4 => k_asm); (case zzk5 => k_asm); (case zzk6 => k_is); (case zzk7 => k_is); (case zzk8 => ktr_room); (case zzk9 => exact BindsTo.of_eq rfl); (case zzkB => exact rfl); (case zzkD => decide +kernel); (case zzc2 => exact rfl); (case zzc3 => exact rfl); (case zzc4 => exact rfl); k_whole; walk_at "i1"))
  (k_with "eval ListComp" => (k_here; k_dflt (refine ListComp_X (by k_asm) (by rfl) (by decide) (by rfl) (by decide) ?_)))
  (k_with "exec Assign cons ListComp" => (k_here; k_dflt (refine Assign_ListComp_X (by k_asm) (by with_unfolding_all rfl) (by rfl) (by decide) (by rfl) (by decide) (by rfl) (by rfl) ?_)))
  (k_with "exec For Name Name cons nil" => walk_at "fx")
  (k_with "exec For Name Call cons nil" => walk_at "fx")
  (k_with "exec For Name Subscript cons nil" => walk_at "fx")
  (k_with "exec For Name Attribute cons nil" => walk_at "fx")
  (k_with "exec For Name IfExp cons nil" => walk_at "fx")
  (k_with "exec For Tuple Name cons nil" => walk_at "fx")
  (k_with "exec For Tuple Call cons nil" => walk_at "fx")
  (k_with "exec For Tuple Subscript cons nil" => walk_at "fx")
  (k_with "exec For Tuple Attribute cons nil" => walk_at "fx")
  (k_with "compareOp In str ref" => (k_here; k_dflt (first | refine in_no (by k_asm) (by k_mem) (by assumption) (by assumption) (by assumption) ?_ | refine in_yes (by k_asm) (by k_mem) (by assumption) (by assumption) (by assumption) ?_)))
  (k_with "compareOp NotIn str ref" => (k_here; k_dflt (refine notin_no (by k_asm) (by k_mem) (by assumption) (by assumption) (by assumption) ?_)))
  (k_with "setItem ref str" => (k_here; k_dflt (refine' kda_set (knd := PySem.strKind _ _) ?zzF ?zzN ?zzU ?zzd (strKind_is _ _ _ _) ?zzz ?_; (case zzF => k_asm); (case zzN => k_asm); (case zzU => k_updF); (case zzd => assumption); (case zzz => (simp only [sizeLine_eq]; omega))); intro _ _ _ zzN zzhd; (try dsimp only at zzN); (revert zzN zzhd; intro _ _)))
  (k_with "k_ne" => first | assumption | exact Ne.symm (by assumption))
  (k_with "getAttr ref" => (k_here; k_dflt (refine' get_own ?zzk1 ?zzk2 ?zzk3 ?zzk4 ?zzk5 ?zzk6 ?zzk7 ?zzk8 ?zzk9 ?_; (case zzk1 => k_asm); (case zzk2 => k_asm); (case zzk3 => k_inst); (case zzk4 => k_is); (case zzk5 => k_is); (case zzk6 => k_is); (case zzk7 => k_is); (case zzk8 => first | assumption | k_get); (case zzk9 => k_handed); k_whole)))
  (k_with "getMethod ref" => (k_here; k_dflt (refine' method_inst ?zzk1 ?zzk2 ?zzk3 ?zzk4 ?zzk5 ?zzk6 ?zzk7 ?_; (case zzk1 => k_asm); (case zzk2 => k_asm); (case zzk3 => k_inst); (case zzk4 => k_is); (case zzk5 => k_is); (case zzk6 => k_is); (case zzk7 => first | assumption | k_get); k_whole)))
  (k_with "k_ne" => first | with_reducible assumption | with_reducible exact Ne.symm (by assumption) | exact ne_l1 (by assumption) (by k_mem) | exact ne_l2 (by assumption) (by k_mem) | exact ne_o1 (by assumption) (by k_mem) | exact ne_o2 (by assumption) (by k_mem))
  (k_with "k_all" => first | with_reducible assumption | exact off_l1 (by assumption) (by k_extra "tb_rel") | exact off_o1 (by assumption) (by k_extra "tb_rel"))
  (k_with "ktr_rel" => ((fail_if_success (with_reducible show wpAny _ _ (exec (Stmt.While _ _ _ _) _) _ _ _)); walk_at "st"))
  (k_with "compareOp NotIn str ref" => (k_here; k_dflt (refine notin_list_strs (News.isList (by k_asm) (by k_mem)) (by assumption) ?_)))
  (k_with "compareOp Eq ref ref" => (k_here; k_dflt (refine' eq_empty ?zzN ?zza ?zzb ?zzd ?zzo ?zzu ?_; (case zzN => k_asm); (case zza => k_mem); (case zzb => k_mem); (case zzd => assumption); (case zzo => assumption); (case zzu => (dsimp +zetaDelta only [ktrTop, Around.deeper, Around.under, Around.in1]; (have hcL9 := cLine_is); omega)))))
  (k_with "subscriptTail Name Slice ref ref" => (k_here; k_dflt (refine' slice15 ?zzF ?zzN ?zzt ?_; (case zzF => k_asm); (case zzN => k_asm); (case zzt => exact News.isTup (by k_asm) (by k_mem))); intro _ _ _ _))
  (k_with "call ref" => (k_here; (with_reducible show wpAny _ _ (call (Value.ref _) _) _ _ _); k_dflt (refine' Spec.c (by k_asm) (by k_asm) (by k_asm) (by k_asm) (by k_asm) (by first | exact rfl | assumption) ?zzh ?zzD ?zzU ?_; (case zzh => walk_at "spec"); (case zzD => ktr_room); (case zzU => ktr_room)); walk_at "i2"))
  (k_with "call ref" => (k_here; (with_reducible show wpAny _ _ (call (Value.ref _) _) _ _ _); k_dflt (refine' Spec.ck (by k_asm) (by k_asm) (by k_asm) (by k_asm) (by k_asm) (by first | exact rfl | assumption) ?zzh ?zzel ?zzD ?zzU ?_; (case zzh => walk_at "spec"); (case zzel => walk_at "el"); (case zzD => ktr_room); (case zzU => ktr_room)); intros; (first | intro zzN | rename News _ _ _ _ => zzN); (try dsimp only at zzN); (revert zzN; intro _); (try dsimp only); (try k_sweep)))
  (k_with "el" => (first | exact RStr.el | exact RInt.el | exact RBool.el | exact NextRet.el | exact RTup0.el | exact RTup.el | exact RNil.el | exact ROne.el | exact RLst.el | exact NamesRet.el | exact ChRet.el | exact SizesRet.el))
  (k_with "spec" => (exact nextF_spec (by k_updF) (by assumption) (by omega) (by k_mem) (by first | decide | ((try simp only [List.size_toArray]); omega))))
  (k_with "fx" => (k_here; k_dflt (refine For_X (by k_asm) ?_)))
  (k_with "callWith" => (first | with_reducible refine PyProof.Rows.callWith_method0 ?_ | ((with_reducible refine' PyProof.Rows.callWith_builtin1 ?_ ?zzcwe ?zzcwp); (case zzcwe => rfl); (case zzcwp => rfl)) | ((with_reducible refine' PyProof.Rows.callWith_method1 ?_ ?zzcwe ?zzcwp); (case zzcwe => rfl); (case zzcwp => rfl))))
  (k_with "subscriptTail Name Constant ref int" => (first | (k_extra "subscriptTail") | (k_here; (with_reducible show wpAny _ _ (subscriptTail _ _ (Value.ref _) (Value.int _ _)) _ _ _); (with_unfolding_all refine' item_litK ?zzk1 ?zzk2 ?zzk3 ?zzk4 ?_ ?zzk6; (case zzk1 => is_list); (case zzk2 => decide); (case zzk3 => decide); (case zzk4 => rfl); (case zzk6 => with_unfolding_all rfl); k_whole))))
  (k_with "subscriptTail Name BinOp ref int" => (k_extra "subscriptTail"))
  (k_with "subscriptTail Name Name ref int" => (k_extra "subscriptTail"))
  (k_with "subscriptTail Name UnaryOp ref int" => (k_extra "subscriptTail"))
  (k_with "joinParts" => (k_here; (with_reducible refine' join_end ?zzjez ?_); (case zzjez => kt_le)))
  trivial
section
theorem w7 : True := by
  k_with_none
  (k_with "omega" => first | decide | with_reducible (first | exact room2 (by assumption) (by decide) | exact room1 (by assumption) (by decide) | exact le_t (by assumption) (by decide) | assumption | exact Nat.ne_of_lt (by assumption) | exact Nat.ne_of_gt (by assumption)) | (law_clear; lia) | omega +splitDisjunctions)
  (k_with "ktr_room" => ((try dsimp +zetaDelta only [ktrTop, Around.deeper, Around.under, Around.in1]); omega))
  (k_with "ktr_units" => ((have hcL9 := cLine_is); (try dsimp +zetaDelta only [ktrTop, Around.deeper, Around.under, Around.in1, Around.mark]); omega))
  (k_with "k_all" => assumption)
  (k_with "tb_rel" => ((repeat (first | exact sub_refl | refine sub_cons ?_)); done))
  (k_with "st" => ((fail_if_success (with_reducible show CEndV _ _ _)); (fail_if_success (with_reducible show TEndV _ _ _)); (fail_if_success (with_reducible show LoopX _ _ _ _ _ _ _ _ _ _ _)); (fail_if_success (with_reducible show CompX _ _ _ _ _ _ _ _ _ _ _ _ _ _)); (first | ((with_reducible show KEnd _ _ _); refine kuse (by with_reducible assumption) ?_) | ((with_reducible show wpAny _ _ (execs (Stmt.Raise _ _ _ :: _) _) _ _ _); exfalso; (first | omega | (simp only [List.size_toArray, List.length_cons] at *; omega))) | ((with_reducible show wpAny _ _ (execs (_ :: _) _) _ _ _); (try dsimp only); walk1) | ((with_reducible show wpAny _ _ (eval (Expr.BinOp _ _ _ _) _) _ _ _); (try dsimp only); walk1) | (k_unfold; (try dsimp only)) | (k_end; wrow_close) | walk1 | (dsimp only; walk1) | (leave1; walk_say "STEP leave1"; try dsimp only) | fail "no step")))
  (k_with "subscriptTail" => (k_here; (with_reducible show wpAny _ _ (subscriptTail _ _ (Value.ref _) (Value.str _ _)) _ _ _); k_dflt (refine kda_item (knd := PySem.strKind _ _) (by k_asm) (by k_mem) (by assumption) (strKind_is _ _ _ _) (by assumption) ?_)))
  (k_with "call builtin:len" => (k_here; k_dflt (first | refine len_list (News.isList (by k_asm) (by k_mem)) (by walk_at "ln") ?_ | refine PyProof.Rows.len_tuple (News.isTup (by k_asm) (by k_mem)) (by walk_at "ln") ?_)))
  (k_with "ln" => (simp only [List.size_toArray, List.length_cons, List.length_append, List.length_nil, List.length_map]; omega))
  (k_with "subscriptTail" => (k_here; (with_reducible show wpAny _ _ (subscriptTail _ _ (Value.ref _) (Value.int _ _)) _ _ _); k_dflt (refine' item_tupleT ?zzt ?zza ?zzb ?zzc ?zzd ?_; (case zzt => exact News.isTup (by k_asm) (by k_mem)); (case zza => decide); (case zzb => decide); (case zzc => rfl); (case zzd => rfl); k_whole)))
  (k_with "call type:tuple" => (k_here; (with_reducible show wpAny _ _ (call (Value.type _) [Value.ref _]) _ _ _); k_dflt (refine call_tuple_tup (News.isTup (by k_asm) (by k_mem)) ?_)))
  (k_with "k_mem" => first | with_reducible assumption | assumption)
  (k_with "call type:list" => (k_here; (with_reducible show wpAny _ _ (call (Value.type "list") [Value.ref _]) _ _ _); k_dflt (refine' kup_listOf ?zzF ?zzN ?zzb ?zze ?_ ?zzz; (case zzF => k_asm); (case zzN => k_asm); (case zzb => k_mem); (case zze => exact rfl); (case zzz => (simp only [sizeLine_eq]; omega))); intro _ _ _ _ _ _))
  (k_with "WhlIf" => (first | refine WhlIf.no (by assumption) ?_ | refine WhlIf.yes (by assumption) ?_))
  (k_with "ktr_unf" => (refine' code_defC ?zzk1 ?zzk2 ?zzk3 ?zzk4 ?zzk5 ?zzkA ?zzkF ?zzkK ?zzk6 ?zzk7 ?zzk8 ?zzk9 ?zzkB ?zzkD ?_ ?zzc2 ?zzc3 ?zzc4; (case zzkA => exact rfl); (case zzkF => exact rfl); (case zzkK => first | assumption | exact rfl); (case zzk1 => k_asm); (case zzk2 => k_asm); (case zzk3 => k_asm); (case zzk4 => k_asm); (case zzk5 => k_asm); (case zzk6 => k_is); (case zzk7 => k_is); (case zzk8 => ktr_room); (case zzk9 => exact BindsTo.of_eq rfl); (case zzkB => exact rfl); (case zzkD => decide +kernel); (case zzc2 => exact rfl); (case zzc3 => exact rfl); (case zzc4 => exact rfl); k_whole; walk_at "i1"))
  (k_with "eval ListComp" => (k_here; k_dflt (refine ListComp_X (by k_asm) (by rfl) (by decide) (by rfl) (by decide) ?_)))
  (k_with "exec Assign cons ListComp" => (k_here; k_dflt (refine Assign_ListComp_X (by k_asm) (by with_unfolding_all rfl) (by rfl) (by decide) (by rfl) (by decide) (by rfl) (by rfl) ?_)))
  (k_with "exec For Name Name cons nil" => walk_at "fx")
  (k_with "exec For Name Call cons nil" => walk_at "fx")
  (k_with "exec For Name Subscript cons nil" => walk_at "fx")
  (k_with "exec For Name Attribute cons nil" => walk_at "fx")
  (k_with "exec For Name IfExp cons nil" => walk_at "fx")
  (k_with "exec For Tuple Name cons nil" => walk_at "fx")
  (k_with "exec For Tuple Call cons nil" => walk_at "fx")
  (k_with "exec For Tuple Subscript cons nil" => walk_at "fx")
  (k_with "exec For Tuple Attribute cons nil" => walk_at "fx")
  (k_with "compareOp In str ref" => (k_here; k_dflt (first | refine in_no (by k_asm) (by k_mem) (by assumption) (by assumption) (by assumption) ?_ | refine in_yes (by k_asm) (by k_mem) (by assumption) (by assumption) (by assumption) ?_)))
  (k_with "compareOp NotIn str ref" => (k_here; k_dflt (refine notin_no (by k_asm) (by k_mem) (by assumption) (by assumption) (by assumption) ?_)))
  (k_with "setItem ref str" => (k_here; k_dflt (refine' kda_set (knd := PySem.strKind _ _) ?zzF ?zzN ?zzU ?zzd (strKind_is _ _ _ _) ?zzz ?_; (case zzF => k_asm); (case zzN => k_asm); (case zzU => k_updF); (case zzd => assumption); (case zzz => (simp only [sizeLine_eq]; omega))); intro _ _ _ zzN zzhd; (try dsimp only at zzN); (revert zzN zzhd; intro _ _)))
  (k_with "k_ne" => first | assumption | exact Ne.symm (by assumption))
  (k_with "getAttr ref" => (k_here; k_dflt (refine' get_own ?zzk1 ?zzk2 ?zzk3 ?zzk4 ?zzk5 ?zzk6 ?zzk7 ?zzk8 ?zzk9 ?_; (case zzk1 => k_asm); (case zzk2 => k_asm); (case zzk3 => k_inst); (case zzk4 => k_is); (case zzk5 => k_is); (case zzk6 => k_is); (case zzk7 => k_is); (case zzk8 => first | assumption | k_get); (case zzk9 => k_handed); k_whole)))
  (k_with "getMethod ref" => (k_here; k_dflt (refine' method_inst ?zzk1 ?zzk2 ?zzk3 ?zzk4 ?zzk5 ?zzk6 ?zzk7 ?_; (case zzk1 => k_asm); (case zzk2 => k_asm); (case zzk3 => k_inst); (case zzk4 => k_is); (case zzk5 => k_is); (case zzk6 => k_is); (case zzk7 => first | assumption | k_get); k_whole)))
  (k_with "k_ne" => first | with_reducible assumption | with_reducible exact Ne.symm (by assumption) | exact ne_l1 (by assumption) (by k_mem) | exact ne_l2 (by assumption) (by k_mem) | exact ne_o1 (by assumption) (by k_mem) | exact ne_o2 (by assumption) (by k_mem))
  (k_with "k_all" => first | with_reducible assumption | exact off_l1 (by assumption) (by k_extra "tb_rel") | exact off_o1 (by assumption) (by k_extra "tb_rel"))
  (k_with "ktr_rel" => ((fail_if_success (with_reducible show wpAny _ _ (exec (Stmt.While _ _ _ _) _) _ _ _)); walk_at "st"))
  (k_with "compareOp NotIn str ref" => (k_here; k_dflt (refine notin_list_strs (News.isList (by k_asm) (by k_mem)) (by assumption) ?_)))
  (k_with "compareOp Eq ref ref" => (k_here; k_dflt (refine' eq_empty ?zzN ?zza ?zzb ?zzd ?zzo ?zzu ?_; (case zzN => k_asm); (case zza => k_mem); (case zzb => k_mem); (case zzd => assumption); (case zzo => assumption); (case zzu => (dsimp +zetaDelta only [ktrTop, Around.deeper, Around.under, Around.in1]; (have hcL9 := cLine_is); omega)))))
  (k_with "subscriptTail Name Slice ref ref" => (k_here; k_dflt (refine' slice15 ?zzF ?zzN ?zzt ?_; (case zzF => k_asm); (case zzN => k_asm); (case zzt => exact News.isTup (by k_asm) (by k_mem))); intro _ _ _ _))
  (k_with "call ref" => (k_here; (with_reducible show wpAny _ _ (call (Value.ref _) _) _ _ _); k_dflt (refine' Spec.c (by k_asm) (by k_asm) (by k_asm) (by k_asm) (by k_asm) (by first | exact rfl | assumption) ?zzh ?zzD ?zzU ?_; (case zzh => walk_at "spec"); (case zzD => ktr_room); (case zzU => ktr_room)); walk_at "i2"))
  (k_with "call ref" => (k_here; (with_reducible show wpAny _ _ (call (Value.ref _) _) _ _ _); k_dflt (refine' Spec.ck (by k_asm) (by k_asm) (by k_asm) (by k_asm) (by k_asm) (by first | exact rfl | assumption) ?zzh ?zzel ?zzD ?zzU ?_; (case zzh => walk_at "spec"); (case zzel => walk_at "el"); (case zzD => ktr_room); (case zzU => ktr_room)); intros; (first | intro zzN | rename News _ _ _ _ => zzN); (try dsimp only at zzN); (revert zzN; intro _); (try dsimp only); (try k_sweep)))
  (k_with "el" => (first | exact RStr.el | exact RInt.el | exact RBool.el | exact NextRet.el | exact RTup0.el | exact RTup.el | exact RNil.el | exact ROne.el | exact RLst.el | exact NamesRet.el | exact ChRet.el | exact SizesRet.el))
  (k_with "spec" => (exact nextF_spec (by k_updF) (by assumption) (by omega) (by k_mem) (by first | decide | ((try simp only [List.size_toArray]); omega))))
  (k_with "fx" => (k_here; k_dflt (refine For_X (by k_asm) ?_)))
  (k_with "callWith" => (first | with_reducible refine PyProof.Rows.callWith_method0 ?_ | ((with_reducible refine' PyProof.Rows.callWith_builtin1 ?_ ?zzcwe ?zzcwp); (case zzcwe => rfl); (case zzcwp => rfl)) | ((with_reducible refine' PyProof.Rows.callWith_method1 ?_ ?zzcwe ?zzcwp); (case zzcwe => rfl); (case zzcwp => rfl))))
  (k_with "subscriptTail Name Constant ref int" => (first | (k_extra "subscriptTail") | (k_here; (with_reducible show wpAny _ _ (subscriptTail _ _ (Value.ref _) (Value.int _ _)) _ _ _); (with_unfolding_all refine' item_litK ?zzk1 ?zzk2 ?zzk3 ?zzk4 ?_ ?zzk6; (case zzk1 => is_list); (case zzk2 => decide); (case zzk3 => decide); (case zzk4 => rfl); (case zzk6 => with_unfolding_all rfl); k_whole))))
  (k_with "subscriptTail Name BinOp ref int" => (k_extra "subscriptTail"))
  (k_with "subscriptTail Name Name ref int" => (k_extra "subscriptTail"))
  (k_with "subscriptTail Name UnaryOp ref int" => (k_extra "subscriptTail"))
  (k_with "joinParts" => (k_here; (with_reducible refine' join_end ?zzjez ?_); (case zzjez => kt_le)))
  trivial
theorem strs_names {nw : Led} {vs : List Value} {its : List Item} (h : DatAll nw vs (its.map fun i => Dat.str i.name)) : StrsAre vs (its.map Item.name) := strs_of (nw := nw) (by rw [List.map_map]; exact h)
inductive NamesRet (its : List Item) (news : Led) : Value → Led → Prop
  | mk (D : Addr) (c : Nat) (vs : List Value) (d : DatAll news vs (its.map fun i => Dat.str i.name)) (l : ∀ p ∈ news, p.1 < D) (hs : StrsAre vs (its.map Item.name)) : NamesRet its news (.ref D) ((D, listOf vs.toArray c) :: news)
theorem NamesRet.el {its : List Item} {nw : Led} : ∀ K : Value → Led → Prop, (∀ D c vs, DatAll nw vs (its.map fun i => Dat.str i.name) → (∀ p ∈ nw, p.1 < D) → StrsAre vs (its.map Item.name) → K (.ref D) ((D, listOf vs.toArray c) :: nw)) → ∀ r n, NamesRet its nw r n → K r n := fun _ k _ _ h => by cases h; exact k _ _ _ (by assumption) (by assumption) (by assumption)
section
variable {w : World} {loose : List Str} {mean : ExcName → Option Value} {mg mb : Str → Option Value} {news : Led} {x : Addr} {its : List Item} {op : List Dat} {t : Tok} {i : Item} {nm : Str}
theorem parent_spec (hS : Sg w x its news) (hi : i ∈ its) (hn : nm = i.name) : Spec w loose mean mg mb 5 40 (.ref 338) [.ref x, .str nm t] news (RStr i.parent news) None2 := by
  unfold Spec
  k_fill
  intro dp un gd cn cs a ccd cl outer A₀ base h₀ L m s Q E B F X N T hk hR hok hret hexc
  cases hS with | mk a1 a2 g0 g1 g2 g3 g4 a3 a4 a5 a6 =>
  obtain ⟨v, hv, hd⟩ := a6.get hi
  subst hn
  cases item_open hd with | mk m1 m2 m6 m7 m8 =>
  refine wpAny_call ?_
  k_dflt ktr_enter
  rename Fr _ _ _ _ => F1
  replace F1 : Fr _ _ _ (fun y => List.lookup y [(Str.ofString "name", Value.str i.name t), (Str.ofString "self", Value.ref x)]) := F1
  refine opq (by passes_own) ?_
  intro A9 R9 E9 kR9 kE9 pE9
  repeat' (k_extra "st")
  exact hret _ _ _ _ (by k_asm) (by k_asm) ⟨_⟩
theorem is_abstract_spec (hS : Sigs w x its op news) (hi : i ∈ its) (hn : nm = i.name) : Spec w loose mean mg mb 5 40 (.ref 385) [.ref x, .str nm t] news (RBool i.abs news) None2 := by
  unfold Spec
  k_fill
  intro dp un gd cn cs a ccd cl outer A₀ base h₀ L m s Q E B F X N T hk hR hok hret hexc
  cases hS with | mk a1 a2 a3 a4 a5 a6 a7 a8 a9 b1 b2 b3 b4 =>
  obtain ⟨v, hv, hd⟩ := a6.get hi
  subst hn
  cases item_open hd with | mk m1 m2 m6 m7 m8 =>
  refine wpAny_call ?_
  k_dflt ktr_enter
  rename Fr _ _ _ _ => F1
  replace F1 : Fr _ _ _ (fun y => List.lookup y [(Str.ofString "name", Value.str i.name t), (Str.ofString "self", Value.ref x)]) := F1
  refine opq (by passes_own) ?_
  intro A9 R9 E9 kR9 kE9 pE9
  repeat' (k_extra "st")
  exact hret _ _ _ _ (by k_asm) (by k_asm) .mk
theorem mult_spec (hS : Sigs w x its op news) (hi : i ∈ its) (hn : nm = i.name) : Spec w loose mean mg mb 5 40 (.ref 392) [.ref x, .str nm t] news (RStr i.mult news) None2 := by
  unfold Spec
  k_fill
  intro dp un gd cn cs a ccd cl outer A₀ base h₀ L m s Q E B F X N T hk hR hok hret hexc
  cases hS with | mk a1 a2 a3 a4 a5 a6 a7 a8 a9 b1 b2 b3 b4 =>
  obtain ⟨v, hv, hd⟩ := a6.get hi
  subst hn
  cases item_open hd with | mk m1 m2 m6 m7 m8 =>
  refine wpAny_call ?_
  k_dflt ktr_enter
  rename Fr _ _ _ _ => F1
  replace F1 : Fr _ _ _ (fun y => List.lookup y [(Str.ofString "name", Value.str i.name t), (Str.ofString "self", Value.ref x)]) := F1
  refine opq (by passes_own) ?_
  intro A9 R9 E9 kR9 kE9 pE9
  repeat' (k_extra "st")
  exact hret _ _ _ _ (by k_asm) (by k_asm) ⟨_⟩
theorem is_subset_spec (hS : Sg w x its news) (hi : i ∈ its) (hn : nm = i.name) : Spec w loose mean mg mb 5 40 (.ref 352) [.ref x, .str nm t] news (RBool false news) None2 := by
  unfold Spec
  k_fill
  intro dp un gd cn cs a ccd cl outer A₀ base h₀ L m s Q E B F X N T hk hR hok hret hexc
  cases hS with | mk a1 a2 g0 g1 g2 g3 g4 a3 a4 a5 a6 =>
  obtain ⟨v, hv, hd⟩ := a6.get hi
  subst hn
  cases item_open hd with | mk m1 m2 m6 m7 m8 =>
  refine wpAny_call ?_
  k_dflt ktr_enter
  rename Fr _ _ _ _ => F1
  replace F1 : Fr _ _ _ (fun y => List.lookup y [(Str.ofString "name", Value.str i.name t), (Str.ofString "self", Value.ref x)]) := F1
  refine opq (by passes_own) ?_
  intro A9 R9 E9 kR9 kE9 pE9
  repeat' (k_extra "st")
  exact hret _ _ _ _ (by k_asm) (by k_asm) .mk
theorem supers_spec (hS : Sg w x its news) (hi : i ∈ its) (hn : nm = i.name) : Spec w loose mean mg mb 5 40 (.ref 345) [.ref x, .str nm t] news (RTup0 news) None2 := by
  unfold Spec
  k_fill
  intro dp un gd cn cs a ccd cl outer A₀ base h₀ L m s Q E B F X N T hk hR hok hret hexc
  cases hS with | mk a1 a2 g0 g1 g2 g3 g4 a3 a4 a5 a6 =>
  obtain ⟨v, hv, hd⟩ := a6.get hi
  subst hn
  cases item_open hd with | mk m1 m2 m6 m7 m8 =>
  refine wpAny_call ?_
  k_dflt ktr_enter
  rename Fr _ _ _ _ => F1
  replace F1 : Fr _ _ _ (fun y => List.lookup y [(Str.ofString "name", Value.str i.name t), (Str.ofString "self", Value.ref x)]) := F1
  refine opq (by passes_own) ?_
  intro A9 R9 E9 kR9 kE9 pE9
  repeat' (k_extra "st")
  exact hret _ _ _ _ (by k_asm) (by k_asm) ⟨_, _, m6⟩
theorem names_spec (hS : Sigs w x its op news) (hl : its.length ≤ 1000) : Spec w loose mean mg mb 5 40 (.ref 317) [.ref x] news (NamesRet its news) None2 := by
  unfold Spec
  k_fill
  intro dp un gd cn cs a ccd cl outer A₀ base h₀ L m s Q E B F X N T hk hR hok hret hexc
  cases hS with | mk a1 a2 a3 a4 a5 a6 a7 a8 a9 b1 b2 b3 b4 =>
  have hb := b3.length
  simp only [List.length_map] at hb
  refine wpAny_call ?_
  k_dflt ktr_enter
  rename Fr _ _ _ _ => F1
  replace F1 : Fr _ _ _ (fun y => List.lookup y [(Str.ofString "self", Value.ref x)]) := F1
  refine opq (by passes_own) ?_
  intro A9 R9 E9 kR9 kE9 pE9
  repeat' (k_extra "st")
  exact hret _ _ _ _ (by k_asm) (by k_asm) ⟨_, _, _, b3, by assumption, strs_names b3⟩
end
end
section
section
variable {w : World} {loose : List Str} {mean : ExcName → Option Value} {mg mb : Str → Option Value} {news : Led} {x : Addr} {its : List Item} {op : List Dat} {t : Tok} {i j : Item} {nm : Str}
theorem w8 : True := by
  (k_with "spec" => (refine' parent_spec (Sg.mono ?zzs0 ?zzsub) ?zzhi ?zzhn; (case zzs0 => first | assumption | exact Sigs.sg (by assumption)); (case zzsub => k_extra "tb_rel"); (case zzhn => first | assumption | exact rfl); (case zzhi => assumption)))
  (k_with "spec" => (refine' supers_spec (Sg.mono ?zzs0 ?zzsub) ?zzhi ?zzhn; (case zzs0 => first | assumption | exact Sigs.sg (by assumption)); (case zzsub => k_extra "tb_rel"); (case zzhn => first | assumption | exact rfl); (case zzhi => assumption)))
  (k_with "spec" => (refine' is_subset_spec (Sg.mono ?zzs0 ?zzsub) ?zzhi ?zzhn; (case zzs0 => first | assumption | exact Sigs.sg (by assumption)); (case zzsub => k_extra "tb_rel"); (case zzhn => first | assumption | exact rfl); (case zzhi => assumption)))
  trivial
/-- what stands directly above: its parent, if it has one -/
theorem direct_spec (hS : Sg w x its news) (hi : i ∈ its) (hn : nm = i.name) : Spec w loose mean mg mb 10 60 (.ref 286) [.ref x, .str nm t] news (RTup (if i.parent = S "" then [] else [.str i.parent]) news) None2 := by
  unfold Spec
  k_fill
  intro dp un gd cn cs a ccd cl outer A₀ base h₀ L m s Q E B F X N T hk hR hok hret hexc
  subst hn
  have hS0 := hS
  cases hS0 with | mk a1 a2 g0 g1 g2 g3 g4 a3 a4 a5 a6 =>
  refine wpAny_call ?_
  k_dflt ktr_enter
  rename Fr _ _ _ _ => F1
  replace F1 : Fr _ _ _ (fun y => List.lookup y [(Str.ofString "name", Value.str i.name t), (Str.ofString "self", Value.ref x)]) := F1
  refine opq (by passes_own) ?_
  intro A9 R9 E9 kR9 kE9 pE9
  repeat' (k_extra "st")
  · rename ((_ != _) = true) => hne
    have hne' : i.parent ≠ S "" := by simpa using hne
    refine hret _ _ _ _ (by k_asm) (by k_asm) ⟨_, _, _, ?_⟩
    rw [if_neg hne']; exact .cons (.str _ _) .nil
  · rename ((_ != _) = false) => hne
    have hne' : i.parent = S "" := by simpa using hne
    rename News _ _ _ _ => kN
    rename ((_ : Addr × Obj) ∈ _) => hm
    have N2 := ntake kN (sub_mk hm (sub_cons sub_refl))
    refine hret _ _ _ _ (by k_asm) N2 ⟨_, _, _, ?_⟩
    rw [if_pos hne']; exact .nil
theorem above0_spec (hS : Sigs w x its op news) (hi : i ∈ its) (hn : nm = i.name) (hp : i.parent = S "") : Spec w loose mean mg mb 10 60 (.ref 364) [.ref x, .str nm t] news (RNil news) None2 := by
  unfold Spec
  k_fill
  intro dp un gd cn cs a ccd cl outer A₀ base h₀ L m s Q E B F X N T hk hR hok hret hexc
  subst hn
  have hp' : (i.parent != Str.ofString "") = false := by simpa using hp
  have hS0 := hS
  cases hS0 with | mk a1 a2 a3 a4 a5 a6 a7 a8 a9 b1 b2 b3 b4 =>
  refine wpAny_call ?_
  k_dflt ktr_enter
  rename Fr _ _ _ _ => F1
  replace F1 : Fr _ _ _ (fun y => List.lookup y [(Str.ofString "name", Value.str i.name t), (Str.ofString "self", Value.ref x)]) := F1
  refine opq (by passes_own) ?_
  intro A9 R9 E9 kR9 kE9 pE9
  repeat' (k_extra "st")
  exact hret _ _ _ _ (by k_asm) (by k_asm) ⟨_, _, by assumption⟩
theorem above1_spec (hS : Sigs w x its op news) (hi : i ∈ its) (hn : nm = i.name) (hj : j ∈ its) (hij : i.parent = j.name) (hp : j.parent = S "") (hne : i.parent ≠ S "") : Spec w loose mean mg mb 10 60 (.ref 364) [.ref x, .str nm t] news (ROne i.parent news) None2 := by
  unfold Spec
  k_fill
  intro dp un gd cn cs a ccd cl outer A₀ base h₀ L m s Q E B F X N T hk hR hok hret hexc
  subst hn
  have hp' : (j.parent != Str.ofString "") = false := by simpa using hp
  have hq' : (i.parent != Str.ofString "") = true := by simpa using hne
  have hS0 := hS
  cases hS0 with | mk a1 a2 a3 a4 a5 a6 a7 a8 a9 b1 b2 b3 b4 =>
  refine wpAny_call ?_
  k_dflt ktr_enter
  rename Fr _ _ _ _ => F1
  replace F1 : Fr _ _ _ (fun y => List.lookup y [(Str.ofString "name", Value.str i.name t), (Str.ofString "self", Value.ref x)]) := F1
  refine opq (by passes_own) ?_
  intro A9 R9 E9 kR9 kE9 pE9
  repeat' (k_extra "st")
  exact hret _ _ _ _ (by k_asm) (by k_asm) ⟨_, _, _, by assumption⟩
end
end
section
section
variable {w : World} {loose : List Str} {mean : ExcName → Option Value} {mg mb : Str → Option Value} {news : Led} {x : Addr} {its : List Item} {op : List Dat} {t : Tok} {i j : Item} {nm : Str}
theorem w9 : True := by
  (k_with "spec" => (refine' parent_spec (Sg.mono ?zzs0 ?zzsub) ?zzhi ?zzhn; (case zzs0 => first | assumption | exact Sigs.sg (by assumption)); (case zzsub => k_extra "tb_rel"); (case zzhn => first | assumption | exact rfl); (case zzhi => assumption)))
  (k_with "spec" => (refine' is_subset_spec (Sg.mono ?zzs0 ?zzsub) ?zzhi ?zzhn; (case zzs0 => first | assumption | exact Sigs.sg (by assumption)); (case zzsub => k_extra "tb_rel"); (case zzhn => first | assumption | exact rfl); (case zzhi => assumption)))
  (k_with "spec" => (exact above1_spec (Sigs.mono (by assumption) (by k_extra "tb_rel")) (by assumption) rfl (by assumption) (by assumption) (by assumption) (by assumption)))
  (k_with "spec" => (exact above0_spec (Sigs.mono (by assumption) (by k_extra "tb_rel")) (by assumption) rfl (by assumption)))
  trivial
theorem top_spec (hS : Sigs w x its op news) (hi : i ∈ its) (hn : nm = i.name) (hp : i.parent = S "" ∨ (i.parent ≠ S "" ∧ ∃ j ∈ its, i.parent = j.name ∧ j.parent = S "")) : Spec w loose mean mg mb 15 80 (.ref 371) [.ref x, .str nm t] news (RStr i.top news) None2 := by
  unfold Spec
  k_fill
  intro dp un gd cn cs a ccd cl outer A₀ base h₀ L m s Q E B F X N T hk hR hok hret hexc
  subst hn
  have hS0 := hS
  cases hS0 with | mk a1 a2 a3 a4 a5 a6 a7 a8 a9 b1 b2 b3 b4 =>
  rcases hp with hp | ⟨hne, j, hj, hij, hjp⟩
  · refine wpAny_call ?_
    k_dflt ktr_enter
    rename Fr _ _ _ _ => F1
    replace F1 : Fr _ _ _ (fun y => List.lookup y [(Str.ofString "name", Value.str i.name t), (Str.ofString "self", Value.ref x)]) := F1
    refine opq (by passes_own) ?_
    intro A9 R9 E9 kR9 kE9 pE9
    repeat' (k_extra "st")
    rename News _ _ _ _ => kN
    exact hret _ news _ _ (by k_asm) (ntake kN (by k_extra "tb_rel")) (by rw [show i.top = i.name from by unfold Item.top; rw [if_pos hp]]; exact ⟨_⟩)
  · refine wpAny_call ?_
    k_dflt ktr_enter
    rename Fr _ _ _ _ => F1
    replace F1 : Fr _ _ _ (fun y => List.lookup y [(Str.ofString "name", Value.str i.name t), (Str.ofString "self", Value.ref x)]) := F1
    refine opq (by passes_own) ?_
    intro A9 R9 E9 kR9 kE9 pE9
    repeat' (k_extra "st")
    rename News _ _ _ _ => kN
    exact hret _ news _ _ (by k_asm) (ntake kN (by k_extra "tb_rel")) (by rw [show i.top = i.parent from by unfold Item.top; rw [if_neg hne]]; exact ⟨_⟩)
end
end
section
noncomputable def chs (its : List Item) (nm : Str) : List Item := its.filter fun i => i.parent = nm
theorem chs_le {its : List Item} {nm : Str} {vs : List Value} (h : StrsAre vs ((chs its nm).map Item.name)) : vs.length ≤ its.length := by
  have := h.length
  rw [List.length_map] at this
  rw [this]
  exact List.length_filter_le _ _
theorem strs_chs {nw : Led} {its : List Item} {nm : Str} {vs : List Value} (h : DatAll nw vs ((its.filter fun i => i.parent = nm).map fun i => Dat.str i.name)) : StrsAre vs ((chs its nm).map Item.name) := strs_names h
inductive ChRet (its : List Item) (nm : Str) (news : Led) : Value → Led → Prop
  | mk (D : Addr) (c : Nat) (vs : List Value) (d : DatAll news vs ((its.filter fun i => i.parent = nm).map fun i => Dat.str i.name)) (l : ∀ p ∈ news, p.1 ≠ D) (hs : StrsAre vs ((chs its nm).map Item.name)) (hv : vs.length ≤ its.length) : ChRet its nm news (.ref D) ((D, listOf vs.toArray c) :: news)
theorem ChRet.el {its : List Item} {nm : Str} {nw : Led} : ∀ K : Value → Led → Prop, (∀ D c vs, DatAll nw vs ((its.filter fun i => i.parent = nm).map fun i => Dat.str i.name) → (∀ p ∈ nw, p.1 ≠ D) → StrsAre vs ((chs its nm).map Item.name) → vs.length ≤ its.length → K (.ref D) ((D, listOf vs.toArray c) :: nw)) → ∀ r n, ChRet its nm nw r n → K r n := fun _ k _ _ h => by cases h; exact k _ _ _ (by assumption) (by assumption) (by assumption) (by assumption)
section
variable {w : World} {loose : List Str} {mean : ExcName → Option Value} {mg mb : Str → Option Value} {news : Led} {x : Addr} {its : List Item} {op : List Dat} {t : Tok} {i j : Item} {nm : Str}
theorem w10 : True := by
  (k_with "spec" => (refine' parent_spec (Sg.mono ?zzs0 ?zzsub) ?zzhi ?zzhn; (case zzs0 => first | assumption | exact Sigs.sg (by assumption)); (case zzsub => k_extra "tb_rel"); (case zzhn => first | assumption | exact rfl); (case zzhi => assumption)))
  trivial
theorem children_spec (hS : Sigs w x its op news) (hl : its.length ≤ 1000) : Spec w loose mean mg mb 15 80 (.ref 357) [.ref x, .str nm t] news (ChRet its nm news) None2 := by
  unfold Spec
  k_fill
  intro dp un gd cn cs a ccd cl outer A₀ base h₀ L m s Q E B F X N T hk hR hok hret hexc
  have hS0 := hS
  cases hS0 with | @mk dx e st opn od ofd oe nd h1 t1 h2 t2 h3 t3 h4 t4 h5 t5 kvs vst nst vop nop vod nod nof a1 a2 a3 a4 a5 a6 a7 a8 a9 b1 b2 b3 b4 =>
  refine wpAny_call ?_
  k_dflt ktr_unf
  refine opq (by passes_own) ?_
  intro A9 R9 E9 kR9 kE9 pE9
  repeat' (k_extra "st")
  rename News _ _ _ _ => N1
  rename Fr _ _ _ _ => F1
  have hlen : vst.length = its.length := by have := a8.length; simpa using this
  refine ⟨_, _, _, fun i ys nx => nx = _ ∧ DatAll news ys (((its.take i).filter fun i => i.parent = nm).map fun i => Dat.str i.name), _, _, src_list rfl N1 (sub_cons (sub_cons sub_refl) _ a7), (by simp only [sizeLine_eq]; omega), F1, N1, ?_, ⟨rfl, .nil⟩, ?_, ?_⟩
  · rintro i ys nx ⟨rfl, -⟩; exact (sub_cons (sub_cons sub_refl) _ a7)
  · rintro i v ys nx I oI C oC D m₂ h tk E' R kR hi hv ⟨rfl, hys⟩ hyl hC off F2 N2
    refine assignC (by rfl) (by rfl) off hC F2 N2 fun h' oC' tk' hC' F3 N3 => ?_
    clear F2 N2 hC
    refine wpAny_tests_one ?_
    have hx' : (fun y => if y = Str.ofString "other" then some v else m₂ y) (Str.ofString "other") = some v := by simp
    generalize (fun y => if y = Str.ofString "other" then some v else m₂ y) = m₃ at hC' hx'
    have hil : i < its.length := by omega
    have hd' := datAt a8 hv (by simpa using hil)
    simp only [List.getElem_map] at hd'
    obtain ⟨t', rfl⟩ := dat_str hd'
    have hmem : its[i] ∈ its := List.getElem_mem hil
    repeat' (k_extra "st")
    · rename ((_ == _) = true) => hq
      refine CEnd.intro kR (nx := _ :: _ :: news) (by k_asm) (by k_asm) sub_refl hC' off.off ⟨rfl, ?_⟩
      rw [take_filter _ _ hil, if_pos (by simpa using hq)]
      exact hys.append (.one (.str _ _))
    · rename ((_ == _) = false) => hq
      refine CEnd.intro kR (nx := _ :: _ :: news) (by k_asm) (by k_asm) sub_refl hC' off.off ⟨rfl, ?_⟩
      rw [take_filter _ _ hil, if_neg (by simpa using hq), List.append_nil]
      exact hys
  · rintro ys nx ⟨rfl, hys⟩ hyl
    intro D h tk F2 N2 o2
    repeat' (k_extra "st")
    rename News _ _ _ _ => kN
    rw [hlen, List.take_length] at hys
    exact hret _ _ _ _ (by k_asm) (ntake kN (sub_mk (.head _) (sub_cons (sub_cons (sub_cons sub_refl))))) ⟨_, _, _, hys, fun p hp => o2 p (.tail _ (.tail _ hp)), strs_chs hys, chs_le (strs_chs hys)⟩
end
end
section
section
variable {w : World} {loose : List Str} {mean : ExcName → Option Value} {mg mb : Str → Option Value} {rest : Led} {x dx e st opn it : Addr} {oe : Obj} {its : List Item} {op : List Dat} {t : Tok} {i j : Item} {nm : Str} {kvs : List (Str × Value)} {vst : List Value} {nst nd : Nat}
  {h1 : Int} {t1 : Tok} {h2 : Int} {t2 : Tok} {h3 : Int} {t3 : Tok}
theorem take_sig_spec (hes : e ≠ st) (hre : ∀ p ∈ rest, p.1 ≠ e) (hrs : ∀ p ∈ rest, p.1 ≠ st) (a1 : (x, instObj 416 dx) ∈ rest)
    (a2 : (dx, dictOf [⟨h1, .str (S "entries") t1, .ref e⟩, ⟨h2, .str (S "stands") t2, .ref st⟩, ⟨h3, .str (S "opened") t3, .ref opn⟩] nd) ∈ rest)
    (a4 : (e == sysModules) = false) (a5 : oe.IsDictOf (PySem.strKind PySem.Challenge.rw_nz0394_01.row.prog w) kvs) (hi : ItemAt rest i (.ref it)) (hn : valueAt kvs i.name = none) (hl : kvs.length ≤ 1000) (hv : vst.length ≤ 1000) :
    Spec w loose mean mg mb 15 80 (.ref 272) [.ref x, .ref it] ((e, oe) :: (st, listOf vst.toArray nst) :: rest)
      (fun r news' => ∃ oe' t n, r = .none ∧ news' = (e, oe') :: (st, listOf (vst ++ [Value.str i.name t]).toArray n) :: rest ∧ oe'.IsDictOf (PySem.strKind PySem.Challenge.rw_nz0394_01.row.prog w) (kvs ++ [(i.name, .ref it)])) None2 := by
  unfold Spec
  k_fill
  intro dp un gd cn cs a ccd cl outer A₀ base h₀ L m s Q E B F X N T hk hR hok hret hexc
  cases hi with | mk m1 m2 m6 m7 m8 =>
  refine wpAny_call ?_
  k_dflt ktr_enter
  rename Fr _ _ _ _ => F1
  replace F1 : Fr _ _ _ (fun y => List.lookup y [(Str.ofString "item", Value.ref it), (Str.ofString "self", Value.ref x)]) := F1
  refine opq (by passes_own) ?_
  intro A9 R9 E9 kR9 kE9 pE9
  repeat' (k_extra "st")
  rename News _ _ _ _ => N1
  rename Fr _ _ _ _ => F1
  refine ⟨_, _, _, fun k m nx => Kn m [(S "self", .ref x), (S "item", .ref it)] ∧ ((k = 0 ∧ nx = (e, oe) :: (st, listOf vst.toArray nst) :: rest) ∨ (k = 1 ∧ ∃ oe' t n, nx = (e, oe') :: (st, listOf (vst ++ [Value.str i.name t]).toArray n) :: rest ∧ oe'.IsDictOf (PySem.strKind PySem.Challenge.rw_nz0394_01.row.prog w) (kvs ++ [(i.name, .ref it)]))),
    _, _, src_tup rfl N1 (.tail _ (.tail _ m2)), F1, N1, ?_, ⟨⟨rfl, rfl, trivial⟩, .inl ⟨rfl, rfl⟩⟩, ?_, ?_⟩
  · rintro k m nx ⟨-, ⟨-, rfl⟩ | ⟨-, oe', t', n', rfl, -⟩⟩ <;> exact .tail _ (.tail _ m2)
  · rintro k v m₁ nx h tk I oI R kR hk hv ⟨hm, hJ⟩ off F2 N2
    have hk0 : k = 0 := by simpa using hk
    subst hk0
    have hJ' : nx = (e, oe) :: (st, listOf vst.toArray nst) :: rest := by
      rcases hJ with ⟨-, q⟩ | ⟨q, -⟩
      · exact q
      · cases q
    clear hJ
    subst hJ'
    have q1 : e ≠ I := off_head off
    have q2 : st ≠ I := off_head (off_tail off)
    have q3 := off_tail (off_tail off)
    simp only [List.getElem?_cons_zero, Option.some.injEq] at hv
    subst hv
    replace F2 := frov F2 hm
    repeat' (k_extra "st")
    rename News _ _ _ _ => N3
    rename Obj.IsDictOf _ _ _ => hd'
    rw [valueAt_none_stored hn] at hd'
    simp only [List.push_toArray] at N3
    exact tend kR (by k_asm) N3 sub_refl (off_cons q1 (off_cons q2 q3)) ⟨⟨rfl, rfl, trivial⟩, .inr ⟨by simp, _, _, _, rfl, hd'⟩⟩
  · rintro m₁ nx h tk ⟨hm, hJ⟩ F2 N2
    rcases hJ with ⟨h, -⟩ | ⟨-, oe', t', n', rfl, hd'⟩
    · cases h
    replace F2 := frov F2 hm
    repeat' (k_extra "st")
    exact hret _ _ _ _ (by k_asm) (by k_asm) ⟨_, _, _, rfl, rfl, hd'⟩
end
end
section
section
variable {w : World} {loose : List Str} {mean : ExcName → Option Value} {mg mb : Str → Option Value} {news : Led} {x : Addr} {its : List Item} {op : List Dat} {t : Tok} {i j : Item} {nm : Str}
theorem w11 : True := by
  (k_with "spec" => (refine' parent_spec (Sg.mono ?zzs0 ?zzsub) ?zzhi ?zzhn; (case zzs0 => first | assumption | exact Sigs.sg (by assumption)); (case zzsub => k_extra "tb_rel"); (case zzhn => first | assumption | exact rfl); (case zzhi => assumption)))
  (k_with "spec" => (refine' is_subset_spec (Sg.mono ?zzs0 ?zzsub) ?zzhi ?zzhn; (case zzs0 => first | assumption | exact Sigs.sg (by assumption)); (case zzsub => k_extra "tb_rel"); (case zzhn => first | assumption | exact rfl); (case zzhi => assumption)))
  (k_with "spec" => (refine' direct_spec (Sg.mono ?zzs0 ?zzsub) ?zzhi ?zzhn; (case zzs0 => first | assumption | exact Sigs.sg (by assumption)); (case zzsub => k_extra "tb_rel"); (case zzhn => first | assumption | exact rfl); (case zzhi => assumption)))
  trivial
theorem look_above_spec (hS : Sg w x its news) (hi : i ∈ its) (hn : nm = i.name) (hp : i.parent = S "" ∨ (i.parent ≠ S "" ∧ ∃ j ∈ its, i.parent = j.name)) : Spec w loose mean mg mb 20 100 (.ref 279) [.ref x, .str nm t] news (fun r news' => r = .none ∧ news' = news) None2 := by
  unfold Spec
  k_fill
  intro dp un gd cn cs a ccd cl outer A₀ base h₀ L m s Q E B F X N T hk hR hok hret hexc
  subst hn
  have hS0 := hS
  cases hS0 with | @mk dx e oe es nd kvs a1 a2 g0 g1 g2 g3 g4 a3 a4 a5 a6 =>
  refine wpAny_call ?_
  k_dflt ktr_enter
  rename Fr _ _ _ _ => F1
  replace F1 : Fr _ _ _ (fun y => List.lookup y [(Str.ofString "name", Value.str i.name t), (Str.ofString "self", Value.ref x)]) := F1
  refine opq (by passes_own) ?_
  intro A9 R9 E9 kR9 kE9 pE9
  repeat' (k_extra "st")
  rename DatAll _ _ _ => hd
  rename News _ _ _ _ => N1
  rename Fr _ _ _ _ => F1
  refine ⟨_, _, _, fun k m nx => Kn m [(S "self", .ref x), (S "name", .str i.name t)] ∧ nx = _, _, _, src_tup rfl N1 (.head _), F1, N1, ?_, ⟨⟨rfl, rfl, trivial⟩, rfl⟩, ?_, ?_⟩
  · rintro k m nx ⟨-, rfl⟩; exact .head _
  · rintro k v m₁ nx h tk I oI R kR hk hv ⟨hm, rfl⟩ off F2 N2
    replace F2 := frov F2 hm
    rcases hp with hp | ⟨hne, j, hj, hij⟩
    · rw [if_pos hp] at hd
      have := dat_nil hd
      subst this
      cases hk
    · rw [if_neg hne] at hd
      obtain ⟨v0, r, rfl, hd0, h9⟩ := dat_cons hd
      have := dat_nil h9
      subst this
      obtain ⟨t0, rfl⟩ := dat_str hd0
      have hk0 : k = 0 := by simpa using hk
      subst hk0
      simp only [List.getElem?_cons_zero, Option.some.injEq] at hv
      subst hv
      obtain ⟨v, hv, -⟩ := a6.get hj
      rw [← hij] at hv
      repeat' (k_extra "st")
      exact tend kR (by k_asm) (by k_asm) sub_refl off ⟨⟨rfl, rfl, trivial⟩, rfl⟩
  · rintro m₁ nx h tk ⟨hm, rfl⟩ F2 N2
    replace F2 := frov F2 hm
    rcases hp with hp | ⟨hne, j, hj, hij⟩
    · have hp' : (i.parent != Str.ofString "") = false := by simpa using hp
      repeat' (k_extra "st")
      rename News _ _ _ _ => kN
      exact hret _ news _ _ (by k_asm) (ntake kN (by k_extra "tb_rel")) ⟨rfl, rfl⟩
    · have hp' : (i.parent != Str.ofString "") = true := by simpa using hne
      repeat' (k_extra "st")
      rename News _ _ _ _ => kN
      exact hret _ news _ _ (by k_asm) (ntake kN (by k_extra "tb_rel")) ⟨rfl, rfl⟩
end
end
section
inductive PfJ (rl fl : Addr) (its : List Item) (L0 : Led) (n : Nat) (m : Str → Option Value) (nx : Led) : Prop
  | mk (hm : Kn m [(S "rest", .ref rl)]) (k : Nat) (vf : List Value) (nf : Nat) (vr : List Value) (nr : Nat) (hn : n = its.length - k) (hk : k ≤ its.length) (hnx : nx = (rl, listOf vr.toArray nr) :: (fl, listOf vf.toArray nf) :: L0) (hf : StrsAre vf ((its.take k).map Item.name)) (hr : StrsAre vr ((its.drop k).map Item.name)) : PfJ rl fl its L0 n m nx
section
variable {w : World} {loose : List Str} {mean : ExcName → Option Value} {mg mb : Str → Option Value} {news : Led} {x dx st : Addr} {es : List DictEntry} {nd nst : Nat} {vst : List Value} {its : List Item} {op : List Dat} {t : Tok} {i j : Item} {nm : Str}
theorem w12 : True := by
  (k_with "spec" => (refine' direct_spec (Sg.mono ?zzs0 ?zzsub) ?zzhi ?zzhn; (case zzs0 => first | assumption | exact Sigs.sg (by assumption)); (case zzsub => k_extra "tb_rel"); (case zzhn => first | assumption | exact rfl); (case zzhi => assumption)))
  trivial
theorem parents_first_spec (hS : Sg w x its news) (a1 : (x, instObj 416 dx) ∈ news) (a2 : (dx, dictOf es nd) ∈ news) (g5 : getL (Str.ofString "stands") es = some (some (.ref st))) (g4 : getL (Str.ofString "direct") es = some none)
    (a7 : (st, listOf vst.toArray nst) ∈ news) (a8 : DatAll news vst (its.map fun i => Dat.str i.name)) (hl : its.length ≤ 1000) (hsok : ∀ i ∈ its, PyData.strOk i.name = true)
    (hup : ∀ k (h : k < its.length), its[k].parent = S "" ∨ (its[k].parent ≠ S "" ∧ ∃ j ∈ its.take k, its[k].parent = j.name)) :
    Spec w loose mean mg mb 30 400 (.ref 291) [.ref x] news (fun r news' => ∃ D vs n, r = .ref D ∧ news' = (D, listOf vs.toArray n) :: news ∧ DatAll news vs (its.map fun i => Dat.str i.name) ∧ ∀ p ∈ news, p.1 ≠ D) None2 := by
  unfold Spec
  k_fill
  intro dp un gd cn cs a ccd cl outer A₀ base h₀ L m s Q E B F X N T hk hR hok hret hexc
  have hlen : vst.length = its.length := by have := a8.length; simpa using this
  have hst : StrsAre vst ((its.drop 0).map Item.name) := strs_of (by rw [List.drop_zero, List.map_map]; exact a8)
  refine wpAny_call ?_
  k_dflt ktr_unf
  refine opq (by passes_own) ?_
  intro A9 R9 E9 kR9 kE9 pE9
  repeat' (k_extra "ktr_rel")
  rename_i g' L' _ _ _ _ _ _ l1 q1 q2 q3 oX cS dX dS fl _ la rl cc _ lb D _ lc _ _ cF dF _ F1 N1
  have hoff : ∀ p ∈ news, p.1 ≠ fl := allLt_off la.2.2
  refine While_X (fun n m nx => PfJ rl fl its ((L' + 1 + 1, cF) :: (L' + 1, cS) :: news) n m nx) its.length F1 (ntake N1 (sub_cons sub_refl))
    ⟨⟨rfl, trivial⟩, 0, [], 0, vst, _, rfl, Nat.zero_le _, rfl, .nil, hst⟩ ?_
  rintro n m₁ nx h tk R kR ⟨hm, k, vf, nf, vr, nr, rfl, hk, rfl, hf, hr⟩ F2 N2
  replace F2 := frov F2 hm
  clear F1 N1
  have hvr := hr.length
  have hvf := hf.length
  simp only [List.length_map, List.length_drop, List.length_take] at hvr hvf
  repeat' (k_extra "st")
  by_cases hlt : k < its.length
  · refine WhlIf.yes (by simp; omega) ?_
    repeat' (k_extra "st")
    rename News _ _ _ _ => N3
    rename Fr _ _ _ _ => F3
    refine ⟨_, _, _, fun i ys nx => nx = (rl, listOf vr.toArray nr) :: (fl, listOf vf.toArray nf) :: (L' + 1 + 1, cF) :: (L' + 1, cS) :: news ∧ (0 < i → ∃ t r, ys = .str its[k].name t :: r), _, _, src_list rfl N3 (.head _), (by simp only [sizeLine_eq]; omega), F3, N3, ?_, ⟨rfl, fun h => absurd h (Nat.lt_irrefl _)⟩, ?_, ?_⟩
    · rintro i ys nx ⟨rfl, -⟩; exact .head _
    · rintro i v ys nx I oI C oC D m₂ h tk E' R kR hi hv ⟨rfl, hys⟩ hyl hC off F4 N4
      have hkl : k + i < its.length := by omega
      have hmem : its[k + i] ∈ its := List.getElem_mem hkl
      have hv' : ∃ t, v = .str its[k + i].name t := by
        have hd := (strs_dat (nw := []) hr).get (k := i) (by simp; omega)
        obtain ⟨v', hv', hd'⟩ := hd
        rw [hv] at hv'
        cases hv'
        simp only [List.getElem_map, List.getElem_drop] at hd'
        exact dat_str hd'
      obtain ⟨t0, rfl⟩ := hv'
      refine assignC (by rfl) (by rfl) off hC F4 N4 fun h' oC' tk' hC' F5 N5 => ?_
      clear F4 N4 hC
      refine wpAny_tests_one ?_
      have hx' : (fun y => if y = Str.ofString "name" then some (Value.str its[k + i].name t0) else m₂ y) (Str.ofString "name") = some (Value.str its[k + i].name t0) := by simp
      generalize (fun y => if y = Str.ofString "name" then some (Value.str its[k + i].name t0) else m₂ y) = m₃ at hC' hx'
      repeat' (k_extra "st")
      rename DatAll _ _ _ => hd
      rename List Value => vsd
      have hds : ∃ ds : List Str, StrsAre vsd ds ∧ ds.length ≤ 1 ∧ ∀ d ∈ ds, PyData.strOk d = true ∧ (i = 0 → d ∈ (its.take k).map Item.name) := by
        rcases hup (k + i) hkl with hp | ⟨hne, j, hj, hij⟩
        · rw [if_pos hp] at hd
          exact ⟨[], by rw [dat_nil hd]; exact .nil, Nat.zero_le _, fun _ h => nomatch h⟩
        · rw [if_neg hne] at hd
          refine ⟨[its[k + i].parent], strs_of hd, Nat.le_refl _, fun d hd => ?_⟩
          rw [List.mem_singleton.mp hd, hij]
          refine ⟨hsok j (List.mem_of_mem_take hj), fun hi0 => ?_⟩
          subst hi0
          exact List.mem_map_of_mem hj
      obtain ⟨ds, hds, hds1, hdok⟩ := hds
      rename News _ _ _ _ => N6
      rename Fr _ _ _ _ => F6
      have hdl := hds.length
      refine ⟨_, _, _, fun i2 ys2 nx => nx = _ ∧ ∃ ds2, StrsAre ys2 ds2 ∧ (∀ d ∈ ds2, PyData.strOk d = true) ∧ (i = 0 → ds2 = []), _, _, src_tup rfl N6 (.head _), ?_, F6, N6, ?_, ⟨rfl, [], .nil, (fun _ h => nomatch h), fun _ => rfl⟩, ?_, ?_⟩
      · simp only [sizeLine_eq]; omega
      · rintro i ys nx ⟨rfl, -⟩; exact .head _
      · rintro i2 v2 ys2 nx2 I2 oI2 C2 oC2 D2 m4 h2 tk2 E2 R kR hi2 hv2 ⟨rfl, ds2, hs2, ho2, hz2⟩ hyl2 hC2 off2 F7 N7
        obtain ⟨hil2, t2, rfl⟩ := strs_at (nw := []) hds hv2
        refine assignC (by rfl) (by rfl) off2 hC2 F7 N7 fun h3 oC3 tk3 hC3 F8 N8 => ?_
        clear F7 N7 hC2
        refine wpAny_tests_one ?_
        have hx2 : (fun y => if y = Str.ofString "other" then some (Value.str ds[i2] t2) else m4 y) (Str.ofString "other") = some (Value.str ds[i2] t2) := by simp
        generalize (fun y => if y = Str.ofString "other" then some (Value.str ds[i2] t2) else m4 y) = m5 at hC3 hx2
        repeat' (k_extra "st")
        · exact CEnd.intro kR (by k_asm) (by k_asm) sub_refl hC3 off2.off ⟨rfl, ds2, hs2, ho2, hz2⟩
        · rename List.any _ _ = false => hq
          refine CEnd.intro kR (by k_asm) (by k_asm) sub_refl hC3 off2.off ⟨rfl, ds2 ++ [ds[i2]], strs_snoc hs2 _ _, fun d hd => ?_, fun hi0 => ?_⟩
          · rcases List.mem_append.mp hd with h9 | h9
            · exact ho2 d h9
            · rw [List.mem_singleton.mp h9]; exact (hdok _ (List.getElem_mem _)).1
          · have h9 := (hdok ds[i2] (List.getElem_mem _)).2 hi0
            have := List.any_eq_false.mp hq _ h9
            simp at this
      · rintro ys2 nx2 ⟨rfl, ds2, hs2, ho2, hz2⟩ hyl2
        intro D2 h2 tk2 F7 N7 o7
        repeat' (k_extra "st")
        · refine CEnd.intro kR (by k_asm) (by k_asm) (by k_extra "tb_rel") hC' off.off ⟨rfl, fun _ => ?_⟩
          by_cases hi0 : i = 0
          · subst hi0
            have h9 : ys = [] := List.length_eq_zero_iff.mp (by omega)
            subst h9
            exact ⟨_, [], rfl⟩
          · obtain ⟨t9, r9, rfl⟩ := hys (by omega)
            exact ⟨_, _, rfl⟩
        · rename ¬ _ = _ => hq
          refine CEnd.intro kR (by k_asm) (by k_asm) (by k_extra "tb_rel") hC' off.off ⟨rfl, fun _ => ?_⟩
          by_cases hi0 : i = 0
          · exact absurd (hz2 hi0) hq
          · exact hys (by omega)
    · rintro ys nx ⟨rfl, hys⟩ hyl
      intro D h tk F4 N4 o4
      obtain ⟨t1, r1, rfl⟩ := hys (by omega)
      simp only [List.length_cons] at hyl
      repeat' (k_extra "ktr_rel")
      rw [List.drop_eq_getElem_cons hlt, List.map_cons] at hr
      cases hr with | @cons _ t9 r9 _ hr9 =>
      simp only [List.length_cons] at hvr
      refine rem_first (by k_asm) (by k_asm) (.cons _ t9 hr9) (by k_upd) (by simp only [sizeLine_eq]; omega) ?_
      intro h9 F9 N9
      repeat' (k_extra "ktr_rel")
      refine wend kR (by k_asm) N9 (by k_extra "tb_rel") (n' := its.length - (k + 1)) (by omega) ⟨⟨rfl, trivial⟩, k + 1, _, _, r9, _, rfl, hlt, rfl, ?_, hr9⟩
      rw [take_map _ hlt]
      rw [List.concat_eq_append]
      exact strs_snoc hf _ _
  · have hk2 : k = its.length := by omega
    subst hk2
    refine WhlIf.no (by have h0 : vr = [] := List.length_eq_zero_iff.mp (by omega)
                        simp [h0]) ?_
    repeat' (k_extra "st")
    rename News _ _ _ _ => kN
    rw [List.take_length] at hf
    have hf' : DatAll news vf (its.map fun i => Dat.str i.name) := by have := strs_dat (nw := news) hf; rwa [List.map_map] at this
    exact hret _ _ _ _ (by k_asm) (ntake kN (sub_mk (.tail _ (.head _)) (by k_extra "tb_rel"))) ⟨_, _, _, rfl, rfl, hf', hoff⟩
end
end
section
section
variable {w : World} {loose : List Str} {mean : ExcName → Option Value} {mg mb : Str → Option Value} {news rest : Led} {x dx od ofd opn it e : Addr} {oe : Obj} {es : List DictEntry} {nd nod nof nop : Nat} {vod : List Value} {its : List Item} {t : Tok} {i j : Item} {nm : Str} {kvs : List (Str × Value)}
theorem all_fields_spec (hS : Sg w x its news) (a1 : (x, instObj 416 dx) ∈ news) (a2 : (dx, dictOf es nd) ∈ news) (g5 : getL (Str.ofString "ordered") es = some (some (.ref od)))
    (a7 : (od, listOf vod.toArray nod) ∈ news) (a8 : DatAll news vod (its.map fun i => Dat.str i.name)) (hl : its.length ≤ 1000) :
    Spec w loose mean mg mb 30 400 (.ref 298) [.ref x] news (fun r news' => ∃ D n, r = .ref D ∧ news' = (D, listOf #[] n) :: news ∧ ∀ p ∈ news, p.1 ≠ D) None2 := by
  unfold Spec
  k_fill
  intro dp un gd cn cs a ccd cl outer A₀ base h₀ L m s Q E B F X N T hk hR hok hret hexc
  have hst : StrsAre vod (its.map Item.name) := strs_of (by rw [List.map_map]; exact a8)
  have hS0 := hS
  cases hS0 with | @mk dx' e oe es' nd' kvs b1 b2 g0 g1 g2 g3 g4 a3 a4 a5 a6 =>
  have e1 := (N _ a1).1.symm.trans (N _ b1).1
  cases e1
  have e2 := (N _ a2).1.symm.trans (N _ b2).1
  cases e2
  clear b1 b2
  refine wpAny_call ?_
  k_dflt ktr_enter
  rename Fr _ _ _ _ => F1
  replace F1 : Fr _ _ _ (fun y => List.lookup y [(Str.ofString "self", Value.ref x)]) := F1
  refine opq (by passes_own) ?_
  intro A9 R9 E9 kR9 kE9 pE9
  repeat' (k_extra "st")
  rename_i fl _ l1 tp _ l2 _ _ _ F1 N1
  have hoff : ∀ p ∈ news, p.1 ≠ fl := off_lt l1
  refine ⟨_, _, _, fun k m nx => nx = (fl, listOf #[] 0) :: news ∧ Kn m [(S "self", .ref x), (S "found", .ref fl), (S "group", .int 0 _)], _, _, src_list rfl N1 (.tail _ (.tail _ a7)), F1, ntake N1 (sub_cons sub_refl), ?_, ⟨rfl, rfl, rfl, rfl, trivial⟩, ?_, ?_⟩
  · rintro k m nx ⟨rfl, -⟩; exact .tail _ a7
  · rintro k v m₁ nx h tk I oI R kR hk hv ⟨rfl, hm⟩ off F2 N2
    replace F2 := frov F2 hm
    obtain ⟨hkl, t0, rfl⟩ := strs_at (nw := []) hst hv
    simp only [List.length_map] at hkl
    simp only [List.getElem_map]
    obtain ⟨v0, hv0, hd0⟩ := a6.get (List.getElem_mem hkl)
    cases item_open hd0 with | mk m1 m2 m6 m7 m8 =>
    have q1 : fl ≠ I := off_head off
    have q2 := off_tail off
    repeat' (k_extra "st")
    rename News _ _ _ _ => N3
    rename Fr _ _ _ _ => F3
    refine ⟨_, _, _, fun k m nx => nx = (I, oI) :: (fl, listOf #[] 0) :: news ∧ Kn m [(S "self", .ref x), (S "found", .ref fl), (S "group", .int 0 _)], _, _, src_tup (vs := []) rfl N3 (.tail _ (.tail _ m7)), F3, N3, ?_, ⟨rfl, rfl, rfl, rfl, trivial⟩, ?_, ?_⟩
    · rintro k m nx ⟨rfl, -⟩; exact .tail _ (.tail _ m7)
    · rintro k v m₁ nx h tk I oI R kR hk; cases hk
    · rintro m₁ nx h tk ⟨rfl, hm3⟩ F4 N4
      replace F4 := frov F4 hm3
      repeat' (k_extra "st")
      exact tend kR (by k_asm) (by k_asm) sub_refl off ⟨rfl, rfl, rfl, rfl, trivial⟩
  · rintro m₁ nx h tk ⟨rfl, hm⟩ F2 N2
    replace F2 := frov F2 hm
    repeat' (k_extra "st")
    rename News _ _ _ _ => kN
    exact hret _ _ _ _ (by k_asm) kN ⟨_, _, rfl, rfl, hoff⟩
theorem look_fields_spec (a1 : (x, instObj 416 dx) ∈ news) (a2 : (dx, dictOf es nd) ∈ news) (g5 : getL (Str.ofString "own_fields") es = some (some (.ref ofd))) (a7 : (ofd, listOf #[] nof) ∈ news) :
    Spec w loose mean mg mb 30 400 (.ref 305) [.ref x] news (fun r news' => r = .none ∧ news' = news) None2 := by
  unfold Spec
  k_fill
  intro dp un gd cn cs a ccd cl outer A₀ base h₀ L m s Q E B F X N T hk hR hok hret hexc
  refine wpAny_call ?_
  k_dflt ktr_enter
  rename Fr _ _ _ _ => F1
  replace F1 : Fr _ _ _ (fun y => List.lookup y [(Str.ofString "self", Value.ref x)]) := F1
  refine opq (by passes_own) ?_
  intro A9 R9 E9 kR9 kE9 pE9
  repeat' (k_extra "st")
  rename News _ _ _ _ => N1
  rename Fr _ _ _ _ => F1
  refine ⟨_, _, _, fun k m nx => (ofd, listOf #[] nof) ∈ nx ∧ ∀ p ∈ news, p ∈ nx, _, _, src_list (vs := []) rfl N1 (.tail _ a7), F1, N1, ?_, ⟨.tail _ a7, sub_cons sub_refl⟩, ?_, ?_⟩
  · rintro k m nx ⟨h, -⟩; exact h
  · rintro k v m₁ nx h tk I oI R kR hk; cases hk
  · rintro m₁ nx h tk ⟨-, hs⟩ F2 N2
    repeat' (k_extra "st")
    rename News _ _ _ _ => kN
    exact hret _ _ _ _ (by k_asm) (ntake kN hs) ⟨rfl, rfl⟩
end
end
section
section
variable {w : World} {loose : List Str} {mean : ExcName → Option Value} {mg mb : Str → Option Value} {news rest : Led} {x dx od ofd opn it e b : Addr} {oe : Obj} {es : List DictEntry} {nd nod nof nop ni nb : Nat} {vod : List Value} {its : List Item} {t t0 t1 t2 t3 t4 : Tok} {v : Value} {i j : Item} {nm : Str} {kvs : List (Str × Value)}
theorem take_order_spec (hro : ∀ p ∈ rest, p.1 ≠ opn) (a1 : (x, instObj 416 dx) ∈ rest) (a2 : (dx, dictOf es nd) ∈ rest) (g0 : getL (Str.ofString "entries") es = some (some (.ref e))) (g5 : getL (Str.ofString "opened") es = some (some (.ref opn)))
    (a3 : (e, oe) ∈ rest) (a4 : (e == sysModules) = false) (a5 : oe.IsDictOf (PySem.strKind PySem.Challenge.rw_nz0394_01.row.prog w) kvs) (hv : valueAt kvs nm = some v)
    (m1 : (it, tupObj [.str (S "open") t0, .int 0 t1, .str (S "util/ordering") t2, .ref b, .str (S "o") t3] ni) ∈ rest) (m2 : (b, tupObj [.str nm t4] nb) ∈ rest) :
    Spec w loose mean mg mb 30 400 (.ref 310) [.ref x, .ref it] ((opn, listOf #[] nop) :: rest) (fun r news' => ∃ T n1 n2 t, r = .none ∧ news' = (opn, listOf #[.ref T] n1) :: (T, tupObj [.str (S "o") t, .str nm t4] n2) :: rest ∧ (∀ p ∈ rest, p.1 ≠ T) ∧ opn ≠ T) None2 := by
  unfold Spec
  k_fill
  intro dp un gd cn cs a ccd cl outer A₀ base h₀ L m s Q E B F X N T hk hR hok hret hexc
  refine wpAny_call ?_
  k_dflt ktr_enter
  rename Fr _ _ _ _ => F1
  replace F1 : Fr _ _ _ (fun y => List.lookup y [(Str.ofString "item", Value.ref it), (Str.ofString "self", Value.ref x)]) := F1
  refine opq (by passes_own) ?_
  intro A9 R9 E9 kR9 kE9 pE9
  repeat' (k_extra "st")
  rename News _ _ _ _ => N1
  rename Fr _ _ _ _ => F1
  refine ⟨_, _, _, fun i ys nx => ys = [] ∧ nx = (opn, listOf #[] nop) :: rest, _, _, src_list (vs := []) rfl N1 (by k_mem), (by simp only [sizeLine_eq]; exact Nat.le_of_ble_eq_true rfl), F1, ntake N1 (by k_extra "tb_rel"), ?_, ⟨rfl, rfl⟩, ?_, ?_⟩
  · rintro i ys nx ⟨rfl, rfl⟩; exact .head _
  · rintro i v ys nx I oI C oC D m₂ h tk E' R kR hi; cases hi
  · rintro ys nx ⟨rfl, rfl⟩ hyl
    intro D h tk F4 N4 o4
    repeat' (k_extra "st")
    rename News _ _ _ _ => kN
    rename _ ∧ _ ∧ AllLt _ _ => la
    exact hret _ _ _ _ (by k_asm) (ntake kN (sub_mk (.tail _ (.tail _ (.head _))) (sub_mk (.head _) (by k_extra "tb_rel")))) ⟨_, _, _, _, rfl, rfl, allLt_off la.2.2, Nat.ne_of_lt la.2.1⟩
end
end
section
inductive OpenAt (news : Led) (x : Str) : Value → Prop
  | mk {a b : Addr} {n nb : Nat} {t0 t1 t2 t3 t4 : Tok} (m1 : (a, tupObj [.str (S "open") t0, .int 0 t1, .str (S "util/ordering") t2, .ref b, .str (S "o") t3] n) ∈ news) (m2 : (b, tupObj [.str x t4] nb) ∈ news) : OpenAt news x (.ref a)
noncomputable def openDat (x : Str) : Dat := .tuple [.str (S "open"), .int 0, .str (S "util/ordering"), .tuple [.str x], .str (S "o")]
theorem open_open {news : Led} {v : Value} {x : Str} (h : DatIn news v (openDat x)) : OpenAt news x v := by
  refine eT h fun a vs n hm h => ?_
  revert hm
  refine eC h fun v0 r h0 h => ?_
  refine eS h0 fun t0 => ?_
  refine eC h fun v1 r h1 h => ?_
  refine eI h1 fun t1 => ?_
  refine eC h fun v2 r h2 h => ?_
  refine eS h2 fun t2 => ?_
  refine eC h fun v3 r h3 h => ?_
  refine eT h3 fun b vb nb hb h3 => ?_
  revert hb
  refine eC h3 fun w0 r0 k0 h3 => ?_
  refine eN h3 ?_
  refine eS k0 fun t9 => ?_
  intro hb
  refine eC h fun v4 r h4 h => ?_
  refine eS h4 fun t4 => ?_
  refine eN h ?_
  intro hm
  exact .mk hm hb
noncomputable abbrev d3 (h1 : Int) (t1 : Tok) (e : Addr) (h2 : Int) (t2 : Tok) (st : Addr) (h3 : Int) (t3 : Tok) (opn : Addr) : List DictEntry := [⟨h1, .str (S "entries") t1, .ref e⟩, ⟨h2, .str (S "stands") t2, .ref st⟩, ⟨h3, .str (S "opened") t3, .ref opn⟩]
noncomputable def opDat (x : Str) : Dat := .tuple [.str (S "o"), .str x]
theorem apart_nil {news : Led} : ∀ p ∈ ([] : Led), ∀ q ∈ news, p.1 ≠ q.1 := fun _ h => nomatch h
theorem apart_cons {news nx : Led} {a : Addr} {o : Obj} (h : ∀ q ∈ news, q.1 ≠ a) (h2 : ∀ p ∈ nx, ∀ q ∈ news, p.1 ≠ q.1) : ∀ p ∈ (a, o) :: nx, ∀ q ∈ news, p.1 ≠ q.1 := fun p hp q hq => by
  rcases List.mem_cons.mp hp with rfl | hp
  · exact Ne.symm (h q hq)
  · exact h2 p hp q hq
section
variable {w : World} {loose : List Str} {mean : ExcName → Option Value} {mg mb : Str → Option Value} {fr bs : Led} {il : Addr} {nl : Nat} {vs : List Value} {its : List Item} {opd : List Str}
inductive SgN (g : Heap) (L : Addr) (h : Heap) (x dx e st opn : Addr) (oe : Obj) (news : Led) : Prop
  | mk (h1 : Int) (t1 : Tok) (h2 : Int) (t2 : Tok) (h3 : Int) (t3 : Tok) (N : News g L h ((e, oe) :: (st, listOf #[] 0) :: (opn, listOf #[] 0) :: (x, instObj 416 dx) :: (dx, dictOf (d3 h1 t1 e h2 t2 st h3 t3 opn) 3) :: news)) : SgN g L h x dx e st opn oe news
inductive SgJ (w : World) (x dx e st opn il : Addr) (h1 : Int) (t1 : Tok) (h2 : Int) (t2 : Tok) (h3 : Int) (t3 : Tok) (bs news : Led) (its : List Item) (k : Nat) (m : Str → Option Value) : Led → Prop
  | mk (hm : Kn m [(S "self", .ref x), (S "items", .ref il)]) (oe' : Obj) (kvs : List (Str × Value)) (vst : List Value) (nst : Nat) (hod : oe'.IsDictOf (PySem.strKind PySem.Challenge.rw_nz0394_01.row.prog w) kvs) (hE : Ents bs kvs (its.take k)) (hst : StrsAre vst ((its.take k).map Item.name)) :
      SgJ w x dx e st opn il h1 t1 h2 t2 h3 t3 bs news its k m ((e, oe') :: (st, listOf vst.toArray nst) :: (opn, listOf #[] 0) :: (x, instObj 416 dx) :: (dx, dictOf (d3 h1 t1 e h2 t2 st h3 t3 opn) 3) :: news)
inductive SgK (x dx e st opn D1 D2 il : Addr) (h1 : Int) (t1 : Tok) (h2 : Int) (t2 : Tok) (h3 : Int) (t3 : Tok) (h4 : Int) (t4 : Tok) (h5 : Int) (t5 : Tok) (n1 n2 : Nat) (oe' : Obj) (vf vst : List Value) (nst : Nat) (news : Led) (its : List Item) (opd : List Str) (k : Nat) (m : Str → Option Value) : Led → Prop
  | a (hm : Kn m [(S "self", .ref x), (S "items", .ref il)]) (hk : k ≤ its.length) : SgK x dx e st opn D1 D2 il h1 t1 h2 t2 h3 t3 h4 t4 h5 t5 n1 n2 oe' vf vst nst news its opd k m ((opn, listOf #[] 0) :: (D2, listOf #[] n2) :: (D1, listOf vf.toArray n1) :: (e, oe') :: (st, listOf vst.toArray nst) :: (x, instObj 416 dx) :: (dx, dictOf [⟨h1, .str (S "entries") t1, .ref e⟩, ⟨h2, .str (S "stands") t2, .ref st⟩, ⟨h3, .str (S "opened") t3, .ref opn⟩, ⟨h4, .str (S "ordered") t4, .ref D1⟩, ⟨h5, .str (S "own_fields") t5, .ref D2⟩] 5) :: news)
  | b (hm : Kn m [(S "self", .ref x), (S "items", .ref il)]) (hk : its.length < k) (T : Addr) (o : Str) (n3 n4 : Nat) (u3 u4 : Tok) (ho : opd = [o]) (hT : ∀ p ∈ (D2, listOf #[] n2) :: (D1, listOf vf.toArray n1) :: (e, oe') :: (st, listOf vst.toArray nst) :: (x, instObj 416 dx) :: (dx, dictOf [⟨h1, .str (S "entries") t1, .ref e⟩, ⟨h2, .str (S "stands") t2, .ref st⟩, ⟨h3, .str (S "opened") t3, .ref opn⟩, ⟨h4, .str (S "ordered") t4, .ref D1⟩, ⟨h5, .str (S "own_fields") t5, .ref D2⟩] 5) :: news, p.1 ≠ T) (hT2 : opn ≠ T) : SgK x dx e st opn D1 D2 il h1 t1 h2 t2 h3 t3 h4 t4 h5 t5 n1 n2 oe' vf vst nst news its opd k m ((opn, listOf #[.ref T] n3) :: (T, tupObj [.str (S "o") u3, .str o u4] n4) :: (D2, listOf #[] n2) :: (D1, listOf vf.toArray n1) :: (e, oe') :: (st, listOf vst.toArray nst) :: (x, instObj 416 dx) :: (dx, dictOf [⟨h1, .str (S "entries") t1, .ref e⟩, ⟨h2, .str (S "stands") t2, .ref st⟩, ⟨h3, .str (S "opened") t3, .ref opn⟩, ⟨h4, .str (S "ordered") t4, .ref D1⟩, ⟨h5, .str (S "own_fields") t5, .ref D2⟩] 5) :: news)
theorem SgK.kn {x dx e st opn D1 D2 il : Addr} {h1 : Int} {t1 : Tok} {h2 : Int} {t2 : Tok} {h3 : Int} {t3 : Tok} {h4 : Int} {t4 : Tok} {h5 : Int} {t5 : Tok} {n1 n2 : Nat} {oe' : Obj} {vf vst : List Value} {nst : Nat} {news : Led} {its : List Item} {opd : List Str} {k : Nat} {m : Str → Option Value} {nx : Led} (h : SgK x dx e st opn D1 D2 il h1 t1 h2 t2 h3 t3 h4 t4 h5 t5 n1 n2 oe' vf vst nst news its opd k m nx) : Kn m [(S "self", .ref x), (S "items", .ref il)] := by
  cases h with
  | a hm => exact hm
  | b hm => exact hm
theorem sigs_spec (hil : (il, listOf vs.toArray nl) ∈ bs) (hd : DatAll bs vs (its.map Item.dat ++ opd.map openDat)) (hl : its.length ≤ 100) (hol : opd.length ≤ 1) (hsok : ∀ i ∈ its, PyData.strOk i.name = true)
    (hnd : ∀ a b (ha : a < its.length) (hb : b < its.length), its[a].name = its[b].name → a = b) (hlin : ∀ o ∈ opd, ∃ i ∈ its, i.name = o)
    (hup : ∀ k (h : k < its.length), its[k].parent = S "" ∨ (its[k].parent ≠ S "" ∧ ∃ j ∈ its.take k, its[k].parent = j.name)) :
    Spec w loose mean mg mb 60 900 (.ref 416) [.ref il] (fr ++ bs) (fun r news' => ∃ x nx, r = .ref x ∧ news' = nx ++ (fr ++ bs) ∧ Sigs w x its (opd.map opDat) (nx ++ bs) ∧ ∀ p ∈ nx, ∀ q ∈ fr ++ bs, p.1 ≠ q.1) None2 := by
  unfold Spec
  k_fill
  intro dp un gd cn cs a ccd cl outer A₀ base h₀ L m s Q E B F X N T hk hR hok hret hexc
  have hsub : ∀ p ∈ bs, p ∈ fr ++ bs := fun p hp => List.mem_append.mpr (.inr hp)
  have hil' := hsub _ hil
  generalize hnews : fr ++ bs = news at N hsub hret hexc hil'
  refine call_cls F X N (by k_dflt k_is) (by k_dflt k_is) (by k_dflt k_is) ?_
  intro x dx hh1 F0 N0 l1 l2
  replace l2 := ltN l2
  have hw1 : (Code.builtin "type.__call__" ⟨[Value.ref 416, Value.ref il], []⟩).weight = 1 := rfl
  have hw2 : (Code.builtin "type.__call__" ⟨[Value.ref 416, Value.ref il], []⟩).cUnits = 1 := rfl
  k_dflt ktr_enter
  rename Fr _ _ _ _ => F1
  replace F1 : Fr _ _ _ (fun y => List.lookup y [(Str.ofString "items", Value.ref il), (Str.ofString "self", Value.ref x)]) := F1
  refine opq (by passes_own) ?_
  intro A9 R9 E9 kR9 kE9 pE9
  repeat' (k_extra "st")
  rename_i _ e _ oe lo hs _ _ _ la _ _ st _ lb _ opn _ lc h F1 N1
  have oe1 := allLt_off la.2.2
  have os1 := allLt_off lb.2.2.2
  have oo1 := allLt_off lc.2.2.2.2
  have ox1 : ∀ p ∈ news, p.1 ≠ x := fun p hp => Nat.ne_of_lt (Nat.lt_trans (l1 p hp) l2)
  have od1 : ∀ p ∈ news, p.1 ≠ dx := off_lt l1
  have es' : e ≠ st := Nat.ne_of_lt lb.1
  have hle : ∀ k, its.take k = its.take k := fun _ => rfl
  obtain ⟨h1, t1, h2, t2, h3, t3, N2⟩ : SgN _ _ h x dx e st opn oe news :=
    ⟨_, _, _, _, _, _, ntake N1 (sub_mk (by k_mem) (sub_mk (by k_mem) (sub_mk (by k_mem) (sub_mk (by k_mem) (sub_mk (by k_mem) (by k_extra "tb_rel"))))))⟩
  clear N1
  refine ⟨_, _, _, fun k m nx => SgJ w x dx e st opn il h1 t1 h2 t2 h3 t3 bs news its k m nx,
    _, _, src_list rfl N2 (by k_mem), F1, N2, ?_, ⟨⟨rfl, rfl, trivial⟩, oe, [], [], 0, hs, .nil, .nil⟩, ?_, ?_⟩
  · rintro k m nx ⟨-, oe', kvs, vst, nst, -⟩; k_mem
  · rintro k v m₁ nx h tk I oI R kR hk hv ⟨hm, oe', kvs, vst, nst, hod, hE, hst⟩ off F3 N3
    replace F3 := frov F3 hm
    have hvl := hd.length
    simp only [List.length_append, List.length_map] at hvl
    have hdv := datAt hd hv (by simp only [List.length_append, List.length_map]; omega)
    by_cases hki : k < its.length
    · rw [List.getElem_append_left (by simpa using hki)] at hdv
      simp only [List.getElem_map] at hdv
      have hit := item_open hdv
      cases hit with | @mk ai ni t0 t1' b nb t2' t4 t5 c6 n6 c7 n7 c8 n8 m1 m2 m6 m7 m8 =>
      have m1' := hsub _ m1
      have m2' := hsub _ m2
      have m6' := hsub _ m6
      have m7' := hsub _ m7
      have m8' := hsub _ m8
      have q1 : e ≠ I := off_head off
      have q2 : st ≠ I := off_head (off_tail off)
      have q3 : opn ≠ I := off_head (off_tail (off_tail off))
      have q4 : x ≠ I := off_head (off_tail (off_tail (off_tail off)))
      have q5 : dx ≠ I := off_head (off_tail (off_tail (off_tail (off_tail off))))
      have q6 := off_tail (off_tail (off_tail (off_tail (off_tail off))))
      have hne : ∀ j ∈ its.take k, j.name ≠ its[k].name := by
        intro j hj e9
        obtain ⟨a9, ha9, rfl⟩ := List.getElem_of_mem hj
        simp only [List.length_take] at ha9
        rw [List.getElem_take] at e9
        have := hnd a9 k (by omega) hki e9
        omega
      have hvn : valueAt kvs its[k].name = none := hE.none hne
      have hkl := hE.length
      have hsl := hst.length
      simp only [List.length_map, List.length_take] at hkl hsl
      repeat' (k_extra "st")
      rename News _ _ _ _ => N4
      refine' Spec.use (take_sig_spec (rest := (opn, listOf #[] 0) :: (x, instObj 416 dx) :: (dx, dictOf (d3 h1 t1 e h2 t2 st h3 t3 opn) 3) :: (I, oI) :: news) es' ?re ?rs (.tail _ (.head _)) (.tail _ (.tail _ (.head _))) lo hod (.mk (.tail _ (.tail _ (.tail _ (.tail _ m1')))) (.tail _ (.tail _ (.tail _ (.tail _ m2')))) (.tail _ (.tail _ (.tail _ (.tail _ m6')))) (.tail _ (.tail _ (.tail _ (.tail _ m7')))) (.tail _ (.tail _ (.tail _ (.tail _ m8'))))) hvn ?l1 ?l2) ?B ?F ?X ?N ?T ?K ?D ?U ?_ ?E
      (case N => exact ntake N4 (sub_mk (by k_mem) (sub_mk (by k_mem) (sub_mk (by k_mem) (sub_mk (by k_mem) (sub_mk (by k_mem) (sub_mk (by k_mem) (by k_extra "tb_rel"))))))))
      (case F => k_asm)
      (case B => k_asm)
      (case X => k_asm)
      (case T => k_asm)
      (case K => first | exact rfl | assumption)
      (case re => exact off_cons (Ne.symm (Nat.ne_of_lt lc.2.1)) (off_cons (Nat.ne_of_lt la.1) (off_cons (Nat.ne_of_lt la.2.1) (off_cons (Ne.symm q1) oe1))))
      (case rs => exact off_cons (Ne.symm (Nat.ne_of_lt lc.1)) (off_cons (Nat.ne_of_lt lb.2.1) (off_cons (Nat.ne_of_lt lb.2.2.1) (off_cons (Ne.symm q2) os1))))
      (case l1 => omega)
      (case l2 => omega)
      (case D => (dsimp +zetaDelta only [ktrTop, Around.deeper, Around.under, Around.in1]; rw [hw1]; omega))
      (case U => (dsimp +zetaDelta only [ktrTop, Around.deeper, Around.under, Around.in1]; rw [hw2]; omega))
      (case E => exact fun _ _ _ _ _ _ hf => hf.elim)
      intro r' news' h' tk' F' N' hr'
      obtain ⟨oe2, t9, n9, e1', e2', hod2⟩ := hr'
      subst e1'
      subst e2'
      repeat' (k_extra "st")
      refine tend kR (by k_asm) (by k_asm) (sub_mk (by k_mem) (sub_mk (by k_mem) (sub_mk (by k_mem) (sub_mk (by k_mem) (sub_mk (by k_mem) (sub_mk (by k_mem) (by k_extra "tb_rel"))))))) (off_cons q1 (off_cons q2 (off_cons q3 (off_cons q4 (off_cons q5 q6))))) ⟨⟨rfl, rfl, trivial⟩, oe2, _, _, _, hod2, ?_, ?_⟩
      · rw [List.take_add_one, List.getElem?_eq_getElem hki]
        exact .snoc hE hdv hne
      · rw [take_map _ hki]
        exact strs_snoc hst _ _
    · rw [List.getElem_append_right (by simpa using hki)] at hdv
      simp only [List.getElem_map, List.length_map] at hdv
      have hit := open_open hdv
      cases hit with | @mk ai b ni nb t0 t1' t2' t3' t4 m1 m2 =>
      have m1' := hsub _ m1
      have m2' := hsub _ m2
      have e9 : its.take (k + 1) = its.take k := by rw [List.take_of_length_le (by omega), List.take_of_length_le (by omega)]
      repeat' (k_extra "st")
      exact tend kR (by k_asm) (by k_asm) (by k_extra "tb_rel") off ⟨⟨rfl, rfl, trivial⟩, oe', kvs, _, _, hod, by rw [e9]; exact hE, by rw [e9]; exact hst⟩
  · rintro m₁ nx h tk ⟨hm, oe', kvs, vst, nst, hod, hE, hst⟩ F3 N3
    replace F3 := frov F3 hm
    have hvl := hd.length
    simp only [List.length_append, List.length_map] at hvl
    rw [List.take_of_length_le (by omega)] at hE hst
    have hbl : ∀ p ∈ bs, p ∈ (e, oe') :: (st, listOf vst.toArray nst) :: (opn, listOf #[] 0) :: (x, instObj 416 dx) :: (dx, dictOf (d3 h1 t1 e h2 t2 st h3 t3 opn) 3) :: news := fun p hp => .tail _ (.tail _ (.tail _ (.tail _ (.tail _ (hsub p hp)))))
    have hSg : Sg w x its ((e, oe') :: (st, listOf vst.toArray nst) :: (opn, listOf #[] 0) :: (x, instObj 416 dx) :: (dx, dictOf (d3 h1 t1 e h2 t2 st h3 t3 opn) 3) :: news) :=
      .mk (.tail _ (.tail _ (.tail _ (.head _)))) (.tail _ (.tail _ (.tail _ (.tail _ (.head _))))) (by rfl) (by rfl) (by rfl) (by rfl) (by rfl) (.head _) lo hod (hE.mono hbl)
    have hstl := hst.length
    simp only [List.length_map] at hstl
    have hstd : DatAll bs vst (its.map fun i => Dat.str i.name) := by have := strs_dat (nw := bs) hst; rwa [List.map_map] at this
    repeat' (k_extra "st")
    rename News _ _ _ _ => N4
    rename Fr _ _ _ _ => F4
    refine ⟨_, _, _, fun k m nx => nx = (e, oe') :: (st, listOf vst.toArray nst) :: (opn, listOf #[] 0) :: (x, instObj 416 dx) :: (dx, dictOf (d3 h1 t1 e h2 t2 st h3 t3 opn) 3) :: news ∧ Kn m [(S "self", .ref x), (S "items", .ref il)], _, _, src_list rfl N4 (by k_mem), F4, ntake N4 (by k_extra "tb_rel"), ?_, ⟨rfl, rfl, rfl, trivial⟩, ?_, ?_⟩
    · rintro k m nx ⟨rfl, -⟩; k_mem
    · rintro k v m₁ nx h tk I oI R kR hk hv ⟨rfl, hm⟩ off F5 N5
      replace F5 := frov F5 hm
      obtain ⟨hkl, t0, rfl⟩ := strs_at (nw := []) hst hv
      simp only [List.length_map] at hkl
      simp only [List.getElem_map]
      have hmem := List.getElem_mem hkl
      have hupk : its[k].parent = S "" ∨ (its[k].parent ≠ S "" ∧ ∃ j ∈ its, its[k].parent = j.name) := (hup k hkl).imp id fun ⟨a, j, hj, e⟩ => ⟨a, j, List.mem_of_mem_take hj, e⟩
      repeat' (k_extra "st")
      refine' Spec.c ?N ?F ?B ?X ?T ?K (look_above_spec (Sg.mono hSg ?sub) hmem rfl hupk) ?D ?U ?_
      (case N => k_asm)
      (case sub => k_extra "tb_rel")
      (case F => k_asm)
      (case B => k_asm)
      (case X => k_asm)
      (case T => k_asm)
      (case K => first | exact rfl | assumption)
      (case D => (dsimp +zetaDelta only [ktrTop, Around.deeper, Around.under, Around.in1]; (first | omega | (simp only [wMake]; omega))))
      (case U => (dsimp +zetaDelta only [ktrTop, Around.deeper, Around.under, Around.in1]; (first | omega | (simp only [uMake]; omega))))
      rintro r' news' h' tk' F' N' ⟨rfl, rfl⟩
      repeat' (k_extra "st")
      exact tend kR (by k_asm) (by k_asm) (by k_extra "tb_rel") off ⟨rfl, rfl, rfl, trivial⟩
    · rintro m₁ nx h tk ⟨rfl, hm⟩ F5 N5
      replace F5 := frov F5 hm
      have hup2 : ∀ k (h : k < its.length), its[k].parent = S "" ∨ (its[k].parent ≠ S "" ∧ ∃ j ∈ its.take k, its[k].parent = j.name) := hup
      repeat' (k_extra "st")
      refine' Spec.c ?N ?F ?B ?X ?T ?K (parents_first_spec (dx := dx) (es := d3 h1 t1 e h2 t2 st h3 t3 opn) (st := st) (vst := vst) hSg (by k_mem) (by k_mem) (by rfl) (by rfl) (by k_mem) (hstd.mono hbl) (by omega) hsok hup) ?D ?U ?_
      (case N => k_asm)
      (case F => k_asm)
      (case B => k_asm)
      (case X => k_asm)
      (case T => k_asm)
      (case K => first | exact rfl | assumption)
      (case D => (dsimp +zetaDelta only [ktrTop, Around.deeper, Around.under, Around.in1]; (first | omega | (simp only [wMake]; omega))))
      (case U => (dsimp +zetaDelta only [ktrTop, Around.deeper, Around.under, Around.in1]; (first | omega | (simp only [uMake]; omega))))
      intro r' news' h' tk' F' N' hr'
      obtain ⟨D1, vf, n1, e1', e2', hvf, of1⟩ := hr'
      subst e1' e2'
      have hvs : StrsAre vf (its.map Item.name) := strs_of (by rw [List.map_map]; exact hvf)
      have hvf2 : ∀ nw : Led, DatAll nw vf (its.map fun i => Dat.str i.name) := fun nw => by have := strs_dat (nw := nw) hvs; rwa [List.map_map] at this
      dsimp only [d3] at N'
      have hb1 : ∀ p ∈ bs, p.1 ≠ D1 := fun p hp => of1 p (hbl p hp)
      have hn1 : ∀ p ∈ news, p.1 ≠ D1 := fun p hp => of1 p (.tail _ (.tail _ (.tail _ (.tail _ (.tail _ hp)))))
      have c1 : e ≠ D1 := off_head of1
      have c2 : st ≠ D1 := off_head (off_tail of1)
      have c3 : opn ≠ D1 := off_head (off_tail (off_tail of1))
      have c4 : x ≠ D1 := off_head (off_tail (off_tail (off_tail of1)))
      have c5 : dx ≠ D1 := off_head (off_tail (off_tail (off_tail (off_tail of1))))
      have k1 : e ≠ dx := Ne.symm (Nat.ne_of_lt la.2.1)
      have k2 : st ≠ dx := Ne.symm (Nat.ne_of_lt lb.2.2.1)
      have k3 : opn ≠ dx := Ne.symm (Nat.ne_of_lt lc.2.2.2.1)
      have k4 : x ≠ dx := Ne.symm (Nat.ne_of_lt l2)
      repeat' (k_extra "st")
      rename News _ _ _ _ => N6
      obtain ⟨h4, t4, N7⟩ : ∃ h4 t4, News _ _ _ ((D1, listOf vf.toArray n1) :: (e, oe') :: (st, listOf vst.toArray nst) :: (opn, listOf #[] 0) :: (x, instObj 416 dx) :: (dx, dictOf [⟨h1, .str (S "entries") t1, .ref e⟩, ⟨h2, .str (S "stands") t2, .ref st⟩, ⟨h3, .str (S "opened") t3, .ref opn⟩, ⟨h4, .str (S "ordered") t4, .ref D1⟩] 4) :: news) := ⟨_, _, ntake N6 (sub_mk (by k_mem) (sub_mk (by k_mem) (sub_mk (by k_mem) (sub_mk (by k_mem) (sub_mk (by k_mem) (sub_mk (by k_mem) (by k_extra "tb_rel")))))))⟩
      clear N6
      have hb2 : ∀ p ∈ bs, p ∈ (D1, listOf vf.toArray n1) :: (e, oe') :: (st, listOf vst.toArray nst) :: (opn, listOf #[] 0) :: (x, instObj 416 dx) :: (dx, dictOf [⟨h1, .str (S "entries") t1, .ref e⟩, ⟨h2, .str (S "stands") t2, .ref st⟩, ⟨h3, .str (S "opened") t3, .ref opn⟩, ⟨h4, .str (S "ordered") t4, .ref D1⟩] 4) :: news := fun p hp => .tail _ (.tail _ (.tail _ (.tail _ (.tail _ (.tail _ (hsub p hp))))))
      have hS2 : Sg w x its ((D1, listOf vf.toArray n1) :: (e, oe') :: (st, listOf vst.toArray nst) :: (opn, listOf #[] 0) :: (x, instObj 416 dx) :: (dx, dictOf [⟨h1, .str (S "entries") t1, .ref e⟩, ⟨h2, .str (S "stands") t2, .ref st⟩, ⟨h3, .str (S "opened") t3, .ref opn⟩, ⟨h4, .str (S "ordered") t4, .ref D1⟩] 4) :: news) := .mk (by k_mem) (by k_mem) (by rfl) (by rfl) (by rfl) (by rfl) (by rfl) (.tail _ (.head _)) lo hod (hE.mono hb2)
      refine' Spec.c ?N ?F ?B ?X ?T ?K (all_fields_spec (od := D1) (dx := dx) (es := [⟨h1, .str (S "entries") t1, .ref e⟩, ⟨h2, .str (S "stands") t2, .ref st⟩, ⟨h3, .str (S "opened") t3, .ref opn⟩, ⟨h4, .str (S "ordered") t4, .ref D1⟩]) (vod := vf) hS2 (by k_mem) (by k_mem) (by rfl) (.head _) ?a8 (by omega)) ?D ?U ?_
      (case N => k_asm)
      (case a8 => exact hvf2 _)
      (case F => k_asm)
      (case B => k_asm)
      (case X => k_asm)
      (case T => k_asm)
      (case K => first | exact rfl | assumption)
      (case D => (dsimp +zetaDelta only [ktrTop, Around.deeper, Around.under, Around.in1]; (first | omega | (simp only [wMake]; omega))))
      (case U => (dsimp +zetaDelta only [ktrTop, Around.deeper, Around.under, Around.in1]; (first | omega | (simp only [uMake]; omega))))
      intro r' news' h' tk' F' N' hr'
      obtain ⟨D2, n2, e1', e2', of2⟩ := hr'
      subst e1' e2'
      have d1 : D1 ≠ D2 := off_head of2
      have d2 : e ≠ D2 := off_head (off_tail of2)
      have d3 : st ≠ D2 := off_head (off_tail (off_tail of2))
      have d4 : opn ≠ D2 := off_head (off_tail (off_tail (off_tail of2)))
      have d5 : x ≠ D2 := off_head (off_tail (off_tail (off_tail (off_tail of2))))
      have d6 : dx ≠ D2 := off_head (off_tail (off_tail (off_tail (off_tail (off_tail of2)))))
      have hn2 : ∀ p ∈ news, p.1 ≠ D2 := fun p hp => of2 p (.tail _ (.tail _ (.tail _ (.tail _ (.tail _ (.tail _ hp))))))
      repeat' (k_extra "st")
      rename News _ _ _ _ => N8
      obtain ⟨h5, t5, N9⟩ : ∃ h5 t5, News _ _ _ ((opn, listOf #[] 0) :: (D2, listOf #[] n2) :: (D1, listOf vf.toArray n1) :: (e, oe') :: (st, listOf vst.toArray nst) :: (x, instObj 416 dx) :: (dx, dictOf [⟨h1, .str (S "entries") t1, .ref e⟩, ⟨h2, .str (S "stands") t2, .ref st⟩, ⟨h3, .str (S "opened") t3, .ref opn⟩, ⟨h4, .str (S "ordered") t4, .ref D1⟩, ⟨h5, .str (S "own_fields") t5, .ref D2⟩] 5) :: news) := ⟨_, _, ntake N8 (sub_mk (by k_mem) (sub_mk (by k_mem) (sub_mk (by k_mem) (sub_mk (by k_mem) (sub_mk (by k_mem) (sub_mk (by k_mem) (sub_mk (by k_mem) (by k_extra "tb_rel"))))))))⟩
      clear N8
      refine' Spec.c ?N ?F ?B ?X ?T ?K (look_fields_spec (ofd := D2) (x := x) (dx := dx) (es := [⟨h1, .str (S "entries") t1, .ref e⟩, ⟨h2, .str (S "stands") t2, .ref st⟩, ⟨h3, .str (S "opened") t3, .ref opn⟩, ⟨h4, .str (S "ordered") t4, .ref D1⟩, ⟨h5, .str (S "own_fields") t5, .ref D2⟩]) ?b1 ?b2 (by rfl) ?b3) ?D ?U ?_
      (case N => exact N9)
      (case b1 => k_mem)
      (case b2 => k_mem)
      (case b3 => k_mem)
      (case F => k_asm)
      (case B => k_asm)
      (case X => k_asm)
      (case T => k_asm)
      (case K => first | exact rfl | assumption)
      (case D => (dsimp +zetaDelta only [ktrTop, Around.deeper, Around.under, Around.in1]; (first | omega | (simp only [wMake]; omega))))
      (case U => (dsimp +zetaDelta only [ktrTop, Around.deeper, Around.under, Around.in1]; (first | omega | (simp only [uMake]; omega))))
      rintro r' news' h' tk' F' N' ⟨rfl, rfl⟩
      clear N9
      have hro : ∀ p ∈ (D2, listOf #[] n2) :: (D1, listOf vf.toArray n1) :: (e, oe') :: (st, listOf vst.toArray nst) :: (x, instObj 416 dx) :: (dx, dictOf [⟨h1, .str (S "entries") t1, .ref e⟩, ⟨h2, .str (S "stands") t2, .ref st⟩, ⟨h3, .str (S "opened") t3, .ref opn⟩, ⟨h4, .str (S "ordered") t4, .ref D1⟩, ⟨h5, .str (S "own_fields") t5, .ref D2⟩] 5) :: news, p.1 ≠ opn := off_cons (Ne.symm d4) (off_cons (Ne.symm c3) (off_cons (Nat.ne_of_lt lc.2.1) (off_cons (Nat.ne_of_lt lc.1) (off_cons (Nat.ne_of_lt lc.2.2.1) (off_cons (Nat.ne_of_lt lc.2.2.2.1) oo1)))))
      have hbr : ∀ p ∈ bs, p ∈ (D2, listOf #[] n2) :: (D1, listOf vf.toArray n1) :: (e, oe') :: (st, listOf vst.toArray nst) :: (x, instObj 416 dx) :: (dx, dictOf [⟨h1, .str (S "entries") t1, .ref e⟩, ⟨h2, .str (S "stands") t2, .ref st⟩, ⟨h3, .str (S "opened") t3, .ref opn⟩, ⟨h4, .str (S "ordered") t4, .ref D1⟩, ⟨h5, .str (S "own_fields") t5, .ref D2⟩] 5) :: news := fun p hp => .tail _ (.tail _ (.tail _ (.tail _ (.tail _ (.tail _ (hsub p hp))))))
      repeat' (k_extra "st")
      rename News _ _ _ _ => N9
      rename Fr _ _ _ _ => F9
      refine ⟨_, _, _, fun k m nx => SgK x dx e st opn D1 D2 il h1 t1 h2 t2 h3 t3 h4 t4 h5 t5 n1 n2 oe' vf vst nst news its opd k m nx, _, _, src_list rfl N9 (by k_mem), F9, N9, ?_, .a ⟨rfl, rfl, trivial⟩ (Nat.zero_le _), ?_, ?_⟩
      · rintro k m nx (⟨-, -⟩ | ⟨-, -, T, o, n3, n4, u3, u4, -, -⟩)
        · exact .tail _ (hbr _ hil)
        · exact .tail _ (.tail _ (hbr _ hil))
      · rintro k v m₁ nx h tk I oI R kR hk hv hJ off F10 N10
        replace F10 := frov F10 hJ.kn
        have hdv := datAt hd hv (by simp only [List.length_append, List.length_map]; omega)
        rcases hJ with ⟨hm, hk9⟩ | ⟨hm, hk9, T, o, n3, n4, u3, u4, rfl, hT, hT2⟩
        · by_cases hki : k < its.length
          · rw [List.getElem_append_left (by simpa using hki)] at hdv
            simp only [List.getElem_map] at hdv
            have hit := item_open hdv
            cases hit with | @mk ai ni w0 w1 b nb w2 w4 w5 c6 n6 c7 n7 c8 n8 m1 m2 m6 m7 m8 =>
            have m1' := hbr _ m1
            repeat' (k_extra "st")
            exact tend kR (by k_asm) (by k_asm) (by k_extra "tb_rel") off (.a ⟨rfl, rfl, trivial⟩ hki)
          · have hk3 : k = its.length := by omega
            rw [List.getElem_append_right (by simpa using hki)] at hdv
            simp only [List.getElem_map, List.length_map] at hdv
            have ho0 : k - its.length < opd.length := by omega
            have hop1 : opd = [opd[k - its.length]] := by
              match opd, hol, ho0 with
              | [o], _, h0 => simp
            generalize ho9 : opd[k - its.length] = o at hdv hop1
            obtain ⟨i9, hi9, hn9⟩ := hlin o (by rw [hop1]; exact .head _)
            obtain ⟨v9, hv9, -⟩ := hE.get hi9
            rw [hn9] at hv9
            have hit := open_open hdv
            cases hit with | @mk ai b ni nb w0 w1 w2 w3 w4 m1 m2 =>
            have m1' := hbr _ m1
            have m2' := hbr _ m2
            have q1 : opn ≠ I := off_head off
            have q2 := off_tail off
            repeat' (k_extra "st")
            refine' Spec.c ?N ?F ?B ?X ?T ?K (take_order_spec (x := x) (dx := dx) (opn := opn) (nop := 0) (rest := (I, oI) :: (D2, listOf #[] n2) :: (D1, listOf vf.toArray n1) :: (e, oe') :: (st, listOf vst.toArray nst) :: (x, instObj 416 dx) :: (dx, dictOf [⟨h1, .str (S "entries") t1, .ref e⟩, ⟨h2, .str (S "stands") t2, .ref st⟩, ⟨h3, .str (S "opened") t3, .ref opn⟩, ⟨h4, .str (S "ordered") t4, .ref D1⟩, ⟨h5, .str (S "own_fields") t5, .ref D2⟩] 5) :: news) (e := e) (oe := oe') (es := [⟨h1, .str (S "entries") t1, .ref e⟩, ⟨h2, .str (S "stands") t2, .ref st⟩, ⟨h3, .str (S "opened") t3, .ref opn⟩, ⟨h4, .str (S "ordered") t4, .ref D1⟩, ⟨h5, .str (S "own_fields") t5, .ref D2⟩]) ?b0 ?b1 ?b2 (by rfl) (by rfl) ?b3 lo hod hv9 ?b4 ?b5) ?D ?U ?_
            (case N => exact ntake (by k_asm) (sub_mk (by k_mem) (sub_mk (by k_mem) (by k_extra "tb_rel"))))
            (case b0 => exact off_cons (Ne.symm q1) hro)
            (case b1 => k_mem)
            (case b2 => k_mem)
            (case b3 => k_mem)
            (case b4 => k_mem)
            (case b5 => k_mem)
            (case F => k_asm)
            (case B => k_asm)
            (case X => k_asm)
            (case T => k_asm)
            (case K => first | exact rfl | assumption)
            (case D => (dsimp +zetaDelta only [ktrTop, Around.deeper, Around.under, Around.in1]; (first | omega | (simp only [wMake]; omega))))
            (case U => (dsimp +zetaDelta only [ktrTop, Around.deeper, Around.under, Around.in1]; (first | omega | (simp only [uMake]; omega))))
            intro r' news' h' tk' F' N' hr'
            obtain ⟨T, n3, n4, t9, e1', e2', hT1, hT2⟩ := hr'
            subst e1' e2'
            repeat' (k_extra "st")
            exact tend kR (by k_asm) (by k_asm) (sub_mk (by k_mem) (sub_mk (by k_mem) (sub_mk (by k_mem) (by k_extra "tb_rel")))) (off_cons q1 (off_cons (Ne.symm (off_head hT1)) q2)) (.b ⟨rfl, rfl, trivial⟩ (by omega) T o n3 n4 t9 w4 hop1 (off_tail hT1) hT2)
        · exfalso
          simp only [List.length_cons, List.length_nil] at hvl
          omega
      · rintro m₁ nx h tk hJ F10 N10
        replace F10 := frov F10 hJ.kn
        rcases hJ with ⟨hm, hk9⟩ | ⟨hm, hk9, T, o, n3, n4, u3, u4, rfl, hT, hT2⟩
        · have ho0 : opd = [] := List.length_eq_zero_iff.mp (by omega)
          subst ho0
          repeat' (k_extra "st")
          rename Fr _ _ _ _ => kF
          rename News _ _ _ _ => kN
          have hsg : Sigs w x its _ ((opn, listOf #[] 0) :: (D2, listOf #[] n2) :: (D1, listOf vf.toArray n1) :: (e, oe') :: (st, listOf vst.toArray nst) :: (x, instObj 416 dx) :: (dx, dictOf [⟨h1, .str (S "entries") t1, .ref e⟩, ⟨h2, .str (S "stands") t2, .ref st⟩, ⟨h3, .str (S "opened") t3, .ref opn⟩, ⟨h4, .str (S "ordered") t4, .ref D1⟩, ⟨h5, .str (S "own_fields") t5, .ref D2⟩] 5) :: bs) := Sigs.mk (e := e) (oe := oe') (st := st) (opn := opn) (od := D1) (ofd := D2) (vop := []) (.tail _ (.tail _ (.tail _ (.tail _ (.tail _ (.head _)))))) (.tail _ (.tail _ (.tail _ (.tail _ (.tail _ (.tail _ (.head _))))))) (.tail _ (.tail _ (.tail _ (.head _)))) lo hod (hE.mono fun p hp => .tail _ (.tail _ (.tail _ (.tail _ (.tail _ (.tail _ (.tail _ (hp)))))))) (.tail _ (.tail _ (.tail _ (.tail _ (.head _))))) (hstd.mono fun p hp => .tail _ (.tail _ (.tail _ (.tail _ (.tail _ (.tail _ (.tail _ (hp)))))))) (.head _) .nil (.tail _ (.tail _ (.head _))) (hvf2 _) (.tail _ (.head _))
          refine hret _ _ _ _ (by k_asm) kN ⟨x, (opn, listOf #[] 0) :: (D2, listOf #[] n2) :: (D1, listOf vf.toArray n1) :: (e, oe') :: (st, listOf vst.toArray nst) :: (x, instObj 416 dx) :: (dx, dictOf [⟨h1, .str (S "entries") t1, .ref e⟩, ⟨h2, .str (S "stands") t2, .ref st⟩, ⟨h3, .str (S "opened") t3, .ref opn⟩, ⟨h4, .str (S "ordered") t4, .ref D1⟩, ⟨h5, .str (S "own_fields") t5, .ref D2⟩] 5) :: [], rfl, rfl, hsg, ?_⟩
          exact apart_cons oo1 (apart_cons hn2 (apart_cons hn1 (apart_cons oe1 (apart_cons os1 (apart_cons ox1 (apart_cons od1 apart_nil))))))
        · repeat' (k_extra "st")
          have hT9 : ∀ p ∈ news, p.1 ≠ T := off_tail (off_tail (off_tail (off_tail (off_tail (off_tail hT)))))
          rename Fr _ _ _ _ => kF
          rename News _ _ _ _ => kN
          have hsg : Sigs w x its _ ((opn, listOf #[.ref T] n3) :: (T, tupObj [.str (S "o") u3, .str o u4] n4) :: (D2, listOf #[] n2) :: (D1, listOf vf.toArray n1) :: (e, oe') :: (st, listOf vst.toArray nst) :: (x, instObj 416 dx) :: (dx, dictOf [⟨h1, .str (S "entries") t1, .ref e⟩, ⟨h2, .str (S "stands") t2, .ref st⟩, ⟨h3, .str (S "opened") t3, .ref opn⟩, ⟨h4, .str (S "ordered") t4, .ref D1⟩, ⟨h5, .str (S "own_fields") t5, .ref D2⟩] 5) :: bs) := Sigs.mk (e := e) (oe := oe') (st := st) (opn := opn) (od := D1) (ofd := D2) (vop := [.ref T]) (.tail _ (.tail _ (.tail _ (.tail _ (.tail _ (.tail _ (.head _))))))) (.tail _ (.tail _ (.tail _ (.tail _ (.tail _ (.tail _ (.tail _ (.head _)))))))) (.tail _ (.tail _ (.tail _ (.tail _ (.head _))))) lo hod (hE.mono fun p hp => .tail _ (.tail _ (.tail _ (.tail _ (.tail _ (.tail _ (.tail _ (.tail _ (hp))))))))) (.tail _ (.tail _ (.tail _ (.tail _ (.tail _ (.head _)))))) (hstd.mono fun p hp => .tail _ (.tail _ (.tail _ (.tail _ (.tail _ (.tail _ (.tail _ (.tail _ (hp))))))))) (.head _) (.one (.tuple (.tail _ (.head _)) (.cons (.str _ _) (.one (.str _ _))))) (.tail _ (.tail _ (.tail _ (.head _)))) (hvf2 _) (.tail _ (.tail _ (.head _)))
          refine hret _ _ _ _ (by k_asm) kN ⟨x, (opn, listOf #[.ref T] n3) :: (T, tupObj [.str (S "o") u3, .str o u4] n4) :: (D2, listOf #[] n2) :: (D1, listOf vf.toArray n1) :: (e, oe') :: (st, listOf vst.toArray nst) :: (x, instObj 416 dx) :: (dx, dictOf [⟨h1, .str (S "entries") t1, .ref e⟩, ⟨h2, .str (S "stands") t2, .ref st⟩, ⟨h3, .str (S "opened") t3, .ref opn⟩, ⟨h4, .str (S "ordered") t4, .ref D1⟩, ⟨h5, .str (S "own_fields") t5, .ref D2⟩] 5) :: [], rfl, rfl, hsg, ?_⟩
          exact apart_cons oo1 (apart_cons hT9 (apart_cons hn2 (apart_cons hn1 (apart_cons oe1 (apart_cons os1 (apart_cons ox1 (apart_cons od1 apart_nil)))))))
end
end
section
section
variable {w : World} {loose : List Str} {mean : ExcName → Option Value} {mg mb : Str → Option Value}
theorem next_spec {d c : Addr} {o : Obj} {rest : Led} {k : Int} {vs : List Value} {ns : List Int} {n : Nat} {wide : Int} {tw : Tok}
   (hd : ∀ p ∈ rest, p.1 ≠ d) (ho : Feed w c o k) (hk0 : 0 ≤ k) (hk1 : k ≤ 100000) (hc : (c, listOf vs.toArray n) ∈ rest) (hi : IntsAre vs ns) (hl : ns.length ≤ 40) (hw : 0 < wide) (hlo : (d == sysModules) = false) :
   Spec w loose mean mg mb 10 64 (.ref 434) [.ref d, .int wide tw] ((d, o) :: rest) (fun r news' => ∃ v t o', r = .int v t ∧ 0 ≤ v ∧ v < wide ∧ news' = (d, o') :: rest ∧ Feed w c o' (k + 1)) None2 := by
  unfold Spec
  k_fill
  intro dp un gd cn cs a ccd cl outer A₀ base h₀ L m s Q E B F X N T hk hR hok hret hexc
  obtain ⟨t, tc, ts, ho⟩ := ho
  have hlv := hi.length
  refine wpAny_call ?_
  k_dflt ktr_enter
  rename Fr _ _ _ _ => F1
  replace F1 : Fr _ _ _ (fun y => List.lookup y [(Str.ofString "wide", Value.int wide tw), (Str.ofString "feed", Value.ref d)]) := F1
  refine opq (by passes_own) ?_
  intro A9 R9 E9 kR9 kE9 pE9
  repeat' (k_extra "st")
  all_goals (rename News _ _ _ _ => kN; rename Obj.IsDictOf _ _ _ => hd9; exact hret _ _ _ _ (by k_asm) kN ⟨_, _, _, rfl, Int.fmod_nonneg_of_pos _ hw, Int.fmod_lt_of_pos _ hw, rfl, _, tc, ts, hd9⟩)
end
section
variable {w : World} {loose : List Str} {mean : ExcName → Option Value} {mg mb : Str → Option Value}
theorem Spec.turn {d u : Nat} {f : Value} {vs : List Value} {news n1 : Led} {Ret Ret2 : Value → Led → Prop} (h : Spec w loose mean mg mb d u f vs n1 Ret None2) (hs : ∀ p ∈ n1, p ∈ news) (hr : ∀ r n', Ret r n' → ∃ n2, Ret2 r n2 ∧ ∀ p ∈ n2, p ∈ n') :
    Spec w loose mean mg mb d u f vs news Ret2 None2 := by
  intro dp un gd cn cs a ccd cl outer A₀ base h₀ L m s Q E B F X N T hk hR hok hret hexc
  refine h _ _ _ _ _ _ _ _ _ _ _ _ _ _ _ _ _ B F X (ntake N hs) T hk hR hok (fun r n' h' tk' F' N' R => ?_) (fun _ _ _ _ _ _ hf => hf.elim)
  obtain ⟨n2, R2, s2⟩ := hr _ _ R
  exact hret _ _ _ _ F' (ntake N' s2) R2
/-- the feed: its dict d, its cells' list c; k cells are drawn -/
structure Fd (w : World) (d c : Addr) (vs : List Value) (o : Obj) (k : Nat) : Prop where
  feed : Feed w c o (k : Int)
  lo : (d == sysModules) = false
  ne : c ≠ d
  cells : ∃ ns, IntsAre vs ns ∧ ns.length ≤ 40
inductive NextRet (w : World) (d c : Addr) (vs : List Value) (g : Obj → Led) (k : Nat) (wide : Int) : Value → Led → Prop
  | mk (v : Int) (t : Tok) (o' : Obj) (h0 : 0 ≤ v) (h1 : v < wide) (hF : Fd w d c vs o' (k + 1)) : NextRet w d c vs g k wide (.int v t) (g o')
theorem NextRet.el {w : World} {d c : Addr} {vs : List Value} {g : Obj → Led} {k : Nat} {wide : Int} : ∀ K : Value → Led → Prop, (∀ v t o', 0 ≤ v → v < wide → Fd w d c vs o' (k + 1) → K (.int v t) (g o')) → ∀ r n, NextRet w d c vs g k wide r n → K r n := fun _ k _ _ h => by cases h; exact k _ _ _ (by assumption) (by assumption) (by assumption)
theorem nextF_spec {d c : Addr} {o : Obj} {news : Led} {g : Obj → Led} {k : Nat} {vs : List Value} {n : Nat} {wide : Int} {tw : Tok}
    (U : UpdF d o news g) (hF : Fd w d c vs o k) (hk : k ≤ 100000) (hc : (c, listOf vs.toArray n) ∈ news) (hw : 0 < wide) :
    Spec w loose mean mg mb 10 64 (.ref 434) [.ref d, .int wide tw] news (NextRet w d c vs g k wide) None2 := by
  obtain ⟨hf, lo, ne, ns, hi, hl⟩ := hF
  obtain ⟨pre, post, rfl, hg, ha, hb⟩ := U.split
  have hc' : (c, listOf vs.toArray n) ∈ pre ++ post := by
    rcases List.mem_append.mp hc with h | h
    · exact List.mem_append.mpr (.inl h)
    · rcases List.mem_cons.mp h with h | h
      · exact absurd (congrArg Prod.fst h) ne
      · exact List.mem_append.mpr (.inr h)
  refine Spec.turn (next_spec (rest := pre ++ post) (fun p hp => ?_) hf (Int.natCast_nonneg _) (by omega) hc' hi hl hw lo) (fun p hp => ?_) ?_
  · rcases List.mem_append.mp hp with h | h
    · exact ha p h
    · exact hb p h
  · rcases List.mem_cons.mp hp with rfl | h
    · exact List.mem_append.mpr (.inr (.head _))
    · rcases List.mem_append.mp h with h | h
      · exact List.mem_append.mpr (.inl h)
      · exact List.mem_append.mpr (.inr (.tail _ h))
  · rintro r n' ⟨v, t, o', rfl, h0, h1, rfl, hf'⟩
    refine ⟨g o', ⟨v, t, o', h0, h1, by exact_mod_cast hf', lo, ne, ns, hi, hl⟩, fun p hp => ?_⟩
    rw [hg] at hp
    rcases List.mem_append.mp hp with h | h
    · exact .tail _ (List.mem_append.mpr (.inl h))
    · rcases List.mem_cons.mp h with rfl | h
      · exact .head _
      · exact .tail _ (List.mem_append.mpr (.inr h))
end
end
section
open PySem.Calls PySem.Spec
/-- as Spec, with what is raised: an own exception's class; the ledger bs is kept -/
noncomputable def SpecX (w : World) (loose : List Str) (mean : ExcName → Option Value) (mg mb : Str → Option Value) (d u : Nat) (f : Value) (vs : List Value) (news bs : Led) (Ret : Value → Led → Prop) (Exc : Addr → Prop) : Prop :=
  ∀ (dp un : Nat) (gd : Option (List Code)) (cn : Str) (cs : Scope) (a : Addr) (ccd : Value) (cl : List (Str × Addr)) (outer : List Env) (A₀ : Around) (base h₀ : Heap) (L : Addr) (m : Str → Option Value) (s : Shared)
    (Q E : Value → Shared → Prop),
    Below A₀ base outer h₀ → Fr h₀ L s.heap m → (Mine.hd.heap_39 w.params).In h₀ → News h₀ L s.heap news → Top Mine.hd.view_39 loose mean mg mb h₀ → cs.kind = .function → dp + d < recursionLimit → un + u < cLine →
    (∀ r news' h' tk', Fr h₀ L h' m → News h₀ L h' news' → Ret r news' → Q r { s with heap := h', toks := tk' }) →
    (∀ e C t ws g h' tk', Fr h₀ L g m → RaisedS base g (envX cn cs L a ccd cl :: outer) e (.ref C) t ws bs h' → g.UpToSlots h' → Exc C → E (.ref e) { s with heap := h', toks := tk' }) →
    wpAny (model PySem.Challenge.rw_nz0394_01.row.prog w) (ktrTop dp un gd cn cs L a ccd cl outer) (call f vs) Q E s
theorem SpecX.use {w : World} {loose : List Str} {mean : ExcName → Option Value} {mg mb : Str → Option Value} {d u : Nat} {f : Value} {vs : List Value} {news bs : Led} {Ret : Value → Led → Prop} {Exc : Addr → Prop}
    {dp un : Nat} {gd : Option (List Code)} {cn : Str} {cs : Scope} {a : Addr} {ccd : Value} {cl : List (Str × Addr)} {outer : List Env} {A₀ : Around} {base h₀ : Heap} {L : Addr} {m : Str → Option Value} {s : Shared} {Q E : Value → Shared → Prop}
    (h : SpecX w loose mean mg mb d u f vs news bs Ret Exc) (B : Below A₀ base outer h₀) (F : Fr h₀ L s.heap m) (X : (Mine.hd.heap_39 w.params).In h₀) (N : News h₀ L s.heap news) (T : Top Mine.hd.view_39 loose mean mg mb h₀) (hk : cs.kind = .function) (hd : dp + d < recursionLimit) (hu : un + u < cLine)
    (ret : ∀ r news' h' tk', Fr h₀ L h' m → News h₀ L h' news' → Ret r news' → Q r { s with heap := h', toks := tk' })
    (exc : ∀ e C t ws g h' tk', Fr h₀ L g m → RaisedS base g (envX cn cs L a ccd cl :: outer) e (.ref C) t ws bs h' → g.UpToSlots h' → Exc C → E (.ref e) { s with heap := h', toks := tk' }) :
    wpAny (model PySem.Challenge.rw_nz0394_01.row.prog w) (ktrTop dp un gd cn cs L a ccd cl outer) (call f vs) Q E s := h _ _ _ _ _ _ _ _ _ _ _ _ _ _ _ _ _ B F X N T hk hd hu ret exc
inductive RaiseEnd (h₀ : Heap) (L : Addr) (E : Value → Shared → Prop) (v : Value) (s₁ : Shared) : Prop
  | mk (e C t dd m news : _) (c1 : v = .ref e) (c2 : C = 100 ∨ C = 112) (c3 : Fr h₀ L s₁.heap m) (c4 : News h₀ L s₁.heap news) (c5 : (e, excObj C t dd) ∈ news) (c6 : E (.ref e) s₁) : RaiseEnd h₀ L E v s₁
theorem raise_X {w : World} {A : Around} {E : Value → Shared → Prop} {s : Shared} {env : Env} {x : Expr} {pos : Pos} {h₀ : Heap} {L : Addr} {m : Str → Option Value} {Q : Flow → Shared → Prop} (_F : Fr h₀ L s.heap m) (X : (Mine.hd.heap_39 w.params).In h₀) (hh : A.handled = none)
    (h : wpAny (model PG w) A (eval x env) (RaiseEnd h₀ L E) E s) : wpAny (model PG w) A (exec (.Raise (some x) none pos) env) Q E s := by
  rw [arm_exec_Raise]
  refine wpAny_bind (wpAny_standAt ?_)
  show wpAny _ _ (raiseStmt env (some (eval x env >>= fun v => standAt pos >>= fun _ => pure v)) none) _ _ _
  unfold raiseStmt
  refine wpAny_bind (wpAny_bind (wpAny_mono h (fun v s₁ h₁ => wpAny_bind (wpAny_standAt (wpAny_pure ?_))) fun _ _ x => x))
  obtain ⟨e, C, t, dd, m, news, rfl, hC, F, N, he, hE⟩ := h₁
  have zE := (N _ he).1
  obtain ⟨hp, g, d, tk, os⟩ := s₁
  rcases hC with rfl | rfl
  · have hC := (X.keeps F.keep) 100 _ rfl
    have hb := xcls100.b
    repeat (first | with_reducible refine wpAny_loadPart_at zE ?_ | with_reducible refine wpAny_loadPart_at hC ?_ | wp_step)
    show wpAny _ _ (isSubtype (.ref 100) _) _ _ _
    refine wpAny_isSubtype_exc hC ?_
    rw [hb]
    repeat (first | with_reducible refine wpAny_loadPart_at zE ?_ | with_reducible refine wpAny_loadPart_at hC ?_ | wp_step)
    exact wpAny_raiseNew_none hh hE
  · have hC := (X.keeps F.keep) 112 _ rfl
    have hb := xcls112.b
    repeat (first | with_reducible refine wpAny_loadPart_at zE ?_ | with_reducible refine wpAny_loadPart_at hC ?_ | wp_step)
    show wpAny _ _ (isSubtype (.ref 112) _) _ _ _
    refine wpAny_isSubtype_exc hC ?_
    rw [hb]
    repeat (first | with_reducible refine wpAny_loadPart_at zE ?_ | with_reducible refine wpAny_loadPart_at hC ?_ | wp_step)
    exact wpAny_raiseNew_none hh hE
theorem off_sub {a : Addr} {l r : Led} (h : ∀ p ∈ l, p.1 ≠ a) (hs : ∀ p ∈ r, p ∈ l) : ∀ p ∈ r, p.1 ≠ a := fun p hp => h p (hs p hp)
noncomputable def KeepIs (_ : Led) : Prop := True
theorem leave_excK {M : Model} {A : Around} {E : Value → Shared → Prop} {s' : Shared} {base g : Heap} {outer : List Env} {env : Env} {L e t C : Addr} {dd : Option Addr} {vs : List Value} {n : Nat} {m : Str → Option Value} {Q : Unit → Shared → Prop} {news nk mid : Led} (_kk : KeepIs nk)
    (K : Below A base outer g) (hf : env.frame = some L) (hk : env.scope.kind = .function) (F : Fr g L s'.heap m) (N : News g L s'.heap news) (he : (e, excObj C t dd) ∈ news) (ht : (t, tupObj vs n) ∈ news)
    (hs : ∀ p ∈ mid, p ∈ news) (hne : ∀ p ∈ mid, p.1 ≠ e) (hnt : ∀ p ∈ mid, p.1 ≠ t) (hsub : ∀ p ∈ nk, p ∈ mid)
    (hQ : ∀ h', RaisedS base g outer e (.ref C) t vs nk h' → g.UpToSlots h' → Q () { s' with heap := h' }) :
    wpAny M (A.deeper env) (leaving env (.ref e)) Q E s' := leave_exc K hf hk F N he ht (fun p hp => hs p (hsub p hp)) (fun p hp => hne p (hsub p hp)) (fun p hp => hnt p (hsub p hp)) hQ
theorem leave_onK2 {M : Model} {A : Around} {E : Value → Shared → Prop} {s' : Shared} {base g g₂ : Heap} {outer : List Env} {env : Env} {L e t C : Addr} {vs : List Value} {m : Str → Option Value} {Q : Unit → Shared → Prop} {nk : Led} (_kk : KeepIs nk)
    (K : Below A base outer g) (hf : env.frame = some L) (F : Fr g L g₂ m) (R : RaisedS base g₂ (env :: outer) e (.ref C) t vs nk s'.heap) (hsm : g₂.UpToSlots s'.heap)
    (hQ : ∀ h', RaisedS base g outer e (.ref C) t vs nk h' → g.UpToSlots h' → Q () { s' with heap := h' }) :
    wpAny M (A.deeper env) (leaving env (.ref e)) Q E s' := leave_onX K hf F R hsm hQ
end
section
open PySem.Calls PySem.Spec
theorem exm_self {M : Model} {A : Around} {K : Frag} {g h : Heap} {e C : Addr} {oe : Obj} {gs : Array GenState} {d : Drawn} {tk : Nat} {os : OsState} {Q : Bool → Shared → Prop} {E : Value → Shared → Prop} (X : K.In g) (q : ktsIn K C "BaseException" = true) (keep : ∀ b o, g.get? b = some o → h.get? b = some o)
    (he : h.get? e = some oe) (hcls : oe.cls = .ref C) (hq : Q true ⟨h, gs, d, tk, os⟩) : wpAny M A (excMatches (.ref e) (.ref C)) Q E ⟨h, gs, d, tk, os⟩ := by
  obtain ⟨_, _, _, _, _, _, _, _, _, _, _, _, _, _, _, _, _, hC, hbase, _⟩ := kts_cls X q
  exact wpAny_excMatches_sub_self (keep _ _ hC) he hcls hbase hq
section
variable {prog : Program} {w : World} {A₀ : Around} {E : Value → Shared → Prop} {s' : Shared} {base g g₀ G : Heap} {outer : List Env} {L a e t C C1 : Addr} {m : Str → Option Value} {name : Str} {scope : Scope} {cd : Value}
  {vs : List Value} {b₀ : Stmt} {suite body1 : List Stmt} {pos np pos1 np1 : Pos} {rest : List ExceptHandler} {Q : Flow → Shared → Prop} {news : Led} {KF : Frag}
  {p : Program} {loose : List Str} {mean : ExcName → Option Value} {mg mb : Str → Option Value} {x x1 : Str} {name1 : Option Str}
/-- the first clause's class is another, the second's is the exception's own -/
theorem caught_2 (R : RaisedS base G (envOf name scope L a cd :: outer) e (.ref C) t vs news s'.heap) (F : Fr g L G m) (K : Below A₀ base outer g) (hsm : G.UpToSlots s'.heap) (XB : KF.In base) (TB : Top p loose mean mg mb base)
    (D : KtsDicts (outer.filterMap (·.frame)) g) (T0 : KtsTurn (outer.filterMap (·.frame)) g₀ g)
    (ex1 : nsIn KF mainGlobals x1 = some (some (.ref C1))) (q1 : exmOne KF (.ref C) (.ref C1) = some false) (ex : nsIn KF mainGlobals x = some (some (.ref C))) (q : ktsIn KF C "BaseException" = true)
    (k : ∀ h' g' news₂, KtsTurn (outer.filterMap (·.frame)) g₀ g' → Fr g' L h' m → News g' L h' news₂ → Got news₂ e t (.ref C) vs → News g' L h' news → Below A₀ base outer g' → KF.In g' → Top p loose mean mg mb g' → KtsDicts (outer.filterMap (·.frame)) g' →
      wpAny (model prog w) ((A₀.deeper (envOf name scope L a cd)).mark (some (.ref e))) (execs (b₀ :: suite) (envOf name scope L a cd)) Q E { s' with heap := h' })
    (hk : scope.kind = .function := by rfl) (hx1 : (envOf name scope L a cd).kindOf x1 = some .globalImplicit := by rfl) (hd1 : (x1 == ("__debug__" : Str)) = false := by decide) (hx : (envOf name scope L a cd).kindOf x = some .globalImplicit := by rfl) (hd : (x == ("__debug__" : Str)) = false := by decide)
    (hE : PassesOwnAt (model prog w) ((A₀.deeper (envOf name scope L a cd)).mark (some (.ref e))) (A₀.deeper (envOf name scope L a cd)) (envOf name scope L a cd) E := by passes_own) :
    wpAny (model prog w) (A₀.deeper (envOf name scope L a cd)) (noteFrame (.ref e) (envOf name scope L a cd))
      (fun _ s₂ => wpAny (model prog w) (A₀.deeper (envOf name scope L a cd)) (setFlight (.ref e) none) (fun _ s₃ =>
        wpAny (model prog w) (A₀.deeper (envOf name scope L a cd)) (handleBy (.ref e) (envOf name scope L a cd) (.ExceptHandler (some (.Name x1 np1)) name1 body1 pos1 :: .ExceptHandler (some (.Name x np)) none (b₀ :: suite) pos :: rest)) Q E s₃) E s₂) E s' := by
  obtain ⟨⟨B, hB, hBG, hl, hfl, hnew⟩, htup⟩ := R
  have hL : B.get? L = none := by
    obtain ⟨_, ⟨L', _, hf, hn', _⟩, _⟩ := hfl.2.2.1
    obtain rfl : L = L' := Option.some.inj hf
    exact hn'
  refine wpAny_looks_onW (Around.frames_deeper K.stack) rfl hfl fun h₄ hheld₄ hsm₄ => ?_
  refine wpAny_landsW hheld₄ fun h₅ hheld hsm₅' => ?_
  have hsm₅ := hsm₄.trans hsm₅'
  obtain ⟨g₅, T₅, F₅, K₅⟩ := kts_ground K F hBG hheld.1 (hsm.trans hsm₅)
  have X₅ : KF.In g₅ := XB.keeps K₅.stays
  have P₅ : TopRead p loose mg mb g₅ := topRead_of (TB.keeps K₅.stays)
  obtain ⟨ob, hob, hobc⟩ := hheld.there
  have X5 : KF.In h₅ := X₅.keeps F₅.keep
  have LT : Looks (model prog w) h₅ (typeOf (.ref e)) (.ref C) := hobc ▸ (Looks.ld hob).andThen .now
  refine wpAny_handleBy_cons (codeAny_handlers_test (name_K F₅ X₅ P₅ ex1 ?_ hk hx1 hd1)) (by intro q; cases q)
  refine (exm_one X5 LT q1) _ _ _ _ (fun _ _ e => e) ?_
  show wpAny (model prog w) (A₀.deeper (envOf name scope L a cd)) (handleBy (.ref e) (envOf name scope L a cd) (.ExceptHandler (some (.Name x np)) none (b₀ :: suite) pos :: rest)) Q E _
  refine wpAny_handleBy_cons (codeAny_handlers_test (name_K F₅ X₅ P₅ ex ?_ hk hx hd)) (by intro q; cases q)
  refine exm_self X₅ q F₅.keep hob hobc (codeAny_handlers_suite ?_)
  refine lands_againW hheld fun h₆ hfl₆ hsm₆ => ?_
  obtain ⟨g₆, T₆, F₆, K₆⟩ := kts_ground K F hBG hfl₆.1 ((hsm.trans hsm₅).trans hsm₆)
  obtain ⟨oe, ws, hoe, hoec, hoed, hoe0⟩ := hfl₆.first
  obtain ⟨ot, nt, hot, hotc, hotd⟩ := (htup.of_slots hsm₅).of_slots hsm₆
  have ne₆ : g₆.get? e = none := T₆.none_ _ (kts_fresh F hBG hfl₆.2.1 fun o ho m => by
    obtain ⟨_, o', ho', hd⟩ := K.frames.mem m
    rw [ho] at ho'
    cases ho'
    obtain ⟨sl, hs⟩ := ((hsm.trans hsm₅).trans hsm₆) _ _ (F.keep _ _ ho) hd
    rw [hoe] at hs
    cases hs
    exact hd _ hoed)
  have nt₆ : g₆.get? t = none := T₆.none_ _ (kts_fresh F hBG hnew fun o ho m => by
    obtain ⟨o', es, n', ho', hd⟩ := D _ m
    rw [ho] at ho'
    cases ho'
    obtain ⟨sl, hs⟩ := ((hsm.trans hsm₅).trans hsm₆) _ _ (F.keep _ _ ho) (fun vs q => by rw [hd] at q; cases q)
    rw [hot] at hs
    cases hs
    have z := hd.symm.trans hotd
    cases z)
  have N₆ := News.more F₆ (News.more F₆ News.nil hot (fun es n q => by rw [hotd] at q; cases q) nt₆) hoe (fun es n q => by rw [hoed] at q; cases q) ne₆
  have Nl : News g₆ L h₆ news := fun q hq => ⟨hfl₆.1 _ _ (hl q hq).1, (fun z => by have := (hl q hq).1; rw [z, hL] at this; cases this), T₆.none_ _ (kts_none F.keep (hl q hq).2.1)⟩
  exact wpAny_passesOwnAt hE (k h₆ g₆ _ (T0.trans T₆) F₆ N₆ ⟨oe, ot, ws, nt, .head _, .tail _ (.head _), hoec, hoed, hoe0, hotc, hotd⟩ Nl K₆ (XB.keeps K₆.stays) (TB.keeps K₆.stays) (D.turn T₆))
end
end
section
open PySem.Calls PySem.Spec
section
variable {prog : Program} {w : World} {A₀ : Around} {E : Value → Shared → Prop} {s' : Shared} {base g g₀ G : Heap} {outer : List Env} {L a e t C : Addr} {m : Str → Option Value} {name : Str} {scope : Scope} {cd : Value} {cl : List (Str × Addr)}
  {vs : List Value} {b₀ : Stmt} {suite : List Stmt} {pos np : Pos} {rest : List ExceptHandler} {Q : Flow → Shared → Prop} {news : Led} {KF : Frag}
  {p : Program} {loose : List Str} {mean : ExcName → Option Value} {mg mb : Str → Option Value} {x : Str}
/-- the first clause's class is the exception's own; the frame may have cells -/
theorem caught_1C (R : RaisedS base G (envX name scope L a cd cl :: outer) e (.ref C) t vs news s'.heap) (F : Fr g L G m) (K : Below A₀ base outer g) (hsm : G.UpToSlots s'.heap) (XB : KF.In base) (TB : Top p loose mean mg mb base)
    (D : KtsDicts (outer.filterMap (·.frame)) g) (T0 : KtsTurn (outer.filterMap (·.frame)) g₀ g)
    (ex : nsIn KF mainGlobals x = some (some (.ref C))) (q : ktsIn KF C "BaseException" = true)
    (k : ∀ h' g' news₂, KtsTurn (outer.filterMap (·.frame)) g₀ g' → Fr g' L h' m → News g' L h' news₂ → Got news₂ e t (.ref C) vs → News g' L h' news → Below A₀ base outer g' → KF.In g' → Top p loose mean mg mb g' → KtsDicts (outer.filterMap (·.frame)) g' →
      wpAny (model prog w) ((A₀.deeper (envX name scope L a cd cl)).mark (some (.ref e))) (execs (b₀ :: suite) (envX name scope L a cd cl)) Q E { s' with heap := h' })
    (hk : scope.kind = .function := by rfl) (hx : (envX name scope L a cd cl).kindOf x = some .globalImplicit := by rfl) (hd : (x == ("__debug__" : Str)) = false := by decide)
    (hE : PassesOwnAt (model prog w) ((A₀.deeper (envX name scope L a cd cl)).mark (some (.ref e))) (A₀.deeper (envX name scope L a cd cl)) (envX name scope L a cd cl) E := by passes_own) :
    wpAny (model prog w) (A₀.deeper (envX name scope L a cd cl)) (noteFrame (.ref e) (envX name scope L a cd cl))
      (fun _ s₂ => wpAny (model prog w) (A₀.deeper (envX name scope L a cd cl)) (setFlight (.ref e) none) (fun _ s₃ =>
        wpAny (model prog w) (A₀.deeper (envX name scope L a cd cl)) (handleBy (.ref e) (envX name scope L a cd cl) (.ExceptHandler (some (.Name x np)) none (b₀ :: suite) pos :: rest)) Q E s₃) E s₂) E s' := by
  obtain ⟨⟨B, hB, hBG, hl, hfl, hnew⟩, htup⟩ := R
  have hL : B.get? L = none := by
    obtain ⟨_, ⟨L', _, hf, hn', _⟩, _⟩ := hfl.2.2.1
    obtain rfl : L = L' := Option.some.inj hf
    exact hn'
  refine wpAny_looks_onW (Around.frames_deeper K.stack) rfl hfl fun h₄ hheld₄ hsm₄ => ?_
  refine wpAny_landsW hheld₄ fun h₅ hheld hsm₅' => ?_
  have hsm₅ := hsm₄.trans hsm₅'
  obtain ⟨g₅, T₅, F₅, K₅⟩ := kts_ground (name := name) (scope := scope) (a := a) (cd := cd) K F hBG hheld.1 (hsm.trans hsm₅)
  have X₅ : KF.In g₅ := XB.keeps K₅.stays
  have P₅ : TopRead p loose mg mb g₅ := topRead_of (TB.keeps K₅.stays)
  obtain ⟨ob, hob, hobc⟩ := hheld.there
  refine wpAny_handleBy_cons (codeAny_handlers_test (nameX_K F₅ X₅ P₅ ex ?_ hk hx hd)) (by intro q; cases q)
  refine exm_self X₅ q F₅.keep hob hobc (codeAny_handlers_suite ?_)
  refine lands_againW hheld fun h₆ hfl₆ hsm₆ => ?_
  obtain ⟨g₆, T₆, F₆, K₆⟩ := kts_ground (name := name) (scope := scope) (a := a) (cd := cd) K F hBG hfl₆.1 ((hsm.trans hsm₅).trans hsm₆)
  obtain ⟨oe, ws, hoe, hoec, hoed, hoe0⟩ := hfl₆.first
  obtain ⟨ot, nt, hot, hotc, hotd⟩ := (htup.of_slots hsm₅).of_slots hsm₆
  have ne₆ : g₆.get? e = none := T₆.none_ _ (kts_fresh (name := name) (scope := scope) (a := a) (cd := cd) F hBG hfl₆.2.1 fun o ho m => by
    obtain ⟨_, o', ho', hd⟩ := K.frames.mem m
    rw [ho] at ho'
    cases ho'
    obtain ⟨sl, hs⟩ := ((hsm.trans hsm₅).trans hsm₆) _ _ (F.keep _ _ ho) hd
    rw [hoe] at hs
    cases hs
    exact hd _ hoed)
  have nt₆ : g₆.get? t = none := T₆.none_ _ (kts_fresh (name := name) (scope := scope) (a := a) (cd := cd) F hBG hnew fun o ho m => by
    obtain ⟨o', es, n', ho', hd⟩ := D _ m
    rw [ho] at ho'
    cases ho'
    obtain ⟨sl, hs⟩ := ((hsm.trans hsm₅).trans hsm₆) _ _ (F.keep _ _ ho) (fun vs q => by rw [hd] at q; cases q)
    rw [hot] at hs
    cases hs
    have z := hd.symm.trans hotd
    cases z)
  have N₆ := News.more F₆ (News.more F₆ News.nil hot (fun es n q => by rw [hotd] at q; cases q) nt₆) hoe (fun es n q => by rw [hoed] at q; cases q) ne₆
  have Nl : News g₆ L h₆ news := fun q hq => ⟨hfl₆.1 _ _ (hl q hq).1, (fun z => by have := (hl q hq).1; rw [z, hL] at this; cases this), T₆.none_ _ (kts_none F.keep (hl q hq).2.1)⟩
  exact wpAny_passesOwnAt hE (k h₆ g₆ _ (T0.trans T₆) F₆ N₆ ⟨oe, ot, ws, nt, .head _, .tail _ (.head _), hoec, hoed, hoe0, hotc, hotd⟩ Nl K₆ (XB.keeps K₆.stays) (TB.keeps K₆.stays) (D.turn T₆))
end
section
variable {prog : Program} {w : World} {A₀ A : Around} {s : Shared} {base h₀ : Heap} {L a : Addr} {m : Str → Option Value} {cn : Str} {cs : Scope} {ccd : Value} {news : Led} {K : Frag} {p : Program} {loose : List Str} {mean : ExcName → Option Value} {mg mb : Str → Option Value}
    {R : Result → Shared → Prop} {name qual : Str} {params : Arguments} {body : List Stmt} {scope : Scope} {dV kV doc pm cdv ct oc : Value} {an od : Option Addr} {osl : Array (Option Value)} {f : Addr} {args : Args} {binds : List (Str × Value)}
/-- the entry of a function with cells, its caller the law itself -/
theorem code_defS0C (B : Below A₀ base [] h₀) (F : Fr h₀ L s.heap m) (X₀ : K.In h₀) (N : News h₀ L s.heap news) (T : Top p loose mean mg mb h₀) (hA : A.frames = some [envOf cn cs L a ccd])
    (ho : K.lookup f = some ⟨oc, od, .func (fnOf name qual params body scope dV kV doc pm an cdv ct), osl⟩) (hcd : codeIn K cdv qual = true) (hroom : A.depth < recursionLimit)
    (hbind : BindsTo s (fnOf name qual params body scope dV kV doc pm an cdv ct) args binds) (hkind : (binds.all fun y => scope.names.lookup y.1 == some .local || scope.names.lookup y.1 == some .cell) = true)
    (hnd : ((cellsFrom 0 scope.names []).map (·.1)).Nodup)
    (h : ∀ g L' h₁ tk cells, Fr h₀ L g m → Fr g L' h₁ (bindL (envOfC qual scope L' f cdv).kindOf binds fun _ => none) → News g L' h₁ (cells ++ news) →
      CellsAre (bindC (envOfC qual scope L' f cdv).kindOf binds fun _ => none) (cellsFrom (L' + 1) scope.names []) cells → Below A base [envOf cn cs L a ccd] g → K.In g → Top p loose mean mg mb g → KtsDicts ([envOf cn cs L a ccd].filterMap (·.frame)) g → (∀ p ∈ news, p.1 < L') →
      wpAny (model prog w) (A.deeper (envOfC qual scope L' f cdv)) (execs body (envOfC qual scope L' f cdv))
        (fun fl s' => LeaveS0 ([envOf cn cs L a ccd].filterMap (·.frame)) h₀ L m g R (match fl with | .ret v => v | _ => .none) s')
        (fun e s' => wpAny (model prog w) (A.deeper (envOfC qual scope L' f cdv)) (leaving (envOfC qual scope L' f cdv) e) (fun _ s'' => R (.error e) s'') (fun e' s'' => R (.error e') s'') s')
        { s with heap := h₁, toks := tk })
    (hck : cs.kind = .function) (hco : scope.isCoroutine = false) (hgen : scope.isGenerator = false) (hk : scope.kind = .function) : codeAny (model prog w) A (.call (.ref f) args) R s := by
  have X := X₀.keeps F.keep
  obtain ⟨oL, es, ep, hLg, hLd, hN, hNs, st, B₂⟩ := kts_enter B F N hA hck
  refine codeAny_call_function hroom (X _ _ ho) rfl hco hgen rfl (codeRec_of X hcd) (hbind _ _ _ _ ?_)
  refine wpAny_newFunctionEnv_cells hk (kindsX hkind _) fun env' he s' x => ?_
  subst he
  refine ⟨(T.nolimit.keeps F.keep).keeps x.toInCall.keep, codeAny_func ?_⟩
  obtain ⟨h₁, tk, rfl, _⟩ := x.done
  have hk₁ := x.toInCall.keep
  obtain ⟨cells, NC, Y⟩ := Cl.news (h₀ := s.heap) (Nat.le_refl _) fun n c hm => ⟨x.cell n c (lookup_of_mem_nodup (cellsFrom_names scope.names 0 (s.heap.objs.size + 1) [] [] rfl ▸ hnd) hm), x.above n c hm⟩
  refine wpAny_mono (h _ s.heap.objs.size h₁ tk cells ⟨hN _ hLg, st, F.above⟩ ⟨x.toInCall.ns, fun b o e => hk₁ b o (of_hideAll _ e), Nat.le_of_eq (hideAll_size _ _)⟩ (fun p hp => ?_) Y B₂ (X₀.keeps st) (T.keeps st) (fun b hb => ?_) (fun p hp => Heap.lt_size (N p hp).1)) (fun fl s' hl => ?_) fun _ _ y => y
  · rcases List.mem_append.mp hp with hp | hp
    · refine ⟨(NC p hp).1, (NC p hp).2.1, ?_⟩
      cases q : (hideAll s.heap (news.map (·.1))).get? p.1 with
      | none => rfl
      | some o => have := of_hideAll _ q; rw [(NC p hp).2.2] at this; cases this
    · exact ⟨hk₁ _ _ (N p hp).1, Nat.ne_of_lt (Heap.lt_size (N p hp).1), hideAll_none _ (List.mem_map_of_mem hp)⟩
  · rcases kts_mem hb with rfl | z
    · exact ⟨oL, es, ep, hLg, hLd⟩
    · simp at z
  · obtain ⟨g', L', m', news', T', F', N', k⟩ := hl
    have nL₀ : h₀.get? L = none := kts_self F
    obtain ⟨sl, hs⟩ := T'.up hLg
    refine k ⟨hNs sl _ (F'.keep _ _ hs), fun b o e => F'.keep b o (T'.other b o (st b o e) (fun q => ?_)), F.above⟩ fun p hp => ⟨(N' p hp).1, fun q => ?_, ?_⟩
    · rcases kts_mem q with z | z
      · rw [z, nL₀] at e
        cases e
      · simp at z
    · have := (N' p hp).2.2; rw [q, hs] at this; cases this
    · cases q : h₀.get? p.1 with
      | none => rfl
      | some o =>
        obtain ⟨sl', hs'⟩ := T'.up (st _ _ q)
        have := (N' p hp).2.2
        rw [hs'] at this
        cases this
end
end
section
theorem w13 : True := by
  (k_with "exec Raise some none" => (k_here; k_dflt (refine raise_X (by k_asm) (by k_asm) (by rfl) ?_)))
  (k_with "RaiseEnd" => (refine ⟨_, _, _, _, _, _, rfl, ?zzC, by k_asm, by k_asm, by k_mem, ?_⟩; (case zzC => first | exact .inl rfl | exact .inr rfl)))
  (k_with "leaving ref" => (k_here; k_dflt (first | (refine' leave_excK ?zzkk ?zzK rfl ?zzhk ?zzF ?zzN ?zzhe ?zzht ?zzhs ?zzhne ?zzhnt ?zzhsub ?_; (case zzkk => assumption); (case zzK => assumption); (case zzhk => rfl); (case zzF => k_asm); (case zzN => k_asm); (case zzhe => k_mem); (case zzht => k_mem); (case zzhs => assumption); (case zzhne => assumption); (case zzhnt => assumption); (case zzhsub => ((repeat (first | exact sub_refl | assumption | refine sub_cons ?_)); done))) | (refine' leave_onK2 ?zzkk ?zzK rfl ?zzF ?zzR ?zzU ?_; (case zzkk => assumption); (case zzR => assumption); (case zzF => assumption); (case zzK => assumption); (case zzU => assumption))); intro _ zzR zzU; (try dsimp only at zzR zzU ⊢); (revert zzR zzU; intro _ _)))
  (k_with "formatField str" => (k_here; (refine' PyProof.Rows.formatField_str ?_ ?zzz; (case zzz => (simp only [sizeLine_eq]; omega))); intro _ _))
  (k_with "spec" => (exact scope_spec))
  (k_with "spec" => (exact names_spec (Sigs.mono (by assumption) (by k_extra "tb_rel")) (by assumption)))
  (k_with "spec" => (refine' top_spec ?zzhS ?zzhi ?zzhn ?zzhp; (case zzhS => exact Sigs.mono (by assumption) (by k_extra "tb_rel")); (case zzhi => assumption); (case zzhn => first | assumption | exact rfl); (case zzhp => assumption)))
  trivial
section
variable {w : World} {loose : List Str} {mean : ExcName → Option Value} {mg mb : Str → Option Value} {rest bs : Led} {x dx sg td : Addr} {od : Obj} {es : List DictEntry} {nd : Nat} {its : List Item} {op : List Dat} {t t2 : Tok} {i : Item} {nm : Str} {kvs : List (Str × Value)} {ex : Bool} {k : Int}
theorem take_int_spec (a1 : (x, instObj 174 dx) ∈ rest) (a2 : (dx, dictOf es nd) ∈ rest) (g0 : getL (Str.ofString "signatures") es = some (some (.ref sg))) (g1 : getL (Str.ofString "told") es = some (some (.ref td))) (hbs : ∀ p ∈ bs, p ∈ rest) (hrd : ∀ p ∈ rest, p.1 ≠ td) :
    SpecX w loose mean mg mb 60 900 (.ref 152) [.ref x, .bool ex, .int k t, .str (S "Int") t2] ((td, od) :: rest) bs (fun r news' => False) (fun C => C = 100) := by
  unfold SpecX
  k_fill
  intro dp un gd cn cs a ccd cl outer A₀ base h₀ L m s Q E B F X N T hk hR hok hret hexc
  have hkeep : KeepIs bs := trivial
  refine wpAny_call ?_
  k_dflt ktr_enter
  rename Fr _ _ _ _ => F1
  replace F1 : Fr _ _ _ (fun y => List.lookup y [(Str.ofString "sig", Value.str (S "Int") t2), (Str.ofString "number", Value.int k t), (Str.ofString "is_exact", Value.bool ex), (Str.ofString "self", Value.ref x)]) := F1
  refine opq (by passes_own) ?_
  intro A9 R9 E9 kR9 kE9 pE9
  repeat' (k_extra "ktr_rel")
  exact hexc _ _ _ _ _ _ _ (by assumption) (by assumption) (by assumption) rfl
theorem take_spec (hS : Sigs w sg its op rest) (hl : its.length ≤ 1000) (hi : i ∈ its) (hp : i.parent = S "" ∨ (i.parent ≠ S "" ∧ ∃ j ∈ its, i.parent = j.name ∧ j.parent = S "")) (h1 : i.name ≠ S "int") (h2 : i.name ≠ S "Int") (htop : i.top ≠ S "") (hnl : i.name.length ≤ 100)
    (a1 : (x, instObj 174 dx) ∈ rest) (a2 : (dx, dictOf es nd) ∈ rest) (g0 : getL (Str.ofString "signatures") es = some (some (.ref sg))) (g1 : getL (Str.ofString "told") es = some (some (.ref td))) (hbs : ∀ p ∈ bs, p ∈ rest) (hrd : ∀ p ∈ rest, p.1 ≠ td)
    (hlo : (td == sysModules) = false) (hod : od.IsDictOf (PySem.strKind PySem.Challenge.rw_nz0394_01.row.prog w) kvs) (hnt : valueAt kvs i.name = none) (hkl : kvs.length ≤ 1000) :
    SpecX w loose mean mg mb 60 900 (.ref 152) [.ref x, .bool ex, .int k t, .str i.name t2] ((td, od) :: rest) bs
      (fun r news' => r = .none ∧ 0 ≤ k ∧ ∃ T od' n, news' = (td, od') :: (T, tupObj [.bool ex, .int k t] n) :: rest ∧ od'.IsDictOf (PySem.strKind PySem.Challenge.rw_nz0394_01.row.prog w) (kvs ++ [(i.name, .ref T)]) ∧ (∀ p ∈ rest, p.1 ≠ T) ∧ T ≠ td) (fun C => C = 100 ∧ k < 0) := by
  unfold SpecX
  k_fill
  intro dp un gd cn cs a ccd cl outer A₀ base h₀ L m s Q E B F X N T hk hR hok hret hexc
  have hkeep : KeepIs bs := trivial
  have htop' : (i.top == Str.ofString "") = false := by simpa using htop
  have h12 : ([Str.ofString "int", Str.ofString "Int"].any fun x => x == i.name) = false := by
    simp only [List.any_cons, List.any_nil, Bool.or_false, Bool.or_eq_false_iff, beq_eq_false_iff_ne]
    exact ⟨Ne.symm h1, Ne.symm h2⟩
  have hmem : ((its.map Item.name).any fun x => x == i.name) = true := List.any_eq_true.mpr ⟨i.name, List.mem_map_of_mem hi, by simp⟩
  have hS0 := hS
  cases hS0 with | @mk dxs e st opn od' ofd oe nd' hh1 t1 hh2 tt2 h3 t3 h4 t4 h5 t5 kvs' vst nst vop nop vod nod nof c1 c2 c3 c4 c5 c6 c7 c8 c9 b1 b2 b3 b4 =>
  refine wpAny_call ?_
  k_dflt ktr_enter
  rename Fr _ _ _ _ => F1
  replace F1 : Fr _ _ _ (fun y => List.lookup y [(Str.ofString "sig", Value.str i.name t2), (Str.ofString "number", Value.int k t), (Str.ofString "is_exact", Value.bool ex), (Str.ofString "self", Value.ref x)]) := F1
  refine opq (by passes_own) ?_
  intro A9 R9 E9 kR9 kE9 pE9
  repeat' (k_extra "ktr_rel")
  · exact hexc _ _ _ _ _ _ _ (by assumption) (by assumption) (by assumption) ⟨rfl, by assumption⟩
  · rename Obj.IsDictOf _ _ _ => hd9
    rw [valueAt_none_stored hnt] at hd9
    rename _ ∧ _ ∧ _ ∧ AllLt _ _ => la
    rename News _ _ _ _ => kN
    exact hret _ _ _ _ (by k_asm) (ntake kN (sub_mk (by k_mem) (sub_mk (by k_mem) (by k_extra "tb_rel")))) ⟨rfl, by omega, _, _, _, rfl, hd9, allLt_off la.2.2.2, Ne.symm (Nat.ne_of_lt la.2.2.1)⟩
end
end
section
theorem w14 : True := by
  (k_with "exec Raise some none" => (k_here; k_dflt (refine raise_X (by k_asm) (by k_asm) (by rfl) ?_)))
  (k_with "RaiseEnd" => (refine ⟨_, _, _, _, _, _, rfl, ?zzC, by k_asm, by k_asm, by k_mem, ?_⟩; (case zzC => first | exact .inl rfl | exact .inr rfl)))
  (k_with "leaving ref" => (k_here; k_dflt (first | (refine' leave_excK ?zzkk ?zzK rfl ?zzhk ?zzF ?zzN ?zzhe ?zzht ?zzhs ?zzhne ?zzhnt ?zzhsub ?_; (case zzkk => assumption); (case zzK => assumption); (case zzhk => rfl); (case zzF => k_asm); (case zzN => k_asm); (case zzhe => k_mem); (case zzht => k_mem); (case zzhs => assumption); (case zzhne => assumption); (case zzhnt => assumption); (case zzhsub => ((repeat (first | exact sub_refl | assumption | refine sub_cons ?_)); done))) | (refine' leave_onK2 ?zzkk ?zzK rfl ?zzF ?zzR ?zzU ?_; (case zzkk => assumption); (case zzR => assumption); (case zzF => assumption); (case zzK => assumption); (case zzU => assumption))); intro _ zzR zzU; (try dsimp only at zzR zzU ⊢); (revert zzR zzU; intro _ _)))
  (k_with "formatField str" => (k_here; (refine' PyProof.Rows.formatField_str ?_ ?zzz; (case zzz => (simp only [sizeLine_eq]; omega))); intro _ _))
  (k_with "call type:tuple" => (k_here; (with_reducible show wpAny _ _ (call (Value.type _) [Value.ref _]) _ _ _); k_dflt (refine' kde_tupleOf ?zzk1 ?zzk2 ?zzk3 ?zzk4 ?zzk5 ?_; (case zzk1 => k_asm); (case zzk2 => k_asm); (case zzk3 => exact News.isList (by k_asm) (by k_mem)); (case zzk4 => (simp only [List.size_toArray]; omega)); (case zzk5 => exact List.toList_toArray _); k_whole); intro _ _ _ _ zzl1; (try k_lt zzl1); (revert zzl1; intro _)))
  (k_with "newTuple" => (k_here; k_dflt (refine' newTuple_L ?zzk1 ?zzk2 ?zzk3 ?_; (case zzk1 => k_asm); (case zzk2 => k_asm); (case zzk3 => (simp only [sizeLine_eq, List.length_cons, List.length_nil]; omega))); intro _ _ _ _ zzl1; (try k_lt zzl1); (revert zzl1; intro _)))
  (k_with "setItem ref str" => (k_here; k_dflt (refine' dset_new ?zzF ?zzN ?zzU ?zzd ?zzn ?zzz ?_; (case zzF => k_asm); (case zzN => k_asm); (case zzU => k_updF); (case zzd => assumption); (case zzn => assumption); (case zzz => omega)); intro _ _ _ zzN zzhd zzhv; (try dsimp only at zzN); (revert zzN zzhd zzhv; intro _ _ _)))
  (k_with "call builtin:list.extend" => (k_here; (with_reducible show wpAny _ _ (call (Value.builtin _) [Value.ref _, Value.ref _]) _ _ _); k_dflt (refine' ext_L ?zzF ?zzN ?zzb ?zzU ?zzz ?zzy ?_; (case zzF => k_asm); (case zzN => k_asm); (case zzb => k_mem); (case zzU => k_updF); (case zzz => omega); (case zzy => omega)); intro _ _ _ zzN; (try dsimp only at zzN); (revert zzN; intro _)))
  trivial
section
variable {w : World} {loose : List Str} {mean : ExcName → Option Value} {mg mb : Str → Option Value} {news b0 : Led} {x : Addr} {its : List Item} {op : List Dat}
theorem orders2_spec (hS : Sigs w x its op b0) (hs : ∀ p ∈ b0, p ∈ news) (hl : op.length ≤ 1000) : Spec w loose mean mg mb 5 40 (.ref 413) [.ref x] news (RLst b0 op news) None2 := by
  unfold Spec
  k_fill
  intro dp un gd cn cs a ccd cl outer A₀ base h₀ L m s Q E B F X N T hk hR hok hret hexc
  cases hS with | mk a1 a2 a3 a4 a5 a6 a7 a8 a9 b1 b2 b3 b4 =>
  have hb := b1.length
  have a1' := hs _ a1
  have a2' := hs _ a2
  have a9' := hs _ a9
  refine wpAny_call ?_
  k_dflt ktr_enter
  rename Fr _ _ _ _ => F1
  replace F1 : Fr _ _ _ (fun y => List.lookup y [(Str.ofString "self", Value.ref x)]) := F1
  refine opq (by passes_own) ?_
  intro A9 R9 E9 kR9 kE9 pE9
  repeat' (k_extra "st")
  exact hret _ _ _ _ (by k_asm) (by k_asm) ⟨_, _, _, b1, by assumption⟩
end
theorem w15 : True := by
  (k_with "spec" => (exact orders2_spec (by assumption) (by k_extra "tb_rel") (by simp only [List.length_map]; omega)))
  (k_with "spec" => (refine' top_spec ?zzhS ?zzhi ?zzhn ?zzhp; (case zzhS => exact Sigs.mono (by assumption) (by k_extra "tb_rel")); (case zzhi => assumption); (case zzhn => first | assumption | exact rfl); (case zzhp => assumption)))
  trivial
structure Tell where
  exact : Bool
  number : Int
  sig : Str
noncomputable def Tell.dat (t : Tell) : Dat := .tuple [.bool t.exact, .int t.number, .str t.sig]
structure Sc where
  default : Int
  told : List Tell
noncomputable def Sc.dat (s : Sc) : Dat := .tuple [.int s.default, .tuple (s.told.map Tell.dat)]
/-- what was told, in a dict's pairs -/
inductive Told (news : Led) : List (Str × Value) → List Tell → Prop
  | nil : Told news [] []
  | snoc {kvs : List (Str × Value)} {ts : List Tell} {t : Tell} {v : Value} : Told news kvs ts → DatIn news v (.tuple [.bool t.exact, .int t.number]) → (∀ j ∈ ts, j.sig ≠ t.sig) → Told news (kvs ++ [(t.sig, v)]) (ts ++ [t])
theorem Told.mono {news news' : Led} {kvs : List (Str × Value)} {ts : List Tell} (h : Told news kvs ts) (hs : ∀ p ∈ news, p ∈ news') : Told news' kvs ts := by
  induction h with
  | nil => exact .nil
  | snoc _ hd hn ih => exact .snoc ih (hd.mono hs) hn
theorem Told.length {news : Led} {kvs : List (Str × Value)} {ts : List Tell} (h : Told news kvs ts) : kvs.length = ts.length := by
  induction h with
  | nil => rfl
  | snoc _ _ _ ih => simp [ih]
theorem Told.names {news : Led} {kvs : List (Str × Value)} {ts : List Tell} (h : Told news kvs ts) : kvs.map (·.1) = ts.map (·.sig) := by
  induction h with
  | nil => rfl
  | snoc _ _ _ ih => simp [ih]
theorem Told.get {news : Led} {kvs : List (Str × Value)} {ts : List Tell} (h : Told news kvs ts) {t : Tell} (ht : t ∈ ts) : ∃ v, valueAt kvs t.sig = some v ∧ DatIn news v (.tuple [.bool t.exact, .int t.number]) := by
  induction h with
  | nil => cases ht
  | @snoc kvs ts j v hE hd hn ih =>
    rcases List.mem_append.mp ht with h1 | h1
    · obtain ⟨v', e, d⟩ := ih h1
      refine ⟨v', ?_, d⟩
      unfold valueAt at e ⊢
      rw [List.find?_append]
      cases q : List.find? (fun kv => decide (kv.1 = t.sig)) kvs with
      | none => rw [q] at e; cases e
      | some y => rw [q] at e; exact e
    · have e1 := List.mem_singleton.mp h1
      subst e1
      refine ⟨v, ?_, hd⟩
      unfold valueAt
      rw [List.find?_append]
      have : List.find? (fun kv => decide (kv.1 = t.sig)) kvs = none := by
        rw [List.find?_eq_none]
        intro kv hk
        have : kv.1 ∈ kvs.map (·.1) := List.mem_map_of_mem hk
        rw [hE.names] at this
        obtain ⟨j, hj, e⟩ := List.mem_map.mp this
        simpa [← e] using hn j hj
      rw [this]
      simp
theorem Told.none {news : Led} {kvs : List (Str × Value)} {ts : List Tell} (h : Told news kvs ts) {x : Str} (hx : ∀ j ∈ ts, j.sig ≠ x) : valueAt kvs x = none := by
  unfold valueAt
  have : List.find? (fun kv => decide (kv.1 = x)) kvs = Option.none := by
    rw [List.find?_eq_none]
    intro kv hk
    have : kv.1 ∈ kvs.map (·.1) := List.mem_map_of_mem hk
    rw [h.names] at this
    obtain ⟨j, hj, e⟩ := List.mem_map.mp this
    simpa [← e] using hx j hj
  rw [this]; rfl
/-- a telling in the ledger -/
inductive TellAt (news : Led) (t : Tell) : Value → Prop
  | mk {a : Addr} {n : Nat} {t1 t2 : Tok} (m1 : (a, tupObj [.bool t.exact, .int t.number t1, .str t.sig t2] n) ∈ news) : TellAt news t (.ref a)
theorem tell_open {news : Led} {v : Value} {t : Tell} (h : DatIn news v t.dat) : TellAt news t v := by
  refine eT h fun a vs n hm h => ?_
  revert hm
  refine eC h fun v0 r h0 h => ?_
  refine eB h0 ?_
  refine eC h fun v1 r h1 h => ?_
  refine eI h1 fun t1 => ?_
  refine eC h fun v2 r h2 h => ?_
  refine eS h2 fun t2 => ?_
  refine eN h ?_
  intro hm
  exact .mk hm
inductive ScAt (news : Led) (s : Sc) (a : Addr) : Prop
  | mk {b : Addr} {n nb : Nat} {t : Tok} {vt : List Value} (m : (a, tupObj [.int s.default t, .ref b] n) ∈ news) (mt : (b, tupObj vt nb) ∈ news) (ht : DatAll news vt (s.told.map Tell.dat)) : ScAt news s a
theorem sc_open {news : Led} {a : Addr} {s : Sc} (h : DatIn news (.ref a) s.dat) : ScAt news s a := by
  obtain ⟨_, vs, n, e, hm, h⟩ := dat_tuple h
  cases e
  revert hm
  refine eC h fun v0 r h0 h => ?_
  refine eI h0 fun t0 => ?_
  refine eC h fun v1 r h1 h => ?_
  refine eT h1 fun b vb nb hb h1 => ?_
  refine eN h ?_
  intro hm
  exact .mk hm hb h1
inductive BiAt (news : Led) (x : Bool) (k : Int) : Value → Prop
  | mk {a : Addr} {n : Nat} {t : Tok} (m : (a, tupObj [.bool x, .int k t] n) ∈ news) : BiAt news x k (.ref a)
theorem bi_open {news : Led} {v : Value} {x : Bool} {k : Int} (h : DatIn news v (.tuple [.bool x, .int k])) : BiAt news x k v := by
  refine eT h fun a vs n hm h => ?_
  revert hm
  refine eC h fun v0 r h0 h => ?_
  refine eB h0 ?_
  refine eC h fun v1 r h1 h => ?_
  refine eI h1 fun t1 => ?_
  refine eN h ?_
  intro hm
  exact .mk hm
inductive SsAt (news : Led) (x y : Str) : Value → Prop
  | mk {a : Addr} {n : Nat} {t1 t2 : Tok} (m : (a, tupObj [.str x t1, .str y t2] n) ∈ news) : SsAt news x y (.ref a)
theorem ss_open {news : Led} {v : Value} {x y : Str} (h : DatIn news v (.tuple [.str x, .str y])) : SsAt news x y v := by
  refine eT h fun a vs n hm h => ?_
  revert hm
  refine eC h fun v0 r h0 h => ?_
  refine eS h0 fun t0 => ?_
  refine eC h fun v1 r h1 h => ?_
  refine eS h1 fun t1 => ?_
  refine eN h ?_
  intro hm
  exact .mk hm
/-- the numbers, made -/
inductive NumAt (w : World) (x sg : Addr) (dflt : Int) (told : List Tell) (ord : List Str) (news : Led) : Prop
  | mk {dx td o : Addr} {nd : Nat} {otd oo : Obj} {h1 : Int} {t1 : Tok} {h2 : Int} {t2 : Tok} {h3 : Int} {t3 : Tok} {h4 : Int} {t4 t5 : Tok} {kvs kvo : List (Str × Value)}
    (a1 : (x, instObj 174 dx) ∈ news)
    (a2 : (dx, dictOf [⟨h1, .str (S "signatures") t1, .ref sg⟩, ⟨h2, .str (S "default") t2, .int dflt t5⟩, ⟨h3, .str (S "told") t3, .ref td⟩, ⟨h4, .str (S "ordered") t4, .ref o⟩] nd) ∈ news)
    (a3 : (td, otd) ∈ news) (a4 : (td == sysModules) = false) (a5 : otd.IsDictOf (PySem.strKind PG w) kvs) (a6 : Told news kvs told)
    (b3 : (o, oo) ∈ news) (b4 : (o == sysModules) = false) (b5 : oo.IsDictOf (PySem.strKind PG w) kvo) (b6 : kvo = ord.map fun x => (x, .bool true)) : NumAt w x sg dflt told ord news
theorem NumAt.mono {w : World} {x sg : Addr} {dflt : Int} {told : List Tell} {ord : List Str} {news news' : Led} (h : NumAt w x sg dflt told ord news) (hs : ∀ p ∈ news, p ∈ news') : NumAt w x sg dflt told ord news' := by
  cases h with
  | mk a1 a2 a3 a4 a5 a6 b3 b4 b5 b6 => exact .mk (hs _ a1) (hs _ a2) (hs _ a3) a4 a5 (a6.mono hs) (hs _ b3) b4 b5 b6
noncomputable def Tell.bad (t : Tell) : Bool := decide (t.number < 0) || t.sig == S "Int"
/-- what the making of the numbers leans on -/
structure WfTold (its : List Item) (told : List Tell) : Prop where
  len : told.length ≤ 100
  known : ∀ t ∈ told, t.sig = S "Int" ∨ ∃ i ∈ its, i.name = t.sig
  once : ∀ a b (ha : a < told.length) (hb : b < told.length), told[a].sig = told[b].sig → a = b
structure WfIts (its : List Item) : Prop where
  len : its.length ≤ 100
  up : ∀ i ∈ its, i.parent = S "" ∨ (i.parent ≠ S "" ∧ ∃ j ∈ its, i.parent = j.name ∧ j.parent = S "")
  n1 : ∀ i ∈ its, i.name ≠ S "int"
  n2 : ∀ i ∈ its, i.name ≠ S "Int"
  n0 : ∀ i ∈ its, i.name ≠ S ""
  nl : ∀ i ∈ its, i.name.length ≤ 100
theorem WfIts.top {its : List Item} (h : WfIts its) {i : Item} (hi : i ∈ its) : i.top ≠ S "" := by
  unfold Item.top
  rcases h.up i hi with hp | ⟨hp, -⟩
  · rw [if_pos hp]; exact h.n0 i hi
  · rw [if_neg hp]; exact hp
section
variable {w : World} {loose : List Str} {mean : ExcName → Option Value} {mg mb : Str → Option Value} {bs : Led} {sg sc : Addr} {its : List Item} {opd : List Str} {s0 : Sc}
noncomputable abbrev n3 (hA : Int) (tA : Tok) (sg : Addr) (hB : Int) (tB : Tok) (d : Int) (tD : Tok) (hC : Int) (tC : Tok) (td : Addr) : List DictEntry := [⟨hA, .str (S "signatures") tA, .ref sg⟩, ⟨hB, .str (S "default") tB, .int d tD⟩, ⟨hC, .str (S "told") tC, .ref td⟩]
noncomputable abbrev n4 (hA : Int) (tA : Tok) (sg : Addr) (hB : Int) (tB : Tok) (d : Int) (tD : Tok) (hC : Int) (tC : Tok) (td : Addr) (hE : Int) (tE : Tok) (o : Addr) : List DictEntry := [⟨hA, .str (S "signatures") tA, .ref sg⟩, ⟨hB, .str (S "default") tB, .int d tD⟩, ⟨hC, .str (S "told") tC, .ref td⟩, ⟨hE, .str (S "ordered") tE, .ref o⟩]
noncomputable def usual (d : Int) : Int := if 0 ≤ d then d else 3
/-- an end that the walk is not to open -/
noncomputable def Cut (P : Prop) : Prop := P
noncomputable abbrev n2 (hA : Int) (tA : Tok) (sg : Addr) (hB : Int) (tB : Tok) (d : Int) (tD : Tok) : List DictEntry := [⟨hA, .str (S "signatures") tA, .ref sg⟩, ⟨hB, .str (S "default") tB, .int d tD⟩]
inductive NbC (x dx sg sc : Addr) (dv : Int) (bs : Led) (s : Shared) (g : Heap) (L : Addr) : Flow → Shared → Prop
  | mk (h' : Heap) (tk : Nat) (hA : Int) (tA : Tok) (hB : Int) (tB tD : Tok) (F : Fr g L h' (fun y => List.lookup y [(Str.ofString "scope", Value.ref sc), (Str.ofString "signatures", Value.ref sg), (Str.ofString "self", Value.ref x)])) (N : News g L h' ((dx, dictOf (n2 hA tA sg hB tB dv tD) 2) :: (x, instObj 174 dx) :: bs)) : NbC x dx sg sc dv bs s g L .next { s with heap := h', toks := tk }
inductive NbN (g : Heap) (L : Addr) (h : Heap) (x dx td sg : Addr) (otd : Obj) (dv : Int) (bs : Led) : Prop
  | mk (hA : Int) (tA : Tok) (hB : Int) (tB : Tok) (hC : Int) (tC tD : Tok) (N : News g L h ((td, otd) :: (dx, dictOf (n3 hA tA sg hB tB dv tD hC tC td) 3) :: (x, instObj 174 dx) :: bs)) : NbN g L h x dx td sg otd dv bs
inductive NbJ (w : World) (x dx td sg sc : Addr) (hA : Int) (tA : Tok) (hB : Int) (tB : Tok) (hC : Int) (tC tD : Tok) (s0 : Sc) (bs : Led) (k : Nat) (m : Str → Option Value) : Led → Prop
  | mk (hm : Kn m [(S "self", .ref x), (S "signatures", .ref sg), (S "scope", .ref sc)]) (otd : Obj) (kvs : List (Str × Value)) (nr : Led) (hb : ∀ p ∈ bs, p ∈ nr) (hx : (x, instObj 174 dx) ∈ nr) (hdx : ∀ p ∈ nr, p.1 ≠ dx) (hoff : ∀ p ∈ nr, p.1 ≠ td) (hod : otd.IsDictOf (PySem.strKind PG w) kvs) (hT : Told nr kvs (s0.told.take k)) (hg : (s0.told.take k).any Tell.bad = false) :
      NbJ w x dx td sg sc hA tA hB tB hC tC tD s0 bs k m ((td, otd) :: (dx, dictOf (n3 hA tA sg hB tB (usual s0.default) tD hC tC td) 3) :: nr)
inductive NbE (g : Heap) (L : Addr) (h : Heap) (dx td sg d3 D3 : Addr) (o3 otd : Obj) (vs3 : List Value) (c3 : Nat) (hA : Int) (tA : Tok) (hB : Int) (tB : Tok) (hC : Int) (tC tD : Tok) (dv : Int) (nr : Led) : Prop
  | mk (hE : Int) (tE : Tok) (N : News g L h ((d3, o3) :: (D3, listOf vs3.toArray c3) :: (td, otd) :: (dx, dictOf (n4 hA tA sg hB tB dv tD hC tC td hE tE d3) 4) :: nr)) : NbE g L h dx td sg d3 D3 o3 otd vs3 c3 hA tA hB tB hC tC tD dv nr
inductive NbK (w : World) (x dx td sg sc d3 D3 : Addr) (otd : Obj) (vs3 : List Value) (c3 : Nat) (hA : Int) (tA : Tok) (hB : Int) (tB : Tok) (hC : Int) (tC tD : Tok) (hE : Int) (tE : Tok) (dv : Int) (opd : List Str) (nr : Led) (k : Nat) (m : Str → Option Value) : Led → Prop
  | mk (hm : Kn m [(S "self", .ref x), (S "signatures", .ref sg), (S "scope", .ref sc)]) (o9 : Obj) (ho : o9.IsDictOf (PySem.strKind PG w) ((opd.take k).map fun x => (x, .bool true))) :
      NbK w x dx td sg sc d3 D3 otd vs3 c3 hA tA hB tB hC tC tD hE tE dv opd nr k m ((d3, o9) :: (D3, listOf vs3.toArray c3) :: (td, otd) :: (dx, dictOf (n4 hA tA sg hB tB dv tD hC tC td hE tE d3) 4) :: nr)
theorem numbers_spec (hS : Sigs w sg its (opd.map opDat) bs) (W : WfIts its) (hol : opd.length ≤ 1) (hot : ∀ o ∈ opd, ∃ i ∈ its, i.name = o ∧ i.parent = S "") (V : WfTold its s0.told) (hsc : DatIn bs (.ref sc) s0.dat) :
    SpecX w loose mean mg mb 120 2000 (.ref 174) [.ref sg, .ref sc] bs bs
      (fun r news' => ∃ x, r = .ref x ∧ (∀ p ∈ bs, p ∈ news') ∧ s0.told.any Tell.bad = false ∧ NumAt w x sg (usual s0.default) s0.told opd news') (fun C => C = 100 ∧ s0.told.any Tell.bad = true) := by
  unfold SpecX
  k_fill
  intro dp un gd cn cs a ccd cl outer A₀ base h₀ L m s Q E B F X N T hk hR hok hret hexc
  have hkeep : KeepIs bs := trivial
  cases sc_open hsc with | @mk at' nsc nt' td0 vt msc mt ht =>
  have hS0 := hS
  cases hS0 with | @mk dxs e st opn od' ofd oe nd' hh1 t1 hh2 tt2 h3 t3 h4 t4 h5 t5 kvs' vst nst vop nop vod nod nof c1 c2 c3 c4 c5 c6 c7 c8 c9 b1 b2 b3 b4 =>
  refine call_cls F X N (by k_dflt k_is) (by k_dflt k_is) (by k_dflt k_is) ?_
  intro x dx hh0 F0 N0 l1 l2
  replace l2 := ltN l2
  have hw1 : (Code.builtin "type.__call__" ⟨[Value.ref 174, Value.ref sg, Value.ref sc], []⟩).weight = 1 := rfl
  have hw2 : (Code.builtin "type.__call__" ⟨[Value.ref 174, Value.ref sg, Value.ref sc], []⟩).cUnits = 1 := rfl
  k_dflt ktr_enter
  rename Fr _ _ _ _ => F1
  replace F1 : Fr _ _ _ (fun y => List.lookup y [(Str.ofString "scope", Value.ref sc), (Str.ofString "signatures", Value.ref sg), (Str.ofString "self", Value.ref x)]) := F1
  refine opq (by passes_own) ?_
  intro A9 R9 E9 kR9 kE9 pE9
  have hbsx : ∀ p ∈ bs, p.1 ≠ x := fun p hp => Nat.ne_of_lt (Nat.lt_trans (l1 p hp) l2)
  have hbsdx : ∀ p ∈ bs, p.1 ≠ dx := off_lt l1
  rename News _ _ _ _ => N1
  rename_i g9 L9 _ _ _ _ _
  repeat' ((fail_if_success (with_reducible show wpAny _ _ (exec (Stmt.Assign _ (Expr.IfExp _ _ _ _) _) _) _ _ _)); k_extra "ktr_rel")
  refine wpAny_mono (Q := fun f s' => Cut (NbC x dx sg sc (usual s0.default) bs s g9 L9 f s')) ?_ ?_ (fun _ _ e => e)
  · repeat' (k_extra "ktr_rel")
    all_goals (
      rename News _ _ _ _ => N5
      rename Fr _ _ _ _ => F5
      exact ⟨_, _, _, _, _, _, _, F5, by first
        | (rw [show usual s0.default = s0.default from if_pos (by assumption)]; exact ntake N5 (sub_mk (by k_mem) (sub_mk (by k_mem) (by k_extra "tb_rel"))))
        | (rw [show usual s0.default = 3 from if_neg (by assumption)]; exact ntake N5 (sub_mk (by k_mem) (sub_mk (by k_mem) (by k_extra "tb_rel"))))⟩)
  rintro f s' ⟨h5, tk5, hA0, tA0, hB0, tB0, tD0, F5, N5⟩
  (try clear F1)
  repeat' (k_extra "ktr_rel")
  rename Obj.IsDictOf (PySem.strKind _ _) _ [] => hs
  rename (_ == sysModules) = false => lo
  rename _ ∧ _ ∧ AllLt _ bs => la
  rename News _ _ _ _ => N1
  rename Fr _ _ _ _ => F1
  rename_i td _ otd _ _ _ _
  all_goals (
    obtain ⟨hA, tA, hB, tB, hC, tC, tD, N2⟩ : NbN _ _ _ x dx td sg otd (usual s0.default) bs :=
      ⟨_, _, _, _, _, _, _, ntake N1 (sub_mk (by k_mem) (sub_mk (by k_mem) (sub_mk (by k_mem) (by k_extra "tb_rel"))))⟩
    clear N1
    have htx : x ≠ td := Nat.ne_of_lt la.2.1
    have htdx : dx ≠ td := Nat.ne_of_lt la.1
    have htb : ∀ p ∈ bs, p.1 ≠ td := allLt_off la.2.2
    have hvl := ht.length
    simp only [List.length_map] at hvl
    have V1 := V.len
    have W1 := W.len
    refine ⟨_, _, _, fun k m nx => NbJ w x dx td sg sc hA tA hB tB hC tC tD s0 bs k m nx,
      _, _, src_tup rfl N2 (.tail _ (.tail _ (.tail _ mt))), F1, N2, ?_, ⟨⟨rfl, rfl, rfl, trivial⟩, otd, [], _, sub_cons sub_refl, .head _, off_cons (Ne.symm (Nat.ne_of_lt l2)) hbsdx, off_cons htx htb, hs, .nil, rfl⟩, ?_, ?_⟩
    · rintro k m nx ⟨-, otd, kvs, nr, hb, -⟩
      exact .tail _ (.tail _ (hb _ mt))
    · rintro k v m₁ nx h tk I oI R kR hk hv ⟨hm, otd, kvs, nr, hb, hx9, hdx9, hoff9, hod, hT, hgood⟩ off F3 N3
      replace F3 := frov F3 hm
      have hdv := datAt ht hv (by simp only [List.length_map]; omega)
      have hkl : k < s0.told.length := by omega
      simp only [List.getElem_map] at hdv
      have hna : ∀ j ∈ s0.told.take k, j.sig ≠ s0.told[k].sig := by
        intro j hj e9
        obtain ⟨a9, ha9, rfl⟩ := List.getElem_of_mem hj
        simp only [List.length_take] at ha9
        rw [List.getElem_take] at e9
        have := V.once a9 k (by omega) hkl e9
        omega
      have hkn := V.known _ (List.getElem_mem hkl)
      have hin : s0.told[k] ∈ s0.told := List.getElem_mem hkl
      have htk : s0.told.take (k + 1) = s0.told.take k ++ [s0.told[k]] := by rw [List.take_add_one, List.getElem?_eq_getElem hkl]; rfl
      generalize s0.told[k] = tl at *
      cases tell_open hdv with | @mk ta tn tt1 tt2 m1 =>
      have q1 : td ≠ I := off_head off
      have q0 : dx ≠ I := off_head (off_tail off)
      have q2 := off_tail (off_tail off)
      have hbs2 : ∀ p ∈ bs, p ∈ (I, oI) :: (dx, dictOf (n3 hA tA sg hB tB (usual s0.default) tD hC tC td) 3) :: nr := fun p hp => .tail _ (.tail _ (hb p hp))
      have m1' := hb _ m1
      have htl := hT.length
      rw [List.length_take] at htl
      repeat' (k_extra "ktr_rel")
      have hbad : tl.bad = true → s0.told.any Tell.bad = true := fun h => List.any_eq_true.mpr ⟨tl, hin, h⟩
      have hrs : ∀ p ∈ (I, oI) :: (dx, dictOf (n3 hA tA sg hB tB (usual s0.default) tD hC tC td) 3) :: nr, p.1 ≠ td := off_cons (Ne.symm q1) (off_cons htdx hoff9)
      by_cases hI : tl.sig = S "Int"
      · rw [hI]
        refine' SpecX.use (take_int_spec (bs := bs) (es := n3 hA tA sg hB tB (usual s0.default) tD hC tC td) (rest := (I, oI) :: (dx, dictOf (n3 hA tA sg hB tB (usual s0.default) tD hC tC td) 3) :: nr) (td := td) (od := otd) (.tail _ (.tail _ hx9)) (.tail _ (.head _)) (by rfl) (by rfl) hbs2 hrs) ?B ?F ?X ?N ?T ?K ?D ?U ?_ ?_
        (case N => exact ntake (by k_asm) (sub_mk (by k_mem) (sub_mk (by k_mem) (sub_mk (by k_mem) (by k_extra "tb_rel")))))
        (case F => k_asm)
        (case B => k_asm)
        (case X => k_asm)
        (case T => k_asm)
        (case K => first | exact rfl | assumption)
        (case D => (dsimp +zetaDelta only [ktrTop, Around.deeper, Around.under, Around.in1]; (first | omega | (simp only [wMake]; omega))))
        (case U => (dsimp +zetaDelta only [ktrTop, Around.deeper, Around.under, Around.in1]; (first | omega | (simp only [uMake]; omega))))
        · intro r' news' h' tk' F' N' hr'
          exact hr'.elim
        · intro e9 C9 t9 ws9 g9 h9 tk9 Fg9 R9 U9 hC9
          subst hC9
          repeat' (k_extra "ktr_rel")
          exact hexc _ _ _ _ _ _ _ (by assumption) (by assumption) (by assumption) ⟨rfl, hbad (by simp [Tell.bad, hI])⟩
      · obtain ⟨i, hi, hin'⟩ := hkn.resolve_left hI
        have hvn : valueAt kvs i.name = none := hT.none (by rw [hin']; exact hna)
        rw [← hin']
        refine' SpecX.use (take_spec (bs := bs) (es := n3 hA tA sg hB tB (usual s0.default) tD hC tC td) (rest := (I, oI) :: (dx, dictOf (n3 hA tA sg hB tB (usual s0.default) tD hC tC td) 3) :: nr) (td := td) (od := otd) (hS.mono hbs2) (by omega) hi (W.up i hi) (W.n1 i hi) (W.n2 i hi) (W.top hi) (W.nl i hi) (.tail _ (.tail _ hx9)) (.tail _ (.head _)) (by rfl) (by rfl) hbs2 hrs lo hod hvn (by omega)) ?B ?F ?X ?N ?T ?K ?D ?U ?_ ?_
        (case N => exact ntake (by k_asm) (sub_mk (by k_mem) (sub_mk (by k_mem) (sub_mk (by k_mem) (by k_extra "tb_rel")))))
        (case F => k_asm)
        (case B => k_asm)
        (case X => k_asm)
        (case T => k_asm)
        (case K => first | exact rfl | assumption)
        (case D => (dsimp +zetaDelta only [ktrTop, Around.deeper, Around.under, Around.in1]; (first | omega | (simp only [wMake]; omega))))
        (case U => (dsimp +zetaDelta only [ktrTop, Around.deeper, Around.under, Around.in1]; (first | omega | (simp only [uMake]; omega))))
        · rintro r' news' h' tk' F' N' ⟨rfl, hk0, Ta, od9, n9, rfl, hod9, hTr, hTd⟩
          repeat' (k_extra "ktr_rel")
          refine tend kR (by k_asm) (by k_asm) (sub_mk (by k_mem) (sub_mk (by k_mem) (sub_mk (by k_mem) (sub_mk (by k_mem) (by k_extra "tb_rel"))))) (off_cons q1 (off_cons q0 (off_cons (Ne.symm (off_head hTr)) q2))) ⟨⟨rfl, rfl, rfl, trivial⟩, od9, _, (Ta, tupObj [.bool tl.exact, .int tl.number tt1] n9) :: nr, fun p hp => .tail _ (hb p hp), .tail _ hx9, off_cons (Ne.symm (off_head (off_tail hTr))) hdx9, off_cons hTd hoff9, hod9, ?_, ?_⟩
          · rw [htk, hin']
            exact .snoc (hT.mono (sub_cons sub_refl)) (.tuple (.head _) (.cons (.bool _) (.one (.int _ _)))) hna
          · rw [htk, List.any_append, hgood]
            have : tl.bad = false := by simp [Tell.bad, hI, hk0]
            simp [this]
        · rintro e9 C9 t9 ws9 g9 h9 tk9 Fg9 R9 U9 ⟨rfl, hk0⟩
          repeat' (k_extra "ktr_rel")
          exact hexc _ _ _ _ _ _ _ (by assumption) (by assumption) (by assumption) ⟨rfl, hbad (by simp [Tell.bad, hk0])⟩
    · rintro m₁ nx h tk ⟨hm, otd, kvs, nr, hb, hx9, hdx9, hoff9, hod, hT, hgood⟩ F3 N3
      replace F3 := frov F3 hm
      rw [List.take_of_length_le (by omega)] at hT hgood
      have hb2 : ∀ p ∈ bs, p ∈ (td, otd) :: (dx, dictOf (n3 hA tA sg hB tB (usual s0.default) tD hC tC td) 3) :: nr := fun p hp => .tail _ (.tail _ (hb p hp))
      have c1' := hb _ c1
      have c2' := hb _ c2
      have hSn := hS.mono hb
      repeat' (k_extra "ktr_rel")
      rename Obj.IsDictOf (PySem.strKind _ _) _ [] => hs2
      rename (_ == sysModules) = false => lo2
      rename td < _ ∧ _ => la2
      rename DatAll _ _ (opd.map opDat) => hd2
      rename News _ _ _ _ => N5
      rename Fr _ _ _ _ => F5
      rename_i d3 _ o3 _ _ _ _ _ _ _ _ D3 c3 vs3 lD3
      obtain ⟨hE, tE, N6⟩ : NbE _ _ _ dx td sg d3 D3 o3 otd vs3 c3 hA tA hB tB hC tC tD (usual s0.default) nr :=
        ⟨_, _, ntake N5 (sub_mk (by k_mem) (sub_mk (by k_mem) (sub_mk (by k_mem) (sub_mk (by k_mem) (by k_extra "tb_rel")))))⟩
      clear N5
      have hvl2 := hd2.length
      simp only [List.length_map] at hvl2
      have e1 : d3 ≠ D3 := Nat.ne_of_lt (lD3 _ (.head _))
      have e2 : td ≠ d3 := Nat.ne_of_lt la2.1
      have e3 : dx ≠ d3 := Nat.ne_of_lt la2.2.1
      have e4 : ∀ p ∈ nr, p.1 ≠ d3 := allLt_off la2.2.2
      refine ⟨_, _, _, fun k m nx => NbK w x dx td sg sc d3 D3 otd vs3 c3 hA tA hB tB hC tC tD hE tE (usual s0.default) opd nr k m nx,
        _, _, src_list rfl N6 (.tail _ (.head _)), F5, N6, ?_, ⟨⟨rfl, rfl, rfl, trivial⟩, o3, hs2⟩, ?_, ?_⟩
      · rintro k m nx ⟨-, o9, -⟩
        exact .tail _ (.head _)
      · rintro k v m₁ nx h tk I oI R kR hk hv ⟨hm2, o9, ho9⟩ off F7 N7
        replace F7 := frov F7 hm2
        have hdv := datAt hd2 hv (by simp only [List.length_map]; omega)
        have hkl : k < opd.length := by omega
        have hk0 : k = 0 := by omega
        subst hk0
        simp only [List.getElem_map] at hdv
        obtain ⟨i, hi, hin, hip⟩ := hot _ (List.getElem_mem hkl)
        have htk : opd.take (0 + 1) = [opd[0]] := by rw [List.take_add_one, List.getElem?_eq_getElem hkl]; rfl
        generalize opd[0] = on at *
        subst hin
        cases ss_open (x := S "o") (y := i.name) hdv with | @mk ta tn tt8 tt9 mta =>
        have hiu := W.up i hi
        have htop : (i.top != i.name) = false := by unfold Item.top; rw [if_pos hip]; simp
        repeat' (k_extra "ktr_rel")
        rename Obj.IsDictOf _ _ [_] => hd9
        exact tend kR (by k_asm) (by k_asm) (sub_mk (by k_mem) (sub_mk (by k_mem) (sub_mk (by k_mem) (sub_mk (by k_mem) (sub_mk (by k_mem) (by k_extra "tb_rel")))))) (off_cons (off_head off) (off_tail off)) ⟨⟨rfl, rfl, rfl, trivial⟩, _, by rw [htk]; exact hd9⟩
      · rintro m₁ nx h tk ⟨hm2, o9, ho9⟩ F7 N7
        replace F7 := frov F7 hm2
        rw [hvl2, List.take_length] at ho9
        repeat' (k_extra "ktr_rel")
        rename News _ _ _ _ => kN
        exact hret _ _ _ _ (by k_asm) kN ⟨x, rfl, fun p hp => .tail _ (.tail _ (.tail _ (.tail _ (hb p hp)))), hgood, .mk (by k_mem) (by k_mem) (by k_mem) lo hod (hT.mono (by k_extra "tb_rel")) (by k_mem) lo2 ho9 rfl⟩)
end
end
section
noncomputable def nones (its : List Item) (nm : Str) : List Item := (chs its nm).filter fun j => j.mult != S "one"
noncomputable def usualFor (its : List Item) (d : Int) (i : Item) : Int := if i.abs = true ∧ 0 < (chs its i.name).length ∧ (nones its i.name).map Item.name = [] then ((chs its i.name).length : Int) else d
theorem w16 : True := by
  (k_with "spec" => (exact children_spec (Sigs.mono (by assumption) (by k_extra "tb_rel")) (by omega)))
  (k_with "spec" => (refine' is_abstract_spec ?zzhS ?zzhi ?zzhn; (case zzhS => exact Sigs.mono (by assumption) (by k_extra "tb_rel")); (case zzhi => assumption); (case zzhn => first | assumption | exact rfl)))
  (k_with "spec" => (refine' mult_spec ?zzhS ?zzhi ?zzhn; (case zzhS => exact Sigs.mono (by assumption) (by k_extra "tb_rel")); (case zzhi => assumption); (case zzhn => first | assumption | exact rfl)))
  trivial
section
variable {w : World} {loose : List Str} {mean : ExcName → Option Value} {mg mb : Str → Option Value} {news : Led} {x sg : Addr} {its : List Item} {op : List Dat} {t : Tok} {i j : Item} {d : Int} {told : List Tell} {ord : List Str}
theorem usual_spec (hS : Sigs w sg its op news) (W : WfIts its) (hsok : ∀ i ∈ its, PyData.strOk i.name = true) (hN : NumAt w x sg d told ord news) (hi : i ∈ its) :
    Spec w loose mean mg mb 40 400 (.ref 157) [.ref x, .str i.name t] news (RInt (usualFor its d i) news) None2 := by
  unfold Spec
  k_fill
  intro dp un gd cn cs a ccd cl outer A₀ base h₀ L m s Q E B F X N T hk hR hok hret hexc
  have W1 := W.len
  have hcl : (chs its i.name).length ≤ its.length := List.length_filter_le _ _
  have hS0 := hS
  cases hS0 with | @mk dxs e st opn od' ofd oe nd' hh1 t1 hh2 tt2 h3 t3 h4 t4 h5 t5 kvs' vst nst vop nop vod nod nof c1 c2 c3 c4 c5 c6 c7 c8 c9 b1 b2 b3 b4 =>
  have hN0 := hN
  cases hN0 with | @mk dxn td o ndn otd oo n1 m1 n2 m2 n3 m3 n4 m4 m5 kvt kvo p1 p2 p3 p4 p5 p6 q3 q4 q5 q6 =>
  refine wpAny_call ?_
  k_dflt ktr_unf
  refine opq (by passes_own) ?_
  intro A9 R9 E9 kR9 kE9 pE9
  repeat' (k_extra "ktr_rel")
  · rename StrsAre _ _ => hs9
    rename List.length _ ≤ its.length => hv9
    rename List Value => vs9
    rename 0 < _ => h0
    rename i.abs = true => ha
    rename News _ _ _ _ => N1
    rename Fr _ _ _ _ => F1
    have hvl := hs9.length
    simp only [List.length_map] at hvl
    refine ⟨_, _, _, fun k ys nx => nx = _ ∧ StrsAre ys ((((chs its i.name).take k).filter fun j => j.mult != S "one").map Item.name), _, _, src_list rfl N1 (.head _), (by simp only [sizeLine_eq]; omega), F1, N1, ?_, ⟨rfl, .nil⟩, ?_, ?_⟩
    · rintro k ys nx ⟨rfl, -⟩; exact .head _
    · rintro k v ys nx I oI C oC D m₂ h tk E' R kR hk hv ⟨rfl, hys⟩ hyl hC off F2 N2
      refine assignC (by rfl) (by rfl) off hC F2 N2 fun h' oC' tk' hC' F3 N3 => ?_
      clear F2 N2 hC
      refine wpAny_tests_one ?_
      obtain ⟨hkl, t9, rfl⟩ := strs_at (nw := []) hs9 hv
      simp only [List.length_map] at hkl
      simp only [List.getElem_map] at hC'
      have hj : (chs its i.name)[k] ∈ its := (List.mem_filter.mp (List.getElem_mem hkl)).1
      have hx' : (fun y => if y = Str.ofString "one" then some (Value.str (chs its i.name)[k].name t9) else m₂ y) (Str.ofString "one") = some (Value.str (chs its i.name)[k].name t9) := by simp
      generalize (fun y => if y = Str.ofString "one" then some (Value.str (chs its i.name)[k].name t9) else m₂ y) = m₃ at hC' hx'
      repeat' (k_extra "ktr_rel")
      · rename ((_ != _) = true) => hq
        refine CEnd.intro kR (by k_asm) (by k_asm) (by k_extra "tb_rel") hC' off.off ⟨rfl, ?_⟩
        rw [take_filter _ _ hkl, if_pos hq]
        exact strs_snoc hys _ _
      · rename ((_ != _) = false) => hq
        refine CEnd.intro kR (by k_asm) (by k_asm) (by k_extra "tb_rel") hC' off.off ⟨rfl, ?_⟩
        rw [take_filter _ _ hkl, if_neg (by rw [show ((chs its i.name)[k].mult != S "one") = false from hq]; decide), List.append_nil]
        exact hys
    · rintro ys nx ⟨rfl, hys⟩ hyl
      intro D h tk F2 N2 o2
      rw [hvl, List.take_length] at hys
      have hok2 : ∀ d ∈ ((chs its i.name).filter fun j => j.mult != S "one").map Item.name, PyData.strOk d = true := by
        intro d hd
        obtain ⟨j, hj, rfl⟩ := List.mem_map.mp hd
        exact hsok j (List.mem_filter.mp (List.mem_filter.mp hj).1).1
      repeat' (k_extra "ktr_rel")
      · rename List.map _ _ = [] => hz
        rename News _ _ _ _ => kN
        have e9 : usualFor its d i = (vs9.length : Int) := by
          unfold usualFor
          rw [if_pos ⟨ha, by simp only [List.size_toArray] at h0; omega, hz⟩, hvl]
        exact hret _ news _ _ (by k_asm) (ntake kN (by k_extra "tb_rel")) (by rw [e9]; exact ⟨_⟩)
      · rename ¬ _ = [] => hz
        rename News _ _ _ _ => kN
        have e9 : usualFor its d i = d := by
          unfold usualFor
          rw [if_neg fun q => hz q.2.2]
        exact hret _ news _ _ (by k_asm) (ntake kN (by k_extra "tb_rel")) (by rw [e9]; exact ⟨_⟩)
  · rename StrsAre _ _ => hs9
    rename ¬ 0 < _ => h0
    rename News _ _ _ _ => kN
    have hvl := hs9.length
    simp only [List.length_map] at hvl
    have e9 : usualFor its d i = d := by
      unfold usualFor
      rw [if_neg fun q => h0 (by simp only [List.size_toArray]; omega)]
    exact hret _ news _ _ (by k_asm) (ntake kN (by k_extra "tb_rel")) (by rw [e9]; exact ⟨_⟩)
  · rename i.abs = false => ha
    rename News _ _ _ _ => kN
    have e9 : usualFor its d i = d := by
      unfold usualFor
      rw [if_neg fun q => by rw [ha] at q; cases q.1]
    exact hret _ news _ _ (by k_asm) (ntake kN (by k_extra "tb_rel")) (by rw [e9]; exact ⟨_⟩)
end
end
section
theorem w17 : True := by
  k_with_none
  (k_with "omega" => first | decide | with_reducible (first | exact room2 (by assumption) (by decide) | exact room1 (by assumption) (by decide) | exact le_t (by assumption) (by decide) | assumption | exact Nat.ne_of_lt (by assumption) | exact Nat.ne_of_gt (by assumption)) | (law_clear; lia) | omega +splitDisjunctions)
  (k_with "ktr_room" => ((try dsimp +zetaDelta only [ktrTop, Around.deeper, Around.under, Around.in1]); omega))
  (k_with "ktr_units" => ((have hcL9 := cLine_is); (try dsimp +zetaDelta only [ktrTop, Around.deeper, Around.under, Around.in1, Around.mark]); omega))
  (k_with "k_all" => assumption)
  (k_with "tb_rel" => ((repeat (first | exact sub_refl | refine sub_cons ?_)); done))
  (k_with "st" => ((fail_if_success (with_reducible show CEndV _ _ _)); (fail_if_success (with_reducible show TEndV _ _ _)); (fail_if_success (with_reducible show LoopX _ _ _ _ _ _ _ _ _ _ _)); (fail_if_success (with_reducible show CompX _ _ _ _ _ _ _ _ _ _ _ _ _ _)); (first | ((with_reducible show KEnd _ _ _); refine kuse (by with_reducible assumption) ?_) | ((with_reducible show wpAny _ _ (execs (Stmt.Raise _ _ _ :: _) _) _ _ _); exfalso; (first | omega | (simp only [List.size_toArray, List.length_cons] at *; omega))) | ((with_reducible show wpAny _ _ (execs (_ :: _) _) _ _ _); (try dsimp only); walk1) | ((with_reducible show wpAny _ _ (eval (Expr.BinOp _ _ _ _) _) _ _ _); (try dsimp only); walk1) | (k_unfold; (try dsimp only)) | (k_end; wrow_close) | walk1 | (dsimp only; walk1) | (leave1; walk_say "STEP leave1"; try dsimp only) | fail "no step")))
  (k_with "subscriptTail" => (k_here; (with_reducible show wpAny _ _ (subscriptTail _ _ (Value.ref _) (Value.str _ _)) _ _ _); k_dflt (refine kda_item (knd := PySem.strKind _ _) (by k_asm) (by k_mem) (by assumption) (strKind_is _ _ _ _) (by assumption) ?_)))
  (k_with "call builtin:len" => (k_here; k_dflt (first | refine len_list (News.isList (by k_asm) (by k_mem)) (by walk_at "ln") ?_ | refine PyProof.Rows.len_tuple (News.isTup (by k_asm) (by k_mem)) (by walk_at "ln") ?_)))
  (k_with "ln" => (simp only [List.size_toArray, List.length_cons, List.length_append, List.length_nil, List.length_map]; omega))
  (k_with "subscriptTail" => (k_here; (with_reducible show wpAny _ _ (subscriptTail _ _ (Value.ref _) (Value.int _ _)) _ _ _); k_dflt (refine' item_tupleT ?zzt ?zza ?zzb ?zzc ?zzd ?_; (case zzt => exact News.isTup (by k_asm) (by k_mem)); (case zza => decide); (case zzb => decide); (case zzc => rfl); (case zzd => rfl); k_whole)))
  (k_with "call type:tuple" => (k_here; (with_reducible show wpAny _ _ (call (Value.type _) [Value.ref _]) _ _ _); k_dflt (refine call_tuple_tup (News.isTup (by k_asm) (by k_mem)) ?_)))
  (k_with "k_mem" => first | with_reducible assumption | assumption)
  (k_with "call type:list" => (k_here; (with_reducible show wpAny _ _ (call (Value.type "list") [Value.ref _]) _ _ _); k_dflt (refine' kup_listOf ?zzF ?zzN ?zzb ?zze ?_ ?zzz; (case zzF => k_asm); (case zzN => k_asm); (case zzb => k_mem); (case zze => exact rfl); (case zzz => (simp only [sizeLine_eq]; omega))); intro _ _ _ _ _ _))
  (k_with "WhlIf" => (first | refine WhlIf.no (by assumption) ?_ | refine WhlIf.yes (by assumption) ?_))
  (k_with "ktr_unf" => (refine' code_defC ?zzk1 ?zzk2 ?zzk3 ?zzk4 ?zzk5 ?zzkA ?zzkF ?zzkK ?zzk6 ?zzk7 ?zzk8 ?zzk9 ?zzkB ?zzkD ?_ ?zzc2 ?zzc3 ?zzc4; (case zzkA => exact rfl); (case zzkF => exact rfl); (case zzkK => first | assumption | exact rfl); (case zzk1 => k_asm); (case zzk2 => k_asm); (case zzk3 => k_asm); (case zzk4 => k_asm); (case zzk5 => k_asm); (case zzk6 => k_is); (case zzk7 => k_is); (case zzk8 => ktr_room); (case zzk9 => exact BindsTo.of_eq rfl); (case zzkB => exact rfl); (case zzkD => decide +kernel); (case zzc2 => exact rfl); (case zzc3 => exact rfl); (case zzc4 => exact rfl); k_whole; walk_at "i1"))
  (k_with "eval ListComp" => (k_here; k_dflt (refine ListComp_X (by k_asm) (by rfl) (by decide) (by rfl) (by decide) ?_)))
  (k_with "exec Assign cons ListComp" => (k_here; k_dflt (refine Assign_ListComp_X (by k_asm) (by with_unfolding_all rfl) (by rfl) (by decide) (by rfl) (by decide) (by rfl) (by rfl) ?_)))
  (k_with "exec For Name Name cons nil" => walk_at "fx")
  (k_with "exec For Name Call cons nil" => walk_at "fx")
  (k_with "exec For Name Subscript cons nil" => walk_at "fx")
  (k_with "exec For Name Attribute cons nil" => walk_at "fx")
  (k_with "exec For Name IfExp cons nil" => walk_at "fx")
  (k_with "exec For Tuple Name cons nil" => walk_at "fx")
  (k_with "exec For Tuple Call cons nil" => walk_at "fx")
  (k_with "exec For Tuple Subscript cons nil" => walk_at "fx")
  (k_with "exec For Tuple Attribute cons nil" => walk_at "fx")
  (k_with "compareOp In str ref" => (k_here; k_dflt (first | refine in_no (by k_asm) (by k_mem) (by assumption) (by assumption) (by assumption) ?_ | refine in_yes (by k_asm) (by k_mem) (by assumption) (by assumption) (by assumption) ?_)))
  (k_with "compareOp NotIn str ref" => (k_here; k_dflt (refine notin_no (by k_asm) (by k_mem) (by assumption) (by assumption) (by assumption) ?_)))
  (k_with "setItem ref str" => (k_here; k_dflt (refine' kda_set (knd := PySem.strKind _ _) ?zzF ?zzN ?zzU ?zzd (strKind_is _ _ _ _) ?zzz ?_; (case zzF => k_asm); (case zzN => k_asm); (case zzU => k_updF); (case zzd => assumption); (case zzz => (simp only [sizeLine_eq]; omega))); intro _ _ _ zzN zzhd; (try dsimp only at zzN); (revert zzN zzhd; intro _ _)))
  (k_with "k_ne" => first | assumption | exact Ne.symm (by assumption))
  (k_with "getAttr ref" => (k_here; k_dflt (refine' get_own ?zzk1 ?zzk2 ?zzk3 ?zzk4 ?zzk5 ?zzk6 ?zzk7 ?zzk8 ?zzk9 ?_; (case zzk1 => k_asm); (case zzk2 => k_asm); (case zzk3 => k_inst); (case zzk4 => k_is); (case zzk5 => k_is); (case zzk6 => k_is); (case zzk7 => k_is); (case zzk8 => first | assumption | k_get); (case zzk9 => k_handed); k_whole)))
  (k_with "getMethod ref" => (k_here; k_dflt (refine' method_inst ?zzk1 ?zzk2 ?zzk3 ?zzk4 ?zzk5 ?zzk6 ?zzk7 ?_; (case zzk1 => k_asm); (case zzk2 => k_asm); (case zzk3 => k_inst); (case zzk4 => k_is); (case zzk5 => k_is); (case zzk6 => k_is); (case zzk7 => first | assumption | k_get); k_whole)))
  (k_with "k_ne" => first | with_reducible assumption | with_reducible exact Ne.symm (by assumption) | exact ne_l1 (by assumption) (by k_mem) | exact ne_l2 (by assumption) (by k_mem) | exact ne_o1 (by assumption) (by k_mem) | exact ne_o2 (by assumption) (by k_mem))
  (k_with "k_all" => first | with_reducible assumption | exact off_l1 (by assumption) (by k_extra "tb_rel") | exact off_o1 (by assumption) (by k_extra "tb_rel"))
  (k_with "ktr_rel" => ((fail_if_success (with_reducible show wpAny _ _ (exec (Stmt.While _ _ _ _) _) _ _ _)); walk_at "st"))
  (k_with "compareOp NotIn str ref" => (k_here; k_dflt (refine notin_list_strs (News.isList (by k_asm) (by k_mem)) (by assumption) ?_)))
  (k_with "compareOp Eq ref ref" => (k_here; k_dflt (refine' eq_empty ?zzN ?zza ?zzb ?zzd ?zzo ?zzu ?_; (case zzN => k_asm); (case zza => k_mem); (case zzb => k_mem); (case zzd => assumption); (case zzo => assumption); (case zzu => (dsimp +zetaDelta only [ktrTop, Around.deeper, Around.under, Around.in1]; (have hcL9 := cLine_is); omega)))))
  (k_with "subscriptTail Name Slice ref ref" => (k_here; k_dflt (refine' slice15 ?zzF ?zzN ?zzt ?_; (case zzF => k_asm); (case zzN => k_asm); (case zzt => exact News.isTup (by k_asm) (by k_mem))); intro _ _ _ _))
  (k_with "call ref" => (k_here; (with_reducible show wpAny _ _ (call (Value.ref _) _) _ _ _); k_dflt (refine' Spec.c (by k_asm) (by k_asm) (by k_asm) (by k_asm) (by k_asm) (by first | exact rfl | assumption) ?zzh ?zzD ?zzU ?_; (case zzh => walk_at "spec"); (case zzD => ktr_room); (case zzU => ktr_room)); walk_at "i2"))
  (k_with "call ref" => (k_here; (with_reducible show wpAny _ _ (call (Value.ref _) _) _ _ _); k_dflt (refine' Spec.ck (by k_asm) (by k_asm) (by k_asm) (by k_asm) (by k_asm) (by first | exact rfl | assumption) ?zzh ?zzel ?zzD ?zzU ?_; (case zzh => walk_at "spec"); (case zzel => walk_at "el"); (case zzD => ktr_room); (case zzU => ktr_room)); intros; (first | intro zzN | rename News _ _ _ _ => zzN); (try dsimp only at zzN); (revert zzN; intro _); (try dsimp only); (try k_sweep)))
  (k_with "el" => (first | exact RStr.el | exact RInt.el | exact RBool.el | exact NextRet.el | exact RTup0.el | exact RTup.el | exact RNil.el | exact ROne.el | exact RLst.el | exact NamesRet.el | exact ChRet.el | exact SizesRet.el))
  (k_with "spec" => (exact nextF_spec (by k_updF) (by assumption) (by omega) (by k_mem) (by first | decide | ((try simp only [List.size_toArray]); omega))))
  (k_with "fx" => (k_here; k_dflt (refine For_X (by k_asm) ?_)))
  (k_with "callWith" => (first | with_reducible refine PyProof.Rows.callWith_method0 ?_ | ((with_reducible refine' PyProof.Rows.callWith_builtin1 ?_ ?zzcwe ?zzcwp); (case zzcwe => rfl); (case zzcwp => rfl)) | ((with_reducible refine' PyProof.Rows.callWith_method1 ?_ ?zzcwe ?zzcwp); (case zzcwe => rfl); (case zzcwp => rfl))))
  (k_with "subscriptTail Name Constant ref int" => (first | (k_extra "subscriptTail") | (k_here; (with_reducible show wpAny _ _ (subscriptTail _ _ (Value.ref _) (Value.int _ _)) _ _ _); (with_unfolding_all refine' item_litK ?zzk1 ?zzk2 ?zzk3 ?zzk4 ?_ ?zzk6; (case zzk1 => is_list); (case zzk2 => decide); (case zzk3 => decide); (case zzk4 => rfl); (case zzk6 => with_unfolding_all rfl); k_whole))))
  (k_with "subscriptTail Name BinOp ref int" => (k_extra "subscriptTail"))
  (k_with "subscriptTail Name Name ref int" => (k_extra "subscriptTail"))
  (k_with "subscriptTail Name UnaryOp ref int" => (k_extra "subscriptTail"))
  (k_with "joinParts" => (k_here; (with_reducible refine' join_end ?zzjez ?_); (case zzjez => kt_le)))
  (k_with "exec Raise some none" => (k_here; k_dflt (refine raise_X (by k_asm) (by k_asm) (by rfl) ?_)))
  (k_with "RaiseEnd" => (refine ⟨_, _, _, _, _, _, rfl, ?zzC, by k_asm, by k_asm, by k_mem, ?_⟩; (case zzC => first | exact .inl rfl | exact .inr rfl)))
  (k_with "leaving ref" => (k_here; k_dflt (first | (refine' leave_excK ?zzkk ?zzK rfl ?zzhk ?zzF ?zzN ?zzhe ?zzht ?zzhs ?zzhne ?zzhnt ?zzhsub ?_; (case zzkk => assumption); (case zzK => assumption); (case zzhk => rfl); (case zzF => k_asm); (case zzN => k_asm); (case zzhe => k_mem); (case zzht => k_mem); (case zzhs => assumption); (case zzhne => assumption); (case zzhnt => assumption); (case zzhsub => ((repeat (first | exact sub_refl | assumption | refine sub_cons ?_)); done))) | (refine' leave_onK2 ?zzkk ?zzK rfl ?zzF ?zzR ?zzU ?_; (case zzkk => assumption); (case zzR => assumption); (case zzF => assumption); (case zzK => assumption); (case zzU => assumption))); intro _ zzR zzU; (try dsimp only at zzR zzU ⊢); (revert zzR zzU; intro _ _)))
  (k_with "formatField str" => (k_here; (refine' PyProof.Rows.formatField_str ?_ ?zzz; (case zzz => (simp only [sizeLine_eq]; omega))); intro _ _))
  (k_with "call type:tuple" => (k_here; (with_reducible show wpAny _ _ (call (Value.type _) [Value.ref _]) _ _ _); k_dflt (refine' kde_tupleOf ?zzk1 ?zzk2 ?zzk3 ?zzk4 ?zzk5 ?_; (case zzk1 => k_asm); (case zzk2 => k_asm); (case zzk3 => exact News.isList (by k_asm) (by k_mem)); (case zzk4 => (simp only [List.size_toArray]; omega)); (case zzk5 => exact List.toList_toArray _); k_whole); intro _ _ _ _ zzl1; (try k_lt zzl1); (revert zzl1; intro _)))
  (k_with "newTuple" => (k_here; k_dflt (refine' newTuple_L ?zzk1 ?zzk2 ?zzk3 ?_; (case zzk1 => k_asm); (case zzk2 => k_asm); (case zzk3 => (simp only [sizeLine_eq, List.length_cons, List.length_nil]; omega))); intro _ _ _ _ zzl1; (try k_lt zzl1); (revert zzl1; intro _)))
  (k_with "setItem ref str" => (k_here; k_dflt (refine' dset_new ?zzF ?zzN ?zzU ?zzd ?zzn ?zzz ?_; (case zzF => k_asm); (case zzN => k_asm); (case zzU => k_updF); (case zzd => assumption); (case zzn => assumption); (case zzz => omega)); intro _ _ _ zzN zzhd zzhv; (try dsimp only at zzN); (revert zzN zzhd zzhv; intro _ _ _)))
  (k_with "call builtin:list.extend" => (k_here; (with_reducible show wpAny _ _ (call (Value.builtin _) [Value.ref _, Value.ref _]) _ _ _); k_dflt (refine' ext_L ?zzF ?zzN ?zzb ?zzU ?zzz ?zzy ?_; (case zzF => k_asm); (case zzN => k_asm); (case zzb => k_mem); (case zzU => k_updF); (case zzz => omega); (case zzy => omega)); intro _ _ _ zzN; (try dsimp only at zzN); (revert zzN; intro _)))
  (k_with "spec" => (exact scope_spec))
  (k_with "spec" => (refine' mult_spec ?zzhS ?zzhi ?zzhn; (case zzhS => exact Sigs.mono (by assumption) (by k_extra "tb_rel")); (case zzhi => assumption); (case zzhn => first | assumption | exact rfl)))
  (k_with "spec" => (exact usual_spec (Sigs.mono (by assumption) (by k_extra "tb_rel")) (by assumption) (by assumption) (NumAt.mono (by assumption) (by k_extra "tb_rel")) (by assumption)))
  (k_with "getMethod ref" => (k_here; (with_reducible show wpAny _ _ (getMethod (Value.ref _) (Str.ofString "get") _) _ _ _); k_dflt (refine kdg_method (knd := PySem.strKind _ _) (by k_asm) (by k_mem) (by assumption) ?_)))
  (k_with "call builtin:dict.get" => (k_here; k_dflt (refine kdg_get2 (knd := PySem.strKind _ _) (by k_asm) (by k_mem) (by assumption) (by assumption) (strKind_is _ _ _ _) _ (by assumption) ?_); (try dsimp only [Option.getD])))
  trivial
noncomputable def lotOf (mult : Str) (told : Option (Bool × Int)) (usual : Int) (inord : Bool) : Option (Bool × Int) :=
  if mult == S "one" then (match told with | some (_, k) => if k != 1 then none else some (true, 1) | none => some (true, 1))
  else if mult == S "lone" then (match told with | some (e, k) => if e && decide (1 < k) then none else some (e || inord, if 1 < k then 1 else k) | none => some (inord, if 1 < usual then 1 else usual))
  else (match told with | some (e, k) => some (e || inord, k) | none => some (inord, usual))
noncomputable def tellOf (told : List Tell) (nm : Str) : Option (Bool × Int) := (told.find? fun t => decide (t.sig = nm)).map fun t => (t.exact, t.number)
noncomputable def lotFor (its : List Item) (d : Int) (told : List Tell) (ord : List Str) (i : Item) : Option (Bool × Int) := lotOf i.mult (tellOf told i.name) (usualFor its d i) (decide (i.name ∈ ord))
theorem ord_get {ord : List Str} {x : Str} (h : x ∈ ord) : valueAt (ord.map fun x => (x, Value.bool true)) x = some (.bool true) := by
  unfold valueAt
  cases q : (ord.map fun x => (x, Value.bool true)).find? fun kv => decide (kv.1 = x) with
  | none =>
    have := List.find?_eq_none.mp q (x, .bool true) (List.mem_map.mpr ⟨x, h, rfl⟩)
    simp at this
  | some y =>
    have := List.mem_of_find?_eq_some q
    obtain ⟨z, -, rfl⟩ := List.mem_map.mp this
    rfl
theorem ord_none {ord : List Str} {x : Str} (h : x ∉ ord) : valueAt (ord.map fun x => (x, Value.bool true)) x = none := by
  unfold valueAt
  rw [List.find?_eq_none.mpr]
  · rfl
  · intro kv hk
    obtain ⟨z, hz, rfl⟩ := List.mem_map.mp hk
    simp only [decide_eq_true_eq]
    rintro rfl
    exact h hz
section
variable {w : World} {loose : List Str} {mean : ExcName → Option Value} {mg mb : Str → Option Value} {news bs : Led} {x sg : Addr} {its : List Item} {op : List Dat} {t : Tok} {i j : Item} {d : Int} {told : List Tell} {ord : List Str}
noncomputable def Lots (its : List Item) (d : Int) (told : List Tell) (ord : List Str) (i : Item) (news : Led) (r : Value) (news' : Led) : Prop :=
  ∃ T n tk b k, r = .ref T ∧ news' = (T, tupObj [.bool b, .int k tk] n) :: news ∧ lotFor its d told ord i = some (b, k) ∧ ∀ p ∈ news, p.1 ≠ T
theorem lot_none_spec (hS : Sigs w sg its op news) (W : WfIts its) (hsok : ∀ i ∈ its, PyData.strOk i.name = true) (hN : NumAt w x sg d told ord news) (hi : i ∈ its) (hbs : ∀ p ∈ bs, p ∈ news)
    (ht : ∀ j ∈ told, j.sig ≠ i.name) :
    SpecX w loose mean mg mb 60 900 (.ref 164) [.ref x, .str i.name t] news bs (Lots its d told ord i news) (fun C => C = 100 ∧ lotFor its d told ord i = none) := by
  unfold SpecX
  k_fill
  intro dp un gd cn cs a ccd cl outer A₀ base h₀ L m s Q E B F X N T hk hR hok hret hexc
  have hkeep : KeepIs bs := trivial
  have hN0 := hN
  cases hN0 with | @mk dxn td o ndn otd oo n1 m1 n2 m2 n3 m3 n4 m4 m5 kvt kvo p1 p2 p3 p4 p5 p6 q3 q4 q5 q6 =>
  have hS0 := hS
  cases hS0 with | @mk dxs e st opn od' ofd oe nd' hh1 t1 hh2 tt2 h3 t3 h4 t4 h5 t5 kvs' vst nst vop nop vod nod nof c1 c2 c3 c4 c5 c6 c7 c8 c9 b1 b2 b3 b4 =>
  have hg := p6.none ht
  have htell : tellOf told i.name = none := by
    unfold tellOf
    rw [List.find?_eq_none.mpr (fun t h => by simpa using ht t h)]; rfl
  have hnl := W.nl i hi
  subst q6
  refine wpAny_call ?_
  k_dflt ktr_enter
  rename Fr _ _ _ _ => F1
  replace F1 : Fr _ _ _ (fun y => List.lookup y [(Str.ofString "sig", Value.str i.name t), (Str.ofString "self", Value.ref x)]) := F1
  refine opq (by passes_own) ?_
  intro A9 R9 E9 kR9 kE9 pE9
  repeat' ((fail_if_success (with_reducible show wpAny _ _ (exec (Stmt.Return (some (PySem.Expr.Tuple (PySem.Expr.BoolOp _ _ _ :: _) _ _)) _) _) _ _ _)); k_extra "ktr_rel")
  all_goals (
    first
    | ((fail_if_success (with_reducible show wpAny _ _ (exec (Stmt.Return (some (PySem.Expr.Tuple (PySem.Expr.BoolOp _ _ _ :: _) _ _)) _) _) _ _ _))
       rename News _ _ _ _ => kN
       rename _ < _ ∧ AllLt _ news => la
       exact hret _ _ _ _ (by k_asm) (ntake kN (sub_mk (by k_mem) (by k_extra "tb_rel"))) ⟨_, _, _, _, _, rfl, rfl, by unfold lotFor lotOf; rw [htell]; simp [*], allLt_off la.2⟩)
    | (by_cases ho : i.name ∈ ord
       · have hvo := ord_get ho
         repeat' (k_extra "ktr_rel")
         all_goals (
          rename News _ _ _ _ => kN
          rename _ < _ ∧ AllLt _ news => la
          exact hret _ _ _ _ (by k_asm) (ntake kN (sub_mk (by k_mem) (by k_extra "tb_rel"))) ⟨_, _, _, _, _, rfl, rfl, by unfold lotFor lotOf; rw [htell]; simp [*], allLt_off la.2⟩)
       · have hvo := ord_none ho
         repeat' (k_extra "ktr_rel")
         all_goals (
          rename News _ _ _ _ => kN
          rename _ < _ ∧ AllLt _ news => la
          exact hret _ _ _ _ (by k_asm) (ntake kN (sub_mk (by k_mem) (by k_extra "tb_rel"))) ⟨_, _, _, _, _, rfl, rfl, by unfold lotFor lotOf; rw [htell]; simp [*], allLt_off la.2⟩)))
theorem lot_some_spec {tl : Tell} (hS : Sigs w sg its op news) (W : WfIts its) (hsok : ∀ i ∈ its, PyData.strOk i.name = true) (hN : NumAt w x sg d told ord news) (hi : i ∈ its) (hbs : ∀ p ∈ bs, p ∈ news)
    (htl : tl ∈ told) (hts : tl.sig = i.name) (htell : tellOf told i.name = some (tl.exact, tl.number)) (hbig : tl.number.natAbs < 10 ^ 40) :
    SpecX w loose mean mg mb 60 900 (.ref 164) [.ref x, .str i.name t] news bs (Lots its d told ord i news) (fun C => C = 100 ∧ lotFor its d told ord i = none) := by
  unfold SpecX
  k_fill
  intro dp un gd cn cs a ccd cl outer A₀ base h₀ L m s Q E B F X N T hk hR hok hret hexc
  have hkeep : KeepIs bs := trivial
  have hN0 := hN
  cases hN0 with | @mk dxn td o ndn otd oo n1 m1 n2 m2 n3 m3 n4 m4 m5 kvt kvo p1 p2 p3 p4 p5 p6 q3 q4 q5 q6 =>
  have hS0 := hS
  cases hS0 with | @mk dxs e st opn od' ofd oe nd' hh1 t1 hh2 tt2 h3 t3 h4 t4 h5 t5 kvs' vst nst vop nop vod nod nof c1 c2 c3 c4 c5 c6 c7 c8 c9 b1 b2 b3 b4 =>
  obtain ⟨v9, hg, hd9⟩ := p6.get htl
  rw [hts] at hg
  cases bi_open hd9 with | @mk ta tn tt9 mta =>
  have hnl := W.nl i hi
  subst q6
  refine wpAny_call ?_
  k_dflt ktr_enter
  rename Fr _ _ _ _ => F1
  replace F1 : Fr _ _ _ (fun y => List.lookup y [(Str.ofString "sig", Value.str i.name t), (Str.ofString "self", Value.ref x)]) := F1
  refine opq (by passes_own) ?_
  intro A9 R9 E9 kR9 kE9 pE9
  repeat' ((fail_if_success (with_reducible show wpAny _ _ (exec (Stmt.Return (some (PySem.Expr.Tuple (PySem.Expr.BoolOp _ _ _ :: _) _ _)) _) _) _ _ _)); k_extra "ktr_rel")
  all_goals (
    first
    | exact hexc _ _ _ _ _ _ _ (by assumption) (by assumption) (by assumption) ⟨rfl, by unfold lotFor lotOf; rw [htell]; simp [*]⟩
    | ((fail_if_success (with_reducible show wpAny _ _ (exec (Stmt.Return (some (PySem.Expr.Tuple (PySem.Expr.BoolOp _ _ _ :: _) _ _)) _) _) _ _ _))
       rename News _ _ _ _ => kN
       rename _ < _ ∧ AllLt _ news => la
       exact hret _ _ _ _ (by k_asm) (ntake kN (sub_mk (by k_mem) (by k_extra "tb_rel"))) ⟨_, _, _, _, _, rfl, rfl, by unfold lotFor lotOf; rw [htell]; simp [*], allLt_off la.2⟩)
    | (by_cases ho : i.name ∈ ord
       · have hvo := ord_get ho
         repeat' (k_extra "ktr_rel")
         all_goals (
          rename News _ _ _ _ => kN
          rename _ < _ ∧ AllLt _ news => la
          exact hret _ _ _ _ (by k_asm) (ntake kN (sub_mk (by k_mem) (by k_extra "tb_rel"))) ⟨_, _, _, _, _, rfl, rfl, by unfold lotFor lotOf; rw [htell]; simp [*], allLt_off la.2⟩)
       · have hvo := ord_none ho
         repeat' (k_extra "ktr_rel")
         all_goals (
          rename News _ _ _ _ => kN
          rename _ < _ ∧ AllLt _ news => la
          exact hret _ _ _ _ (by k_asm) (ntake kN (sub_mk (by k_mem) (by k_extra "tb_rel"))) ⟨_, _, _, _, _, rfl, rfl, by unfold lotFor lotOf; rw [htell]; simp [*], allLt_off la.2⟩)))
end
end
section
/-- a top's atoms: its name, where they begin, how many, whether all are sure -/
structure Row where
  name : Str
  start : Nat
  many : Nat
  sure : Bool
noncomputable def lotDat (r : Row) : Dat := .tuple ((List.range r.many).map fun (k : Nat) => .tuple [.int ((r.start : Int) + (k : Int))])
noncomputable def sureDat (r : Row) : Dat := if r.sure then lotDat r else .tuple []
noncomputable def atomName (nm : Str) (k : Nat) : Str := nm ++ Str.ofString "$" ++ Str.ofString (toString (k : Int))
noncomputable def rowNames (r : Row) : List Str := (List.range r.many).map (atomName r.name)
noncomputable def namesOf (rows : List Row) : List Str := rows.flatMap rowNames
noncomputable def atomsN (rows : List Row) : Nat := (namesOf rows).length
/-- a dict's pairs, by their data -/
inductive RgJ (L0 : Led) (k : Nat) (ds : Nat → Dat) (ys : List Value) (nx : Led) : Prop
  | mk (fr : Led) (hnx : nx = fr ++ L0) (hfr : ∀ p ∈ fr, ∀ q ∈ L0, p.1 ≠ q.1) (hys : DatAll fr ys ((List.range k).map ds)) : RgJ L0 k ds ys nx
inductive Vals (news : Led) : List (Str × Value) → List (Str × Dat) → Prop
  | nil : Vals news [] []
  | snoc {kvs : List (Str × Value)} {l : List (Str × Dat)} {x : Str} {v : Value} {d : Dat} : Vals news kvs l → DatIn news v d → (∀ j ∈ l, j.1 ≠ x) → Vals news (kvs ++ [(x, v)]) (l ++ [(x, d)])
theorem Vals.mono {news news' : Led} {kvs : List (Str × Value)} {l : List (Str × Dat)} (h : Vals news kvs l) (hs : ∀ p ∈ news, p ∈ news') : Vals news' kvs l := by
  induction h with
  | nil => exact .nil
  | snoc _ hd hn ih => exact .snoc ih (hd.mono hs) hn
theorem Vals.length {news : Led} {kvs : List (Str × Value)} {l : List (Str × Dat)} (h : Vals news kvs l) : kvs.length = l.length := by
  induction h with
  | nil => rfl
  | snoc _ _ _ ih => simp [ih]
theorem Vals.names {news : Led} {kvs : List (Str × Value)} {l : List (Str × Dat)} (h : Vals news kvs l) : kvs.map (·.1) = l.map (·.1) := by
  induction h with
  | nil => rfl
  | snoc _ _ _ ih => simp [ih]
theorem Vals.none {news : Led} {kvs : List (Str × Value)} {l : List (Str × Dat)} (h : Vals news kvs l) {x : Str} (hx : ∀ j ∈ l, j.1 ≠ x) : valueAt kvs x = none := by
  unfold valueAt
  have : List.find? (fun kv => decide (kv.1 = x)) kvs = Option.none := by
    rw [List.find?_eq_none]
    intro kv hk
    have : kv.1 ∈ kvs.map (·.1) := List.mem_map_of_mem hk
    rw [h.names] at this
    obtain ⟨j, hj, e⟩ := List.mem_map.mp this
    simpa [← e] using hx j hj
  rw [this]; rfl
theorem valueAt_snoc {kvs : List (Str × Value)} {x : Str} {v : Value} (h : valueAt kvs x = none) : valueAt (kvs ++ [(x, v)]) x = some v := by
  unfold valueAt at h ⊢
  rw [List.find?_append]
  cases q : List.find? (fun kv => decide (kv.1 = x)) kvs with
  | none => simp
  | some y => rw [q] at h; cases h
/-- what a command's atoms are, in the ledger -/
inductive OutAt (w : World) (rows : List Row) (news : Led) : Value → Prop
  | mk {T nl ld sd : Addr} {nT nn : Nat} {vs : List Value} {ol os : Obj} {kl ks : List (Str × Value)}
    (a1 : (T, tupObj [.ref nl, .ref ld, .ref sd] nT) ∈ news) (a2 : (nl, listOf vs.toArray nn) ∈ news) (a3 : StrsAre vs (namesOf rows))
    (b1 : (ld, ol) ∈ news) (b2 : (ld == sysModules) = false) (b3 : ol.IsDictOf (PySem.strKind PG w) kl) (b4 : Vals news kl (rows.map fun r => (r.name, lotDat r)))
    (c1 : (sd, os) ∈ news) (c2 : (sd == sysModules) = false) (c3 : os.IsDictOf (PySem.strKind PG w) ks) (c4 : Vals news ks (rows.map fun r => (r.name, sureDat r))) : OutAt w rows news (.ref T)
inductive Res
  | limit
  | scope
  | ok (rows : List Row)
noncomputable def run : List (Str × Option (Bool × Int)) → List Row → Res
  | [], rows => .ok rows
  | (_, none) :: _, _ => .scope
  | (nm, some (e, k)) :: r, rows => if (atomsN rows : Int) + k > 500 then .limit else run r (rows ++ [⟨nm, atomsN rows, k.toNat, e⟩])
theorem atomsN_snoc (rows : List Row) (r : Row) : atomsN (rows ++ [r]) = atomsN rows + r.many := by
  simp [atomsN, namesOf, rowNames]
section
open PySem.Calls PySem.Spec
variable {prog : Program} {w : World} {A : Around} {s : Shared} {h₀ : Heap} {L : Addr}
theorem src_range0 {x : Str} {px : Pos} {r : Addr} {b : Int} {t u v : Tok} (hh : A.handled = none) (hr : IsRange s.heap r 0 b 1 t u v) (h0 : 0 ≤ b) (hb : b < 2 ^ 62) :
    Src prog w A h₀ L (.Name x px) (.ref r) b.toNat (fun (i : Nat) v => ∃ t, v = .int (i : Int) t) (fun _ => True) s := by
  have := src_range (prog := prog) (w := w) (h₀ := h₀) (L := L) (x := x) (px := px) hh hr (small_one (by omega) (by omega) (by omega) hb) (n := b.toNat) (by rw [rangeSize_nat]; simp)
  have e : (fun (i : Nat) (v : Value) => ∃ t, v = Value.int (0 + (i : Int)) t) = fun (i : Nat) v => ∃ t, v = Value.int (i : Int) t := by funext i v; simp
  rwa [e] at this
end
theorem apart_app {fr L0 : Led} {a : Addr} {o : Obj} (h : ∀ p ∈ fr, ∀ q ∈ L0, p.1 ≠ q.1) (h2 : ∀ q ∈ L0, q.1 ≠ a) : ∀ p ∈ (a, o) :: fr, ∀ q ∈ L0, p.1 ≠ q.1 := apart_cons h2 h
theorem sub_app {fr L0 : Led} : ∀ p ∈ L0, p ∈ fr ++ L0 := fun _ h => List.mem_append.mpr (.inr h)
theorem sub_app1 {fr L0 : Led} : ∀ p ∈ fr, p ∈ fr ++ L0 := fun _ h => List.mem_append.mpr (.inl h)
theorem range_map_snoc {α : Type} (f : Nat → α) (i : Nat) : (List.range (i + 1)).map f = (List.range i).map f ++ [f i] := by rw [List.range_succ, List.map_append]; rfl
section
open PySem.Calls PySem.Spec
variable {M : Model} {w : World} {A : Around} {E : Value → Shared → Prop} {s : Shared} {h₀ : Heap} {L d : Addr} {m : Str → Option Value} {news : Led} {g : Obj → Led} {o : Obj} {kvs : List (Str × Value)} {k : Str} {t : Tok} {v : Value}
theorem newTuple_L {vs : List Value} {Q : Value → Shared → Prop} (F : Fr h₀ L s.heap m) (N : News h₀ L s.heap news) (hsz : vs.length ≤ sizeLine)
    (h : ∀ D h', Fr h₀ L h' m → News h₀ L h' ((D, tupObj vs 0) :: news) → (∀ p ∈ news, p.1 < D) → Q (.ref D) { s with heap := h' }) : wpAny M A (newTuple vs) Q E s :=
  newTuple_N (hsz := hsz) F N fun h' F' N' => h _ h' F' N' fun p hp => Heap.lt_size (N p hp).1
theorem dset_new {Q : Unit → Shared → Prop} (F : Fr h₀ L s.heap m) (N : News h₀ L s.heap news) (U : UpdF d o news g) (hd : o.IsDictOf (PySem.strKind PG w) kvs) (hn : valueAt kvs k = none) (hsz : kvs.length ≤ 1000)
    (h : ∀ h' o', Fr h₀ L h' m → News h₀ L h' (g o') → o'.IsDictOf (PySem.strKind PG w) (kvs ++ [(k, v)]) → valueAt (kvs ++ [(k, v)]) k = some v → Q () { s with heap := h', toks := s.toks + 1 }) :
    wpAny (model PG w) A (setItem (.ref d) (.str k t) v) Q E s :=
  kda_set (knd := PySem.strKind _ _) F N U hd (strKind_is _ _ _ _) (by rw [sizeLine_eq]; omega) fun h' o' F' N' hd' => h h' o' F' N' (by rw [valueAt_none_stored hn] at hd'; exact hd') (valueAt_snoc hn)
end
section
open PySem.Calls PySem.Spec
variable {w : World} {A : Around} {E : Value → Shared → Prop} {s : Shared} {h₀ : Heap} {L D b : Addr} {m : Str → Option Value} {news : Led} {g : Obj → Led} {vs ys : List Value} {n n2 : Nat}
theorem updF_upd {d : Addr} {o o' : Obj} {l : Led} {g : Obj → Led} (U : UpdF d o l g) : Upd d o o' l (g o') := by
  induction U with
  | head h => exact .head h
  | tail h _ ih => exact .tail h ih
theorem ext_L {Q : Value → Shared → Prop} (F : Fr h₀ L s.heap m) (N : News h₀ L s.heap news) (hb : (b, listOf ys.toArray n2) ∈ news) (U : UpdF D (listOf vs.toArray n) news g) (hz : vs.length ≤ 10000) (hz2 : ys.length ≤ 10000)
    (h : ∀ h' n', Fr h₀ L h' m → News h₀ L h' (g (listOf (vs ++ ys).toArray n')) → Q .none { s with heap := h' }) : wpAny (model PG w) A (call (.builtin "list.extend") [.ref D, .ref b]) Q E s := by
  have hd : ¬(!(vs.toArray).isEmpty && Builtin.List.listTooLong (vs.toArray.size + ys.toArray.size)) = true := by
    unfold Builtin.List.listTooLong
    simp only [sizeLine_eq]
    simp
    intro _
    omega
  by_cases hy : ys = []
  · subst hy
    refine kxn_extend F N hb rfl (updF_upd U) hd (by rw [sizeLine_eq]; simp; omega) (by rw [sizeLine_eq]; simp; omega) fun h' F' N' => h h' n F' (by rw [List.append_nil]; exact N')
  · exact kl_extend F N hb rfl (by simpa using hy) (updF_upd U) hd (by rw [sizeLine_eq]; simp; omega) (by rw [sizeLine_eq]; simp; omega) fun h' F' N' => h h' (n + 1) F' (by simpa using N')
end
end
section
open PySem.Calls PySem.Spec
theorem mono_at {α : Type} {M : Model} {A : Around} {c : Sem α} {Q : α → Shared → Prop} {E : Value → Shared → Prop} {s : Shared} {g h : Heap} {L : Addr} {m : Str → Option Value} (P : Heap → Addr → (Str → Option Value) → α → Shared → Prop) (_F : Fr g L h m) (h1 : wpAny M A c (P g L m) E s) (h2 : ∀ f s', P g L m f s' → Q f s') : wpAny M A c Q E s := wpAny_mono h1 h2 (fun _ _ e => e)
theorem vals_fresh {nr : Led} {kl : List (Str × Value)} {rows : List Row} {f : Row → Dat} {nm : Str} (h : Vals nr kl (rows.map fun r => (r.name, f r))) (hf : ∀ r ∈ rows, r.name ≠ nm) : valueAt kl nm = none := h.none (by
  intro j hj
  obtain ⟨r, hr, rfl⟩ := List.mem_map.mp hj
  exact hf r hr)
theorem rows_fresh {rows : List Row} {f : Row → Dat} {nm : Str} (hf : ∀ r ∈ rows, r.name ≠ nm) : ∀ j ∈ (rows.map fun r => (r.name, f r)), j.1 ≠ nm := by
  intro j hj
  obtain ⟨r, hr, rfl⟩ := List.mem_map.mp hj
  exact hf r hr
end
section
theorem w18 : True := by
  k_with_none
  (k_with "omega" => first | decide | with_reducible (first | exact room2 (by assumption) (by decide) | exact room1 (by assumption) (by decide) | exact le_t (by assumption) (by decide) | assumption | exact Nat.ne_of_lt (by assumption) | exact Nat.ne_of_gt (by assumption)) | (law_clear; lia) | omega +splitDisjunctions)
  (k_with "ktr_room" => ((try dsimp +zetaDelta only [ktrTop, Around.deeper, Around.under, Around.in1]); omega))
  (k_with "ktr_units" => ((have hcL9 := cLine_is); (try dsimp +zetaDelta only [ktrTop, Around.deeper, Around.under, Around.in1, Around.mark]); omega))
  (k_with "k_all" => assumption)
  (k_with "tb_rel" => ((repeat (first | exact sub_refl | refine sub_cons ?_)); done))
  (k_with "st" => ((fail_if_success (with_reducible show CEndV _ _ _)); (fail_if_success (with_reducible show TEndV _ _ _)); (fail_if_success (with_reducible show LoopX _ _ _ _ _ _ _ _ _ _ _)); (fail_if_success (with_reducible show CompX _ _ _ _ _ _ _ _ _ _ _ _ _ _)); (first | ((with_reducible show KEnd _ _ _); refine kuse (by with_reducible assumption) ?_) | ((with_reducible show wpAny _ _ (execs (Stmt.Raise _ _ _ :: _) _) _ _ _); exfalso; (first | omega | (simp only [List.size_toArray, List.length_cons] at *; omega))) | ((with_reducible show wpAny _ _ (execs (_ :: _) _) _ _ _); (try dsimp only); walk1) | ((with_reducible show wpAny _ _ (eval (Expr.BinOp _ _ _ _) _) _ _ _); (try dsimp only); walk1) | (k_unfold; (try dsimp only)) | (k_end; wrow_close) | walk1 | (dsimp only; walk1) | (leave1; walk_say "STEP leave1"; try dsimp only) | fail "no step")))
  (k_with "subscriptTail" => (k_here; (with_reducible show wpAny _ _ (subscriptTail _ _ (Value.ref _) (Value.str _ _)) _ _ _); k_dflt (refine kda_item (knd := PySem.strKind _ _) (by k_asm) (by k_mem) (by assumption) (strKind_is _ _ _ _) (by assumption) ?_)))
  (k_with "call builtin:len" => (k_here; k_dflt (first | refine len_list (News.isList (by k_asm) (by k_mem)) (by walk_at "ln") ?_ | refine PyProof.Rows.len_tuple (News.isTup (by k_asm) (by k_mem)) (by walk_at "ln") ?_)))
  (k_with "ln" => (simp only [List.size_toArray, List.length_cons, List.length_append, List.length_nil, List.length_map]; omega))
  (k_with "subscriptTail" => (k_here; (with_reducible show wpAny _ _ (subscriptTail _ _ (Value.ref _) (Value.int _ _)) _ _ _); k_dflt (refine' item_tupleT ?zzt ?zza ?zzb ?zzc ?zzd ?_; (case zzt => exact News.isTup (by k_asm) (by k_mem)); (case zza => decide); (case zzb => decide); (case zzc => rfl); (case zzd => rfl); k_whole)))
  (k_with "call type:tuple" => (k_here; (with_reducible show wpAny _ _ (call (Value.type _) [Value.ref _]) _ _ _); k_dflt (refine call_tuple_tup (News.isTup (by k_asm) (by k_mem)) ?_)))
  (k_with "k_mem" => first | with_reducible assumption | assumption)
  (k_with "call type:list" => (k_here; (with_reducible show wpAny _ _ (call (Value.type "list") [Value.ref _]) _ _ _); k_dflt (refine' kup_listOf ?zzF ?zzN ?zzb ?zze ?_ ?zzz; (case zzF => k_asm); (case zzN => k_asm); (case zzb => k_mem); (case zze => exact rfl); (case zzz => (simp only [sizeLine_eq]; omega))); intro _ _ _ _ _ _))
  (k_with "WhlIf" => (first | refine WhlIf.no (by assumption) ?_ | refine WhlIf.yes (by assumption) ?_))
  (k_with "ktr_unf" => (refine' code_defC ?zzk1 ?zzk2 ?zzk3 ?zzk4 ?zzk5 ?zzkA ?zzkF ?zzkK ?zzk6 ?zzk7 ?zzk8 ?zzk9 ?zzkB ?zzkD ?_ ?zzc2 ?zzc3 ?zzc4; (case zzkA => exact rfl); (case zzkF => exact rfl); (case zzkK => first | assumption | exact rfl); (case zzk1 => k_asm); (case zzk2 => k_asm); (case zzk3 => k_asm); (case zzk4 => k_asm); (case zzk5 => k_asm); (case zzk6 => k_is); (case zzk7 => k_is); (case zzk8 => ktr_room); (case zzk9 => exact BindsTo.of_eq rfl); (case zzkB => exact rfl); (case zzkD => decide +kernel); (case zzc2 => exact rfl); (case zzc3 => exact rfl); (case zzc4 => exact rfl); k_whole; walk_at "i1"))
  (k_with "eval ListComp" => (k_here; k_dflt (refine ListComp_X (by k_asm) (by rfl) (by decide) (by rfl) (by decide) ?_)))
  (k_with "exec Assign cons ListComp" => (k_here; k_dflt (refine Assign_ListComp_X (by k_asm) (by with_unfolding_all rfl) (by rfl) (by decide) (by rfl) (by decide) (by rfl) (by rfl) ?_)))
  (k_with "exec For Name Name cons nil" => walk_at "fx")
  (k_with "exec For Name Call cons nil" => walk_at "fx")
  (k_with "exec For Name Subscript cons nil" => walk_at "fx")
  (k_with "exec For Name Attribute cons nil" => walk_at "fx")
  (k_with "exec For Name IfExp cons nil" => walk_at "fx")
  (k_with "exec For Tuple Name cons nil" => walk_at "fx")
  (k_with "exec For Tuple Call cons nil" => walk_at "fx")
  (k_with "exec For Tuple Subscript cons nil" => walk_at "fx")
  (k_with "exec For Tuple Attribute cons nil" => walk_at "fx")
  (k_with "compareOp In str ref" => (k_here; k_dflt (first | refine in_no (by k_asm) (by k_mem) (by assumption) (by assumption) (by assumption) ?_ | refine in_yes (by k_asm) (by k_mem) (by assumption) (by assumption) (by assumption) ?_)))
  (k_with "compareOp NotIn str ref" => (k_here; k_dflt (refine notin_no (by k_asm) (by k_mem) (by assumption) (by assumption) (by assumption) ?_)))
  (k_with "setItem ref str" => (k_here; k_dflt (refine' kda_set (knd := PySem.strKind _ _) ?zzF ?zzN ?zzU ?zzd (strKind_is _ _ _ _) ?zzz ?_; (case zzF => k_asm); (case zzN => k_asm); (case zzU => k_updF); (case zzd => assumption); (case zzz => (simp only [sizeLine_eq]; omega))); intro _ _ _ zzN zzhd; (try dsimp only at zzN); (revert zzN zzhd; intro _ _)))
  (k_with "k_ne" => first | assumption | exact Ne.symm (by assumption))
  (k_with "getAttr ref" => (k_here; k_dflt (refine' get_own ?zzk1 ?zzk2 ?zzk3 ?zzk4 ?zzk5 ?zzk6 ?zzk7 ?zzk8 ?zzk9 ?_; (case zzk1 => k_asm); (case zzk2 => k_asm); (case zzk3 => k_inst); (case zzk4 => k_is); (case zzk5 => k_is); (case zzk6 => k_is); (case zzk7 => k_is); (case zzk8 => first | assumption | k_get); (case zzk9 => k_handed); k_whole)))
  (k_with "getMethod ref" => (k_here; k_dflt (refine' method_inst ?zzk1 ?zzk2 ?zzk3 ?zzk4 ?zzk5 ?zzk6 ?zzk7 ?_; (case zzk1 => k_asm); (case zzk2 => k_asm); (case zzk3 => k_inst); (case zzk4 => k_is); (case zzk5 => k_is); (case zzk6 => k_is); (case zzk7 => first | assumption | k_get); k_whole)))
  (k_with "k_ne" => first | with_reducible assumption | with_reducible exact Ne.symm (by assumption) | exact ne_l1 (by assumption) (by k_mem) | exact ne_l2 (by assumption) (by k_mem) | exact ne_o1 (by assumption) (by k_mem) | exact ne_o2 (by assumption) (by k_mem))
  (k_with "k_all" => first | with_reducible assumption | exact off_l1 (by assumption) (by k_extra "tb_rel") | exact off_o1 (by assumption) (by k_extra "tb_rel"))
  (k_with "ktr_rel" => ((fail_if_success (with_reducible show wpAny _ _ (exec (Stmt.While _ _ _ _) _) _ _ _)); walk_at "st"))
  (k_with "compareOp NotIn str ref" => (k_here; k_dflt (refine notin_list_strs (News.isList (by k_asm) (by k_mem)) (by assumption) ?_)))
  (k_with "compareOp Eq ref ref" => (k_here; k_dflt (refine' eq_empty ?zzN ?zza ?zzb ?zzd ?zzo ?zzu ?_; (case zzN => k_asm); (case zza => k_mem); (case zzb => k_mem); (case zzd => assumption); (case zzo => assumption); (case zzu => (dsimp +zetaDelta only [ktrTop, Around.deeper, Around.under, Around.in1]; (have hcL9 := cLine_is); omega)))))
  (k_with "subscriptTail Name Slice ref ref" => (k_here; k_dflt (refine' slice15 ?zzF ?zzN ?zzt ?_; (case zzF => k_asm); (case zzN => k_asm); (case zzt => exact News.isTup (by k_asm) (by k_mem))); intro _ _ _ _))
  (k_with "call ref" => (k_here; (with_reducible show wpAny _ _ (call (Value.ref _) _) _ _ _); k_dflt (refine' Spec.c (by k_asm) (by k_asm) (by k_asm) (by k_asm) (by k_asm) (by first | exact rfl | assumption) ?zzh ?zzD ?zzU ?_; (case zzh => walk_at "spec"); (case zzD => ktr_room); (case zzU => ktr_room)); walk_at "i2"))
  (k_with "call ref" => (k_here; (with_reducible show wpAny _ _ (call (Value.ref _) _) _ _ _); k_dflt (refine' Spec.ck (by k_asm) (by k_asm) (by k_asm) (by k_asm) (by k_asm) (by first | exact rfl | assumption) ?zzh ?zzel ?zzD ?zzU ?_; (case zzh => walk_at "spec"); (case zzel => walk_at "el"); (case zzD => ktr_room); (case zzU => ktr_room)); intros; (first | intro zzN | rename News _ _ _ _ => zzN); (try dsimp only at zzN); (revert zzN; intro _); (try dsimp only); (try k_sweep)))
  (k_with "el" => (first | exact RStr.el | exact RInt.el | exact RBool.el | exact NextRet.el | exact RTup0.el | exact RTup.el | exact RNil.el | exact ROne.el | exact RLst.el | exact NamesRet.el | exact ChRet.el | exact SizesRet.el))
  (k_with "spec" => (exact nextF_spec (by k_updF) (by assumption) (by omega) (by k_mem) (by first | decide | ((try simp only [List.size_toArray]); omega))))
  (k_with "fx" => (k_here; k_dflt (refine For_X (by k_asm) ?_)))
  (k_with "callWith" => (first | with_reducible refine PyProof.Rows.callWith_method0 ?_ | ((with_reducible refine' PyProof.Rows.callWith_builtin1 ?_ ?zzcwe ?zzcwp); (case zzcwe => rfl); (case zzcwp => rfl)) | ((with_reducible refine' PyProof.Rows.callWith_method1 ?_ ?zzcwe ?zzcwp); (case zzcwe => rfl); (case zzcwp => rfl))))
  (k_with "subscriptTail Name Constant ref int" => (first | (k_extra "subscriptTail") | (k_here; (with_reducible show wpAny _ _ (subscriptTail _ _ (Value.ref _) (Value.int _ _)) _ _ _); (with_unfolding_all refine' item_litK ?zzk1 ?zzk2 ?zzk3 ?zzk4 ?_ ?zzk6; (case zzk1 => is_list); (case zzk2 => decide); (case zzk3 => decide); (case zzk4 => rfl); (case zzk6 => with_unfolding_all rfl); k_whole))))
  (k_with "subscriptTail Name BinOp ref int" => (k_extra "subscriptTail"))
  (k_with "subscriptTail Name Name ref int" => (k_extra "subscriptTail"))
  (k_with "subscriptTail Name UnaryOp ref int" => (k_extra "subscriptTail"))
  (k_with "joinParts" => (k_here; (with_reducible refine' join_end ?zzjez ?_); (case zzjez => kt_le)))
  (k_with "exec Raise some none" => (k_here; k_dflt (refine raise_X (by k_asm) (by k_asm) (by rfl) ?_)))
  (k_with "RaiseEnd" => (refine ⟨_, _, _, _, _, _, rfl, ?zzC, by k_asm, by k_asm, by k_mem, ?_⟩; (case zzC => first | exact .inl rfl | exact .inr rfl)))
  (k_with "leaving ref" => (k_here; k_dflt (first | (refine' leave_excK ?zzkk ?zzK rfl ?zzhk ?zzF ?zzN ?zzhe ?zzht ?zzhs ?zzhne ?zzhnt ?zzhsub ?_; (case zzkk => assumption); (case zzK => assumption); (case zzhk => rfl); (case zzF => k_asm); (case zzN => k_asm); (case zzhe => k_mem); (case zzht => k_mem); (case zzhs => assumption); (case zzhne => assumption); (case zzhnt => assumption); (case zzhsub => ((repeat (first | exact sub_refl | assumption | refine sub_cons ?_)); done))) | (refine' leave_onK2 ?zzkk ?zzK rfl ?zzF ?zzR ?zzU ?_; (case zzkk => assumption); (case zzR => assumption); (case zzF => assumption); (case zzK => assumption); (case zzU => assumption))); intro _ zzR zzU; (try dsimp only at zzR zzU ⊢); (revert zzR zzU; intro _ _)))
  (k_with "formatField str" => (k_here; (refine' PyProof.Rows.formatField_str ?_ ?zzz; (case zzz => (simp only [sizeLine_eq]; omega))); intro _ _))
  (k_with "call type:tuple" => (k_here; (with_reducible show wpAny _ _ (call (Value.type _) [Value.ref _]) _ _ _); k_dflt (refine' kde_tupleOf ?zzk1 ?zzk2 ?zzk3 ?zzk4 ?zzk5 ?_; (case zzk1 => k_asm); (case zzk2 => k_asm); (case zzk3 => exact News.isList (by k_asm) (by k_mem)); (case zzk4 => (simp only [List.size_toArray]; omega)); (case zzk5 => exact List.toList_toArray _); k_whole); intro _ _ _ _ zzl1; (try k_lt zzl1); (revert zzl1; intro _)))
  (k_with "newTuple" => (k_here; k_dflt (refine' newTuple_L ?zzk1 ?zzk2 ?zzk3 ?_; (case zzk1 => k_asm); (case zzk2 => k_asm); (case zzk3 => (simp only [sizeLine_eq, List.length_cons, List.length_nil]; omega))); intro _ _ _ _ zzl1; (try k_lt zzl1); (revert zzl1; intro _)))
  (k_with "setItem ref str" => (k_here; k_dflt (refine' dset_new ?zzF ?zzN ?zzU ?zzd ?zzn ?zzz ?_; (case zzF => k_asm); (case zzN => k_asm); (case zzU => k_updF); (case zzd => assumption); (case zzn => assumption); (case zzz => omega)); intro _ _ _ zzN zzhd zzhv; (try dsimp only at zzN); (revert zzN zzhd zzhv; intro _ _ _)))
  (k_with "call builtin:list.extend" => (k_here; (with_reducible show wpAny _ _ (call (Value.builtin _) [Value.ref _, Value.ref _]) _ _ _); k_dflt (refine' ext_L ?zzF ?zzN ?zzb ?zzU ?zzz ?zzy ?_; (case zzF => k_asm); (case zzN => k_asm); (case zzb => k_mem); (case zzU => k_updF); (case zzz => omega); (case zzy => omega)); intro _ _ _ zzN; (try dsimp only at zzN); (revert zzN; intro _)))
  (k_with "spec" => (exact limit_spec))
  (k_with "spec" => (exact names_spec (Sigs.mono (by assumption) (by k_extra "tb_rel")) (by assumption)))
  (k_with "spec" => (refine' top_spec ?zzhS ?zzhi ?zzhn ?zzhp; (case zzhS => exact Sigs.mono (by assumption) (by k_extra "tb_rel")); (case zzhi => assumption); (case zzhn => first | assumption | exact rfl); (case zzhp => assumption)))
  trivial
section
variable {w : World} {loose : List Str} {mean : ExcName → Option Value} {mg mb : Str → Option Value} {news bs : Led} {x xn dx sg : Addr} {es : List DictEntry} {nd : Nat} {its : List Item} {op : List Dat} {d : Int} {told : List Tell} {ord : List Str}
noncomputable def hLots (its : List Item) (d : Int) (told : List Tell) (ord : List Str) (l : List Item) : List (Str × Option (Bool × Int)) := (l.filter fun i => i.top == i.name).map fun i => (i.name, lotFor its d told ord i)
noncomputable def hRun (its : List Item) (d : Int) (told : List Tell) (ord : List Str) : Res := run (hLots its d told ord its) []
theorem name_fresh {its : List Item} {k : Nat} (h : (its.map Item.name).Nodup) (hk : k < its.length) : its[k].name ∉ (its.take k).map Item.name := by
  intro hm
  obtain ⟨j, hj, e⟩ := List.mem_map.mp hm
  obtain ⟨a, ha, rfl⟩ := List.getElem_of_mem hj
  simp only [List.length_take] at ha
  rw [List.getElem_take] at e
  have h1 : a < (its.map Item.name).length := by simp only [List.length_map]; omega
  have h2 : k < (its.map Item.name).length := by simpa using hk
  have := (List.getElem_inj (h₀ := h1) (h₁ := h2) h).mp (by simpa using e)
  omega
theorem hLots_skip {l : List Item} {i : Item} (h : (i.top == i.name) = false) : hLots its d told ord (i :: l) = hLots its d told ord l := by
  unfold hLots
  rw [List.filter_cons_of_neg (by rw [h]; decide)]
theorem hLots_take {l : List Item} {i : Item} (h : (i.top == i.name) = true) : hLots its d told ord (i :: l) = (i.name, lotFor its d told ord i) :: hLots its d told ord l := by
  unfold hLots
  rw [List.filter_cons_of_pos (p := fun i : Item => i.top == i.name) h, List.map_cons]
theorem lot_spec {i : Item} {t : Tok} (hS : Sigs w sg its op news) (W : WfIts its) (hsok : ∀ i ∈ its, PyData.strOk i.name = true) (hN : NumAt w xn sg d told ord news) (hi : i ∈ its) (hbs : ∀ p ∈ bs, p ∈ news) (hbig : ∀ t ∈ told, t.number.natAbs < 10 ^ 40) :
    SpecX w loose mean mg mb 60 900 (.ref 164) [.ref xn, .str i.name t] news bs (Lots its d told ord i news) (fun C => C = 100 ∧ lotFor its d told ord i = none) := by
  cases hf : told.find? fun t => decide (t.sig = i.name) with
  | none => exact lot_none_spec hS W hsok hN hi hbs fun j hj => by simpa using List.find?_eq_none.mp hf j hj
  | some tl =>
    have h1 := List.mem_of_find?_eq_some hf
    have h2 : tl.sig = i.name := by simpa using List.find?_some hf
    exact lot_some_spec hS W hsok hN hi hbs h1 h2 (by unfold tellOf; rw [hf]; rfl) (hbig _ h1)
inductive AtJ (w : World) (its : List Item) (d : Int) (told : List Tell) (ord : List Str) (x xn nl ld sd L9 : Addr) (b0 : Led) (k : Nat) (m : Str → Option Value) : Led → Prop
  | mk (hm : Kn m [(S "self", .ref x), (S "numbers", .ref xn), (S "lots", .ref ld), (S "sure", .ref sd)]) (vs : List Value) (nn : Nat) (ol os osg : Obj) (v0 : Option Value) (kl ks : List (Str × Value)) (rows : List Row) (nr : Led)
      (hb : ∀ p ∈ b0, p ∈ nr) (hn1 : ∀ p ∈ nr, p.1 ≠ nl) (hl1 : ∀ p ∈ nr, p.1 ≠ ld) (hs1 : ∀ p ∈ nr, p.1 ≠ sd) (hc1 : ∀ p ∈ nr, p.1 ≠ L9 + 1 + 1) (hdg : osg.data = .cell v0)
      (hvs : StrsAre vs (namesOf rows)) (hol : ol.IsDictOf (PySem.strKind PG w) kl) (hkl : Vals nr kl (rows.map fun r => (r.name, lotDat r))) (hos : os.IsDictOf (PySem.strKind PG w) ks) (hks : Vals nr ks (rows.map fun r => (r.name, sureDat r)))
      (hrun : run (hLots its d told ord (its.drop k)) rows = hRun its d told ord) (hrl : rows.length ≤ k) (hra : atomsN rows ≤ 500) (hrn : ∀ r ∈ rows, r.name ∈ (its.take k).map Item.name) :
      AtJ w its d told ord x xn nl ld sd L9 b0 k m ((nl, listOf vs.toArray nn) :: (ld, ol) :: (sd, os) :: (L9 + 1 + 1, osg) :: nr)
inductive AtM (w : World) (s : Shared) (nl ld sd L9 I D3 : Addr) (oI : Obj) (vs : List Value) (nn : Nat) (ol2 osg : Obj) (ks : List (Str × Value)) (nm : Str) (r : Row) (nr2 : Led) (g : Heap) (L : Addr) (m : Str → Option Value) : Flow → Shared → Prop
  | mk (h : Heap) (tk : Nat) (os2 : Obj) (vS : Value) (nr3 : Led) (F : Fr g L h m) (N12 : News g L h ((nl, listOf vs.toArray nn) :: (ld, ol2) :: (sd, os2) :: (L9 + 1 + 1, osg) :: (I, oI) :: nr3)) (hos2 : os2.IsDictOf (PySem.strKind PG w) (ks ++ [(nm, vS)]))
      (hlD : DatIn nr3 (.ref D3) (lotDat r)) (hsD : DatIn nr3 vS (sureDat r)) (hb3 : ∀ p ∈ nr2, p ∈ nr3) (k1 : ∀ p ∈ nr3, p.1 ≠ nl) (k2 : ∀ p ∈ nr3, p.1 ≠ ld) (k3 : ∀ p ∈ nr3, p.1 ≠ sd) (k4 : ∀ p ∈ nr3, p.1 ≠ L9 + 1 + 1) (k5 : ∀ p ∈ nr3, p.1 ≠ I) :
      AtM w s nl ld sd L9 I D3 oI vs nn ol2 osg ks nm r nr2 g L m .next { s with heap := h, toks := tk }
theorem atoms_spec (hS : Sigs w sg its op news) (W : WfIts its) (hsok : ∀ i ∈ its, PyData.strOk i.name = true) (hnd : (its.map Item.name).Nodup) (hN : NumAt w xn sg d told ord news)
    (a1 : (x, instObj 247 dx) ∈ news) (a2 : (dx, dictOf es nd) ∈ news) (g0 : getL (Str.ofString "signatures") es = some (some (.ref sg))) (hbs : ∀ p ∈ bs, p ∈ news)
    (hpos : ∀ i ∈ its, ∀ e k, lotFor its d told ord i = some (e, k) → 0 ≤ k) (hbig : ∀ t ∈ told, t.number.natAbs < 10 ^ 40) :
    SpecX w loose mean mg mb 120 2000 (.ref 237) [.ref x, .ref xn] news bs
      (fun r news' => ∃ rows, hRun its d told ord = .ok rows ∧ OutAt w rows news' r ∧ ∀ p ∈ news, p ∈ news') (fun C => (C = 100 ∧ hRun its d told ord = .scope) ∨ (C = 112 ∧ hRun its d told ord = .limit)) := by
  unfold SpecX
  k_fill
  intro dp un gd cn cs a ccd cl outer A₀ base h₀ L m s Q E B F X N T hk hR hok hret hexc
  have hkeep : KeepIs bs := trivial
  have W1 := W.len
  have hl1000 : its.length ≤ 1000 := by omega
  have hS0 := hS
  cases hS0 with | @mk dxs e st opn od' ofd oe nd' hh1 t1 hh2 tt2 h3 t3 h4 t4 h5 t5 kvs' vst nst vop nop vod nod nof c1 c2 c3 c4 c5 c6 c7 c8 c9 b1 b2 b3 b4 =>
  have hN0 := hN
  cases hN0 with | @mk dxn td o ndn otd oo n1 m1 n2 m2 n3 m3 n4 m4 m5 kvt kvo p1 p2 p3 p4 p5 p6 q3 q4 q5 q6 =>
  refine wpAny_call ?_
  k_dflt ktr_unf
  refine opq (by passes_own) ?_
  intro A9 R9 E9 kR9 kE9 pE9
  repeat' (k_extra "ktr_rel")
  rename_i L9 _ _ _ _ _ _ lL _ lLn _ oS _ dS _ nl _ ln ld _ ol lol hol _ _ _ lld sd _ os los hos _ _ _ lsd Dt _ lDt _ _ oN dN _ _ _ _ F9 D9 c9 vs9 _ lD9 hs9 N9
  have hvl := hs9.length
  simp only [List.length_map] at hvl
  have zD : ∀ a o, (a, o) ∈ ((Dt, { cls := Value.type "tuple", data := Data.seq #[Value.ref nl, Value.ref ld, Value.ref sd] }) :: (sd, os) :: (ld, ol) :: (nl, PySem.W.listOf #[] 0) :: (L9 + 1 + 1, oS) :: (L9 + 1, oN) :: news : Led) → D9 ≠ a := fun a o h => Ne.symm (Nat.ne_of_lt (lD9 _ h))
  have N0 := ntake N9 (nx := (nl, listOf ([] : List Value).toArray 0) :: (ld, ol) :: (sd, os) :: (L9 + 1 + 1, oS) :: (D9, listOf vs9.toArray c9) :: (L9 + 1, oN) :: news) (sub_mk (by k_mem) (sub_mk (by k_mem) (sub_mk (by k_mem) (sub_mk (by k_mem) (sub_mk (by k_mem) (sub_mk (by k_mem) (by k_extra "tb_rel")))))))
  have hn0 : ∀ p ∈ ((D9, listOf vs9.toArray c9) :: (L9 + 1, oN) :: news : Led), p.1 ≠ nl := off_cons (zD nl _ (by k_mem)) (off_cons (Nat.ne_of_lt ln.2.1) (allLt_off ln.2.2))
  have hl0 : ∀ p ∈ ((D9, listOf vs9.toArray c9) :: (L9 + 1, oN) :: news : Led), p.1 ≠ ld := off_cons (zD ld _ (by k_mem)) (off_cons (Nat.ne_of_lt lld.2.2.1) (allLt_off lld.2.2.2))
  have hs0 : ∀ p ∈ ((D9, listOf vs9.toArray c9) :: (L9 + 1, oN) :: news : Led), p.1 ≠ sd := off_cons (zD sd _ (by k_mem)) (off_cons (Nat.ne_of_lt lsd.2.2.2.1) (allLt_off lsd.2.2.2.2))
  have hc0 : ∀ p ∈ ((D9, listOf vs9.toArray c9) :: (L9 + 1, oN) :: news : Led), p.1 ≠ L9 + 1 + 1 := off_cons (zD _ _ (by k_mem)) (off_cons (Nat.ne_of_lt (Nat.lt_succ_self _)) (by assumption))
  have u1 : nl ≠ ld := Nat.ne_of_lt lld.1
  have u2 : nl ≠ sd := Nat.ne_of_lt lsd.2.1
  have u3 : ld ≠ sd := Nat.ne_of_lt lsd.1
  have u4 : nl ≠ L9 + 1 + 1 := Ne.symm (Nat.ne_of_lt ln.1)
  have u5 : ld ≠ L9 + 1 + 1 := Ne.symm (Nat.ne_of_lt lld.2.1)
  have u6 : sd ≠ L9 + 1 + 1 := Ne.symm (Nat.ne_of_lt lsd.2.2.1)
  refine ⟨_, _, _, fun k m nx => AtJ w its d told ord x xn nl ld sd L9 ((D9, listOf vs9.toArray c9) :: (L9 + 1, oN) :: news) k m nx,
    _, _, src_list rfl N0 (.tail _ (.tail _ (.tail _ (.tail _ (.head _))))), F9, N0, ?_, ⟨⟨rfl, rfl, rfl, rfl, trivial⟩, [], 0, ol, os, oS, none, [], [], [], _, sub_refl, hn0, hl0, hs0, hc0, dS, .nil, hol, .nil, hos, .nil, rfl, Nat.le_refl _, Nat.zero_le _, fun _ h => nomatch h⟩, ?_, ?_⟩
  · rintro k m nx ⟨-, vs, nn, ol, os, osg, v0, kl, ks, rows, nr, hb, -⟩
    exact .tail _ (.tail _ (.tail _ (.tail _ (hb _ (.head _)))))
  · rintro k v m₁ nx h tk I oI R kR hk hv ⟨hm, vs, nn, ol, os, osg, v0, kl, ks, rows, nr, hb, hn1, hl1, hs1, hc1, hdg, hvs, hol, hkl, hos, hks, hrun, hrl, hra, hrn⟩ off F3 N3
    replace F3 := frov F3 hm
    obtain ⟨hkl9, t9, rfl⟩ := strs_at (nw := []) hs9 hv
    simp only [List.length_map] at hkl9
    simp only [List.getElem_map]
    have hmem : its[k] ∈ its := List.getElem_mem hkl9
    have hup := W.up _ hmem
    have hdrop : its.drop k = its[k] :: its.drop (k + 1) := List.drop_eq_getElem_cons hkl9
    have htake : (its.take (k + 1)).map Item.name = (its.take k).map Item.name ++ [its[k].name] := take_map _ hkl9
    have hbn : ∀ p ∈ news, p ∈ nr := fun p hp => hb p (.tail _ (.tail _ hp))
    have hbsn : ∀ p ∈ bs, p ∈ nr := fun p hp => hbn p (hbs p hp)
    have hSn := hS.mono hbn
    have hNn := hN.mono hbn
    have c1' := hbn _ c1
    have c2' := hbn _ c2
    have p1' := hbn _ p1
    have p2' := hbn _ p2
    have a1' := hbn _ a1
    have a2' := hbn _ a2
    have hcN := hb (L9 + 1, oN) (.tail _ (.head _))
    have hvs9 : vs.length = atomsN rows := hvs.length
    have y1 : nl ≠ I := off_head off
    have y2 : ld ≠ I := off_head (off_tail off)
    have y3 : sd ≠ I := off_head (off_tail (off_tail off))
    have y4 : L9 + 1 + 1 ≠ I := off_head (off_tail (off_tail (off_tail off)))
    have y5 := off_tail (off_tail (off_tail (off_tail off)))
    by_cases htop : its[k].top = its[k].name
    · have htb : (its[k].top == its[k].name) = true := by simpa using htop
      rw [hdrop, hLots_take htb] at hrun
      repeat' (k_extra "ktr_rel")
      rename Obj => osg2
      rename Obj.data osg2 = _ => dsg2
      have bsu : ∀ p ∈ news, p ∈ ((I, oI) :: (nl, listOf vs.toArray nn) :: (ld, ol) :: (sd, os) :: (L9 + 1 + 1, osg2) :: nr : Led) := fun p hp => .tail _ (.tail _ (.tail _ (.tail _ (.tail _ (hbn p hp)))))
      refine' SpecX.use (lot_spec (bs := bs) (hS.mono bsu) W hsok (hN.mono bsu) hmem (fun p hp => bsu p (hbs p hp)) hbig) ?B ?F ?X ?N ?T ?K ?D ?U ?_ ?_
      (case N => exact ntake (by k_asm) (sub_mk (by k_mem) (sub_mk (by k_mem) (sub_mk (by k_mem) (sub_mk (by k_mem) (sub_mk (by k_mem) (by k_extra "tb_rel")))))))
      (case F => k_asm)
      (case B => k_asm)
      (case X => k_asm)
      (case T => k_asm)
      (case K => first | exact rfl | assumption)
      (case D => (dsimp +zetaDelta only [ktrTop, Around.deeper, Around.under, Around.in1]; (first | omega | (simp only [wMake]; omega))))
      (case U => (dsimp +zetaDelta only [ktrTop, Around.deeper, Around.under, Around.in1]; (first | omega | (simp only [uMake]; omega))))
      · rintro r' news' h' tk' F' N' ⟨Tl, nl9, tl9, be, ke, rfl, rfl, hlot, hTl⟩
        rw [hlot] at hrun
        have hk0 := hpos _ hmem _ _ hlot
        repeat' (k_extra "ktr_rel")
        · (try dsimp only)
          repeat' (k_extra "ktr_rel")
          rename 500 < _ => hgt
          refine hexc _ _ _ _ _ _ _ (by assumption) (by assumption) (by assumption) (.inr ⟨rfl, ?_⟩)
          rw [← hrun]
          unfold run
          rw [if_pos (by simp only [List.size_toArray] at hgt; omega)]
        · rename IsRange _ _ _ _ _ _ _ _ => hrg
          rename ¬ 500 < _ => hgt
          rename News _ _ _ _ => N5
          rename Fr _ _ _ _ => F5
          simp only [List.size_toArray] at hgt
          have hke : ke.toNat ≤ 500 := by omega
          generalize hL0 : ((Tl, tupObj [Value.bool be, Value.int ke tl9] nl9) :: (I, oI) :: (nl, listOf vs.toArray nn) :: (ld, ol) :: (sd, os) :: (L9 + 1 + 1, osg2) :: nr : Led) = L0 at N5
          have hL1 : (nl, listOf vs.toArray nn) ∈ L0 := by rw [← hL0]; k_mem
          have hL2 : (L9 + 1, oN) ∈ L0 := by rw [← hL0]; k_mem
          refine ⟨_, _, _, fun k ys nx => RgJ L0 k (fun (k : Nat) => Dat.tuple [.int ((atomsN rows : Int) + (k : Int))]) ys nx, _, _, src_range0 rfl hrg hk0 (by omega), (by simp only [sizeLine_eq]; omega), F5, N5, fun _ _ _ _ => trivial, ⟨[], rfl, apart_nil, .nil⟩, ?_, ?_⟩
          · rintro k2 v2 ys nx I2 oI2 C oC D m₂ h2 tk2 E2 R kR hk2 ⟨tv2, rfl⟩ ⟨fr, hnx, hfr, hys⟩ hyl hC off2 F6 N6
            refine assignC (by rfl) (by rfl) off2 hC F6 N6 fun h3 oC3 tk3 hC3 F7 N7 => ?_
            clear F6 N6 hC
            have hx' : (fun y => if y = Str.ofString "k" then some (Value.int (k2 : Int) tv2) else m₂ y) (Str.ofString "k") = some (Value.int (k2 : Int) tv2) := by simp
            generalize (fun y => if y = Str.ofString "k" then some (Value.int (k2 : Int) tv2) else m₂ y) = m₃ at hC3 hx'
            have hM1 : (nl, listOf vs.toArray nn) ∈ nx := by rw [hnx]; exact sub_app _ hL1
            have hM2 : (L9 + 1, oN) ∈ nx := by rw [hnx]; exact sub_app _ hL2
            refine wpAny_pure ?_
            have e8 : ((atomsN rows : Nat) : Int) = ((vs.toArray.size : Nat) : Int) := by simp [hvs9]
            repeat' (k_extra "ktr_rel")
            rename I2 < _ ∧ _ => la
            refine CEnd.intro kR (nx := _ :: nx) (by k_asm) (by k_asm) (sub_mk (by k_mem) (sub_mk (by k_mem) (sub_mk (by k_mem) (sub_mk (.head _) (by k_extra "tb_rel"))))) hC3 ?_ ?_
            · intro p hp
              rcases List.mem_cons.mp hp with rfl | hp
              · exact ⟨Ne.symm (Nat.ne_of_lt la.1), Ne.symm (Nat.ne_of_lt la.2.1), Ne.symm (Nat.ne_of_lt la.2.2.1)⟩
              · exact off2.off p hp
            · refine ⟨_ :: fr, by rw [hnx, List.cons_append], apart_cons (fun q hq => allLt_off la.2.2.2 q (by rw [hnx]; exact sub_app _ hq)) hfr, ?_⟩
              rw [range_map_snoc]
              refine (hys.mono (sub_cons sub_refl)).append (.one ?_)
              rw [e8]
              exact .tuple (.head _) (.one (.int _ _))
          · rintro ys nx ⟨fr, hnx, hfr, hys⟩ hyl
            intro D2 h2 tk2 F6 N6 o2
            have hylen := hys.length
            simp only [List.length_map, List.length_range] at hylen
            have fL : ∀ a o, (a, o) ∈ L0 → ∀ p ∈ fr, p.1 ≠ a := fun a o h p hp => hfr p hp _ h
            have g1 := fL nl _ hL1
            have g2 := fL ld ol (by rw [← hL0]; k_mem)
            have g3 := fL sd os (by rw [← hL0]; k_mem)
            have g4 := fL (L9 + 1 + 1) osg2 (by rw [← hL0]; k_mem)
            have g5 := fL I oI (by rw [← hL0]; k_mem)
            have oL : ∀ a o, (a, o) ∈ L0 → a ≠ D2 := fun a o h => o2 _ (by rw [hnx]; exact sub_app _ h)
            have d1 := oL nl _ hL1
            have d2 := oL ld ol (by rw [← hL0]; k_mem)
            have d3 := oL sd os (by rw [← hL0]; k_mem)
            have d4 := oL (L9 + 1 + 1) osg2 (by rw [← hL0]; k_mem)
            have d5 := oL I oI (by rw [← hL0]; k_mem)
            have offm : ∀ {a : Addr}, (∀ p ∈ fr, p.1 ≠ a) → (∀ p ∈ nr, p.1 ≠ a) → ∀ p ∈ fr ++ nr, p.1 ≠ a := fun h1 h2 p hp => (List.mem_append.mp hp).elim (h1 p) (h2 p)
            have m1 := offm g1 hn1
            have m2 := offm g2 hl1
            have m3 := offm g3 hs1
            have m4 := offm g4 hc1
            have m5 := offm g5 y5
            have hb2 : ∀ p ∈ nr, p ∈ fr ++ nr := sub_app
            have hf2 : ∀ p ∈ fr, p ∈ fr ++ nr := sub_app1
            have N8 := ntake N6 (nx := (nl, listOf vs.toArray nn) :: (ld, ol) :: (sd, os) :: (L9 + 1 + 1, osg2) :: (I, oI) :: (D2, LCg.lst ys) :: (fr ++ nr)) (fun p hp => by
              have up : ∀ q ∈ L0, q ∈ ((D2, LCg.lst ys) :: nx : Led) := fun q hq => .tail _ (by rw [hnx]; exact sub_app _ hq)
              have hsubf : ∀ q ∈ fr ++ nr, q ∈ ((D2, LCg.lst ys) :: nx : Led) := fun q hq => by
                rcases List.mem_append.mp hq with h | h
                · exact .tail _ (by rw [hnx]; exact sub_app1 _ h)
                · exact up q (by rw [← hL0]; exact .tail _ (.tail _ (.tail _ (.tail _ (.tail _ (.tail _ h))))))
              revert p hp
              exact sub_mk (up _ hL1) (sub_mk (up _ (by rw [← hL0]; k_mem)) (sub_mk (up _ (by rw [← hL0]; k_mem)) (sub_mk (up _ (by rw [← hL0]; k_mem)) (sub_mk (up _ (by rw [← hL0]; k_mem)) (sub_mk (.head _) hsubf))))))
            replace hys := hys.mono hf2
            generalize fr ++ nr = nr2 at m1 m2 m3 m4 m5 hb2 hf2 N8 hys
            have hcN2 := hb2 _ hcN
            clear N6 F5 N5 hrg
            repeat' (k_extra "ktr_rel")
            refine' kde_tupleOf (zs := ys) ?k1 ?k2 ?k3 ?k4 ?k5 ?_
            (case k1 => k_asm)
            (case k2 => k_asm)
            (case k3 => exact News.isList (by k_asm) (by k_mem))
            (case k4 => (simp only [List.size_toArray]; omega))
            (case k5 => rfl)
            intro D3 h3 F10 N10 l10
            have hrf : ∀ r ∈ rows, r.name ≠ its[k].name := fun r hr e7 => name_fresh hnd hkl9 (e7 ▸ hrn r hr)
            have hkln : valueAt kl its[k].name = none := vals_fresh hkl hrf
            have hksn : valueAt ks its[k].name = none := vals_fresh hks hrf
            have hkll := hkl.length
            have hksl := hks.length
            simp only [List.length_map] at hkll hksl
            repeat' ((fail_if_success (with_reducible show wpAny _ _ (exec (Stmt.Assign _ (Expr.IfExp _ _ _ _) _) _) _ _ _)); k_extra "ktr_rel")
            rename Fr _ _ _ _ => F11
            rename Obj.IsDictOf _ _ (kl ++ _) => hol2
            rename Obj => ol2
            refine mono_at (AtM w s nl ld sd L9 I D3 oI vs nn ol2 osg2 ks its[k].name ⟨its[k].name, atomsN rows, ke.toNat, be⟩ nr2) F11 ?_ ?_
            · have j1 : D3 ≠ nl := Ne.symm (Nat.ne_of_lt (l10 _ (.head _)))
              have j2 : D3 ≠ ld := Ne.symm (Nat.ne_of_lt (l10 (ld, ol) (.tail _ (.head _))))
              have j3 : D3 ≠ sd := Ne.symm (Nat.ne_of_lt (l10 (sd, os) (.tail _ (.tail _ (.head _)))))
              have j4 : D3 ≠ L9 + 1 + 1 := Ne.symm (Nat.ne_of_lt (l10 (L9 + 1 + 1, osg2) (.tail _ (.tail _ (.tail _ (.head _))))))
              have j5 : D3 ≠ I := Ne.symm (Nat.ne_of_lt (l10 (I, oI) (.tail _ (.tail _ (.tail _ (.tail _ (.head _)))))))
              repeat' (k_extra "ktr_rel")
              · rename News _ _ _ _ => N11
                rename be = true => hbe
                subst hbe
                exact .mk _ _ _ _ _ (by k_asm) (ntake (nx := (nl, listOf vs.toArray nn) :: (ld, ol2) :: (sd, _) :: (L9 + 1 + 1, osg2) :: (I, oI) :: (D3, tupObj ys 0) :: nr2) N11 (sub_mk (by k_mem) (sub_mk (by k_mem) (sub_mk (by k_mem) (sub_mk (by k_mem) (sub_mk (by k_mem) (sub_mk (by k_mem) (by k_extra "tb_rel")))))))) (by assumption) (.tuple (.head _) (hys.mono (sub_cons sub_refl))) (.tuple (.head _) (hys.mono (sub_cons sub_refl))) (sub_cons sub_refl) (off_cons j1 m1) (off_cons j2 m2) (off_cons j3 m3) (off_cons j4 m4) (off_cons j5 m5)
              · rename News _ _ _ _ => N11
                rename D3 < _ ∧ _ => la
                rename be = false => hbe
                subst hbe
                exact .mk _ _ _ _ _ (by k_asm) (ntake (nx := (nl, listOf vs.toArray nn) :: (ld, ol2) :: (sd, _) :: (L9 + 1 + 1, osg2) :: (I, oI) :: (_, tupObj [] 0) :: (D3, tupObj ys 0) :: nr2) N11 (sub_mk (by k_mem) (sub_mk (by k_mem) (sub_mk (by k_mem) (sub_mk (by k_mem) (sub_mk (by k_mem) (sub_mk (.head _) (sub_mk (by k_mem) (by k_extra "tb_rel"))))))))) (by assumption) (.tuple (.tail _ (.head _)) (hys.mono (sub_cons (sub_cons sub_refl)))) (.tuple (.head _) .nil) (sub_cons (sub_cons sub_refl)) (off_cons (Ne.symm (Nat.ne_of_lt la.2.1)) (off_cons j1 m1)) (off_cons (Ne.symm (Nat.ne_of_lt la.2.2.1)) (off_cons j2 m2)) (off_cons (Ne.symm (Nat.ne_of_lt la.2.2.2.1)) (off_cons j3 m3)) (off_cons (Ne.symm (Nat.ne_of_lt la.2.2.2.2.1)) (off_cons j4 m4)) (off_cons (Ne.symm (Nat.ne_of_lt la.2.2.2.2.2.1)) (off_cons j5 m5))
            · intro f s' hM
              cases hM with | mk h9' tk9' os2 vS nr3 F11 N12 hos2 hlD hsD hb3 k1 k2 k3 k4 k5 =>
              (try dsimp only)
              have hcN3 := hb3 _ hcN2
              have hnl9 := W.nl _ hmem
              repeat' (k_extra "ktr_rel")
              rename IsRange _ _ _ _ _ _ _ _ => hrg2
              rename News _ _ _ _ => N11
              rename Fr _ _ _ _ => F11
              have N12 := ntake (nx := (nl, listOf vs.toArray nn) :: (ld, ol2) :: (sd, os2) :: (L9 + 1 + 1, osg2) :: (I, oI) :: nr3) N11 (sub_mk (by k_mem) (sub_mk (by k_mem) (sub_mk (by k_mem) (sub_mk (by k_mem) (sub_mk (by k_mem) (by k_extra "tb_rel"))))))
              clear N11
              refine ⟨_, _, _, fun k2 ys2 nx2 => nx2 = (nl, listOf vs.toArray nn) :: (ld, ol2) :: (sd, os2) :: (L9 + 1 + 1, osg2) :: (I, oI) :: nr3 ∧ StrsAre ys2 ((List.range k2).map (atomName its[k].name)), _, _, src_range0 rfl hrg2 hk0 (by omega), (by simp only [sizeLine_eq]; omega), F11, N12, fun _ _ _ _ => trivial, ⟨rfl, .nil⟩, ?_, ?_⟩
              · rintro k2 v2 ys2 nx2 I2 oI2 C oC D m₂ h9 tk9 E9 R kR hk9 ⟨tv2, rfl⟩ ⟨rfl, hys2⟩ hyl2 hC off9 F13 N13
                refine assignC (by rfl) (by rfl) off9 hC F13 N13 fun h4 oC4 tk4 hC4 F14 N14 => ?_
                clear F13 N13 hC
                have hx' : (fun y => if y = Str.ofString "k" then some (Value.int (k2 : Int) tv2) else m₂ y) (Str.ofString "k") = some (Value.int (k2 : Int) tv2) := by simp
                generalize (fun y => if y = Str.ofString "k" then some (Value.int (k2 : Int) tv2) else m₂ y) = m₃ at hC4 hx'
                refine wpAny_pure ?_
                have hk10 : (k2 : Int).natAbs < 10 ^ 40 := by
                  have : k2 < 500 := by omega
                  omega
                repeat' (k_extra "ktr_rel")
                refine CEnd.intro kR (by k_asm) (by k_asm) (by k_extra "tb_rel") hC4 off9.off ⟨rfl, ?_⟩
                dsimp only
                rw [range_map_snoc, Str.empty_append]
                exact strs_snoc hys2 _ _
              · rintro ys2 nx2 ⟨rfl, hys2⟩ hyl2
                intro D9' h9 tk9 F13 N13 o9
                have hyl3 := hys2.length
                simp only [List.length_map, List.length_range] at hyl3
                have oo1 := off_head o9
                have oo2 := off_head (off_tail o9)
                have oo3 := off_head (off_tail (off_tail o9))
                have oo4 := off_head (off_tail (off_tail (off_tail o9)))
                have oo5 := off_head (off_tail (off_tail (off_tail (off_tail o9))))
                repeat' (k_extra "ktr_rel")
                have hnew := rows_fresh (f := lotDat) hrf
                have hnew2 := rows_fresh (f := sureDat) hrf
                refine tend kR (by k_asm) (by k_asm) (sub_mk (by k_mem) (sub_mk (by k_mem) (sub_mk (by k_mem) (sub_mk (by k_mem) (sub_mk (by k_mem) (by k_extra "tb_rel")))))) (off_cons y1 (off_cons y2 (off_cons y3 (off_cons y4 k5)))) ⟨⟨rfl, rfl, rfl, rfl, trivial⟩, _, _, ol2, os2, osg2, _, _, _, rows ++ [⟨its[k].name, atomsN rows, ke.toNat, be⟩], nr3, fun p hp => hb3 _ (hb2 _ (hb p hp)), k1, k2, k3, k4, dsg2, ?_, hol2, ?_, hos2, ?_, ?_, ?_, ?_, ?_⟩
                · have := strs_dat (nw := []) hvs
                  have h2 := strs_dat (nw := []) hys2
                  have h3 := this.append h2
                  refine strs_of (nw := []) ?_
                  rw [← List.map_append] at h3
                  have e6 : namesOf (rows ++ [⟨its[k].name, atomsN rows, ke.toNat, be⟩]) = namesOf rows ++ (List.range ke.toNat).map (atomName its[k].name) := by simp [namesOf, rowNames]
                  rw [e6]
                  exact h3
                · rw [List.map_append]
                  exact .snoc (hkl.mono fun p hp => hb3 _ (hb2 _ hp)) hlD hnew
                · rw [List.map_append]
                  exact .snoc (hks.mono fun p hp => hb3 _ (hb2 _ hp)) hsD hnew2
                · rw [← hrun]
                  conv => rhs; unfold run
                  rw [if_neg (by omega)]
                · simp only [List.length_append, List.length_cons, List.length_nil]; omega
                · rw [atomsN_snoc]; show atomsN rows + ke.toNat ≤ 500; omega
                · intro r hr
                  rw [htake]
                  rcases List.mem_append.mp hr with h | h
                  · exact List.mem_append.mpr (.inl (hrn r h))
                  · rw [List.mem_singleton.mp h]; exact List.mem_append.mpr (.inr (.head _))
      · rintro e9 C9 t9 ws9 g9 h9 tk9 Fg9 R9 U9 ⟨rfl, hlot⟩
        rw [hlot] at hrun
        repeat' (k_extra "ktr_rel")
        exact hexc _ _ _ _ _ _ _ (by assumption) (by assumption) (by assumption) (.inl ⟨rfl, hrun.symm⟩)
    · have htb : (its[k].top == its[k].name) = false := by simpa using htop
      rw [hdrop, hLots_skip htb] at hrun
      repeat' (k_extra "ktr_rel")
      exact tend kR (by k_asm) (by k_asm) (sub_mk (by k_mem) (sub_mk (by k_mem) (sub_mk (by k_mem) (sub_mk (by k_mem) (sub_mk (by k_mem) (by k_extra "tb_rel")))))) (off_cons y1 (off_cons y2 (off_cons y3 (off_cons y4 y5)))) ⟨⟨rfl, rfl, rfl, rfl, trivial⟩, vs, nn, ol, os, _, _, kl, ks, rows, nr, hb, hn1, hl1, hs1, hc1, (by assumption), hvs, hol, hkl, hos, hks, hrun, by omega, hra, fun r hr => by rw [htake]; exact List.mem_append.mpr (.inl (hrn r hr))⟩
  · rintro m₁ nx h tk ⟨hm, vs, nn, ol, os, osg, v0, kl, ks, rows, nr, hb, hn1, hl1, hs1, hc1, hdg, hvs, hol, hkl, hos, hks, hrun, hrl, hra, hrn⟩ F3 N3
    replace F3 := frov F3 hm
    have hcN := hb (L9 + 1, oN) (.tail _ (.head _))
    rw [hvl, List.drop_length] at hrun
    repeat' (k_extra "ktr_rel")
    rename News _ _ _ _ => kN
    exact hret _ _ _ _ (by k_asm) kN ⟨rows, hrun.symm, .mk (.head _) (by k_mem) hvs (by k_mem) (by assumption) hol (hkl.mono (by k_extra "tb_rel")) (by k_mem) (by assumption) hos (hks.mono (by k_extra "tb_rel")), fun p hp => .tail _ (.tail _ (.tail _ (.tail _ (.tail _ (hb p (.tail _ (.tail _ hp)))))))⟩
end
end
section
section
variable {w : World} {loose : List Str} {mean : ExcName → Option Value} {mg mb : Str → Option Value} {news : Led} {sg : Addr}
inductive ScopesRet (sg : Addr) (news : Led) : Value → Led → Prop
  | mk (x dx : Addr) (es : List DictEntry) (nd : Nat) (g1 : getL (Str.ofString "signatures") es = some (some (.ref sg))) (g2 : getL (Str.ofString "atoms_of") es = some none) (o1 : ∀ p ∈ news, p.1 ≠ x) (o2 : ∀ p ∈ news, p.1 ≠ dx) : ScopesRet sg news (.ref x) ((x, instObj 247 dx) :: (dx, dictOf es nd) :: news)
theorem scopes_spec : Spec w loose mean mg mb 60 900 (.ref 247) [.ref sg, .none] news (ScopesRet sg news) None2 := by
  unfold Spec
  k_fill
  intro dp un gd cn cs a ccd cl outer A₀ base h₀ L m s Q E B F X N T hk hR hok hret hexc
  refine call_cls F X N (by k_dflt k_is) (by k_dflt k_is) (by k_dflt k_is) ?_
  intro x dx hh0 F0 N0 l1 l2
  replace l2 := ltN l2
  have hbsx : ∀ p ∈ news, p.1 ≠ x := fun p hp => Nat.ne_of_lt (Nat.lt_trans (l1 p hp) l2)
  have hbsdx : ∀ p ∈ news, p.1 ≠ dx := off_lt l1
  have hw1 : (Code.builtin "type.__call__" ⟨[Value.ref 247, Value.ref sg, Value.none], []⟩).weight = 1 := rfl
  have hw2 : (Code.builtin "type.__call__" ⟨[Value.ref 247, Value.ref sg, Value.none], []⟩).cUnits = 1 := rfl
  k_dflt ktr_enter
  rename Fr _ _ _ _ => F1
  replace F1 : Fr _ _ _ (fun y => List.lookup y [(Str.ofString "kinds", Value.none), (Str.ofString "signatures", Value.ref sg), (Str.ofString "self", Value.ref x)]) := F1
  refine opq (by passes_own) ?_
  intro A9 R9 E9 kR9 kE9 pE9
  repeat' (k_extra "ktr_rel")
  rename News _ _ _ _ => kN
  exact hret _ _ _ _ (by k_asm) (ntake kN (sub_mk (by k_mem) (sub_mk (by k_mem) (by k_extra "tb_rel")))) ⟨x, dx, _, _, rfl, rfl, hbsx, hbsdx⟩
end
/-- a call from the law's own frame -/
noncomputable def Spec0 (w : World) (loose : List Str) (mean : ExcName → Option Value) (mg mb : Str → Option Value) (d u : Nat) (f : Value) (vs : List Value) (news : Led) (Ret : Value → Led → Prop) : Prop :=
  ∀ (dp un : Nat) (gd : Option (List Code)) (cn : Str) (cs : Scope) (a : Addr) (ccd : Value) (A₀ : Around) (base h₀ : Heap) (L : Addr) (m : Str → Option Value) (s : Shared)
    (Q E : Value → Shared → Prop),
    Below A₀ base [] h₀ → Fr h₀ L s.heap m → (Mine.hd.heap_39 w.params).In h₀ → (Mine.hd.heap_39 w.params).In base → Top Mine.hd.view_39 loose mean mg mb base → News h₀ L s.heap news → Top Mine.hd.view_39 loose mean mg mb h₀ → cs.kind = .function → dp + d < recursionLimit → un + u < cLine →
    (∀ r news' h' tk', Fr h₀ L h' m → News h₀ L h' news' → Ret r news' → Q r { s with heap := h', toks := tk' }) →
    wpAny (model PySem.Challenge.rw_nz0394_01.row.prog w) (ktrTop dp un gd cn cs L a ccd [] []) (call f vs) Q E s
inductive ResAt (w : World) (news : Led) : Res → Value → Prop
  | limit {t : Tok} : ResAt w news .limit (.str (S "limit") t)
  | scope {t : Tok} : ResAt w news .scope (.str (S "scope") t)
  | ok {rows : List Row} {v : Value} : OutAt w rows news v → ResAt w news (.ok rows) v
noncomputable def heardRes (its : List Item) (s0 : Sc) (opd : List Str) : Res := if s0.told.any Tell.bad then .scope else hRun its (usual s0.default) s0.told opd
theorem raised_less {base G : Heap} {l : List Env} {e t : Addr} {cls : Value} {vs : List Value} {n1 n2 : Led} {h : Heap} (R : RaisedS base G l e cls t vs n1 h) (hs : ∀ p ∈ n2, p ∈ n1) : RaisedS base G l e cls t vs n2 h := by
  obtain ⟨⟨B, a, b, c, d⟩, f⟩ := R
  exact ⟨⟨B, a, b, fun q hq => c q (hs q hq), d⟩, f⟩
theorem w19 : True := by
  (k_with "spec" => (exact scopes_spec))
  trivial
section
variable {w : World} {loose : List Str} {mean : ExcName → Option Value} {mg mb : Str → Option Value} {news : Led} {sg sc : Addr} {its : List Item} {opd : List Str} {s0 : Sc}
theorem heard_spec (hS : Sigs w sg its (opd.map opDat) news) (W : WfIts its) (hsok : ∀ i ∈ its, PyData.strOk i.name = true) (hnd : (its.map Item.name).Nodup) (hol : opd.length ≤ 1) (hot : ∀ o ∈ opd, ∃ i ∈ its, i.name = o ∧ i.parent = S "") (V : WfTold its s0.told) (hsc : DatIn news (.ref sc) s0.dat)
    (hpos : s0.told.any Tell.bad = false → ∀ i ∈ its, ∀ e k, lotFor its (usual s0.default) s0.told opd i = some (e, k) → 0 ≤ k) (hbig : ∀ t ∈ s0.told, t.number.natAbs < 10 ^ 40) :
    Spec0 w loose mean mg mb 300 4000 (.ref 463) [.ref sg, .ref sc] news (fun r news' => ResAt w news' (heardRes its s0 opd) r ∧ ∀ p ∈ news, p ∈ news') := by
  unfold Spec0
  k_fill
  intro dp un gd cn cs a ccd A₀ base h₀ L m s Q E B F X XB TB N T hk hR hok hret
  refine wpAny_call ?_
  k_dflt (refine' code_defS0 ?k1 ?k2 ?k3 ?k4 ?k5 ?kA ?k6 ?k7 ?k8 ?k9 ?kB ?_ ?c1 ?c2 ?c3 ?c4 ?c5; (case kA => exact rfl); (case k1 => k_asm); (case k2 => k_asm); (case k3 => k_asm); (case k4 => k_asm); (case k5 => k_asm); (case k6 => k_is); (case k7 => k_is); (case k8 => ktr_room); (case k9 => exact BindsTo.of_eq rfl); (case kB => exact locs rfl); (case c1 => assumption); (case c2 => exact rfl); (case c3 => exact rfl); (case c4 => exact rfl); (case c5 => decide))
  intro g' L' h' FG' F' N' B' X' T' D'
  repeat' (k_extra "ktr_rel")
  rename_i x9 dx9 es9 nd9 hg1 hg2 _ _ N9
  refine' SpecX.use (numbers_spec (hS.mono (sub_cons (sub_cons sub_refl))) W hol hot V (hsc.mono (sub_cons (sub_cons sub_refl)))) ?B ?F ?X ?N ?T ?K ?D ?U ?_ ?_
  (case N => k_asm)
  (case F => k_asm)
  (case B => k_asm)
  (case X => k_asm)
  (case T => k_asm)
  (case K => first | exact rfl | assumption)
  (case D => (dsimp +zetaDelta only [ktrTop, Around.deeper, Around.under, Around.in1]; (first | omega | (simp only [wMake]; omega))))
  (case U => (dsimp +zetaDelta only [ktrTop, Around.deeper, Around.under, Around.in1]; (first | omega | (simp only [uMake]; omega))))
  · rintro r' news' h' tk' F' N' ⟨xn, rfl, hsub, hgood, hNA⟩
    have hsub2 : ∀ p ∈ news, p ∈ news' := fun p hp => hsub p (.tail _ (.tail _ hp))
    have m1 := hsub _ (.head _)
    have m2 := hsub _ (.tail _ (.head _))
    have hH : heardRes its s0 opd = hRun its (usual s0.default) s0.told opd := by unfold heardRes; rw [hgood]; rfl
    repeat' (k_extra "ktr_rel")
    refine' SpecX.use (atoms_spec (bs := news') (hS.mono hsub2) W hsok hnd hNA m1 m2 hg1 sub_refl (hpos hgood) hbig) ?B ?F ?X ?N ?T ?K ?D ?U ?_ ?_
    (case N => k_asm)
    (case F => k_asm)
    (case B => k_asm)
    (case X => k_asm)
    (case T => k_asm)
    (case K => first | exact rfl | assumption)
    (case D => (dsimp +zetaDelta only [ktrTop, Around.deeper, Around.under, Around.in1]; (first | omega | (simp only [wMake]; omega))))
    (case U => (dsimp +zetaDelta only [ktrTop, Around.deeper, Around.under, Around.in1]; (first | omega | (simp only [uMake]; omega))))
    · rintro r'' news'' h'' tk'' F'' N'' ⟨rows, hrun, hout, hsub3⟩
      refine leaveS0_ (by k_asm) N'' KtsTurn.refl ?_
      intro kF kN
      exact hret _ _ _ _ kF kN ⟨by rw [hH, hrun]; exact .ok hout, fun p hp => hsub3 p (hsub2 p hp)⟩
    · rintro e9 C9 t9 ws9 g9 h9 tk9 Fg9 R9 U9 hC9
      rcases hC9 with ⟨rfl, hrun⟩ | ⟨rfl, hrun⟩
      · refine caught_2 (raised_less R9 hsub2) Fg9 B' U9 XB TB D' KtsTurn.refl (by k_dflt k_is) (by kernel_rfl) (by k_dflt k_is) (by kernel_rfl) ?_
        intro h5 g5 n5 T5 F5 N5a Got5 N5 B5 X5 P5 D5
        repeat' (k_extra "ktr_rel")
        exact hret _ news _ _ (by k_asm) (by k_asm) ⟨by rw [hH, hrun]; exact .scope, fun _ h => h⟩
      · refine caught_SO0 (raised_less R9 hsub2) Fg9 B' U9 XB TB D' KtsTurn.refl (by k_dflt k_is) (by kernel_rfl) ?_
        intro h5 g5 n5 T5 F5 N5a Got5 N5 B5 X5 P5 D5
        repeat' (k_extra "ktr_rel")
        exact hret _ news _ _ (by k_asm) (by k_asm) ⟨by rw [hH, hrun]; exact .limit, fun _ h => h⟩
  · rintro e9 C9 t9 ws9 g9 h9 tk9 Fg9 R9 U9 ⟨rfl, hbad⟩
    have hH : heardRes its s0 opd = .scope := by unfold heardRes; rw [hbad]; rfl
    refine caught_2 (raised_less R9 (sub_cons (sub_cons sub_refl))) Fg9 B' U9 XB TB D' KtsTurn.refl (by k_dflt k_is) (by kernel_rfl) (by k_dflt k_is) (by kernel_rfl) ?_
    intro h5 g5 n5 T5 F5 N5a Got5 N5 B5 X5 P5 D5
    repeat' (k_extra "ktr_rel")
    exact hret _ news _ _ (by k_asm) (by k_asm) ⟨by rw [hH]; exact .scope, fun _ h => h⟩
end
end
section
open PySem.Calls PySem.Spec
open LCg (NsObj lst)
section
variable {prog : Program} {w : World} {A : Around} {s : Shared} {env : Env} {h₀ : Heap} {L : Addr} {m : Str → Option Value} {news : Led} {E : Value → Shared → Prop}
theorem assignC3 {x1 x2 x3 : Str} {p1 p2 p3 tp : Pos} {kk : Nat} {scope : Scope} {cl : List (Str × Addr)} {I C D T : Addr} {oI oC : Obj} {ys : List Value} {nx : Led} {m₂ : Str → Option Value} {v1 v2 v3 : Value} {n : Nat} {Q : Unit → Shared → Prop}
    (hh : A.handled = none) (h1 : scope.names.lookup x1 = some .local) (h2 : scope.names.lookup x2 = some .local) (h3 : scope.names.lookup x3 = some .local) (hkind : scope.kind = .function) (off : COff I C D nx) (hC : NsObj oC m₂) (F : Fr h₀ L s.heap m) (N : News h₀ L s.heap ((I, oI) :: (C, oC) :: (D, lst ys) :: nx))
    (ht : (T, tupObj [v1, v2, v3] n) ∈ nx)
    (h : ∀ h' oC' tk, NsObj oC' (fun y => if y = x3 then some v3 else if y = x2 then some v2 else if y = x1 then some v1 else m₂ y) → Fr h₀ L h' m → News h₀ L h' ((I, oI) :: (C, oC') :: (D, lst ys) :: nx) → Q () { s with heap := h', toks := tk }) :
    wpAny (model prog w) A (assign (.Tuple [.Name x1 p1, .Name x2 p2, .Name x3 p3] kk tp) (compEnvC scope cl C env) (.ref T)) Q E s := by
  have z := (N _ (.tail _ (.tail _ (.tail _ ht)))).1
  refine wpAny_assign_Tuple (items := #[v1, v2, v3]) hh ⟨_, z, rfl, n, rfl⟩ rfl rfl fun h₁ he => ?_
  have up : ∀ b o, s.heap.get? b = some o → h₁.get? b = some o := fun b o e => he b o (Nat.ne_of_lt (Heap.lt_size e)) e
  show wpAny _ _ (assignInOrder [assign (.Name x1 p1) (compEnvC scope cl C env), assign (.Name x2 p2) (compEnvC scope cl C env), assign (.Name x3 p3) (compEnvC scope cl C env)] [v1, v2, v3]) _ _ _
  refine assignInOrder_cons (assignC h1 hkind off hC (F.keeps up) (N.grown up) fun ha oCa tka hCa Fa Na => ?_)
  refine assignInOrder_cons (assignC h2 hkind off hCa Fa Na fun hb oCb tkb hCb Fb Nb => ?_)
  refine assignInOrder_cons (assignC h3 hkind off hCb Fb Nb fun hc oCc tkc hCc Fc Nc => ?_)
  exact assignInOrder_nil (h hc oCc tkc hCc Fc Nc)
end
section
variable {w : World} {A : Around} {E : Value → Shared → Prop} {s : Shared} {h₀ : Heap} {L a b : Addr} {m : Str → Option Value} {news : Led} {xs : List Value} {ka kb : Nat}
open SeqAt in
theorem ne_nil {Q : Value → Shared → Prop} (N : News h₀ L s.heap news) (ma : (a, listOf xs.toArray ka) ∈ news) (mb : (b, listOf #[] kb) ∈ news) (hu : A.units < cLine)
    (h : Q (.bool (!xs.isEmpty)) s) : wpAny (model PG w) A (compareOp .NotEq (.ref a) (.ref b)) Q E s := by
  have la : s.heap.IsList a xs.toArray := News.isList N ma
  have lb : s.heap.IsList b #[] := News.isList N mb
  have key : RcNeAt A s (.ref a) (.ref b) (!xs.isEmpty) := by
    cases xs with
    | nil => exact RcNeAt.lists la lb rfl hu (e := fun _ => true) (fun j h1 _ => absurd h1 (by simp))
    | cons x r => exact RcNeAt.lists_lengths la lb (by simp) hu
  exact key _ _ _ _ h
end
end
section
section
open PySem.SeqAt
mutual
noncomputable def dep : Dat → Nat
  | .tuple ds => 1 + deps ds
  | .list ds => 1 + deps ds
  | _ => 0
noncomputable def deps : List Dat → Nat
  | [] => 0
  | d :: ds => max (dep d) (deps ds)
end
mutual
noncomputable def noB : Dat → Bool
  | .bytes _ => false
  | .tuple ds => noBs ds
  | .list ds => noBs ds
  | _ => true
noncomputable def noBs : List Dat → Bool
  | [] => true
  | d :: ds => noB d && noBs ds
end
variable {w : World} {A : Around} {s : Shared} {h₀ : Heap} {L : Addr} {news : Led} {E : Value → Shared → Prop}
mutual
theorem dat_eq (N : News h₀ L s.heap news) : ∀ (d : Dat) (A : Around) (v y : Value), DatIn news v d → DatIn news y d → noB d = true → A.units + dep d < cLine → EqAt A s v y true
  | .none, A, v, y, h1, h2, _, hu => by cases h1; cases h2; exact .same _
  | .bool b, A, v, y, h1, h2, _, hu => by cases h1; cases h2; exact .same _
  | .int i, A, v, y, h1, h2, _, hu => by
    obtain ⟨t, rfl⟩ := dat_int h1
    obtain ⟨u, rfl⟩ := dat_int h2
    have := EqAt.int_int (A := A) (s := s) i t i u
    rwa [beq_self_eq_true] at this
  | .str x, A, v, y, h1, h2, _, hu => by
    obtain ⟨t, rfl⟩ := dat_str h1
    obtain ⟨u, rfl⟩ := dat_str h2
    have := EqAt.str_str (A := A) (s := s) x t x u
    rwa [beq_self_eq_true] at this
  | .bytes b, A, v, y, _, _, hb, _ => by simp [noB] at hb
  | .tuple ds, A, v, y, h1, h2, hn, hu => by
    obtain ⟨a, vs, n, rfl, m1, d1⟩ := dat_tuple h1
    obtain ⟨b, us, k, rfl, m2, d2⟩ := dat_tuple h2
    by_cases e : a = b
    · subst e; exact .same _
    · have hu2 : A.units + (1 + deps ds) < cLine := by simpa only [dep] using hu
      have hl : vs.length = us.length := by rw [d1.length, d2.length]
      have := RcAt.tuples (A := A) (e := fun _ => true) (News.isTup N m1) (News.isTup N m2) (by omega) (fun j h1 h2 => dat_eqs N ds A.in1 vs us d1 d2 (by simpa only [noB] using hn) (by simp only [Around.in1_units]; omega) j (by simpa using h1) (by simpa using h2))
      refine .of_refs e ?_
      have hb : ((List.range (min vs.toArray.size us.toArray.size)).all (fun _ => true) && vs.toArray.size == us.toArray.size) = true := by simp [hl]
      rwa [hb] at this
  | .list ds, A, v, y, h1, h2, hn, hu => by
    obtain ⟨a, vs, n, rfl, m1, d1⟩ := dat_list h1
    obtain ⟨b, us, k, rfl, m2, d2⟩ := dat_list h2
    by_cases e : a = b
    · subst e; exact .same _
    · have hu2 : A.units + (1 + deps ds) < cLine := by simpa only [dep] using hu
      have hl : vs.length = us.length := by rw [d1.length, d2.length]
      have := RcAt.lists (A := A) (e := fun _ => true) (News.isList N m1) (News.isList N m2) (by simpa using hl) (by omega) (fun j h1 h2 => dat_eqs N ds A.in1 vs us d1 d2 (by simpa only [noB] using hn) (by simp only [Around.in1_units]; omega) j (by simpa using h1) (by simpa using h2))
      refine .of_refs e ?_
      have hb : ((List.range vs.toArray.size).all (fun _ => true)) = true := by simp
      rwa [hb] at this
theorem dat_eqs (N : News h₀ L s.heap news) : ∀ (ds : List Dat) (A : Around) (vs us : List Value), DatAll news vs ds → DatAll news us ds → noBs ds = true → A.units + deps ds < cLine → ∀ j (h1 : j < vs.length) (h2 : j < us.length), EqAt A s vs[j] us[j] true
  | [], A, vs, us, h1, h2, _, hu, j, q1, q2 => by cases h1; exact absurd q1 (Nat.not_lt_zero _)
  | d :: ds, A, vs, us, h1, h2, hn, hu, j, q1, q2 => by
    obtain ⟨v, r, rfl, h1, hr1⟩ := dat_cons h1
    obtain ⟨u, t, rfl, h2, hr2⟩ := dat_cons h2
    have hn2 : noB d = true ∧ noBs ds = true := by simpa only [noBs, Bool.and_eq_true] using hn
    have hu2 : A.units + max (dep d) (deps ds) < cLine := by simpa only [deps] using hu
    cases j with
    | zero => exact dat_eq N d A v u h1 h2 hn2.1 (by omega)
    | succ j => exact dat_eqs N ds A r t hr1 hr2 hn2.2 (by omega) j (by simpa using q1) (by simpa using q2)
end
theorem tuple_ne_same {prog : Program} {a b : Addr} {vs us : List Value} {Q : Value → Shared → Prop} (ha : s.heap.IsTuple a vs.toArray) (hb : s.heap.IsTuple b us.toArray) (hl : vs.length = us.length) (hu : A.units < cLine)
    (he : ∀ p ∈ vs.zip us, ∀ (Q : Bool → Shared → Prop) (E : Value → Shared → Prop), Q true s → wpAny (model prog w) A.in1 (eqBool p.1 p.2) Q E s) (h : Q (.bool false) s) :
    wpAny (model prog w) A (compareOp .NotEq (.ref a) (.ref b)) Q E s := by
  refine wpAny_richCompare_same_room (op := .NotEq) ha.typeIs hb.typeIs PySem.F.slot_tuple_ne (wpAny_call_entry PySem.F.slot_tuple_ne ha.typeIs PySem.F.entry_tuple_ne ?_ (PySem.F.args_tuple_ne_2 _ _)) hu
  obtain ⟨⟨cls, dd, data, sl⟩, ho, hc, n, hd⟩ := id ha
  obtain ⟨⟨cls2, dd2, data2, sl2⟩, ho2, hc2, n2, hd2⟩ := id hb
  simp only at hc hd hc2 hd2
  subst hc hd hc2 hd2
  have f2 := PySem.AutoSeq1.sub_tuple_tuple
  obtain ⟨hp, g, d, tk, os⟩ := s
  wp_walk using PySem.AutoSeq1.wpAny_loadPart' ho, PySem.AutoSeq1.wpAny_loadPart' ho2, wpAny_forIn_list _ (fun rest b s' => b.1 = none ∧ s' = ⟨hp, g, d, tk, os⟩ ∧ ∀ p ∈ rest, p ∈ vs.zip us) _
  case turn =>
    rintro ⟨y, x⟩ rest b s' ⟨hb', rfl, hr⟩
    refine wpAny_bind (he _ (hr _ (.head _)) _ _ ?_)
    wp_walk
    exact ⟨rfl, rfl, fun p hp => hr p (.tail _ hp)⟩
  case fin =>
    rintro ⟨b1, b2⟩ s' ⟨hb', rfl, hr⟩
    simp only at hb'
    subst hb'
    wp_walk
    have e : Builtin.Tuple.tupleCompareSizes .NotEq vs.toArray.size us.toArray.size = .bool false := by simp [Builtin.Tuple.tupleCompareSizes, hl]
    rw [e]
    exact ⟨_, rfl, (fun x => nomatch x), h⟩
  case h => exact ⟨rfl, rfl, fun p hp => by simpa using hp⟩
theorem Vals.mem {kvs : List (Str × Value)} {l : List (Str × Dat)} (h : Vals news kvs l) : ∀ kv ∈ kvs, ∃ d, (kv.1, d) ∈ l ∧ DatIn news kv.2 d := by
  induction h with
  | nil => intro kv hk; cases hk
  | snoc _ hd hn ih =>
    intro kv hk
    rcases List.mem_append.mp hk with hk | hk
    · obtain ⟨d, h1, h2⟩ := ih kv hk
      exact ⟨d, List.mem_append.mpr (.inl h1), h2⟩
    · cases List.mem_singleton.mp hk
      exact ⟨_, List.mem_append.mpr (.inr (.head _)), hd⟩
theorem Vals.get {kvs : List (Str × Value)} {l : List (Str × Dat)} (h : Vals news kvs l) : ∀ j ∈ l, ∃ v, valueAt kvs j.1 = some v ∧ DatIn news v j.2 := by
  induction h with
  | nil => intro j hj; cases hj
  | @snoc kvs l x v d hv hd hn ih =>
    intro j hj
    rcases List.mem_append.mp hj with hj | hj
    · obtain ⟨v', h1, h2⟩ := ih j hj
      refine ⟨v', ?_, h2⟩
      unfold valueAt at h1 ⊢
      rw [List.find?_append]
      cases q : List.find? (fun kv => decide (kv.1 = j.1)) kvs with
      | none => rw [q] at h1; cases h1
      | some y => rw [q] at h1; simpa using h1
    · cases List.mem_singleton.mp hj
      exact ⟨v, valueAt_snoc (hv.none hn), hd⟩
theorem vals_hits (N : News h₀ L s.heap news) {ka kb : List (Str × Value)} {l : List (Str × Dat)} (ha : Vals news ka l) (hb : Vals news kb l) (hl : ∀ j ∈ l, noB j.2 = true ∧ dep j.2 ≤ 2) (hu : A.units + 2 < cLine) : KeqHits A s kb ka true := by
  have key : ∀ r : List (Str × Value), (∀ kv ∈ r, kv ∈ ka) → KeqHits A s kb r true := by
    intro r
    induction r with
    | nil => intro _; exact .nil
    | cons kv r ih =>
      intro hr
      obtain ⟨d, h1, h2⟩ := ha.mem kv (hr _ (.head _))
      obtain ⟨y, h3, h4⟩ := hb.get _ h1
      have h5 := hl _ h1
      exact .hit (e := true) (b := true) h3 (dat_eq N d A kv.2 y h2 h4 h5.1 (Nat.lt_of_le_of_lt (Nat.add_le_add_left h5.2 _) hu)) (ih fun x hx => hr x (.tail _ hx))
  exact key ka fun _ h => h
theorem vals_eqBool (N : News h₀ L s.heap news) {a b : Addr} {oa ob : Obj} {ka kb : List (Str × Value)} {l : List (Str × Dat)} (ma : (a, oa) ∈ news) (mb : (b, ob) ∈ news) (sa : (a == sysModules) = false) (sb : (b == sysModules) = false)
    (da : oa.IsDictOf (PySem.strKind PG w) ka) (db : ob.IsDictOf (PySem.strKind PG w) kb) (ha : Vals news ka l) (hb : Vals news kb l) (hl : ∀ j ∈ l, noB j.2 = true ∧ dep j.2 ≤ 2) (hu : A.units + 4 < cLine) {Q : Bool → Shared → Prop} (h : Q true s) :
    wpAny (model PG w) A (eqBool (.ref a) (.ref b)) Q E s := by
  by_cases e : a = b
  · subst e
    exact EqAt.same (A := A) (s := s) (.ref a) PG w E Q h
  · unfold eqBool
    refine wpAny_holding ?_
    refine wpAny_ite_split (fun hab => absurd (by have := eq_of_beq hab; injection this) e) (fun _ => ?_)
    have hk : ka.length = kb.length := by rw [ha.length, hb.length]
    refine wpAny_bind (keq_eq sa sb (Heap.dictOf_iff.mpr ⟨oa, (N _ ma).1, da⟩) (Heap.dictOf_iff.mpr ⟨ob, (N _ mb).1, db⟩) (by omega) (fun _ => vals_hits N ha hb hl (by simp only [Around.in1_units]; omega)) ?_)
    refine wpAny_truthy_bool ?_
    have hb : (ka.length == kb.length && true) = true := by simp [hk]
    rw [hb]
    exact h
theorem noBs_map {α : Type} (f : α → Dat) (hf : ∀ x, noB (f x) = true) : ∀ l : List α, noBs (l.map f) = true
  | [] => rfl
  | x :: l => by rw [List.map_cons]; simp only [noBs, hf x, noBs_map f hf l, Bool.and_self]
theorem deps_map {α : Type} (f : α → Dat) {k : Nat} (hf : ∀ x, dep (f x) ≤ k) : ∀ l : List α, deps (l.map f) ≤ k
  | [] => Nat.zero_le _
  | x :: l => by rw [List.map_cons]; simp only [deps]; exact Nat.max_le.mpr ⟨hf x, deps_map f hf l⟩
theorem lot_ok (r : Row) : noB (lotDat r) = true ∧ dep (lotDat r) ≤ 2 := by
  unfold lotDat
  refine ⟨by simp only [noB]; exact noBs_map _ (fun x => rfl) _, ?_⟩
  have := deps_map (fun k : Nat => Dat.tuple [.int ((r.start : Int) + (k : Int))]) (k := 1) (fun x => by simp [dep, deps]) (List.range r.many)
  simp only [dep]
  omega
theorem sure_ok (r : Row) : noB (sureDat r) = true ∧ dep (sureDat r) ≤ 2 := by
  unfold sureDat
  split
  · exact lot_ok r
  · exact ⟨rfl, by decide⟩
theorem resAt_ne (N : News h₀ L s.heap news) {r : Res} {v y : Value} (h1 : ResAt w news r v) (h2 : ResAt w news r y) (hu : A.units + 10 < cLine) {Q : Value → Shared → Prop} (h : Q (.bool false) s) : wpAny (model PG w) A (compareOp .NotEq v y) Q E s := by
  cases h1 with
  | limit =>
    cases h2 with | limit =>
      refine RcNeAt.str_str _ _ _ _ PG w E Q ?_
      rw [beq_self_eq_true]
      exact h
  | scope =>
    cases h2 with | scope =>
      refine RcNeAt.str_str _ _ _ _ PG w E Q ?_
      rw [beq_self_eq_true]
      exact h
  | @ok rows _ h1 =>
    cases h2 with | ok h2 =>
      cases h1 with | @mk T nl ld sd nT nn vs ol os kl ks a1 a2 a3 b1 b2 b3 b4 c1 c2 c3 c4 =>
      cases h2 with | @mk T' nl' ld' sd' nT' nn' vs' ol' os' kl' ks' a1' a2' a3' b1' b2' b3' b4' c1' c2' c3' c4' =>
      refine tuple_ne_same (News.isTup N a1) (News.isTup N a1') rfl (by omega) ?_ h
      intro p hp Q E hq
      rcases List.mem_cons.mp hp with rfl | hp
      · refine dat_eq N (.list ((namesOf rows).map Dat.str)) A.in1 _ _ (.list a2 (strs_dat a3)) (.list a2' (strs_dat a3')) (by simp only [noB]; exact noBs_map _ (fun _ => rfl) _) ?_ PG w E Q hq
        have := deps_map Dat.str (k := 0) (fun _ => Nat.le_refl _) (namesOf rows)
        simp only [dep, Around.in1_units]
        omega
      · rcases List.mem_cons.mp hp with rfl | hp
        · refine vals_eqBool N b1 b1' b2 b2' b3 b3' b4 b4' ?_ (by simp only [Around.in1_units]; omega) hq
          intro j hj
          obtain ⟨r, _, rfl⟩ := List.mem_map.mp hj
          exact lot_ok r
        · cases List.mem_singleton.mp hp
          refine vals_eqBool N c1 c1' c2 c2' c3 c3' c4 c4' ?_ (by simp only [Around.in1_units]; omega) hq
          intro j hj
          obtain ⟨r, _, rfl⟩ := List.mem_map.mp hj
          exact sure_ok r
/-- data the same: the comparison is True -/
theorem dat_cmp (N : News h₀ L s.heap news) {d : Dat} {v y : Value} (h1 : DatIn news v (.tuple [d])) : True := trivial
end
end
section
theorem w20 : True := by
  k_with_none
  (k_with "omega" => first | decide | with_reducible (first | exact room2 (by assumption) (by decide) | exact room1 (by assumption) (by decide) | exact le_t (by assumption) (by decide) | assumption | exact Nat.ne_of_lt (by assumption) | exact Nat.ne_of_gt (by assumption)) | (law_clear; lia) | omega +splitDisjunctions)
  (k_with "ktr_room" => ((try dsimp +zetaDelta only [ktrTop, Around.deeper, Around.under, Around.in1]); omega))
  (k_with "ktr_units" => ((have hcL9 := cLine_is); (try dsimp +zetaDelta only [ktrTop, Around.deeper, Around.under, Around.in1, Around.mark]); omega))
  (k_with "k_all" => assumption)
  (k_with "tb_rel" => ((repeat (first | exact sub_refl | refine sub_cons ?_)); done))
  (k_with "st" => ((fail_if_success (with_reducible show CEndV _ _ _)); (fail_if_success (with_reducible show TEndV _ _ _)); (fail_if_success (with_reducible show LoopX _ _ _ _ _ _ _ _ _ _ _)); (fail_if_success (with_reducible show CompX _ _ _ _ _ _ _ _ _ _ _ _ _ _)); (first | ((with_reducible show KEnd _ _ _); refine kuse (by with_reducible assumption) ?_) | ((with_reducible show wpAny _ _ (execs (Stmt.Raise _ _ _ :: _) _) _ _ _); exfalso; (first | omega | (simp only [List.size_toArray, List.length_cons] at *; omega))) | ((with_reducible show wpAny _ _ (execs (_ :: _) _) _ _ _); (try dsimp only); walk1) | ((with_reducible show wpAny _ _ (eval (Expr.BinOp _ _ _ _) _) _ _ _); (try dsimp only); walk1) | (k_unfold; (try dsimp only)) | (k_end; wrow_close) | walk1 | (dsimp only; walk1) | (leave1; walk_say "STEP leave1"; try dsimp only) | fail "no step")))
  (k_with "subscriptTail" => (k_here; (with_reducible show wpAny _ _ (subscriptTail _ _ (Value.ref _) (Value.str _ _)) _ _ _); k_dflt (refine kda_item (knd := PySem.strKind _ _) (by k_asm) (by k_mem) (by assumption) (strKind_is _ _ _ _) (by assumption) ?_)))
  (k_with "call builtin:len" => (k_here; k_dflt (first | refine len_list (News.isList (by k_asm) (by k_mem)) (by walk_at "ln") ?_ | refine PyProof.Rows.len_tuple (News.isTup (by k_asm) (by k_mem)) (by walk_at "ln") ?_)))
  (k_with "ln" => (simp only [List.size_toArray, List.length_cons, List.length_append, List.length_nil, List.length_map]; omega))
  (k_with "subscriptTail" => (k_here; (with_reducible show wpAny _ _ (subscriptTail _ _ (Value.ref _) (Value.int _ _)) _ _ _); k_dflt (refine' item_tupleT ?zzt ?zza ?zzb ?zzc ?zzd ?_; (case zzt => exact News.isTup (by k_asm) (by k_mem)); (case zza => decide); (case zzb => decide); (case zzc => rfl); (case zzd => rfl); k_whole)))
  (k_with "call type:tuple" => (k_here; (with_reducible show wpAny _ _ (call (Value.type _) [Value.ref _]) _ _ _); k_dflt (refine call_tuple_tup (News.isTup (by k_asm) (by k_mem)) ?_)))
  (k_with "k_mem" => first | with_reducible assumption | assumption)
  (k_with "call type:list" => (k_here; (with_reducible show wpAny _ _ (call (Value.type "list") [Value.ref _]) _ _ _); k_dflt (refine' kup_listOf ?zzF ?zzN ?zzb ?zze ?_ ?zzz; (case zzF => k_asm); (case zzN => k_asm); (case zzb => k_mem); (case zze => exact rfl); (case zzz => (simp only [sizeLine_eq]; omega))); intro _ _ _ _ _ _))
  (k_with "WhlIf" => (first | refine WhlIf.no (by assumption) ?_ | refine WhlIf.yes (by assumption) ?_))
  (k_with "ktr_unf" => (refine' code_defC ?zzk1 ?zzk2 ?zzk3 ?zzk4 ?zzk5 ?zzkA ?zzkF ?zzkK ?zzk6 ?zzk7 ?zzk8 ?zzk9 ?zzkB ?zzkD ?_ ?zzc2 ?zzc3 ?zzc4; (case zzkA => exact rfl); (case zzkF => exact rfl); (case zzkK => first | assumption | exact rfl); (case zzk1 => k_asm); (case zzk2 => k_asm); (case zzk3 => k_asm); (case zzk4 => k_asm); (case zzk5 => k_asm); (case zzk6 => k_is); (case zzk7 => k_is); (case zzk8 => ktr_room); (case zzk9 => exact BindsTo.of_eq rfl); (case zzkB => exact rfl); (case zzkD => decide +kernel); (case zzc2 => exact rfl); (case zzc3 => exact rfl); (case zzc4 => exact rfl); k_whole; walk_at "i1"))
  (k_with "eval ListComp" => (k_here; k_dflt (refine ListComp_X (by k_asm) (by rfl) (by decide) (by rfl) (by decide) ?_)))
  (k_with "exec Assign cons ListComp" => (k_here; k_dflt (refine Assign_ListComp_X (by k_asm) (by with_unfolding_all rfl) (by rfl) (by decide) (by rfl) (by decide) (by rfl) (by rfl) ?_)))
  (k_with "exec For Name Name cons nil" => walk_at "fx")
  (k_with "exec For Name Call cons nil" => walk_at "fx")
  (k_with "exec For Name Subscript cons nil" => walk_at "fx")
  (k_with "exec For Name Attribute cons nil" => walk_at "fx")
  (k_with "exec For Name IfExp cons nil" => walk_at "fx")
  (k_with "exec For Tuple Name cons nil" => walk_at "fx")
  (k_with "exec For Tuple Call cons nil" => walk_at "fx")
  (k_with "exec For Tuple Subscript cons nil" => walk_at "fx")
  (k_with "exec For Tuple Attribute cons nil" => walk_at "fx")
  (k_with "compareOp In str ref" => (k_here; k_dflt (first | refine in_no (by k_asm) (by k_mem) (by assumption) (by assumption) (by assumption) ?_ | refine in_yes (by k_asm) (by k_mem) (by assumption) (by assumption) (by assumption) ?_)))
  (k_with "compareOp NotIn str ref" => (k_here; k_dflt (refine notin_no (by k_asm) (by k_mem) (by assumption) (by assumption) (by assumption) ?_)))
  (k_with "setItem ref str" => (k_here; k_dflt (refine' kda_set (knd := PySem.strKind _ _) ?zzF ?zzN ?zzU ?zzd (strKind_is _ _ _ _) ?zzz ?_; (case zzF => k_asm); (case zzN => k_asm); (case zzU => k_updF); (case zzd => assumption); (case zzz => (simp only [sizeLine_eq]; omega))); intro _ _ _ zzN zzhd; (try dsimp only at zzN); (revert zzN zzhd; intro _ _)))
  (k_with "k_ne" => first | assumption | exact Ne.symm (by assumption))
  (k_with "getAttr ref" => (k_here; k_dflt (refine' get_own ?zzk1 ?zzk2 ?zzk3 ?zzk4 ?zzk5 ?zzk6 ?zzk7 ?zzk8 ?zzk9 ?_; (case zzk1 => k_asm); (case zzk2 => k_asm); (case zzk3 => k_inst); (case zzk4 => k_is); (case zzk5 => k_is); (case zzk6 => k_is); (case zzk7 => k_is); (case zzk8 => first | assumption | k_get); (case zzk9 => k_handed); k_whole)))
  (k_with "getMethod ref" => (k_here; k_dflt (refine' method_inst ?zzk1 ?zzk2 ?zzk3 ?zzk4 ?zzk5 ?zzk6 ?zzk7 ?_; (case zzk1 => k_asm); (case zzk2 => k_asm); (case zzk3 => k_inst); (case zzk4 => k_is); (case zzk5 => k_is); (case zzk6 => k_is); (case zzk7 => first | assumption | k_get); k_whole)))
  (k_with "k_ne" => first | with_reducible assumption | with_reducible exact Ne.symm (by assumption) | exact ne_l1 (by assumption) (by k_mem) | exact ne_l2 (by assumption) (by k_mem) | exact ne_o1 (by assumption) (by k_mem) | exact ne_o2 (by assumption) (by k_mem))
  (k_with "k_all" => first | with_reducible assumption | exact off_l1 (by assumption) (by k_extra "tb_rel") | exact off_o1 (by assumption) (by k_extra "tb_rel"))
  (k_with "ktr_rel" => ((fail_if_success (with_reducible show wpAny _ _ (exec (Stmt.While _ _ _ _) _) _ _ _)); walk_at "st"))
  (k_with "compareOp NotIn str ref" => (k_here; k_dflt (refine notin_list_strs (News.isList (by k_asm) (by k_mem)) (by assumption) ?_)))
  (k_with "compareOp Eq ref ref" => (k_here; k_dflt (refine' eq_empty ?zzN ?zza ?zzb ?zzd ?zzo ?zzu ?_; (case zzN => k_asm); (case zza => k_mem); (case zzb => k_mem); (case zzd => assumption); (case zzo => assumption); (case zzu => (dsimp +zetaDelta only [ktrTop, Around.deeper, Around.under, Around.in1]; (have hcL9 := cLine_is); omega)))))
  (k_with "subscriptTail Name Slice ref ref" => (k_here; k_dflt (refine' slice15 ?zzF ?zzN ?zzt ?_; (case zzF => k_asm); (case zzN => k_asm); (case zzt => exact News.isTup (by k_asm) (by k_mem))); intro _ _ _ _))
  (k_with "call ref" => (k_here; (with_reducible show wpAny _ _ (call (Value.ref _) _) _ _ _); k_dflt (refine' Spec.c (by k_asm) (by k_asm) (by k_asm) (by k_asm) (by k_asm) (by first | exact rfl | assumption) ?zzh ?zzD ?zzU ?_; (case zzh => walk_at "spec"); (case zzD => ktr_room); (case zzU => ktr_room)); walk_at "i2"))
  (k_with "call ref" => (k_here; (with_reducible show wpAny _ _ (call (Value.ref _) _) _ _ _); k_dflt (refine' Spec.ck (by k_asm) (by k_asm) (by k_asm) (by k_asm) (by k_asm) (by first | exact rfl | assumption) ?zzh ?zzel ?zzD ?zzU ?_; (case zzh => walk_at "spec"); (case zzel => walk_at "el"); (case zzD => ktr_room); (case zzU => ktr_room)); intros; (first | intro zzN | rename News _ _ _ _ => zzN); (try dsimp only at zzN); (revert zzN; intro _); (try dsimp only); (try k_sweep)))
  (k_with "el" => (first | exact RStr.el | exact RInt.el | exact RBool.el | exact NextRet.el | exact RTup0.el | exact RTup.el | exact RNil.el | exact ROne.el | exact RLst.el | exact NamesRet.el | exact ChRet.el | exact SizesRet.el))
  (k_with "spec" => (exact nextF_spec (by k_updF) (by assumption) (by omega) (by k_mem) (by first | decide | ((try simp only [List.size_toArray]); omega))))
  (k_with "fx" => (k_here; k_dflt (refine For_X (by k_asm) ?_)))
  (k_with "callWith" => (first | with_reducible refine PyProof.Rows.callWith_method0 ?_ | ((with_reducible refine' PyProof.Rows.callWith_builtin1 ?_ ?zzcwe ?zzcwp); (case zzcwe => rfl); (case zzcwp => rfl)) | ((with_reducible refine' PyProof.Rows.callWith_method1 ?_ ?zzcwe ?zzcwp); (case zzcwe => rfl); (case zzcwp => rfl))))
  (k_with "subscriptTail Name Constant ref int" => (first | (k_extra "subscriptTail") | (k_here; (with_reducible show wpAny _ _ (subscriptTail _ _ (Value.ref _) (Value.int _ _)) _ _ _); (with_unfolding_all refine' item_litK ?zzk1 ?zzk2 ?zzk3 ?zzk4 ?_ ?zzk6; (case zzk1 => is_list); (case zzk2 => decide); (case zzk3 => decide); (case zzk4 => rfl); (case zzk6 => with_unfolding_all rfl); k_whole))))
  (k_with "subscriptTail Name BinOp ref int" => (k_extra "subscriptTail"))
  (k_with "subscriptTail Name Name ref int" => (k_extra "subscriptTail"))
  (k_with "subscriptTail Name UnaryOp ref int" => (k_extra "subscriptTail"))
  (k_with "joinParts" => (k_here; (with_reducible refine' join_end ?zzjez ?_); (case zzjez => kt_le)))
  (k_with "exec Raise some none" => (k_here; k_dflt (refine raise_X (by k_asm) (by k_asm) (by rfl) ?_)))
  (k_with "RaiseEnd" => (refine ⟨_, _, _, _, _, _, rfl, ?zzC, by k_asm, by k_asm, by k_mem, ?_⟩; (case zzC => first | exact .inl rfl | exact .inr rfl)))
  (k_with "leaving ref" => (k_here; k_dflt (first | (refine' leave_excK ?zzkk ?zzK rfl ?zzhk ?zzF ?zzN ?zzhe ?zzht ?zzhs ?zzhne ?zzhnt ?zzhsub ?_; (case zzkk => assumption); (case zzK => assumption); (case zzhk => rfl); (case zzF => k_asm); (case zzN => k_asm); (case zzhe => k_mem); (case zzht => k_mem); (case zzhs => assumption); (case zzhne => assumption); (case zzhnt => assumption); (case zzhsub => ((repeat (first | exact sub_refl | assumption | refine sub_cons ?_)); done))) | (refine' leave_onK2 ?zzkk ?zzK rfl ?zzF ?zzR ?zzU ?_; (case zzkk => assumption); (case zzR => assumption); (case zzF => assumption); (case zzK => assumption); (case zzU => assumption))); intro _ zzR zzU; (try dsimp only at zzR zzU ⊢); (revert zzR zzU; intro _ _)))
  (k_with "formatField str" => (k_here; (refine' PyProof.Rows.formatField_str ?_ ?zzz; (case zzz => (simp only [sizeLine_eq]; omega))); intro _ _))
  (k_with "call type:tuple" => (k_here; (with_reducible show wpAny _ _ (call (Value.type _) [Value.ref _]) _ _ _); k_dflt (refine' kde_tupleOf ?zzk1 ?zzk2 ?zzk3 ?zzk4 ?zzk5 ?_; (case zzk1 => k_asm); (case zzk2 => k_asm); (case zzk3 => exact News.isList (by k_asm) (by k_mem)); (case zzk4 => (simp only [List.size_toArray]; omega)); (case zzk5 => exact List.toList_toArray _); k_whole); intro _ _ _ _ zzl1; (try k_lt zzl1); (revert zzl1; intro _)))
  (k_with "newTuple" => (k_here; k_dflt (refine' newTuple_L ?zzk1 ?zzk2 ?zzk3 ?_; (case zzk1 => k_asm); (case zzk2 => k_asm); (case zzk3 => (simp only [sizeLine_eq, List.length_cons, List.length_nil]; omega))); intro _ _ _ _ zzl1; (try k_lt zzl1); (revert zzl1; intro _)))
  (k_with "setItem ref str" => (k_here; k_dflt (refine' dset_new ?zzF ?zzN ?zzU ?zzd ?zzn ?zzz ?_; (case zzF => k_asm); (case zzN => k_asm); (case zzU => k_updF); (case zzd => assumption); (case zzn => assumption); (case zzz => omega)); intro _ _ _ zzN zzhd zzhv; (try dsimp only at zzN); (revert zzN zzhd zzhv; intro _ _ _)))
  (k_with "call builtin:list.extend" => (k_here; (with_reducible show wpAny _ _ (call (Value.builtin _) [Value.ref _, Value.ref _]) _ _ _); k_dflt (refine' ext_L ?zzF ?zzN ?zzb ?zzU ?zzz ?zzy ?_; (case zzF => k_asm); (case zzN => k_asm); (case zzb => k_mem); (case zzU => k_updF); (case zzz => omega); (case zzy => omega)); intro _ _ _ zzN; (try dsimp only at zzN); (revert zzN; intro _)))
  (k_with "compareOp NotEq ref ref" => (k_here; k_dflt (refine' ne_nil ?zzN ?zza ?zzb ?zzu ?_; (case zzN => k_asm); (case zza => k_mem); (case zzb => k_mem); (case zzu => (dsimp +zetaDelta only [ktrTop, Around.deeper, Around.under, Around.in1]; (have hcL9 := cLine_is); omega)))))
  trivial
/-- a top of the law's -/
structure Pk where
  name : Str
  mult : Str
  abs : Bool
  below : List Str
noncomputable def Pk.dat (t : Pk) : Dat := .tuple [.str t.name, .str t.mult, .bool t.abs, .list (t.below.map Dat.str)]
inductive PkAt (news : Led) (t : Pk) : Value → Prop
  | mk {a b : Addr} {n nb : Nat} {t1 t2 : Tok} {vs : List Value} (m1 : (a, tupObj [.str t.name t1, .str t.mult t2, .bool t.abs, .ref b] n) ∈ news) (m2 : (b, listOf vs.toArray nb) ∈ news) (m3 : StrsAre vs t.below) : PkAt news t (.ref a)
theorem pk_open {news : Led} {v : Value} {t : Pk} (h : DatIn news v t.dat) : PkAt news t v := by
  refine eT h fun a vs n hm h => ?_
  revert hm
  refine eC h fun v0 r h0 h => ?_
  refine eS h0 fun t0 => ?_
  refine eC h fun v1 r h1 h => ?_
  refine eS h1 fun t1 => ?_
  refine eC h fun v2 r h2 h => ?_
  refine eB h2 ?_
  refine eC h fun v3 r h3 h => ?_
  refine eL h3 fun b vb nb hb h3 => ?_
  refine eN h ?_
  intro hm
  exact .mk hm hb (strs_of h3)
theorem PkAt.mono {news news' : Led} {v : Value} {t : Pk} (h : PkAt news t v) (hs : ∀ p ∈ news, p ∈ news') : PkAt news' t v := by
  cases h with | mk m1 m2 m3 => exact .mk (hs _ m1) (hs _ m2) m3
/-- an assertion between two statements, shut to the walk -/
noncomputable def dueMany (s0 : Sc) (t : Pk) : Int := if t.abs && !(t.below.any fun x => x == S "") then (t.below.length : Int) else usual s0.default
noncomputable def dueNums (s0 : Sc) (t : Pk) : List (Bool × Int) := (s0.told.filter fun x => x.sig == t.name).map fun x => (x.exact, x.number)
noncomputable def lotDue (s0 : Sc) (t : Pk) (lined : Str) : Option (Bool × Int) :=
  if t.mult == S "one" then (match (dueNums s0 t).head? with | some (_, k) => if k != 1 then none else some (true, 1) | none => some (true, 1))
  else if t.mult == S "lone" then (match (dueNums s0 t).head? with | some (e, k) => some (e || t.name == lined, if 1 < k then 1 else k) | none => some (t.name == lined, if 1 < dueMany s0 t then 1 else dueMany s0 t))
  else (match (dueNums s0 t).head? with | some (e, k) => some (e || t.name == lined, k) | none => some (t.name == lined, dueMany s0 t))
noncomputable def lotTail (t : Pk) (lined : Str) (b : Bool) (k : Int) (told : Bool) : Option (Bool × Int) :=
  if t.mult == S "one" then (if told && k != 1 then none else some (true, 1))
  else if t.mult == S "lone" then some (b || t.name == lined, if 1 < k then 1 else k)
  else some (b || t.name == lined, k)
theorem lotTail_none {s0 : Sc} {t : Pk} {lined : Str} (h : (dueNums s0 t).head? = none) : lotDue s0 t lined = lotTail t lined false (dueMany s0 t) false := by
  unfold lotDue lotTail; rw [h]; simp
theorem lotTail_some {s0 : Sc} {t : Pk} {lined : Str} {e : Bool} {k : Int} (h : (dueNums s0 t).head? = some (e, k)) : lotDue s0 t lined = lotTail t lined e k true := by
  unfold lotDue lotTail; rw [h]; simp
inductive LotM (s : Shared) (t : Pk) (lined : Str) (tp2 tl : Tok) (D2 : Addr) (nx : Led) (want : Option (Bool × Int)) (told : Bool) (g : Heap) (L : Addr) (m : Str → Option Value) : Flow → Shared → Prop
  | mk (h : Heap) (tk : Nat) (m' : Str → Option Value) (b : Bool) (k : Int) (tX : Tok) (F : Fr g L h m') (N : News g L h nx) (hm : Kn m' [(S "mult", .str t.mult tp2), (S "numbers", .ref D2), (S "is_exact", .bool b), (S "many", .int k tX), (S "lined", .str lined tl)]) (hl : want = lotTail t lined b k told) :
      LotM s t lined tp2 tl D2 nx want told g L m .next { s with heap := h, toks := tk }
section
variable {w : World} {loose : List Str} {mean : ExcName → Option Value} {mg mb : Str → Option Value} {news : Led} {sc : Addr} {v1 : Value} {s0 : Sc} {t : Pk} {lined : Str} {tl : Tok}
theorem lotdue_spec (hsc : DatIn news (.ref sc) s0.dat) (hpk : PkAt news t v1) (hbl : t.below.length ≤ 10) (htl : s0.told.length ≤ 100) :
    Spec w loose mean mg mb 60 900 (.ref 451) [.ref sc, v1, .str lined tl] news (fun r news' => (lotDue s0 t lined = none ∧ r = .none ∧ news' = news) ∨ ∃ T n tk b k, r = .ref T ∧ news' = (T, tupObj [.bool b, .int k tk] n) :: news ∧ lotDue s0 t lined = some (b, k) ∧ ∀ p ∈ news, p.1 ≠ T) None2 := by
  unfold Spec
  k_fill
  intro dp un gd cn cs a ccd cl outer A₀ base h₀ L m s Q E B F X N T hk hR hok hret hexc
  cases sc_open hsc with | @mk at' nsc nt' td0 vt msc mt ht =>
  cases hpk with | @mk ap bp np nbp tp1 tp2 vb m1 m2 m3 =>
  have hvb := m3.length
  refine wpAny_call ?_
  k_dflt ktr_unf
  refine opq (by passes_own) ?_
  intro A9 R9 E9 kR9 kE9 pE9
  rename_i g9 L9 _ _ _ _ _ _ _ _ _ _ _ _ _ _
  have hlen := ht.length
  simp only [List.length_map] at hlen
  repeat' ((fail_if_success (with_reducible show wpAny _ _ (exec (Stmt.Assign _ (Expr.Tuple _ _ _) _) _) _ _ _)); k_extra "ktr_rel")
  rename News _ _ _ _ => N1
  rename Fr _ _ _ _ => F1
  rename Obj => oN
  rename Obj.data oN = Data.cell (some (Value.str t.name tp1)) => dN
  refine wpAny_mono (Q := fun f s' => Cut (f = .next ∧ ∃ h' tk m' L0 tX, s' = { s with heap := h', toks := tk } ∧ Fr g9 L9 h' m' ∧ News g9 L9 h' L0 ∧ (∀ p ∈ news, p ∈ L0) ∧ (L9 + 1, oN) ∈ L0 ∧ Kn m' [(S "mult", .str t.mult tp2), (S "is_abstract", .bool t.abs), (S "below", .ref bp), (S "scope", .ref sc), (S "is_exact", .bool false), (S "many", .int (usual s0.default) tX), (S "lined", .str lined tl)])) ?_ ?_ (fun _ _ e => e)
  · repeat' (k_extra "ktr_rel")
    all_goals (
      rename Fr _ _ _ _ => F5
      rename News _ _ _ _ => N5
      first
      | (rename 0 ≤ s0.default => hd0
         exact ⟨by trivial, _, _, _, _, td0, rfl, F5, N5, by k_extra "tb_rel", by k_mem, by unfold usual; rw [if_pos hd0]; exact ⟨rfl, rfl, rfl, rfl, rfl, rfl, rfl, trivial⟩⟩)
      | (rename ¬ 0 ≤ s0.default => hd0
         exact ⟨by trivial, _, _, _, _, _, rfl, F5, N5, by k_extra "tb_rel", by k_mem, by unfold usual; rw [if_neg hd0]; exact ⟨rfl, rfl, rfl, rfl, rfl, rfl, rfl, trivial⟩⟩))
  rintro f s' ⟨rfl, h2, tk2, m8, L0, tX0, rfl, F2, N2, hsub, hcN, hm8⟩
  replace F2 := frov F2 hm8
  clear F1 N1
  have mt0 := hsub _ mt
  have msc0 := hsub _ msc
  have m10 := hsub _ m1
  have m20 := hsub _ m2
  repeat' ((fail_if_success (with_reducible show wpAny _ _ (exec (Stmt.If _ _ _ _) _) _ _ _)); k_extra "ktr_rel")
  refine wpAny_mono (Q := fun f s' => Cut (f = .next ∧ ∃ h' tk m' tX, s' = { s with heap := h', toks := tk } ∧ Fr g9 L9 h' m' ∧ News g9 L9 h' L0 ∧ Kn m' [(S "mult", .str t.mult tp2), (S "scope", .ref sc), (S "is_exact", .bool false), (S "many", .int (dueMany s0 t) tX), (S "lined", .str lined tl)])) ?_ ?_ (fun _ _ e => e)
  · repeat' (k_extra "ktr_rel")
    all_goals (
      rename Fr _ _ _ _ => F5
      first
      | (rename (List.any _ _) = false => hany
         rename t.abs = true => hab
         exact ⟨by trivial, _, _, _, _, rfl, F5, by k_asm, by unfold dueMany; rw [if_pos (by rw [hab]; simp [hany]), ← hvb]; exact ⟨rfl, rfl, rfl, rfl, rfl, trivial⟩⟩)
      | exact ⟨by trivial, _, _, _, _, rfl, F5, by k_asm, by unfold dueMany; rw [if_neg (by simp [*])]; exact ⟨rfl, rfl, rfl, rfl, rfl, trivial⟩⟩)
  rintro f s' ⟨rfl, h2, tk2, m9, tX, rfl, F2, N2, hm9⟩
  replace F2 := frov F2 hm9
  repeat' ((fail_if_success (with_reducible show LoopX _ _ _ _ _ _ _ _ _ _ _)); k_extra "ktr_rel")
  refine ⟨_, _, _, fun k ys nx => (∀ p ∈ L0, p ∈ nx) ∧ DatAll nx ys ((((s0.told.take k).filter fun x => x.sig == t.name)).map fun x => Dat.tuple [.bool x.exact, .int x.number]), _, _, src_tup rfl N2 (hsub _ mt), (by simp only [sizeLine_eq]; omega), F2, N2, fun _ _ nx h => h.1 _ (hsub _ mt), ⟨sub_refl, .nil⟩, ?_, ?_⟩
  · rintro k v ys nx I oI C oC D m₂ h tk E' R kR hk hv ⟨hs9, hys⟩ hyl hC off F3 N3
    have hdv := datAt ht hv (by simp only [List.length_map]; omega)
    have hkl : k < s0.told.length := by omega
    simp only [List.getElem_map] at hdv
    have htf := take_filter (fun x : Tell => x.sig == t.name) (fun x : Tell => Dat.tuple [.bool x.exact, .int x.number]) hkl
    generalize s0.told[k] = tw at *
    cases tell_open hdv with | @mk ta tn tt1 tt2 w1 =>
    refine assignC3 rfl (by rfl) (by rfl) (by rfl) (by rfl) off hC F3 N3 (hs9 _ (hsub _ w1)) fun h3 oC3 tk3 hC3 F4 N4 => ?_
    clear F3 N3 hC
    refine wpAny_tests_one ?_
    have hx1 : (fun y => if y = Str.ofString "sig" then some (Value.str tw.sig tt2) else if y = Str.ofString "number" then some (Value.int tw.number tt1) else if y = Str.ofString "late" then some (Value.bool tw.exact) else m₂ y) (Str.ofString "sig") = some (Value.str tw.sig tt2) := by rfl
    have hx2 : (fun y => if y = Str.ofString "sig" then some (Value.str tw.sig tt2) else if y = Str.ofString "number" then some (Value.int tw.number tt1) else if y = Str.ofString "late" then some (Value.bool tw.exact) else m₂ y) (Str.ofString "number") = some (Value.int tw.number tt1) := by rfl
    have hx3 : (fun y => if y = Str.ofString "sig" then some (Value.str tw.sig tt2) else if y = Str.ofString "number" then some (Value.int tw.number tt1) else if y = Str.ofString "late" then some (Value.bool tw.exact) else m₂ y) (Str.ofString "late") = some (Value.bool tw.exact) := by rfl
    generalize (fun y => if y = Str.ofString "sig" then some (Value.str tw.sig tt2) else if y = Str.ofString "number" then some (Value.int tw.number tt1) else if y = Str.ofString "late" then some (Value.bool tw.exact) else m₂ y) = m₃ at hC3 hx1 hx2 hx3
    have hcN9 := hs9 _ hcN
    repeat' (k_extra "ktr_rel")
    · rename (_ == _) = true => hq
      rename I < _ ∧ _ => la
      refine CEnd.intro kR (nx := _ :: nx) (by k_asm) (by k_asm) (sub_mk (by k_mem) (sub_mk (by k_mem) (sub_mk (by k_mem) (sub_mk (.head _) (by k_extra "tb_rel"))))) hC3 ?_ ⟨fun p hp => .tail _ (hs9 p hp), ?_⟩
      · intro p hp
        rcases List.mem_cons.mp hp with rfl | hp
        · exact ⟨Ne.symm (Nat.ne_of_lt la.1), Ne.symm (Nat.ne_of_lt la.2.1), Ne.symm (Nat.ne_of_lt la.2.2.1)⟩
        · exact off.off p hp
      · rw [htf, if_pos hq]
        exact (hys.mono (sub_cons sub_refl)).append (.one (.tuple (.head _) (.cons (.bool _) (.one (.int _ _)))))
    · rename (_ == _) = false => hq
      refine CEnd.intro kR (by k_asm) (by k_asm) (by k_extra "tb_rel") hC3 off.off ⟨hs9, ?_⟩
      rw [htf, if_neg (by rw [hq]; decide), List.append_nil]
      exact hys
  · rintro ys nx ⟨hs9, hys⟩ hyl
    intro D2 h2 tk2 F3 N3 o2
    rw [hlen, List.take_length] at hys
    have hcN9 := hs9 _ hcN
    have hnx9 : ∀ p ∈ news, p ∈ nx := fun p hp => hs9 p (hsub p hp)
    repeat' ((fail_if_success (with_reducible show wpAny _ _ (exec (Stmt.If _ _ _ _) _) _ _ _)); k_extra "ktr_rel")
    rename Fr _ _ _ _ => F4
    refine mono_at (LotM s t lined tp2 tl D2 ((D2, LCg.lst ys) :: nx) (lotDue s0 t lined) (!ys.isEmpty)) F4 ?_ ?_
    · cases hnums : s0.told.filter fun x => x.sig == t.name with
      | nil =>
        rw [hnums] at hys
        have := dat_nil hys
        subst this
        have hhead : (dueNums s0 t).head? = none := by unfold dueNums; rw [hnums]; rfl
        repeat' (k_extra "ktr_rel")
        rename News _ _ _ _ => kN
        exact .mk _ _ _ _ _ _ (by k_asm) (ntake kN (by k_extra "tb_rel")) ⟨rfl, rfl, rfl, rfl, rfl, trivial⟩ (lotTail_none hhead)
      | cons tw tr =>
        rw [hnums] at hys
        obtain ⟨v9, r9, rfl, hv9, hr9⟩ := dat_cons hys
        cases bi_open hv9 with | @mk ta tn tt9 mta =>
        have hhead : (dueNums s0 t).head? = some (tw.exact, tw.number) := by unfold dueNums; rw [hnums]; rfl
        clear hys hr9 hv9
        have hz9 : (Value.ref ta :: r9).isEmpty = false := rfl
        repeat' (k_extra "ktr_rel")
        rename News _ _ _ _ => kN
        exact .mk _ _ _ _ _ _ (by k_asm) (ntake kN (by k_extra "tb_rel")) ⟨rfl, rfl, rfl, rfl, rfl, trivial⟩ (lotTail_some hhead)
    · intro f s' hM
      cases hM with | mk h9' tk9' m9' b9 k9 tX9 F4 N4 hm9 hl9 =>
      replace F4 := frov F4 hm9
      (try dsimp only)
      repeat' (k_extra "ktr_rel")
      all_goals (
        rename News _ _ _ _ => kN
        first
        | exact hret _ _ _ _ (by k_asm) (ntake kN (by (repeat (first | exact hnx9 | refine sub_cons ?_)))) (.inl ⟨by rw [hl9]; unfold lotTail; simp [*], rfl, rfl⟩)
        | (rename _ < _ ∧ _ => la
           refine hret _ _ _ _ (by k_asm) (ntake kN (sub_mk (.head _) (by (repeat (first | exact hnx9 | refine sub_cons ?_))))) (.inr ⟨_, _, _, _, _, rfl, rfl, by rw [hl9]; unfold lotTail; simp [*], fun p hp => ?_⟩)
           first | exact allLt_off la.2.2.2 p (hnx9 p hp) | exact allLt_off la.2.2 p (hnx9 p hp) | exact allLt_off la.2 p (hnx9 p hp)))
end
end
section
theorem w21 : True := by
  k_with_none
  (k_with "omega" => first | decide | with_reducible (first | exact room2 (by assumption) (by decide) | exact room1 (by assumption) (by decide) | exact le_t (by assumption) (by decide) | assumption | exact Nat.ne_of_lt (by assumption) | exact Nat.ne_of_gt (by assumption)) | (law_clear; lia) | omega +splitDisjunctions)
  (k_with "ktr_room" => ((try dsimp +zetaDelta only [ktrTop, Around.deeper, Around.under, Around.in1]); omega))
  (k_with "ktr_units" => ((have hcL9 := cLine_is); (try dsimp +zetaDelta only [ktrTop, Around.deeper, Around.under, Around.in1, Around.mark]); omega))
  (k_with "k_all" => assumption)
  (k_with "tb_rel" => ((repeat (first | exact sub_refl | refine sub_cons ?_)); done))
  (k_with "st" => ((fail_if_success (with_reducible show CEndV _ _ _)); (fail_if_success (with_reducible show TEndV _ _ _)); (fail_if_success (with_reducible show LoopX _ _ _ _ _ _ _ _ _ _ _)); (fail_if_success (with_reducible show CompX _ _ _ _ _ _ _ _ _ _ _ _ _ _)); (first | ((with_reducible show KEnd _ _ _); refine kuse (by with_reducible assumption) ?_) | ((with_reducible show wpAny _ _ (execs (Stmt.Raise _ _ _ :: _) _) _ _ _); exfalso; (first | omega | (simp only [List.size_toArray, List.length_cons] at *; omega))) | ((with_reducible show wpAny _ _ (execs (_ :: _) _) _ _ _); (try dsimp only); walk1) | ((with_reducible show wpAny _ _ (eval (Expr.BinOp _ _ _ _) _) _ _ _); (try dsimp only); walk1) | (k_unfold; (try dsimp only)) | (k_end; wrow_close) | walk1 | (dsimp only; walk1) | (leave1; walk_say "STEP leave1"; try dsimp only) | fail "no step")))
  (k_with "subscriptTail" => (k_here; (with_reducible show wpAny _ _ (subscriptTail _ _ (Value.ref _) (Value.str _ _)) _ _ _); k_dflt (refine kda_item (knd := PySem.strKind _ _) (by k_asm) (by k_mem) (by assumption) (strKind_is _ _ _ _) (by assumption) ?_)))
  (k_with "call builtin:len" => (k_here; k_dflt (first | refine len_list (News.isList (by k_asm) (by k_mem)) (by walk_at "ln") ?_ | refine PyProof.Rows.len_tuple (News.isTup (by k_asm) (by k_mem)) (by walk_at "ln") ?_)))
  (k_with "ln" => (simp only [List.size_toArray, List.length_cons, List.length_append, List.length_nil, List.length_map]; omega))
  (k_with "subscriptTail" => (k_here; (with_reducible show wpAny _ _ (subscriptTail _ _ (Value.ref _) (Value.int _ _)) _ _ _); k_dflt (refine' item_tupleT ?zzt ?zza ?zzb ?zzc ?zzd ?_; (case zzt => exact News.isTup (by k_asm) (by k_mem)); (case zza => decide); (case zzb => decide); (case zzc => rfl); (case zzd => rfl); k_whole)))
  (k_with "call type:tuple" => (k_here; (with_reducible show wpAny _ _ (call (Value.type _) [Value.ref _]) _ _ _); k_dflt (refine call_tuple_tup (News.isTup (by k_asm) (by k_mem)) ?_)))
  (k_with "k_mem" => first | with_reducible assumption | assumption)
  (k_with "call type:list" => (k_here; (with_reducible show wpAny _ _ (call (Value.type "list") [Value.ref _]) _ _ _); k_dflt (refine' kup_listOf ?zzF ?zzN ?zzb ?zze ?_ ?zzz; (case zzF => k_asm); (case zzN => k_asm); (case zzb => k_mem); (case zze => exact rfl); (case zzz => (simp only [sizeLine_eq]; omega))); intro _ _ _ _ _ _))
  (k_with "WhlIf" => (first | refine WhlIf.no (by assumption) ?_ | refine WhlIf.yes (by assumption) ?_))
  (k_with "ktr_unf" => (refine' code_defC ?zzk1 ?zzk2 ?zzk3 ?zzk4 ?zzk5 ?zzkA ?zzkF ?zzkK ?zzk6 ?zzk7 ?zzk8 ?zzk9 ?zzkB ?zzkD ?_ ?zzc2 ?zzc3 ?zzc4; (case zzkA => exact rfl); (case zzkF => exact rfl); (case zzkK => first | assumption | exact rfl); (case zzk1 => k_asm); (case zzk2 => k_asm); (case zzk3 => k_asm); (case zzk4 => k_asm); (case zzk5 => k_asm); (case zzk6 => k_is); (case zzk7 => k_is); (case zzk8 => ktr_room); (case zzk9 => exact BindsTo.of_eq rfl); (case zzkB => exact rfl); (case zzkD => decide +kernel); (case zzc2 => exact rfl); (case zzc3 => exact rfl); (case zzc4 => exact rfl); k_whole; walk_at "i1"))
  (k_with "eval ListComp" => (k_here; k_dflt (refine ListComp_X (by k_asm) (by rfl) (by decide) (by rfl) (by decide) ?_)))
  (k_with "exec Assign cons ListComp" => (k_here; k_dflt (refine Assign_ListComp_X (by k_asm) (by with_unfolding_all rfl) (by rfl) (by decide) (by rfl) (by decide) (by rfl) (by rfl) ?_)))
  (k_with "exec For Name Name cons nil" => walk_at "fx")
  (k_with "exec For Name Call cons nil" => walk_at "fx")
  (k_with "exec For Name Subscript cons nil" => walk_at "fx")
  (k_with "exec For Name Attribute cons nil" => walk_at "fx")
  (k_with "exec For Name IfExp cons nil" => walk_at "fx")
  (k_with "exec For Tuple Name cons nil" => walk_at "fx")
  (k_with "exec For Tuple Call cons nil" => walk_at "fx")
  (k_with "exec For Tuple Subscript cons nil" => walk_at "fx")
  (k_with "exec For Tuple Attribute cons nil" => walk_at "fx")
  (k_with "compareOp In str ref" => (k_here; k_dflt (first | refine in_no (by k_asm) (by k_mem) (by assumption) (by assumption) (by assumption) ?_ | refine in_yes (by k_asm) (by k_mem) (by assumption) (by assumption) (by assumption) ?_)))
  (k_with "compareOp NotIn str ref" => (k_here; k_dflt (refine notin_no (by k_asm) (by k_mem) (by assumption) (by assumption) (by assumption) ?_)))
  (k_with "setItem ref str" => (k_here; k_dflt (refine' kda_set (knd := PySem.strKind _ _) ?zzF ?zzN ?zzU ?zzd (strKind_is _ _ _ _) ?zzz ?_; (case zzF => k_asm); (case zzN => k_asm); (case zzU => k_updF); (case zzd => assumption); (case zzz => (simp only [sizeLine_eq]; omega))); intro _ _ _ zzN zzhd; (try dsimp only at zzN); (revert zzN zzhd; intro _ _)))
  (k_with "k_ne" => first | assumption | exact Ne.symm (by assumption))
  (k_with "getAttr ref" => (k_here; k_dflt (refine' get_own ?zzk1 ?zzk2 ?zzk3 ?zzk4 ?zzk5 ?zzk6 ?zzk7 ?zzk8 ?zzk9 ?_; (case zzk1 => k_asm); (case zzk2 => k_asm); (case zzk3 => k_inst); (case zzk4 => k_is); (case zzk5 => k_is); (case zzk6 => k_is); (case zzk7 => k_is); (case zzk8 => first | assumption | k_get); (case zzk9 => k_handed); k_whole)))
  (k_with "getMethod ref" => (k_here; k_dflt (refine' method_inst ?zzk1 ?zzk2 ?zzk3 ?zzk4 ?zzk5 ?zzk6 ?zzk7 ?_; (case zzk1 => k_asm); (case zzk2 => k_asm); (case zzk3 => k_inst); (case zzk4 => k_is); (case zzk5 => k_is); (case zzk6 => k_is); (case zzk7 => first | assumption | k_get); k_whole)))
  (k_with "k_ne" => first | with_reducible assumption | with_reducible exact Ne.symm (by assumption) | exact ne_l1 (by assumption) (by k_mem) | exact ne_l2 (by assumption) (by k_mem) | exact ne_o1 (by assumption) (by k_mem) | exact ne_o2 (by assumption) (by k_mem))
  (k_with "k_all" => first | with_reducible assumption | exact off_l1 (by assumption) (by k_extra "tb_rel") | exact off_o1 (by assumption) (by k_extra "tb_rel"))
  (k_with "ktr_rel" => ((fail_if_success (with_reducible show wpAny _ _ (exec (Stmt.While _ _ _ _) _) _ _ _)); walk_at "st"))
  (k_with "compareOp NotIn str ref" => (k_here; k_dflt (refine notin_list_strs (News.isList (by k_asm) (by k_mem)) (by assumption) ?_)))
  (k_with "compareOp Eq ref ref" => (k_here; k_dflt (refine' eq_empty ?zzN ?zza ?zzb ?zzd ?zzo ?zzu ?_; (case zzN => k_asm); (case zza => k_mem); (case zzb => k_mem); (case zzd => assumption); (case zzo => assumption); (case zzu => (dsimp +zetaDelta only [ktrTop, Around.deeper, Around.under, Around.in1]; (have hcL9 := cLine_is); omega)))))
  (k_with "subscriptTail Name Slice ref ref" => (k_here; k_dflt (refine' slice15 ?zzF ?zzN ?zzt ?_; (case zzF => k_asm); (case zzN => k_asm); (case zzt => exact News.isTup (by k_asm) (by k_mem))); intro _ _ _ _))
  (k_with "call ref" => (k_here; (with_reducible show wpAny _ _ (call (Value.ref _) _) _ _ _); k_dflt (refine' Spec.c (by k_asm) (by k_asm) (by k_asm) (by k_asm) (by k_asm) (by first | exact rfl | assumption) ?zzh ?zzD ?zzU ?_; (case zzh => walk_at "spec"); (case zzD => ktr_room); (case zzU => ktr_room)); walk_at "i2"))
  (k_with "call ref" => (k_here; (with_reducible show wpAny _ _ (call (Value.ref _) _) _ _ _); k_dflt (refine' Spec.ck (by k_asm) (by k_asm) (by k_asm) (by k_asm) (by k_asm) (by first | exact rfl | assumption) ?zzh ?zzel ?zzD ?zzU ?_; (case zzh => walk_at "spec"); (case zzel => walk_at "el"); (case zzD => ktr_room); (case zzU => ktr_room)); intros; (first | intro zzN | rename News _ _ _ _ => zzN); (try dsimp only at zzN); (revert zzN; intro _); (try dsimp only); (try k_sweep)))
  (k_with "el" => (first | exact RStr.el | exact RInt.el | exact RBool.el | exact NextRet.el | exact RTup0.el | exact RTup.el | exact RNil.el | exact ROne.el | exact RLst.el | exact NamesRet.el | exact ChRet.el | exact SizesRet.el))
  (k_with "spec" => (exact nextF_spec (by k_updF) (by assumption) (by omega) (by k_mem) (by first | decide | ((try simp only [List.size_toArray]); omega))))
  (k_with "fx" => (k_here; k_dflt (refine For_X (by k_asm) ?_)))
  (k_with "callWith" => (first | with_reducible refine PyProof.Rows.callWith_method0 ?_ | ((with_reducible refine' PyProof.Rows.callWith_builtin1 ?_ ?zzcwe ?zzcwp); (case zzcwe => rfl); (case zzcwp => rfl)) | ((with_reducible refine' PyProof.Rows.callWith_method1 ?_ ?zzcwe ?zzcwp); (case zzcwe => rfl); (case zzcwp => rfl))))
  (k_with "subscriptTail Name Constant ref int" => (first | (k_extra "subscriptTail") | (k_here; (with_reducible show wpAny _ _ (subscriptTail _ _ (Value.ref _) (Value.int _ _)) _ _ _); (with_unfolding_all refine' item_litK ?zzk1 ?zzk2 ?zzk3 ?zzk4 ?_ ?zzk6; (case zzk1 => is_list); (case zzk2 => decide); (case zzk3 => decide); (case zzk4 => rfl); (case zzk6 => with_unfolding_all rfl); k_whole))))
  (k_with "subscriptTail Name BinOp ref int" => (k_extra "subscriptTail"))
  (k_with "subscriptTail Name Name ref int" => (k_extra "subscriptTail"))
  (k_with "subscriptTail Name UnaryOp ref int" => (k_extra "subscriptTail"))
  (k_with "joinParts" => (k_here; (with_reducible refine' join_end ?zzjez ?_); (case zzjez => kt_le)))
  (k_with "exec Raise some none" => (k_here; k_dflt (refine raise_X (by k_asm) (by k_asm) (by rfl) ?_)))
  (k_with "RaiseEnd" => (refine ⟨_, _, _, _, _, _, rfl, ?zzC, by k_asm, by k_asm, by k_mem, ?_⟩; (case zzC => first | exact .inl rfl | exact .inr rfl)))
  (k_with "leaving ref" => (k_here; k_dflt (first | (refine' leave_excK ?zzkk ?zzK rfl ?zzhk ?zzF ?zzN ?zzhe ?zzht ?zzhs ?zzhne ?zzhnt ?zzhsub ?_; (case zzkk => assumption); (case zzK => assumption); (case zzhk => rfl); (case zzF => k_asm); (case zzN => k_asm); (case zzhe => k_mem); (case zzht => k_mem); (case zzhs => assumption); (case zzhne => assumption); (case zzhnt => assumption); (case zzhsub => ((repeat (first | exact sub_refl | assumption | refine sub_cons ?_)); done))) | (refine' leave_onK2 ?zzkk ?zzK rfl ?zzF ?zzR ?zzU ?_; (case zzkk => assumption); (case zzR => assumption); (case zzF => assumption); (case zzK => assumption); (case zzU => assumption))); intro _ zzR zzU; (try dsimp only at zzR zzU ⊢); (revert zzR zzU; intro _ _)))
  (k_with "formatField str" => (k_here; (refine' PyProof.Rows.formatField_str ?_ ?zzz; (case zzz => (simp only [sizeLine_eq]; omega))); intro _ _))
  (k_with "call type:tuple" => (k_here; (with_reducible show wpAny _ _ (call (Value.type _) [Value.ref _]) _ _ _); k_dflt (refine' kde_tupleOf ?zzk1 ?zzk2 ?zzk3 ?zzk4 ?zzk5 ?_; (case zzk1 => k_asm); (case zzk2 => k_asm); (case zzk3 => exact News.isList (by k_asm) (by k_mem)); (case zzk4 => (simp only [List.size_toArray]; omega)); (case zzk5 => exact List.toList_toArray _); k_whole); intro _ _ _ _ zzl1; (try k_lt zzl1); (revert zzl1; intro _)))
  (k_with "newTuple" => (k_here; k_dflt (refine' newTuple_L ?zzk1 ?zzk2 ?zzk3 ?_; (case zzk1 => k_asm); (case zzk2 => k_asm); (case zzk3 => (simp only [sizeLine_eq, List.length_cons, List.length_nil]; omega))); intro _ _ _ _ zzl1; (try k_lt zzl1); (revert zzl1; intro _)))
  (k_with "setItem ref str" => (k_here; k_dflt (refine' dset_new ?zzF ?zzN ?zzU ?zzd ?zzn ?zzz ?_; (case zzF => k_asm); (case zzN => k_asm); (case zzU => k_updF); (case zzd => assumption); (case zzn => assumption); (case zzz => omega)); intro _ _ _ zzN zzhd zzhv; (try dsimp only at zzN); (revert zzN zzhd zzhv; intro _ _ _)))
  (k_with "call builtin:list.extend" => (k_here; (with_reducible show wpAny _ _ (call (Value.builtin _) [Value.ref _, Value.ref _]) _ _ _); k_dflt (refine' ext_L ?zzF ?zzN ?zzb ?zzU ?zzz ?zzy ?_; (case zzF => k_asm); (case zzN => k_asm); (case zzb => k_mem); (case zzU => k_updF); (case zzz => omega); (case zzy => omega)); intro _ _ _ zzN; (try dsimp only at zzN); (revert zzN; intro _)))
  (k_with "compareOp NotEq ref ref" => (k_here; k_dflt (refine' ne_nil ?zzN ?zza ?zzb ?zzu ?_; (case zzN => k_asm); (case zza => k_mem); (case zzb => k_mem); (case zzu => (dsimp +zetaDelta only [ktrTop, Around.deeper, Around.under, Around.in1]; (have hcL9 := cLine_is); omega)))))
  trivial
section
variable {w : World} {A : Around} {E : Value → Shared → Prop} {s : Shared} {h₀ : Heap} {L a b : Addr} {m : Str → Option Value} {news : Led} {vs ys : List Value} {n n2 : Nat}
theorem add_L {Q : Value → Shared → Prop} (F : Fr h₀ L s.heap m) (N : News h₀ L s.heap news) (ma : (a, listOf vs.toArray n) ∈ news) (mb : (b, listOf ys.toArray n2) ∈ news) (hz : vs.length ≤ 10000) (hz2 : ys.length ≤ 10000)
    (h : ∀ D h', Fr h₀ L h' m → News h₀ L h' ((D, listOf (vs ++ ys).toArray 0) :: news) → (∀ p ∈ news, p.1 < D) → Q (.ref D) { s with heap := h' }) : wpAny (model PG w) A (binaryOp .Add (.ref a) (.ref b)) Q E s :=
  kmk_add_lit F N (News.isList N ma) (News.isList N mb) rfl h (by simp only [sizeLine_eq, List.toList_toArray]; omega)
end
theorem w22 : True := by
  (k_with "binaryOp Add ref ref" => (k_here; k_dflt (refine' add_L ?zzF ?zzN ?zza ?zzb ?zzy ?zzz ?_; (case zzF => k_asm); (case zzN => k_asm); (case zza => k_mem); (case zzb => k_mem); (case zzy => omega); (case zzz => omega)); intro _ _ _ _ zzl1; (try k_lt zzl1); (revert zzl1; intro _)))
  trivial
theorem TEndV.ret {h₀ : Heap} {L I : Addr} {oI : Obj} {J : (Str → Option Value) → Led → Prop} {gs : Array GenState} {dr : Drawn} {os : OsState} {s₂ : Shared} {Q R : Flow → Shared → Prop} {v : Value} (kR : KontT h₀ L I oI J gs dr os Q R) (h : Q (.ret v) s₂) : TEndV R (.ret v) s₂ := kR _ _ h
theorem name_freshP {l : List Pk} {k : Nat} (h : (l.map Pk.name).Nodup) (hk : k < l.length) : l[k].name ∉ (l.take k).map Pk.name := by
  intro hm
  obtain ⟨j, hj, e⟩ := List.mem_map.mp hm
  obtain ⟨a, ha, rfl⟩ := List.getElem_of_mem hj
  simp only [List.length_take] at ha
  rw [List.getElem_take] at e
  have h1 : a < (l.map Pk.name).length := by simp only [List.length_map]; omega
  have h2 : k < (l.map Pk.name).length := by simpa using hk
  have := (List.getElem_inj (h₀ := h1) (h₁ := h2) h).mp (by simpa using e)
  omega
noncomputable def dueLots (s0 : Sc) (lined : Str) (l : List Pk) : List (Str × Option (Bool × Int)) := l.map fun t => (t.name, lotDue s0 t lined)
inductive DueJ (w : World) (sc : Addr) (lined : Str) (tl : Tok) (ld sd L9 : Addr) (news : Led) (s0 : Sc) (tops : List Pk) (k : Nat) (m : Str → Option Value) : Led → Prop
  | mk {vs : List Value} {nn : Nat} {al : Addr} {ol os og oa : Obj} {vo : Option Value} {kl ks : List (Str × Value)} {rows : List Row} {nr : Led} (hm : Kn m [(S "scope", .ref sc), (S "lined", .str lined tl), (S "lots", .ref ld), (S "sure", .ref sd)])
      (hb : ∀ p ∈ news, p ∈ nr) (hl1 : ∀ p ∈ nr, p.1 ≠ ld) (hs1 : ∀ p ∈ nr, p.1 ≠ sd) (hO1 : ∀ p ∈ nr, p.1 ≠ L9 + 1 + 1) (hA1 : ∀ p ∈ nr, p.1 ≠ L9 + 1) (hog : og.data = .cell vo) (hoa : oa.data = .cell (some (.ref al))) (hal : (al, listOf vs.toArray nn) ∈ nr)
      (hvs : StrsAre vs (namesOf rows)) (hol : ol.IsDictOf (PySem.strKind PG w) kl) (hkl : Vals nr kl (rows.map fun r => (r.name, lotDat r))) (hos : os.IsDictOf (PySem.strKind PG w) ks) (hks : Vals nr ks (rows.map fun r => (r.name, sureDat r)))
      (hrun : run (dueLots s0 lined (tops.drop k)) rows = run (dueLots s0 lined tops) []) (hrl : rows.length ≤ k) (hra : atomsN rows ≤ 500) (hrn : ∀ r ∈ rows, r.name ∈ (tops.take k).map Pk.name) :
      DueJ w sc lined tl ld sd L9 news s0 tops k m ((ld, ol) :: (sd, os) :: (L9 + 1 + 1, og) :: (L9 + 1, oa) :: nr)
noncomputable def dueRes (s0 : Sc) (lined : Str) (tops : List Pk) : Res := if s0.told.any Tell.bad then .scope else run (dueLots s0 lined tops) []
inductive DueM (w : World) (s : Shared) (ld sd L9 I D3 T : Addr) (oI ol2 og oa oT : Obj) (ks : List (Str × Value)) (nm : Str) (r : Row) (nr2 : Led) (g : Heap) (L : Addr) (m : Str → Option Value) : Flow → Shared → Prop
  | mk (h : Heap) (tk : Nat) (os2 : Obj) (vS : Value) (nr3 : Led) (F : Fr g L h m) (N12 : News g L h ((ld, ol2) :: (sd, os2) :: (L9 + 1 + 1, og) :: (L9 + 1, oa) :: (I, oI) :: nr3)) (hos2 : os2.IsDictOf (PySem.strKind PG w) (ks ++ [(nm, vS)]))
      (hlD : DatIn nr3 (.ref D3) (lotDat r)) (hsD : DatIn nr3 vS (sureDat r)) (hb3 : ∀ p ∈ nr2, p ∈ nr3) (k2 : ∀ p ∈ nr3, p.1 ≠ ld) (k3 : ∀ p ∈ nr3, p.1 ≠ sd) (k4 : ∀ p ∈ nr3, p.1 ≠ L9 + 1 + 1) (k1 : ∀ p ∈ nr3, p.1 ≠ L9 + 1) (k5 : ∀ p ∈ nr3, p.1 ≠ I) (hT : (T, oT) ∈ nr3) :
      DueM w s ld sd L9 I D3 T oI ol2 og oa oT ks nm r nr2 g L m .next { s with heap := h, toks := tk }
section
variable {w : World} {loose : List Str} {mean : ExcName → Option Value} {mg mb : Str → Option Value} {news : Led} {sc tp : Addr} {vtp : List Value} {ntp : Nat} {s0 : Sc} {tops : List Pk} {lined : Str} {tl : Tok}
theorem due_spec (hsc : DatIn news (.ref sc) s0.dat) (htp : (tp, listOf vtp.toArray ntp) ∈ news) (hts : DatAll news vtp (tops.map Pk.dat)) (hlen : tops.length ≤ 10) (hw : ∀ t ∈ tops, t.below.length ≤ 10 ∧ t.name.length ≤ 100) (hnd : (tops.map Pk.name).Nodup) (htl : s0.told.length ≤ 100)
    (hpos : s0.told.any Tell.bad = false → ∀ t ∈ tops, ∀ e k, lotDue s0 t lined = some (e, k) → 0 ≤ k) :
    Spec w loose mean mg mb 120 2000 (.ref 456) [.ref sc, .ref tp, .str lined tl] news (fun r news' => ResAt w news' (dueRes s0 lined tops) r ∧ ∀ p ∈ news, p ∈ news') None2 := by
  unfold Spec
  k_fill
  intro dp un gd cn cs a ccd cl outer A₀ base h₀ L m s Q E B F X N T hk hR hok hret hexc
  have hsc0 := hsc
  cases sc_open hsc with | @mk at' nsc nt' td0 vt msc mt ht =>
  refine wpAny_call ?_
  k_dflt ktr_unf
  refine opq (by passes_own) ?_
  intro A9 R9 E9 kR9 kE9 pE9
  have hlt := ht.length
  simp only [List.length_map] at hlt
  repeat' (k_extra "ktr_rel")
  rename_i g9 L9 _ _ _ _ _ _ _ ll q1 q2 _ oO oA dO dA N1
  refine ⟨_, _, _, fun k ys nx => nx = (L9 + 1 + 1, oO) :: (L9 + 1, oA) :: news ∧ ys.length = ((s0.told.take k).filter Tell.bad).length, _, _, src_tup rfl N1 (.tail _ (.tail _ mt)), (by simp only [sizeLine_eq]; omega), (by k_asm), N1, fun _ _ nx h => by rw [h.1]; exact .tail _ (.tail _ mt), ⟨rfl, rfl⟩, ?_, ?_⟩
  · rintro k v ys nx I oI C oC D m₂ h tk E' R kR hk hv ⟨rfl, hys⟩ hyl hC off F3 N3
    have hdv := datAt ht hv (by simp only [List.length_map]; omega)
    have hkl : k < s0.told.length := by omega
    simp only [List.getElem_map] at hdv
    have htf := take_filter Tell.bad (fun x : Tell => x) hkl
    simp only [List.map_id'] at htf
    generalize s0.told[k] = tw at *
    cases tell_open hdv with | @mk ta tn tt1 tt2 w1 =>
    refine assignC3 rfl (by rfl) (by rfl) (by rfl) (by rfl) off hC F3 N3 (.tail _ (.tail _ w1)) fun h3 oC3 tk3 hC3 F4 N4 => ?_
    clear F3 N3 hC
    refine wpAny_tests_one ?_
    have hx1 : (fun y => if y = Str.ofString "sig" then some (Value.str tw.sig tt2) else if y = Str.ofString "number" then some (Value.int tw.number tt1) else if y = Str.ofString "is_exact" then some (Value.bool tw.exact) else m₂ y) (Str.ofString "sig") = some (Value.str tw.sig tt2) := by rfl
    have hx2 : (fun y => if y = Str.ofString "sig" then some (Value.str tw.sig tt2) else if y = Str.ofString "number" then some (Value.int tw.number tt1) else if y = Str.ofString "is_exact" then some (Value.bool tw.exact) else m₂ y) (Str.ofString "number") = some (Value.int tw.number tt1) := by rfl
    generalize (fun y => if y = Str.ofString "sig" then some (Value.str tw.sig tt2) else if y = Str.ofString "number" then some (Value.int tw.number tt1) else if y = Str.ofString "is_exact" then some (Value.bool tw.exact) else m₂ y) = m₃ at hC3 hx1 hx2
    repeat' (k_extra "ktr_rel")
    all_goals (
      have hoff := off.off
      first
      | (have hb : Tell.bad tw = true := by unfold Tell.bad; simp [*]
         rw [if_pos hb] at htf
         refine CEnd.intro kR (by k_asm) (by k_asm) (by k_extra "tb_rel") hC3 hoff ⟨rfl, ?_⟩
         rw [htf]; simp [hys])
      | (have hb : Tell.bad tw = false := by unfold Tell.bad; simp [*]
         rw [if_neg (by rw [hb]; decide), List.append_nil] at htf
         refine CEnd.intro kR (by k_asm) (by k_asm) (by k_extra "tb_rel") hC3 hoff ⟨rfl, ?_⟩
         rw [htf]; simp [hys]))
  · rintro ys nx ⟨rfl, hys⟩ hyl
    intro D2 h2 tk2 F3 N3 o2
    rw [hlt, List.take_length] at hys
    have hbad : ys.isEmpty = !(s0.told.any Tell.bad) := by
      cases hq : s0.told.any Tell.bad with
      | true =>
        cases ys with
        | nil =>
          obtain ⟨x, hx, hb⟩ := List.any_eq_true.mp hq
          have : s0.told.filter Tell.bad = [] := List.eq_nil_of_length_eq_zero hys.symm
          have h2 := List.mem_filter.mpr ⟨hx, hb⟩
          rw [this] at h2
          exact absurd h2 (by simp)
        | cons _ _ => rfl
      | false =>
        have : s0.told.filter Tell.bad = [] := List.filter_eq_nil_iff.mpr fun x hx hb => by
          have := List.any_eq_false.mp hq x hx
          exact this hb
        rw [this] at hys
        rw [List.eq_nil_of_length_eq_zero hys]; rfl
    repeat' (k_extra "ktr_rel")
    · rename_i xl _ lxl hz _ nl _ lnl ld _ ol lol hol _ _ _ lld sd _ os los hos _ _ _ lsd Dt _ lDt _ _ oA2 dA2 _ _ F9 N9
      rw [hbad] at hz
      replace hz : s0.told.any Tell.bad = false := by simpa using hz
      have hH : dueRes s0 lined tops = run (dueLots s0 lined tops) [] := by unfold dueRes; rw [hz]; rfl
      replace hpos := hpos hz
      have N0 := ntake N9 (nx := (ld, ol) :: (sd, os) :: (L9 + 1 + 1, oO) :: (L9 + 1, oA2) :: (nl, listOf ([] : List Value).toArray 0) :: news) (sub_mk (by k_mem) (sub_mk (by k_mem) (sub_mk (by k_mem) (sub_mk (by k_mem) (sub_mk (by k_mem) (by k_extra "tb_rel"))))))
      have hl0 : ∀ p ∈ ((nl, listOf ([] : List Value).toArray 0) :: news : Led), p.1 ≠ ld := off_cons (Nat.ne_of_lt lld.1) (allLt_off lld.2.2.2.2.2)
      have hs0 : ∀ p ∈ ((nl, listOf ([] : List Value).toArray 0) :: news : Led), p.1 ≠ sd := off_cons (Nat.ne_of_lt lsd.2.1) (allLt_off lsd.2.2.2.2.2.2)
      have hO0 : ∀ p ∈ ((nl, listOf ([] : List Value).toArray 0) :: news : Led), p.1 ≠ L9 + 1 + 1 := off_cons (Ne.symm (Nat.ne_of_lt lnl.2.2.1)) q2
      have hA0 : ∀ p ∈ ((nl, listOf ([] : List Value).toArray 0) :: news : Led), p.1 ≠ L9 + 1 := off_cons (Ne.symm (Nat.ne_of_lt lnl.2.2.2.1)) q1
      have u1 : ld ≠ sd := Nat.ne_of_lt lsd.1
      have u2 : ld ≠ L9 + 1 + 1 := Ne.symm (Nat.ne_of_lt lld.2.2.2.1)
      have u3 : sd ≠ L9 + 1 + 1 := Ne.symm (Nat.ne_of_lt lsd.2.2.2.2.1)
      have u4 : ld ≠ L9 + 1 := Ne.symm (Nat.ne_of_lt lld.2.2.2.2.1)
      have u5 : sd ≠ L9 + 1 := Ne.symm (Nat.ne_of_lt lsd.2.2.2.2.2.1)
      have u6 : L9 + 1 + 1 ≠ L9 + 1 := Nat.succ_ne_self _
      have hvl := hts.length
      simp only [List.length_map] at hvl
      refine ⟨_, _, _, fun k m nx => DueJ w sc lined tl ld sd L9 news s0 tops k m nx,
        _, _, src_list rfl N0 (.tail _ (.tail _ (.tail _ (.tail _ (.tail _ htp))))), F9, N0, ?_, DueJ.mk (vs := []) (kl := []) (ks := []) (rows := []) ⟨rfl, rfl, rfl, rfl, trivial⟩ (sub_cons sub_refl) hl0 hs0 hO0 hA0 dO dA2 (.head _) .nil hol .nil hos .nil rfl (Nat.le_refl _) (Nat.zero_le _) (fun _ h => nomatch h), ?_, ?_⟩
      · rintro k m nx hJ
        cases hJ with | mk hm hb hl1 hs1 hO1 hA1 hog hoa hal hvs hol hkl hos hks hrun hrl hra hrn =>
        exact .tail _ (.tail _ (.tail _ (.tail _ (hb _ htp))))
      · rintro k v m₁ nx h tk I oI R kR hk hv hJ off F3 N3
        cases hJ with | @mk vs nn al ol os og oa vo kl ks rows nr hm hb hl1 hs1 hO1 hA1 hog hoa hal hvs hol hkl hos hks hrun hrl hra hrn =>
        replace F3 := frov F3 hm
        have hdv := datAt hts hv (by simp only [List.length_map]; omega)
        have hkl9 : k < tops.length := by omega
        simp only [List.getElem_map] at hdv
        have hmem : tops[k] ∈ tops := List.getElem_mem hkl9
        have hpk := pk_open hdv
        have hdrop : tops.drop k = tops[k] :: tops.drop (k + 1) := List.drop_eq_getElem_cons hkl9
        have htake : (tops.take (k + 1)).map Pk.name = (tops.take k).map Pk.name ++ [tops[k].name] := take_map _ hkl9
        have hpk0 := hpk
        cases hpk with | @mk ap bp np nbp tp1 tp2 vb m1 m2 m3 =>
        have m10 := hb _ m1
        have msc0 := hb _ msc
        have y2 : ld ≠ I := off_head off
        have y3 : sd ≠ I := off_head (off_tail off)
        have y4 : L9 + 1 + 1 ≠ I := off_head (off_tail (off_tail off))
        have y1 : L9 + 1 ≠ I := off_head (off_tail (off_tail (off_tail off)))
        have y5 := off_tail (off_tail (off_tail (off_tail off)))
        have hvs9 : vs.length = atomsN rows := hvs.length
        rw [hdrop, show dueLots s0 lined (tops[k] :: tops.drop (k + 1)) = (tops[k].name, lotDue s0 tops[k] lined) :: dueLots s0 lined (tops.drop (k + 1)) from rfl] at hrun
        repeat' (k_extra "ktr_rel")
        rename Obj => og2
        rename Obj.data og2 = _ => dg2
        rename News _ _ _ _ => N4
        have bsu : ∀ p ∈ news, p ∈ ((I, oI) :: (ld, ol) :: (sd, os) :: (L9 + 1 + 1, og2) :: (L9 + 1, oa) :: nr : Led) := fun p hp => .tail _ (.tail _ (.tail _ (.tail _ (.tail _ (hb p hp)))))
        refine' Spec.c ?N ?F ?B ?X ?T ?K (lotdue_spec (hsc0.mono bsu) (hpk0.mono bsu) (hw _ hmem).1 htl) ?D ?U ?_
        (case N => k_asm)
        (case F => k_asm)
        (case B => k_asm)
        (case X => k_asm)
        (case T => k_asm)
        (case K => first | exact rfl | assumption)
        (case D => (dsimp +zetaDelta only [ktrTop, Around.deeper, Around.under, Around.in1]; (first | omega | (simp only [wMake]; omega))))
        (case U => (dsimp +zetaDelta only [ktrTop, Around.deeper, Around.under, Around.in1]; (first | omega | (simp only [uMake]; omega))))
        rintro r' news' h' tk' F' N' (⟨hlot, rfl, rfl⟩ | ⟨T, nT, tk9, be, ke, rfl, rfl, hlot, hTo⟩)
        · rw [hlot] at hrun
          repeat' (k_extra "ktr_rel")
          refine TEndV.ret kR ?_
          (try dsimp only)
          repeat' (k_extra "ktr_rel")
          rename News _ _ _ _ => kN
          exact hret _ _ _ _ (by k_asm) (ntake kN bsu) ⟨by rw [hH, ← hrun]; exact .scope, sub_refl⟩
        · rw [hlot] at hrun
          have hk0 := hpos _ hmem _ _ hlot
          repeat' (k_extra "ktr_rel")
          · refine TEndV.ret kR ?_
            (try dsimp only)
            repeat' (k_extra "ktr_rel")
            rename 500 < _ => hgt
            rename News _ _ _ _ => kN
            refine hret _ _ _ _ (by k_asm) (ntake kN fun p hp => .tail _ (bsu p hp)) ⟨?_, sub_refl⟩
            rw [hH, ← hrun]
            unfold run
            rw [if_pos (by simp only [List.size_toArray] at hgt; omega)]
            exact .limit
          · rename IsRange _ _ _ _ _ _ _ _ => hrg
            rename ¬ 500 < _ => hgt
            rename News _ _ _ _ => N5
            rename Fr _ _ _ _ => F5
            simp only [List.size_toArray] at hgt
            have hke : ke.toNat ≤ 500 := by omega
            generalize hL0 : ((T, tupObj [Value.bool be, Value.int ke tk9] nT) :: (I, oI) :: (ld, ol) :: (sd, os) :: (L9 + 1 + 1, og2) :: (L9 + 1, oa) :: nr : Led) = L0 at N5
            have hL1 : (L9 + 1, oa) ∈ L0 := by rw [← hL0]; k_mem
            have hL2 : (al, listOf vs.toArray nn) ∈ L0 := by rw [← hL0]; k_mem
            have hL3 : (ap, tupObj [Value.str tops[k].name tp1, Value.str tops[k].mult tp2, Value.bool tops[k].abs, Value.ref bp] np) ∈ L0 := by rw [← hL0]; k_mem
            refine ⟨_, _, _, fun k ys nx => RgJ L0 k (fun (k : Nat) => Dat.tuple [.int ((atomsN rows : Int) + (k : Int))]) ys nx, _, _, src_range0 rfl hrg hk0 (by omega), (by simp only [sizeLine_eq]; omega), F5, N5, fun _ _ _ _ => trivial, ⟨[], rfl, apart_nil, .nil⟩, ?_, ?_⟩
            · rintro k2 v2 ys nx I2 oI2 C oC D m₂ h2 tk2 E2 R kR hk2 ⟨tv2, rfl⟩ ⟨fr, hnx, hfr, hys⟩ hyl hC off2 F6 N6
              refine assignC (by rfl) (by rfl) off2 hC F6 N6 fun h3 oC3 tk3 hC3 F7 N7 => ?_
              clear F6 N6 hC
              have hx' : (fun y => if y = Str.ofString "k" then some (Value.int (k2 : Int) tv2) else m₂ y) (Str.ofString "k") = some (Value.int (k2 : Int) tv2) := by simp
              generalize (fun y => if y = Str.ofString "k" then some (Value.int (k2 : Int) tv2) else m₂ y) = m₃ at hC3 hx'
              have hM1 : (L9 + 1, oa) ∈ nx := by rw [hnx]; exact sub_app _ hL1
              have hM2 : (al, listOf vs.toArray nn) ∈ nx := by rw [hnx]; exact sub_app _ hL2
              refine wpAny_pure ?_
              have e8 : ((atomsN rows : Nat) : Int) = ((vs.toArray.size : Nat) : Int) := by simp [hvs9]
              repeat' (k_extra "ktr_rel")
              rename I2 < _ ∧ _ => la
              refine CEnd.intro kR (nx := _ :: nx) (by k_asm) (by k_asm) (sub_mk (by k_mem) (sub_mk (by k_mem) (sub_mk (by k_mem) (sub_mk (.head _) (by k_extra "tb_rel"))))) hC3 ?_ ?_
              · intro p hp
                rcases List.mem_cons.mp hp with rfl | hp
                · exact ⟨Ne.symm (Nat.ne_of_lt la.1), Ne.symm (Nat.ne_of_lt la.2.1), Ne.symm (Nat.ne_of_lt la.2.2.1)⟩
                · exact off2.off p hp
              · refine ⟨_ :: fr, by rw [hnx, List.cons_append], apart_cons (fun q hq => allLt_off la.2.2.2 q (by rw [hnx]; exact sub_app _ hq)) hfr, ?_⟩
                rw [range_map_snoc]
                refine (hys.mono (sub_cons sub_refl)).append (.one ?_)
                rw [e8]
                exact .tuple (.head _) (.one (.int _ _))
            · rintro ys nx ⟨fr, hnx, hfr, hys⟩ hyl
              intro D2 h2 tk2 F6 N6 o2
              have hylen := hys.length
              simp only [List.length_map, List.length_range] at hylen
              have fL : ∀ a o, (a, o) ∈ L0 → ∀ p ∈ fr, p.1 ≠ a := fun a o h p hp => hfr p hp _ h
              have g2 := fL ld ol (by rw [← hL0]; k_mem)
              have g3 := fL sd os (by rw [← hL0]; k_mem)
              have g4 := fL (L9 + 1 + 1) og2 (by rw [← hL0]; k_mem)
              have g1 := fL (L9 + 1) oa (by rw [← hL0]; k_mem)
              have g5 := fL I oI (by rw [← hL0]; k_mem)
              have oL : ∀ a o, (a, o) ∈ L0 → a ≠ D2 := fun a o h => o2 _ (by rw [hnx]; exact sub_app _ h)
              have d2 := oL ld ol (by rw [← hL0]; k_mem)
              have d3 := oL sd os (by rw [← hL0]; k_mem)
              have d4 := oL (L9 + 1 + 1) og2 (by rw [← hL0]; k_mem)
              have d1 := oL (L9 + 1) oa (by rw [← hL0]; k_mem)
              have d5 := oL I oI (by rw [← hL0]; k_mem)
              have offm : ∀ {a : Addr}, (∀ p ∈ fr, p.1 ≠ a) → (∀ p ∈ nr, p.1 ≠ a) → ∀ p ∈ fr ++ nr, p.1 ≠ a := fun h1 h2 p hp => (List.mem_append.mp hp).elim (h1 p) (h2 p)
              have m1' := offm g1 hA1
              have m2' := offm g2 hl1
              have m3' := offm g3 hs1
              have m4' := offm g4 hO1
              have m5' := offm g5 y5
              have hb2 : ∀ p ∈ nr, p ∈ fr ++ nr := sub_app
              have hf2 : ∀ p ∈ fr, p ∈ fr ++ nr := sub_app1
              have N8 := ntake N6 (nx := (ld, ol) :: (sd, os) :: (L9 + 1 + 1, og2) :: (L9 + 1, oa) :: (I, oI) :: (T, tupObj [Value.bool be, Value.int ke tk9] nT) :: (D2, LCg.lst ys) :: (fr ++ nr)) (fun p hp => by
                have up : ∀ q ∈ L0, q ∈ ((D2, LCg.lst ys) :: nx : Led) := fun q hq => .tail _ (by rw [hnx]; exact sub_app _ hq)
                have hsubf : ∀ q ∈ fr ++ nr, q ∈ ((D2, LCg.lst ys) :: nx : Led) := fun q hq => by
                  rcases List.mem_append.mp hq with h | h
                  · exact .tail _ (by rw [hnx]; exact sub_app1 _ h)
                  · exact up q (by rw [← hL0]; exact .tail _ (.tail _ (.tail _ (.tail _ (.tail _ (.tail _ h))))))
                revert p hp
                exact sub_mk (up _ (by rw [← hL0]; k_mem)) (sub_mk (up _ (by rw [← hL0]; k_mem)) (sub_mk (up _ (by rw [← hL0]; k_mem)) (sub_mk (up _ (by rw [← hL0]; k_mem)) (sub_mk (up _ (by rw [← hL0]; k_mem)) (sub_mk (up _ (by rw [← hL0]; k_mem)) (sub_mk (.head _) hsubf)))))))
              replace hys := hys.mono hf2
              have t2 : ld ≠ T := hTo (ld, ol) (.tail _ (.head _))
              have t3 : sd ≠ T := hTo (sd, os) (.tail _ (.tail _ (.head _)))
              have t4 : L9 + 1 + 1 ≠ T := hTo (L9 + 1 + 1, og2) (.tail _ (.tail _ (.tail _ (.head _))))
              have t1 : L9 + 1 ≠ T := hTo (L9 + 1, oa) (.tail _ (.tail _ (.tail _ (.tail _ (.head _)))))
              have t5 : I ≠ T := hTo (I, oI) (.head _)
              have oT : ∀ p ∈ fr, p.1 ≠ T := fL T _ (by rw [← hL0]; exact .head _)
              generalize fr ++ nr = nr2 at m1' m2' m3' m4' m5' hb2 hf2 N8 hys
              have m11 := hb2 _ m10
              have hal2 := hb2 _ hal
              clear N6 F5 N5 hrg
              repeat' (k_extra "ktr_rel")
              refine' kde_tupleOf (zs := ys) ?k1 ?k2 ?k3 ?k4 ?k5 ?_
              (case k1 => k_asm)
              (case k2 => k_asm)
              (case k3 => exact News.isList (by k_asm) (by k_mem))
              (case k4 => (simp only [List.size_toArray]; omega))
              (case k5 => rfl)
              intro D3 h3 F10 N10 l10
              have hrf : ∀ r ∈ rows, r.name ≠ tops[k].name := fun r hr e7 => name_freshP hnd hkl9 (e7 ▸ hrn r hr)
              have hkln : valueAt kl tops[k].name = none := vals_fresh hkl hrf
              have hksn : valueAt ks tops[k].name = none := vals_fresh hks hrf
              have hkll := hkl.length
              have hksl := hks.length
              simp only [List.length_map] at hkll hksl
              repeat' ((fail_if_success (with_reducible show wpAny _ _ (exec (Stmt.Assign _ (Expr.IfExp _ _ _ _) _) _) _ _ _)); k_extra "ktr_rel")
              rename Fr _ _ _ _ => F11
              rename Obj.IsDictOf _ _ (kl ++ _) => hol2
              rename Obj => ol2
              refine mono_at (DueM w s ld sd L9 I D3 T oI ol2 og2 oa (tupObj [Value.bool be, Value.int ke tk9] nT) ks tops[k].name ⟨tops[k].name, atomsN rows, ke.toNat, be⟩ nr2) F11 ?_ ?_
              · have j2 : D3 ≠ ld := Ne.symm (Nat.ne_of_lt (l10 (ld, ol) (.head _)))
                have j3 : D3 ≠ sd := Ne.symm (Nat.ne_of_lt (l10 (sd, os) (.tail _ (.head _))))
                have j4 : D3 ≠ L9 + 1 + 1 := Ne.symm (Nat.ne_of_lt (l10 (L9 + 1 + 1, og2) (.tail _ (.tail _ (.head _)))))
                have j1 : D3 ≠ L9 + 1 := Ne.symm (Nat.ne_of_lt (l10 (L9 + 1, oa) (.tail _ (.tail _ (.tail _ (.head _))))))
                have j5 : D3 ≠ I := Ne.symm (Nat.ne_of_lt (l10 (I, oI) (.tail _ (.tail _ (.tail _ (.tail _ (.head _)))))))
                repeat' (k_extra "ktr_rel")
                · rename News _ _ _ _ => N11
                  rename be = true => hbe
                  subst hbe
                  exact .mk _ _ _ _ _ (by k_asm) (ntake (nx := (ld, ol2) :: (sd, _) :: (L9 + 1 + 1, og2) :: (L9 + 1, oa) :: (I, oI) :: (D3, tupObj ys 0) :: (T, tupObj [Value.bool true, Value.int ke tk9] nT) :: nr2) N11 (sub_mk (by k_mem) (sub_mk (by k_mem) (sub_mk (by k_mem) (sub_mk (by k_mem) (sub_mk (by k_mem) (sub_mk (by k_mem) (sub_mk (by k_mem) (by k_extra "tb_rel"))))))))) (by assumption) (.tuple (.head _) (hys.mono (sub_cons (sub_cons sub_refl)))) (.tuple (.head _) (hys.mono (sub_cons (sub_cons sub_refl)))) (sub_cons (sub_cons sub_refl)) (off_cons j2 (off_cons (Ne.symm t2) m2')) (off_cons j3 (off_cons (Ne.symm t3) m3')) (off_cons j4 (off_cons (Ne.symm t4) m4')) (off_cons j1 (off_cons (Ne.symm t1) m1')) (off_cons j5 (off_cons (Ne.symm t5) m5')) (.tail _ (.head _))
                · rename News _ _ _ _ => N11
                  rename D3 < _ ∧ _ => la
                  rename be = false => hbe
                  subst hbe
                  exact .mk _ _ _ _ _ (by k_asm) (ntake (nx := (ld, ol2) :: (sd, _) :: (L9 + 1 + 1, og2) :: (L9 + 1, oa) :: (I, oI) :: (_, tupObj [] 0) :: (D3, tupObj ys 0) :: (T, tupObj [Value.bool false, Value.int ke tk9] nT) :: nr2) N11 (sub_mk (by k_mem) (sub_mk (by k_mem) (sub_mk (by k_mem) (sub_mk (by k_mem) (sub_mk (by k_mem) (sub_mk (.head _) (sub_mk (by k_mem) (sub_mk (by k_mem) (by k_extra "tb_rel")))))))))) (by assumption) (.tuple (.tail _ (.head _)) (hys.mono (sub_cons (sub_cons (sub_cons sub_refl))))) (.tuple (.head _) .nil) (sub_cons (sub_cons (sub_cons sub_refl))) (off_cons (Ne.symm (Nat.ne_of_lt la.2.1)) (off_cons j2 (off_cons (Ne.symm t2) m2'))) (off_cons (Ne.symm (Nat.ne_of_lt la.2.2.1)) (off_cons j3 (off_cons (Ne.symm t3) m3'))) (off_cons (Ne.symm (Nat.ne_of_lt la.2.2.2.1)) (off_cons j4 (off_cons (Ne.symm t4) m4'))) (off_cons (Ne.symm (Nat.ne_of_lt la.2.2.2.2.1)) (off_cons j1 (off_cons (Ne.symm t1) m1'))) (off_cons (Ne.symm (Nat.ne_of_lt la.2.2.2.2.2.1)) (off_cons j5 (off_cons (Ne.symm t5) m5'))) (.tail _ (.tail _ (.head _)))
              · intro f s' hM
                cases hM with | mk h9' tk9' os2 vS nr3 F11 N12 hos2 hlD hsD hb3 k2 k3 k4 k1 k5 hT3 =>
                (try dsimp only)
                have m12 := hb3 _ m11
                have hal3 := hb3 _ hal2
                have hnl9 := (hw _ hmem).2
                repeat' (k_extra "ktr_rel")
                rename IsRange _ _ _ _ _ _ _ _ => hrg2
                rename News _ _ _ _ => N11
                rename Fr _ _ _ _ => F11
                have N12 := ntake (nx := (ld, ol2) :: (sd, os2) :: (L9 + 1 + 1, og2) :: (L9 + 1, oa) :: (I, oI) :: nr3) N11 (sub_mk (by k_mem) (sub_mk (by k_mem) (sub_mk (by k_mem) (sub_mk (by k_mem) (sub_mk (by k_mem) (by k_extra "tb_rel"))))))
                clear N11
                refine ⟨_, _, _, fun k2 ys2 nx2 => nx2 = (ld, ol2) :: (sd, os2) :: (L9 + 1 + 1, og2) :: (L9 + 1, oa) :: (I, oI) :: nr3 ∧ StrsAre ys2 ((List.range k2).map (atomName tops[k].name)), _, _, src_range0 rfl hrg2 hk0 (by omega), (by simp only [sizeLine_eq]; omega), F11, N12, fun _ _ _ _ => trivial, ⟨rfl, .nil⟩, ?_, ?_⟩
                · rintro k2 v2 ys2 nx2 I2 oI2 C oC D m₂ h9 tk9 E9 R kR hk9 ⟨tv2, rfl⟩ ⟨rfl, hys2⟩ hyl2 hC off9 F13 N13
                  refine assignC (by rfl) (by rfl) off9 hC F13 N13 fun h4 oC4 tk4 hC4 F14 N14 => ?_
                  clear F13 N13 hC
                  have hx' : (fun y => if y = Str.ofString "k" then some (Value.int (k2 : Int) tv2) else m₂ y) (Str.ofString "k") = some (Value.int (k2 : Int) tv2) := by simp
                  generalize (fun y => if y = Str.ofString "k" then some (Value.int (k2 : Int) tv2) else m₂ y) = m₃ at hC4 hx'
                  refine wpAny_pure ?_
                  have hk10 : (k2 : Int).natAbs < 10 ^ 40 := by
                    have : k2 < 500 := by omega
                    omega
                  repeat' (k_extra "ktr_rel")
                  refine CEnd.intro kR (by k_asm) (by k_asm) (by k_extra "tb_rel") hC4 off9.off ⟨rfl, ?_⟩
                  rw [range_map_snoc]
                  exact strs_snoc hys2 _ _
                · rintro ys2 nx2 ⟨rfl, hys2⟩ hyl2
                  intro D9' h9 tk9 F13 N13 o9
                  have hyl3 := hys2.length
                  simp only [List.length_map, List.length_range] at hyl3
                  have oo1 := off_head o9
                  have oo2 := off_head (off_tail o9)
                  have oo3 := off_head (off_tail (off_tail o9))
                  have oo4 := off_head (off_tail (off_tail (off_tail o9)))
                  have oo5 := off_head (off_tail (off_tail (off_tail (off_tail o9))))
                  repeat' (k_extra "ktr_rel")
                  rename Obj => oa3
                  rename Obj.data oa3 = _ => doa3
                  rename D9' < _ ∧ _ => la
                  have hnew := rows_fresh (f := lotDat) hrf
                  have hnew2 := rows_fresh (f := sureDat) hrf
                  refine tend kR (nx := (ld, ol2) :: (sd, os2) :: (L9 + 1 + 1, og2) :: (L9 + 1, oa3) :: _ :: nr3) (by k_asm) (by k_asm) (sub_mk (by k_mem) (sub_mk (by k_mem) (sub_mk (by k_mem) (sub_mk (by k_mem) (sub_mk (by k_mem) (sub_mk (.head _) (by k_extra "tb_rel"))))))) (off_cons y2 (off_cons y3 (off_cons y4 (off_cons y1 (off_cons (Ne.symm (Nat.ne_of_lt la.2.2.2.2.2.1)) k5))))) (DueJ.mk (rows := rows ++ [⟨tops[k].name, atomsN rows, ke.toNat, be⟩]) ⟨rfl, rfl, rfl, rfl, trivial⟩ (fun p hp => .tail _ (hb3 _ (hb2 _ (hb p hp)))) (off_cons (Ne.symm (Nat.ne_of_lt la.2.1)) k2) (off_cons (Ne.symm (Nat.ne_of_lt la.2.2.1)) k3) (off_cons (Ne.symm (Nat.ne_of_lt la.2.2.2.1)) k4) (off_cons (Ne.symm (Nat.ne_of_lt la.2.2.2.2.1)) k1) dg2 doa3 (.head _) ?_ hol2 ?_ hos2 ?_ ?_ ?_ ?_ ?_)
                  · have := strs_dat (nw := []) hvs
                    have h2 := strs_dat (nw := []) hys2
                    have h3 := this.append h2
                    refine strs_of (nw := []) ?_
                    rw [← List.map_append] at h3
                    have e6 : namesOf (rows ++ [⟨tops[k].name, atomsN rows, ke.toNat, be⟩]) = namesOf rows ++ (List.range ke.toNat).map (atomName tops[k].name) := by simp [namesOf, rowNames]
                    rw [e6]
                    exact h3
                  · rw [List.map_append]
                    exact .snoc (hkl.mono fun p hp => .tail _ (hb3 _ (hb2 _ hp))) (hlD.mono (sub_cons sub_refl)) hnew
                  · rw [List.map_append]
                    exact .snoc (hks.mono fun p hp => .tail _ (hb3 _ (hb2 _ hp))) (hsD.mono (sub_cons sub_refl)) hnew2
                  · rw [← hrun]
                    conv => rhs; unfold run
                    rw [if_neg (by omega)]
                  · simp only [List.length_append, List.length_cons, List.length_nil]; omega
                  · rw [atomsN_snoc]; show atomsN rows + ke.toNat ≤ 500; omega
                  · intro r hr
                    rw [htake]
                    rcases List.mem_append.mp hr with h | h
                    · exact List.mem_append.mpr (.inl (hrn r h))
                    · rw [List.mem_singleton.mp h]; exact List.mem_append.mpr (.inr (.head _))
      · rintro m₁ nx h tk hJ F3 N3
        cases hJ with | @mk vs nn al ol os og oa vo kl ks rows nr hm hb hl1 hs1 hO1 hA1 hog hoa hal hvs hol hkl hos hks hrun hrl hra hrn =>
        replace F3 := frov F3 hm
        rw [hvl, List.drop_length] at hrun
        repeat' (k_extra "ktr_rel")
        rename News _ _ _ _ => kN
        exact hret _ _ _ _ (by k_asm) kN ⟨by rw [hH, ← hrun]; exact .ok (.mk (.head _) (by k_mem) hvs (by k_mem) (by assumption) hol (hkl.mono (by k_extra "tb_rel")) (by k_mem) (by assumption) hos (hks.mono (by k_extra "tb_rel"))), fun p hp => .tail _ (.tail _ (.tail _ (.tail _ (.tail _ (hb p hp)))))⟩
    · rename_i hz _ kN _ _
      rw [hbad] at hz
      exact hret _ _ _ _ (by k_asm) kN ⟨by unfold dueRes; rw [if_pos (by simpa using hz)]; exact .scope, by k_extra "tb_rel"⟩
end
end
section
noncomputable def tName (k : Nat) : Str := S "T" ++ Str.ofString (toString (k : Int))
noncomputable def mults : List Str := [S "", S "one", S "lone", S "some", S "", S ""]
noncomputable def letters : Str := S "abc"
noncomputable def letter (j : Nat) : Str := S (["a", "b", "c"].getD j "")
noncomputable def itemsBelow (t : Pk) (l : Nat) : List Item := (List.range l).map fun j => ⟨t.name ++ letter j, false, t.below.getD j (S ""), t.name⟩
noncomputable def itemsOf (t : Pk) : List Item := ⟨t.name, t.abs, t.mult, S ""⟩ :: itemsBelow t t.below.length
structure TopOk (t : Pk) : Prop where
  m : t.mult ∈ mults
  l : t.below.length ≤ 3
  b : ∀ x ∈ t.below, x = S "one" ∨ x = S ""
  a : t.abs = true → t.mult = S "" ∧ t.below ≠ []
  n : t.abs = false → t.below = []
theorem items_len : ∀ (l : List Pk), (∀ t ∈ l, TopOk t) → (l.flatMap itemsOf).length ≤ 4 * l.length
  | [], _ => Nat.zero_le _
  | t :: l, h => by
    have ih := items_len l fun x hx => h x (.tail _ hx)
    have h3 := (h t (.head _)).l
    rw [List.flatMap_cons, List.length_append, List.length_cons]
    have : (itemsOf t).length = t.below.length + 1 := by simp [itemsOf, itemsBelow]
    omega
end
section
theorem w23 : True := by
  k_with_none
  (k_with "omega" => first | decide | with_reducible (first | exact room2 (by assumption) (by decide) | exact room1 (by assumption) (by decide) | exact le_t (by assumption) (by decide) | assumption | exact Nat.ne_of_lt (by assumption) | exact Nat.ne_of_gt (by assumption)) | (law_clear; lia) | omega +splitDisjunctions)
  (k_with "ktr_room" => ((try dsimp +zetaDelta only [ktrTop, Around.deeper, Around.under, Around.in1]); omega))
  (k_with "ktr_units" => ((have hcL9 := cLine_is); (try dsimp +zetaDelta only [ktrTop, Around.deeper, Around.under, Around.in1, Around.mark]); omega))
  (k_with "k_all" => assumption)
  (k_with "tb_rel" => ((repeat (first | exact sub_refl | refine sub_cons ?_)); done))
  (k_with "st" => ((fail_if_success (with_reducible show CEndV _ _ _)); (fail_if_success (with_reducible show TEndV _ _ _)); (fail_if_success (with_reducible show LoopX _ _ _ _ _ _ _ _ _ _ _)); (fail_if_success (with_reducible show CompX _ _ _ _ _ _ _ _ _ _ _ _ _ _)); (first | ((with_reducible show KEnd _ _ _); refine kuse (by with_reducible assumption) ?_) | ((with_reducible show wpAny _ _ (execs (Stmt.Raise _ _ _ :: _) _) _ _ _); exfalso; (first | omega | (simp only [List.size_toArray, List.length_cons] at *; omega))) | ((with_reducible show wpAny _ _ (execs (_ :: _) _) _ _ _); (try dsimp only); walk1) | ((with_reducible show wpAny _ _ (eval (Expr.BinOp _ _ _ _) _) _ _ _); (try dsimp only); walk1) | (k_unfold; (try dsimp only)) | (k_end; wrow_close) | walk1 | (dsimp only; walk1) | (leave1; walk_say "STEP leave1"; try dsimp only) | fail "no step")))
  (k_with "subscriptTail" => (k_here; (with_reducible show wpAny _ _ (subscriptTail _ _ (Value.ref _) (Value.str _ _)) _ _ _); k_dflt (refine kda_item (knd := PySem.strKind _ _) (by k_asm) (by k_mem) (by assumption) (strKind_is _ _ _ _) (by assumption) ?_)))
  (k_with "call builtin:len" => (k_here; k_dflt (first | refine len_list (News.isList (by k_asm) (by k_mem)) (by walk_at "ln") ?_ | refine PyProof.Rows.len_tuple (News.isTup (by k_asm) (by k_mem)) (by walk_at "ln") ?_)))
  (k_with "ln" => (simp only [List.size_toArray, List.length_cons, List.length_append, List.length_nil, List.length_map]; omega))
  (k_with "subscriptTail" => (k_here; (with_reducible show wpAny _ _ (subscriptTail _ _ (Value.ref _) (Value.int _ _)) _ _ _); k_dflt (refine' item_tupleT ?zzt ?zza ?zzb ?zzc ?zzd ?_; (case zzt => exact News.isTup (by k_asm) (by k_mem)); (case zza => decide); (case zzb => decide); (case zzc => rfl); (case zzd => rfl); k_whole)))
  (k_with "call type:tuple" => (k_here; (with_reducible show wpAny _ _ (call (Value.type _) [Value.ref _]) _ _ _); k_dflt (refine call_tuple_tup (News.isTup (by k_asm) (by k_mem)) ?_)))
  (k_with "k_mem" => first | with_reducible assumption | assumption)
  (k_with "call type:list" => (k_here; (with_reducible show wpAny _ _ (call (Value.type "list") [Value.ref _]) _ _ _); k_dflt (refine' kup_listOf ?zzF ?zzN ?zzb ?zze ?_ ?zzz; (case zzF => k_asm); (case zzN => k_asm); (case zzb => k_mem); (case zze => exact rfl); (case zzz => (simp only [sizeLine_eq]; omega))); intro _ _ _ _ _ _))
  (k_with "WhlIf" => (first | refine WhlIf.no (by assumption) ?_ | refine WhlIf.yes (by assumption) ?_))
  (k_with "ktr_unf" => (refine' code_defC ?zzk1 ?zzk2 ?zzk3 ?zzk4 ?zzk5 ?zzkA ?zzkF ?zzkK ?zzk6 ?zzk7 ?zzk8 ?zzk9 ?zzkB ?zzkD ?_ ?zzc2 ?zzc3 ?zzc4; (case zzkA => exact rfl); (case zzkF => exact rfl); (case zzkK => first | assumption | exact rfl); (case zzk1 => k_asm); (case zzk2 => k_asm); (case zzk3 => k_asm); (case zzk4 => k_asm); (case zzk5 => k_asm); (case zzk6 => k_is); (case zzk7 => k_is); (case zzk8 => ktr_room); (case zzk9 => exact BindsTo.of_eq rfl); (case zzkB => exact rfl); (case zzkD => decide +kernel); (case zzc2 => exact rfl); (case zzc3 => exact rfl); (case zzc4 => exact rfl); k_whole; walk_at "i1"))
  (k_with "eval ListComp" => (k_here; k_dflt (refine ListComp_X (by k_asm) (by rfl) (by decide) (by rfl) (by decide) ?_)))
  (k_with "exec Assign cons ListComp" => (k_here; k_dflt (refine Assign_ListComp_X (by k_asm) (by with_unfolding_all rfl) (by rfl) (by decide) (by rfl) (by decide) (by rfl) (by rfl) ?_)))
  (k_with "exec For Name Name cons nil" => walk_at "fx")
  (k_with "exec For Name Call cons nil" => walk_at "fx")
  (k_with "exec For Name Subscript cons nil" => walk_at "fx")
  (k_with "exec For Name Attribute cons nil" => walk_at "fx")
  (k_with "exec For Name IfExp cons nil" => walk_at "fx")
  (k_with "exec For Tuple Name cons nil" => walk_at "fx")
  (k_with "exec For Tuple Call cons nil" => walk_at "fx")
  (k_with "exec For Tuple Subscript cons nil" => walk_at "fx")
  (k_with "exec For Tuple Attribute cons nil" => walk_at "fx")
  (k_with "compareOp In str ref" => (k_here; k_dflt (first | refine in_no (by k_asm) (by k_mem) (by assumption) (by assumption) (by assumption) ?_ | refine in_yes (by k_asm) (by k_mem) (by assumption) (by assumption) (by assumption) ?_)))
  (k_with "compareOp NotIn str ref" => (k_here; k_dflt (refine notin_no (by k_asm) (by k_mem) (by assumption) (by assumption) (by assumption) ?_)))
  (k_with "setItem ref str" => (k_here; k_dflt (refine' kda_set (knd := PySem.strKind _ _) ?zzF ?zzN ?zzU ?zzd (strKind_is _ _ _ _) ?zzz ?_; (case zzF => k_asm); (case zzN => k_asm); (case zzU => k_updF); (case zzd => assumption); (case zzz => (simp only [sizeLine_eq]; omega))); intro _ _ _ zzN zzhd; (try dsimp only at zzN); (revert zzN zzhd; intro _ _)))
  (k_with "k_ne" => first | assumption | exact Ne.symm (by assumption))
  (k_with "getAttr ref" => (k_here; k_dflt (refine' get_own ?zzk1 ?zzk2 ?zzk3 ?zzk4 ?zzk5 ?zzk6 ?zzk7 ?zzk8 ?zzk9 ?_; (case zzk1 => k_asm); (case zzk2 => k_asm); (case zzk3 => k_inst); (case zzk4 => k_is); (case zzk5 => k_is); (case zzk6 => k_is); (case zzk7 => k_is); (case zzk8 => first | assumption | k_get); (case zzk9 => k_handed); k_whole)))
  (k_with "getMethod ref" => (k_here; k_dflt (refine' method_inst ?zzk1 ?zzk2 ?zzk3 ?zzk4 ?zzk5 ?zzk6 ?zzk7 ?_; (case zzk1 => k_asm); (case zzk2 => k_asm); (case zzk3 => k_inst); (case zzk4 => k_is); (case zzk5 => k_is); (case zzk6 => k_is); (case zzk7 => first | assumption | k_get); k_whole)))
  (k_with "k_ne" => first | with_reducible assumption | with_reducible exact Ne.symm (by assumption) | exact ne_l1 (by assumption) (by k_mem) | exact ne_l2 (by assumption) (by k_mem) | exact ne_o1 (by assumption) (by k_mem) | exact ne_o2 (by assumption) (by k_mem))
  (k_with "k_all" => first | with_reducible assumption | exact off_l1 (by assumption) (by k_extra "tb_rel") | exact off_o1 (by assumption) (by k_extra "tb_rel"))
  (k_with "ktr_rel" => ((fail_if_success (with_reducible show wpAny _ _ (exec (Stmt.While _ _ _ _) _) _ _ _)); walk_at "st"))
  (k_with "compareOp NotIn str ref" => (k_here; k_dflt (refine notin_list_strs (News.isList (by k_asm) (by k_mem)) (by assumption) ?_)))
  (k_with "compareOp Eq ref ref" => (k_here; k_dflt (refine' eq_empty ?zzN ?zza ?zzb ?zzd ?zzo ?zzu ?_; (case zzN => k_asm); (case zza => k_mem); (case zzb => k_mem); (case zzd => assumption); (case zzo => assumption); (case zzu => (dsimp +zetaDelta only [ktrTop, Around.deeper, Around.under, Around.in1]; (have hcL9 := cLine_is); omega)))))
  (k_with "subscriptTail Name Slice ref ref" => (k_here; k_dflt (refine' slice15 ?zzF ?zzN ?zzt ?_; (case zzF => k_asm); (case zzN => k_asm); (case zzt => exact News.isTup (by k_asm) (by k_mem))); intro _ _ _ _))
  (k_with "call ref" => (k_here; (with_reducible show wpAny _ _ (call (Value.ref _) _) _ _ _); k_dflt (refine' Spec.c (by k_asm) (by k_asm) (by k_asm) (by k_asm) (by k_asm) (by first | exact rfl | assumption) ?zzh ?zzD ?zzU ?_; (case zzh => walk_at "spec"); (case zzD => ktr_room); (case zzU => ktr_room)); walk_at "i2"))
  (k_with "call ref" => (k_here; (with_reducible show wpAny _ _ (call (Value.ref _) _) _ _ _); k_dflt (refine' Spec.ck (by k_asm) (by k_asm) (by k_asm) (by k_asm) (by k_asm) (by first | exact rfl | assumption) ?zzh ?zzel ?zzD ?zzU ?_; (case zzh => walk_at "spec"); (case zzel => walk_at "el"); (case zzD => ktr_room); (case zzU => ktr_room)); intros; (first | intro zzN | rename News _ _ _ _ => zzN); (try dsimp only at zzN); (revert zzN; intro _); (try dsimp only); (try k_sweep)))
  (k_with "el" => (first | exact RStr.el | exact RInt.el | exact RBool.el | exact NextRet.el | exact RTup0.el | exact RTup.el | exact RNil.el | exact ROne.el | exact RLst.el | exact NamesRet.el | exact ChRet.el | exact SizesRet.el))
  (k_with "spec" => (exact nextF_spec (by k_updF) (by assumption) (by omega) (by k_mem) (by first | decide | ((try simp only [List.size_toArray]); omega))))
  (k_with "fx" => (k_here; k_dflt (refine For_X (by k_asm) ?_)))
  (k_with "callWith" => (first | with_reducible refine PyProof.Rows.callWith_method0 ?_ | ((with_reducible refine' PyProof.Rows.callWith_builtin1 ?_ ?zzcwe ?zzcwp); (case zzcwe => rfl); (case zzcwp => rfl)) | ((with_reducible refine' PyProof.Rows.callWith_method1 ?_ ?zzcwe ?zzcwp); (case zzcwe => rfl); (case zzcwp => rfl))))
  (k_with "subscriptTail Name Constant ref int" => (first | (k_extra "subscriptTail") | (k_here; (with_reducible show wpAny _ _ (subscriptTail _ _ (Value.ref _) (Value.int _ _)) _ _ _); (with_unfolding_all refine' item_litK ?zzk1 ?zzk2 ?zzk3 ?zzk4 ?_ ?zzk6; (case zzk1 => is_list); (case zzk2 => decide); (case zzk3 => decide); (case zzk4 => rfl); (case zzk6 => with_unfolding_all rfl); k_whole))))
  (k_with "subscriptTail Name BinOp ref int" => (k_extra "subscriptTail"))
  (k_with "subscriptTail Name Name ref int" => (k_extra "subscriptTail"))
  (k_with "subscriptTail Name UnaryOp ref int" => (k_extra "subscriptTail"))
  (k_with "joinParts" => (k_here; (with_reducible refine' join_end ?zzjez ?_); (case zzjez => kt_le)))
  (k_with "exec Raise some none" => (k_here; k_dflt (refine raise_X (by k_asm) (by k_asm) (by rfl) ?_)))
  (k_with "RaiseEnd" => (refine ⟨_, _, _, _, _, _, rfl, ?zzC, by k_asm, by k_asm, by k_mem, ?_⟩; (case zzC => first | exact .inl rfl | exact .inr rfl)))
  (k_with "leaving ref" => (k_here; k_dflt (first | (refine' leave_excK ?zzkk ?zzK rfl ?zzhk ?zzF ?zzN ?zzhe ?zzht ?zzhs ?zzhne ?zzhnt ?zzhsub ?_; (case zzkk => assumption); (case zzK => assumption); (case zzhk => rfl); (case zzF => k_asm); (case zzN => k_asm); (case zzhe => k_mem); (case zzht => k_mem); (case zzhs => assumption); (case zzhne => assumption); (case zzhnt => assumption); (case zzhsub => ((repeat (first | exact sub_refl | assumption | refine sub_cons ?_)); done))) | (refine' leave_onK2 ?zzkk ?zzK rfl ?zzF ?zzR ?zzU ?_; (case zzkk => assumption); (case zzR => assumption); (case zzF => assumption); (case zzK => assumption); (case zzU => assumption))); intro _ zzR zzU; (try dsimp only at zzR zzU ⊢); (revert zzR zzU; intro _ _)))
  (k_with "formatField str" => (k_here; (refine' PyProof.Rows.formatField_str ?_ ?zzz; (case zzz => (simp only [sizeLine_eq]; omega))); intro _ _))
  (k_with "call type:tuple" => (k_here; (with_reducible show wpAny _ _ (call (Value.type _) [Value.ref _]) _ _ _); k_dflt (refine' kde_tupleOf ?zzk1 ?zzk2 ?zzk3 ?zzk4 ?zzk5 ?_; (case zzk1 => k_asm); (case zzk2 => k_asm); (case zzk3 => exact News.isList (by k_asm) (by k_mem)); (case zzk4 => (simp only [List.size_toArray]; omega)); (case zzk5 => exact List.toList_toArray _); k_whole); intro _ _ _ _ zzl1; (try k_lt zzl1); (revert zzl1; intro _)))
  (k_with "newTuple" => (k_here; k_dflt (refine' newTuple_L ?zzk1 ?zzk2 ?zzk3 ?_; (case zzk1 => k_asm); (case zzk2 => k_asm); (case zzk3 => (simp only [sizeLine_eq, List.length_cons, List.length_nil]; omega))); intro _ _ _ _ zzl1; (try k_lt zzl1); (revert zzl1; intro _)))
  (k_with "setItem ref str" => (k_here; k_dflt (refine' dset_new ?zzF ?zzN ?zzU ?zzd ?zzn ?zzz ?_; (case zzF => k_asm); (case zzN => k_asm); (case zzU => k_updF); (case zzd => assumption); (case zzn => assumption); (case zzz => omega)); intro _ _ _ zzN zzhd zzhv; (try dsimp only at zzN); (revert zzN zzhd zzhv; intro _ _ _)))
  (k_with "call builtin:list.extend" => (k_here; (with_reducible show wpAny _ _ (call (Value.builtin _) [Value.ref _, Value.ref _]) _ _ _); k_dflt (refine' ext_L ?zzF ?zzN ?zzb ?zzU ?zzz ?zzy ?_; (case zzF => k_asm); (case zzN => k_asm); (case zzb => k_mem); (case zzU => k_updF); (case zzz => omega); (case zzy => omega)); intro _ _ _ zzN; (try dsimp only at zzN); (revert zzN; intro _)))
  (k_with "compareOp NotEq ref ref" => (k_here; k_dflt (refine' ne_nil ?zzN ?zza ?zzb ?zzu ?_; (case zzN => k_asm); (case zza => k_mem); (case zzb => k_mem); (case zzu => (dsimp +zetaDelta only [ktrTop, Around.deeper, Around.under, Around.in1]; (have hcL9 := cLine_is); omega)))))
  trivial
section
variable {w : World} {loose : List Str} {mean : ExcName → Option Value} {mg mb : Str → Option Value} {news : Led}
noncomputable def sizeVals : List Int := [-1, 0, 1, 2, 3, 166, 250, 251, 333, 499, 500, 501, 10 ^ 30]
inductive SizesRet (news : Led) : Value → Led → Prop
  | mk (T : Addr) (n : Nat) (vs : List Value) (hI : IntsAre vs sizeVals) (o : ∀ p ∈ news, p.1 ≠ T) : SizesRet news (.ref T) ((T, tupObj vs n) :: news)
theorem SizesRet.el {nw : Led} : ∀ K : Value → Led → Prop, (∀ T n vs, IntsAre vs sizeVals → (∀ p ∈ nw, p.1 ≠ T) → K (.ref T) ((T, tupObj vs n) :: nw)) → ∀ r n, SizesRet nw r n → K r n := fun _ k _ _ h => by cases h; exact k _ _ _ (by assumption) (by assumption)
theorem sizes_spec : Spec w loose mean mg mb 10 64 (.ref 427) [] news (SizesRet news) None2 := by
  unfold Spec
  k_fill
  intro dp un gd cn cs a ccd cl outer A₀ base h₀ L m s Q E B F X N T hk hR hok hret hexc
  refine wpAny_call ?_
  k_dflt ktr_enter
  repeat' (k_extra "ktr_rel")
  rename News _ _ _ _ => kN
  rename ∀ p ∈ news, p.1 < _ => l9
  exact hret _ _ _ _ (by k_asm) kN ⟨_, _, _, .cons _ _ (.cons _ _ (.cons _ _ (.cons _ _ (.cons _ _ (.cons _ _ (.cons _ _ (.cons _ _ (.cons _ _ (.cons _ _ (.cons _ _ (.cons _ _ (.cons _ _ .nil)))))))))))), fun p hp => Nat.ne_of_lt (l9 p hp)⟩
section
open PySem.Calls PySem.Spec
variable {A : Around} {E : Value → Shared → Prop} {s : Shared} {h₀ : Heap} {L T : Addr} {m : Str → Option Value} {vs : List Value} {n : Nat} {k : Int} {u : Tok}
theorem size_item {value slice : Expr} {Q : Value → Shared → Prop} (N : News h₀ L s.heap news) (hm : (T, tupObj vs n) ∈ news) (hI : IntsAre vs sizeVals) (h0 : 0 ≤ k) (h1 : k < 13) (h : ∀ t z, z ∈ sizeVals → Q (.int z t) s)
    (hs : subscripted slice false (.ref T) (.int k u) = operate [.ref T, .int k u] (getItem (.ref T) (.int k u)) := by with_unfolding_all rfl) (hg : ∀ r, letTemporaryGo value (.ref T) r = pure () := by intro _; with_unfolding_all rfl) :
    wpAny (model PG w) A (subscriptTail value slice (.ref T) (.int k u)) Q E s :=
  item_tuple_ints (News.isTup N hm) hI h0 (by show k < (13 : Int); exact h1) (by omega) (fun t => h t _ (by
    have hl : sizeVals.length = 13 := rfl
    have : k.toNat < sizeVals.length := by omega
    rw [List.getD_eq_getElem?_getD, List.getElem?_eq_getElem this]
    exact List.getElem_mem this)) hs hg
end
theorem w24 : True := by
  (k_with "subscriptTail" => (k_here; (with_reducible show wpAny _ _ (subscriptTail _ _ (Value.ref _) (Value.int _ _)) _ _ _); k_dflt (refine' size_item ?zzN ?zzm ?zzI ?zza ?zzb ?_; (case zzN => k_asm); (case zzm => k_mem); (case zzI => assumption); (case zza => assumption); (case zzb => assumption)); intro _ _ _))
  (k_with "spec" => (exact sizes_spec))
  (k_with "spec" => (exact nextF_spec (by k_updF) (by assumption) (by omega) (by k_mem) (by first | decide | ((try simp only [List.size_toArray]); omega))))
  trivial
noncomputable def sigs2 (l : List Pk) : List Str := l.flatMap fun t => [t.name, t.name ++ S "a"]
theorem sigs2_snoc (l : List Pk) (t : Pk) : sigs2 (l ++ [t]) = sigs2 l ++ [t.name, t.name ++ S "a"] := by simp [sigs2]
structure TellOk (tops : List Pk) (t : Tell) : Prop where
  ok : (t.sig = S "Int" ∧ t.number = 3) ∨ (∃ p ∈ tops, t.sig = p.name ∧ t.number ∈ sizeVals ∧ (p.mult = S "lone" → t.exact = false)) ∨ (∃ p ∈ tops, p.below ≠ [] ∧ t.sig = p.name ++ S "a" ∧ 0 ≤ t.number ∧ t.number < 4)
theorem told_mono {n1 n2 : Led} {vs : List Value} {told : List Tell} (h : DatAll n1 vs (told.map Tell.dat)) (hs : ∀ p ∈ n1, p ∈ n2) : DatAll n2 vs (told.map Tell.dat) := h.mono hs
theorem told_snoc {n1 : Led} {vs : List Value} {told : List Tell} {T : Addr} {n : Nat} {b : Bool} {k : Int} {x : Str} {t1 t2 : Tok} (h : DatAll n1 vs (told.map Tell.dat)) (hm : (T, tupObj [.bool b, .int k t1, .str x t2] n) ∈ n1) : DatAll n1 (vs ++ [.ref T]) ((told ++ [(⟨b, k, x⟩ : Tell)]).map Tell.dat) := by
  rw [List.map_append]
  exact h.append (.one (.tuple hm (.cons (.bool _) (.cons (.int _ _) (.one (.str _ _))))))
inductive ScRet (w : World) (d c : Addr) (vs : List Value) (k0 : Nat) (rest : Led) (tops : List Pk) : Value → Led → Prop
  | mk (sc : Addr) (o' : Obj) (k1 : Nat) (nx : Led) (s0 : Sc) (hb : ∀ p ∈ rest, p ∈ nx) (hd1 : ∀ p ∈ nx, p.1 ≠ d) (hF : Fd w d c vs o' k1) (hk : k1 ≤ k0 + 60) (hsc : DatIn nx (.ref sc) s0.dat) (hz : s0.default ∈ sizeVals) (hl : s0.told.length ≤ 21)
      (hsub : (s0.told.map Tell.sig).Sublist (sigs2 tops ++ [S "Int"])) (hok : ∀ t ∈ s0.told, TellOk tops t) : ScRet w d c vs k0 rest tops (.ref sc) ((d, o') :: nx)
inductive ScJ (w : World) (d c : Addr) (vs : List Value) (k0 : Nat) (tl : Addr) (z : Int) (tz : Tok) (rest : Led) (tops : List Pk) (k : Nat) (m : Str → Option Value) : Led → Prop
  | mk (hm : Kn m [(S "feed", .ref d), (S "told", .ref tl), (S "default", .int z tz)]) (vl : List Value) (nl : Nat) (o' : Obj) (j : Nat) (told : List Tell) (nr : Led) (hb : ∀ p ∈ rest, p ∈ nr) (hd1 : ∀ p ∈ nr, p.1 ≠ d) (hl1 : ∀ p ∈ nr, p.1 ≠ tl) (hF : Fd w d c vs o' j) (hj : j ≤ k0 + 1 + 5 * k)
      (hdat : DatAll nr vl (told.map Tell.dat)) (htl : told.length ≤ 2 * k) (hsub : (told.map Tell.sig).Sublist (sigs2 (tops.take k))) (hok : ∀ t ∈ told, TellOk tops t) : ScJ w d c vs k0 tl z tz rest tops k m ((tl, listOf vl.toArray nl) :: (d, o') :: nr)
inductive ScC (w : World) (d c : Addr) (vs : List Value) (k0 : Nat) (tl : Addr) (z : Int) (tz : Tok) (tops : List Pk) (k : Nat) (nr : Led) (s : Shared) (g : Heap) (L I : Addr) (oI : Obj) (nm : Str) (tp1 : Tok) (bp : Addr) : Flow → Shared → Prop
  | mk (h' : Heap) (tk : Nat) (m' : Str → Option Value) (o' : Obj) (j' : Nat) (vl' : List Value) (nl' : Nat) (told' : List Tell) (nr' : Led) (F : Fr g L h' m') (N : News g L h' ((I, oI) :: (tl, listOf vl'.toArray nl') :: (d, o') :: nr')) (hb : ∀ p ∈ nr, p ∈ nr') (hd1 : ∀ p ∈ nr', p.1 ≠ d) (hl1 : ∀ p ∈ nr', p.1 ≠ tl) (hI : ∀ p ∈ nr', p.1 ≠ I) (hF : Fd w d c vs o' j') (hj : j' ≤ k0 + 1 + 5 * k + 3)
      (hdat : DatAll nr' vl' (told'.map Tell.dat)) (htl : told'.length ≤ 2 * k + 1) (hsub : (told'.map Tell.sig).Sublist (sigs2 (tops.take k) ++ [nm])) (hok : ∀ t ∈ told', TellOk tops t) (hm : Kn m' [(S "feed", .ref d), (S "told", .ref tl), (S "default", .int z tz), (S "name", .str nm tp1), (S "below", .ref bp)]) :
      ScC w d c vs k0 tl z tz tops k nr s g L I oI nm tp1 bp .next { s with heap := h', toks := tk }
theorem scopelaw_spec {d c tp : Addr} {o : Obj} {rest : Led} {vs : List Value} {nc k0 : Nat} {vtp : List Value} {ntp : Nat} {tops : List Pk}
    (hd : ∀ p ∈ rest, p.1 ≠ d) (hF : Fd w d c vs o k0) (hk : k0 ≤ 1000) (hc : (c, listOf vs.toArray nc) ∈ rest) (htp : (tp, listOf vtp.toArray ntp) ∈ rest) (hts : DatAll rest vtp (tops.map Pk.dat)) (hlen : tops.length ≤ 10) (hw : ∀ t ∈ tops, t.below.length ≤ 10 ∧ t.name.length ≤ 100) :
    Spec w loose mean mg mb 60 900 (.ref 446) [.ref d, .ref tp] ((d, o) :: rest) (ScRet w d c vs k0 rest tops) None2 := by
  unfold Spec
  k_fill
  intro dp un gd cn cs a ccd cl outer A₀ base h₀ L m s Q E B F X N T hk hR hok hret hexc
  refine wpAny_call ?_
  k_dflt ktr_enter
  rename Fr _ _ _ _ => F1
  replace F1 : Fr _ _ _ (fun y => List.lookup y [(Str.ofString "tops", Value.ref tp), (Str.ofString "feed", Value.ref d)]) := F1
  refine opq (by passes_own) ?_
  intro A9 R9 E9 kR9 kE9 pE9
  rename Fr _ _ _ _ => F1
  rename News _ _ _ _ => N1
  rename_i g9 L9 _ _ _ _ _
  repeat' (k_extra "ktr_rel")
  rename_i tk tl _ ltl _ _ Ts ns vss hIs os1 _ _ _ _ o1 _ _ hF1 tz z hz Dt _ lDt _ _ _ F9 N9
  have hvl := hts.length
  simp only [List.length_map] at hvl
  have N0 := ntake N9 (nx := (tl, listOf ([] : List Value).toArray 0) :: (d, o1) :: rest) (sub_mk (by k_mem) (sub_mk (by k_mem) (by k_extra "tb_rel")))
  have hl0 : ∀ p ∈ rest, p.1 ≠ tl := allLt_off ltl.2
  have hdl : d ≠ tl := Nat.ne_of_lt ltl.1
  refine ⟨_, _, _, fun k m nx => ScJ w d c vs k0 tl z tz rest tops k m nx,
    _, _, src_list rfl N0 (.tail _ (.tail _ htp)), F9, N0, ?_, ⟨⟨rfl, rfl, rfl, trivial⟩, [], 0, o1, _, [], rest, sub_refl, hd, hl0, hF1, by omega, .nil, Nat.zero_le _, List.Sublist.refl _, fun _ h => nomatch h⟩, ?_, ?_⟩
  · rintro k m nx ⟨-, vl, nl, o', j, told, nr, hb, -⟩
    exact .tail _ (.tail _ (hb _ htp))
  · rintro k v m₁ nx h tk I oI R kR hk hv ⟨hm, vl, nl, o2, j, told, nr, hb, hd1, hl1, hF2, hj, hdat, htl, hsub, hok1⟩ off F3 N3
    replace F3 := frov F3 hm
    have hdv := datAt hts hv (by simp only [List.length_map]; omega)
    have hkl9 : k < tops.length := by omega
    simp only [List.getElem_map] at hdv
    have hmem : tops[k] ∈ tops := List.getElem_mem hkl9
    have htake : tops.take (k + 1) = tops.take k ++ [tops[k]] := by rw [List.take_add_one, List.getElem?_eq_getElem hkl9]; rfl
    have hsg : sigs2 (tops.take (k + 1)) = sigs2 (tops.take k) ++ [tops[k].name, tops[k].name ++ S "a"] := by rw [htake, sigs2_snoc]
    cases pk_open hdv with | @mk ap bp np nbp tp1 tp2 vb m1 m2 m3 =>
    have hvb := m3.length
    have m10 := hb _ m1
    have m20 := hb _ m2
    have hc0 := hb _ hc
    have y1 : tl ≠ I := off_head off
    have y2 : d ≠ I := off_head (off_tail off)
    have y5 := off_tail (off_tail off)
    have hvll : vl.length ≤ 20 := by have := hdat.length; simp only [List.length_map] at this; omega
    repeat' ((fail_if_success (with_reducible show wpAny _ _ (exec (Stmt.If _ _ _ _) _) _ _ _)); k_extra "ktr_rel")
    refine wpAny_mono (Q := fun f s' => Cut (ScC w d c vs k0 tl z tz tops k nr s g9 L9 I oI tops[k].name tp1 bp f s')) ?_ ?_ (fun _ _ e => e)
    · repeat' (k_extra "ktr_rel")
      all_goals (
        rename Fd w d c vs _ _ => hF5
        rename News _ _ _ _ => N5
        rename Fr _ _ _ _ => F5
        (try rw [List.push_toArray] at N5)
        first
        | exact ⟨_, _, _, _, _, vl, nl, told, nr, F5, N5, sub_refl, hd1, hl1, y5, hF5, by omega, hdat, by omega, hsub.trans (List.sublist_append_left _ _), hok1, ⟨rfl, rfl, rfl, rfl, rfl, trivial⟩⟩
        | (rename _ ∈ sizeVals => hz5
           rename _ < _ ∧ _ => la
           refine ⟨_, _, _, _, _, _, _, told ++ [⟨_, _, tops[k].name⟩], _ :: nr, F5, ntake N5 (sub_mk (by k_mem) (sub_mk (by k_mem) (sub_mk (by k_mem) (sub_mk (.head _) (by k_extra "tb_rel"))))), sub_cons sub_refl, off_cons (Ne.symm (Nat.ne_of_lt la.2.2.2.1)) hd1, off_cons (Ne.symm (Nat.ne_of_lt la.2.2.1)) hl1, off_cons (Ne.symm (Nat.ne_of_lt la.2.1)) y5, hF5, by omega, told_snoc (told_mono hdat (sub_cons sub_refl)) (.head _), ?_, ?_, ?_, ⟨rfl, rfl, rfl, rfl, rfl, trivial⟩⟩
           · simp only [List.length_append, List.length_cons, List.length_nil]; omega
           · rw [List.map_append]; exact hsub.append (List.Sublist.refl _)
           · intro t ht
             rcases List.mem_append.mp ht with h | h
             · exact hok1 t h
             · rw [List.mem_singleton.mp h]
               refine ⟨.inr (.inl ⟨_, hmem, rfl, hz5, fun hm => ?_⟩)⟩
               first | exact bne_eq_false_iff_eq.mpr hm | exact beq_eq_false_iff_ne.mpr (by assumption)))
    rintro f s' ⟨h2, tk2, m8, o3, j3, vl3, nl3, told3, nr3, F5, N5, hb3, hd3, hl3, hI3, hF3, hj3, hdat3, htl3, hsub3, hok3, hm8⟩
    replace F5 := frov F5 hm8
    clear hF2
    have m30 := hb3 _ m20
    have hc3 := hb3 _ hc0
    have hvl3 : vl3.length ≤ 30 := by have := hdat3.length; simp only [List.length_map] at this; omega
    have hnl9 := (hw _ hmem).2
    repeat' (k_extra "ktr_rel")
    all_goals (
      rename Fd w d c vs _ _ => hF5
      rename News _ _ _ _ => N5
      (try rw [List.push_toArray] at N5)
      first
      | exact tend kR (nx := (tl, listOf vl3.toArray nl3) :: (d, _) :: nr3) (by k_asm) (by k_asm) (sub_mk (by k_mem) (sub_mk (by k_mem) (sub_mk (by k_mem) (by k_extra "tb_rel")))) (off_cons y1 (off_cons y2 hI3)) ⟨⟨rfl, rfl, rfl, trivial⟩, vl3, nl3, _, _, told3, nr3, fun p hp => hb3 _ (hb _ hp), hd3, hl3, hF5, by omega, hdat3, by omega, by rw [hsg]; exact hsub3.trans ((List.Sublist.refl _).append ((List.nil_sublist _).cons_cons _)), hok3⟩
      | (rename _ < _ ∧ _ => la
         rename List.isEmpty vb = false => hne
         refine tend kR (nx := (tl, listOf (vl3 ++ [_]).toArray _) :: (d, _) :: _ :: nr3) (by k_asm) (by k_asm) (sub_mk (by k_mem) (sub_mk (by k_mem) (sub_mk (by k_mem) (sub_mk (.head _) (by k_extra "tb_rel"))))) (off_cons y1 (off_cons y2 (off_cons (Ne.symm (Nat.ne_of_lt la.2.1)) hI3))) ⟨⟨rfl, rfl, rfl, trivial⟩, _, _, _, _, told3 ++ [⟨true, _, _⟩], _ :: nr3, fun p hp => .tail _ (hb3 _ (hb _ hp)), off_cons (Ne.symm (Nat.ne_of_lt la.2.2.2.1)) hd3, off_cons (Ne.symm (Nat.ne_of_lt la.2.2.1)) hl3, hF5, by omega, told_snoc (told_mono hdat3 (sub_cons sub_refl)) (.head _), ?_, ?_, ?_⟩
         · simp only [List.length_append, List.length_cons, List.length_nil]; omega
         · rw [List.map_append, hsg]
           have := hsub3.append (List.Sublist.refl [tops[k].name ++ S "a"])
           rw [List.append_assoc] at this
           exact this
         · intro t ht
           rcases List.mem_append.mp ht with h | h
           · exact hok3 t h
           · rw [List.mem_singleton.mp h]
             refine ⟨.inr (.inr ⟨_, hmem, fun hz => ?_, rfl, by assumption, by assumption⟩)⟩
             rw [hz] at hvb
             rw [List.eq_nil_of_length_eq_zero hvb] at hne
             exact absurd hne (by decide)))
  · rintro m₁ nx h tk ⟨hm, vl, nl, o2, j, told, nr, hb, hd1, hl1, hF2, hj, hdat, htl, hsub, hok1⟩ F3 N3
    replace F3 := frov F3 hm
    have hc0 := hb _ hc
    have hvll : vl.length ≤ 20 := by have := hdat.length; simp only [List.length_map] at this; omega
    rw [hvl, List.take_length] at hsub
    repeat' ((fail_if_success (with_reducible show wpAny _ _ (call (Value.type _) [Value.ref tl]) _ _ _)); k_extra "ktr_rel")
    · rename News _ _ _ _ => N5
      rename _ < _ ∧ _ => la
      rename Fd w d c vs _ _ => hF5
      rw [List.push_toArray] at N5
      refine' kde_tupleOf (zs := vl ++ [_]) ?k1 N5 ?k3 ?k4 ?k5 ?_
      (case k1 => k_asm)
      (case k3 => exact News.isList N5 (by k_mem))
      (case k4 => (simp only [List.size_toArray, List.length_append, List.length_cons, List.length_nil]; omega))
      (case k5 => exact List.toList_toArray)
      intro D3 h3 F10 N10 l10
      repeat' (k_extra "ktr_rel")
      rename News _ _ _ _ => kN
      rename D3 < _ ∧ _ => lb
      refine hret _ ((d, _) :: (_, tupObj [.int z tz, .ref D3] 0) :: (D3, tupObj (vl ++ [_]) 0) :: (_, tupObj [.bool false, .int 3 _, .str (S "Int") _] 0) :: nr) _ _ (by k_asm) (ntake kN (sub_mk (by k_mem) (sub_mk (.head _) (sub_mk (by k_mem) (sub_mk (by k_mem) (by k_extra "tb_rel")))))) ⟨_, _, _, _, ⟨z, told ++ [⟨false, 3, S "Int"⟩]⟩, fun p hp => .tail _ (.tail _ (.tail _ (hb p hp))), off_cons (Ne.symm (Nat.ne_of_lt lb.2.2.2.1)) (off_cons (Ne.symm (Nat.ne_of_lt (l10 (d, _) (.tail _ (.tail _ (.head _)))))) (off_cons (Ne.symm (Nat.ne_of_lt la.2.1)) hd1)), hF5, by omega, .tuple (.head _) (.cons (.int _ _) (.one (.tuple (.tail _ (.head _)) (told_snoc (told_mono hdat (sub_cons (sub_cons (sub_cons sub_refl)))) (.tail _ (.tail _ (.head _))))))), hz, ?_, ?_, ?_⟩
      · simp only [List.length_append, List.length_cons, List.length_nil]; omega
      · rw [List.map_append]; exact hsub.append (List.Sublist.refl _)
      · intro t ht
        rcases List.mem_append.mp ht with h | h
        · exact hok1 t h
        · rw [List.mem_singleton.mp h]
          exact ⟨.inl ⟨rfl, rfl⟩⟩
    · rename News _ _ _ _ => N5
      rename Fd w d c vs _ _ => hF5
      refine' kde_tupleOf (zs := vl) ?k1 N5 ?k3 ?k4 ?k5 ?_
      (case k1 => k_asm)
      (case k3 => exact News.isList N5 (by k_mem))
      (case k4 => (simp only [List.size_toArray]; omega))
      (case k5 => exact List.toList_toArray)
      intro D3 h3 F10 N10 l10
      repeat' (k_extra "ktr_rel")
      rename News _ _ _ _ => kN
      rename D3 < _ ∧ _ => lb
      refine hret _ ((d, _) :: (_, tupObj [.int z tz, .ref D3] 0) :: (D3, tupObj vl 0) :: nr) _ _ (by k_asm) (ntake kN (sub_mk (by k_mem) (sub_mk (.head _) (sub_mk (by k_mem) (by k_extra "tb_rel"))))) ⟨_, _, _, _, ⟨z, told⟩, fun p hp => .tail _ (.tail _ (hb p hp)), off_cons (Ne.symm (Nat.ne_of_lt lb.2.2.1)) (off_cons (Ne.symm (Nat.ne_of_lt (l10 (d, _) (.tail _ (.head _))))) hd1), hF5, by omega, .tuple (.head _) (.cons (.int _ _) (.one (.tuple (.tail _ (.head _)) (told_mono hdat (sub_cons (sub_cons sub_refl)))))), hz, by show told.length ≤ 21; omega, hsub.trans (List.sublist_append_left _ _), hok1⟩
end
end
section
theorem w25 : True := by
  k_with_none
  (k_with "omega" => first | decide | with_reducible (first | exact room2 (by assumption) (by decide) | exact room1 (by assumption) (by decide) | exact le_t (by assumption) (by decide) | assumption | exact Nat.ne_of_lt (by assumption) | exact Nat.ne_of_gt (by assumption)) | (law_clear; lia) | omega +splitDisjunctions)
  (k_with "ktr_room" => ((try dsimp +zetaDelta only [ktrTop, Around.deeper, Around.under, Around.in1]); omega))
  (k_with "ktr_units" => ((have hcL9 := cLine_is); (try dsimp +zetaDelta only [ktrTop, Around.deeper, Around.under, Around.in1, Around.mark]); omega))
  (k_with "k_all" => assumption)
  (k_with "tb_rel" => ((repeat (first | exact sub_refl | refine sub_cons ?_)); done))
  (k_with "st" => ((fail_if_success (with_reducible show CEndV _ _ _)); (fail_if_success (with_reducible show TEndV _ _ _)); (fail_if_success (with_reducible show LoopX _ _ _ _ _ _ _ _ _ _ _)); (fail_if_success (with_reducible show CompX _ _ _ _ _ _ _ _ _ _ _ _ _ _)); (first | ((with_reducible show KEnd _ _ _); refine kuse (by with_reducible assumption) ?_) | ((with_reducible show wpAny _ _ (execs (Stmt.Raise _ _ _ :: _) _) _ _ _); exfalso; (first | omega | (simp only [List.size_toArray, List.length_cons] at *; omega))) | ((with_reducible show wpAny _ _ (execs (_ :: _) _) _ _ _); (try dsimp only); walk1) | ((with_reducible show wpAny _ _ (eval (Expr.BinOp _ _ _ _) _) _ _ _); (try dsimp only); walk1) | (k_unfold; (try dsimp only)) | (k_end; wrow_close) | walk1 | (dsimp only; walk1) | (leave1; walk_say "STEP leave1"; try dsimp only) | fail "no step")))
  (k_with "subscriptTail" => (k_here; (with_reducible show wpAny _ _ (subscriptTail _ _ (Value.ref _) (Value.str _ _)) _ _ _); k_dflt (refine kda_item (knd := PySem.strKind _ _) (by k_asm) (by k_mem) (by assumption) (strKind_is _ _ _ _) (by assumption) ?_)))
  (k_with "call builtin:len" => (k_here; k_dflt (first | refine len_list (News.isList (by k_asm) (by k_mem)) (by walk_at "ln") ?_ | refine PyProof.Rows.len_tuple (News.isTup (by k_asm) (by k_mem)) (by walk_at "ln") ?_)))
  (k_with "ln" => (simp only [List.size_toArray, List.length_cons, List.length_append, List.length_nil, List.length_map]; omega))
  (k_with "subscriptTail" => (k_here; (with_reducible show wpAny _ _ (subscriptTail _ _ (Value.ref _) (Value.int _ _)) _ _ _); k_dflt (refine' item_tupleT ?zzt ?zza ?zzb ?zzc ?zzd ?_; (case zzt => exact News.isTup (by k_asm) (by k_mem)); (case zza => decide); (case zzb => decide); (case zzc => rfl); (case zzd => rfl); k_whole)))
  (k_with "call type:tuple" => (k_here; (with_reducible show wpAny _ _ (call (Value.type _) [Value.ref _]) _ _ _); k_dflt (refine call_tuple_tup (News.isTup (by k_asm) (by k_mem)) ?_)))
  (k_with "k_mem" => first | with_reducible assumption | assumption)
  (k_with "call type:list" => (k_here; (with_reducible show wpAny _ _ (call (Value.type "list") [Value.ref _]) _ _ _); k_dflt (refine' kup_listOf ?zzF ?zzN ?zzb ?zze ?_ ?zzz; (case zzF => k_asm); (case zzN => k_asm); (case zzb => k_mem); (case zze => exact rfl); (case zzz => (simp only [sizeLine_eq]; omega))); intro _ _ _ _ _ _))
  (k_with "WhlIf" => (first | refine WhlIf.no (by assumption) ?_ | refine WhlIf.yes (by assumption) ?_))
  (k_with "ktr_unf" => (refine' code_defC ?zzk1 ?zzk2 ?zzk3 ?zzk4 ?zzk5 ?zzkA ?zzkF ?zzkK ?zzk6 ?zzk7 ?zzk8 ?zzk9 ?zzkB ?zzkD ?_ ?zzc2 ?zzc3 ?zzc4; (case zzkA => exact rfl); (case zzkF => exact rfl); (case zzkK => first | assumption | exact rfl); (case zzk1 => k_asm); (case zzk2 => k_asm); (case zzk3 => k_asm); (case zzk4 => k_asm); (case zzk5 => k_asm); (case zzk6 => k_is); (case zzk7 => k_is); (case zzk8 => ktr_room); (case zzk9 => exact BindsTo.of_eq rfl); (case zzkB => exact rfl); (case zzkD => decide +kernel); (case zzc2 => exact rfl); (case zzc3 => exact rfl); (case zzc4 => exact rfl); k_whole; walk_at "i1"))
  (k_with "eval ListComp" => (k_here; k_dflt (refine ListComp_X (by k_asm) (by rfl) (by decide) (by rfl) (by decide) ?_)))
  (k_with "exec Assign cons ListComp" => (k_here; k_dflt (refine Assign_ListComp_X (by k_asm) (by with_unfolding_all rfl) (by rfl) (by decide) (by rfl) (by decide) (by rfl) (by rfl) ?_)))
  (k_with "exec For Name Name cons nil" => walk_at "fx")
  (k_with "exec For Name Call cons nil" => walk_at "fx")
  (k_with "exec For Name Subscript cons nil" => walk_at "fx")
  (k_with "exec For Name Attribute cons nil" => walk_at "fx")
  (k_with "exec For Name IfExp cons nil" => walk_at "fx")
  (k_with "exec For Tuple Name cons nil" => walk_at "fx")
  (k_with "exec For Tuple Call cons nil" => walk_at "fx")
  (k_with "exec For Tuple Subscript cons nil" => walk_at "fx")
  (k_with "exec For Tuple Attribute cons nil" => walk_at "fx")
  (k_with "compareOp In str ref" => (k_here; k_dflt (first | refine in_no (by k_asm) (by k_mem) (by assumption) (by assumption) (by assumption) ?_ | refine in_yes (by k_asm) (by k_mem) (by assumption) (by assumption) (by assumption) ?_)))
  (k_with "compareOp NotIn str ref" => (k_here; k_dflt (refine notin_no (by k_asm) (by k_mem) (by assumption) (by assumption) (by assumption) ?_)))
  (k_with "setItem ref str" => (k_here; k_dflt (refine' kda_set (knd := PySem.strKind _ _) ?zzF ?zzN ?zzU ?zzd (strKind_is _ _ _ _) ?zzz ?_; (case zzF => k_asm); (case zzN => k_asm); (case zzU => k_updF); (case zzd => assumption); (case zzz => (simp only [sizeLine_eq]; omega))); intro _ _ _ zzN zzhd; (try dsimp only at zzN); (revert zzN zzhd; intro _ _)))
  (k_with "k_ne" => first | assumption | exact Ne.symm (by assumption))
  (k_with "getAttr ref" => (k_here; k_dflt (refine' get_own ?zzk1 ?zzk2 ?zzk3 ?zzk4 ?zzk5 ?zzk6 ?zzk7 ?zzk8 ?zzk9 ?_; (case zzk1 => k_asm); (case zzk2 => k_asm); (case zzk3 => k_inst); (case zzk4 => k_is); (case zzk5 => k_is); (case zzk6 => k_is); (case zzk7 => k_is); (case zzk8 => first | assumption | k_get); (case zzk9 => k_handed); k_whole)))
  (k_with "getMethod ref" => (k_here; k_dflt (refine' method_inst ?zzk1 ?zzk2 ?zzk3 ?zzk4 ?zzk5 ?zzk6 ?zzk7 ?_; (case zzk1 => k_asm); (case zzk2 => k_asm); (case zzk3 => k_inst); (case zzk4 => k_is); (case zzk5 => k_is); (case zzk6 => k_is); (case zzk7 => first | assumption | k_get); k_whole)))
  (k_with "k_ne" => first | with_reducible assumption | with_reducible exact Ne.symm (by assumption) | exact ne_l1 (by assumption) (by k_mem) | exact ne_l2 (by assumption) (by k_mem) | exact ne_o1 (by assumption) (by k_mem) | exact ne_o2 (by assumption) (by k_mem))
  (k_with "k_all" => first | with_reducible assumption | exact off_l1 (by assumption) (by k_extra "tb_rel") | exact off_o1 (by assumption) (by k_extra "tb_rel"))
  (k_with "ktr_rel" => ((fail_if_success (with_reducible show wpAny _ _ (exec (Stmt.While _ _ _ _) _) _ _ _)); walk_at "st"))
  (k_with "compareOp NotIn str ref" => (k_here; k_dflt (refine notin_list_strs (News.isList (by k_asm) (by k_mem)) (by assumption) ?_)))
  (k_with "compareOp Eq ref ref" => (k_here; k_dflt (refine' eq_empty ?zzN ?zza ?zzb ?zzd ?zzo ?zzu ?_; (case zzN => k_asm); (case zza => k_mem); (case zzb => k_mem); (case zzd => assumption); (case zzo => assumption); (case zzu => (dsimp +zetaDelta only [ktrTop, Around.deeper, Around.under, Around.in1]; (have hcL9 := cLine_is); omega)))))
  (k_with "subscriptTail Name Slice ref ref" => (k_here; k_dflt (refine' slice15 ?zzF ?zzN ?zzt ?_; (case zzF => k_asm); (case zzN => k_asm); (case zzt => exact News.isTup (by k_asm) (by k_mem))); intro _ _ _ _))
  (k_with "call ref" => (k_here; (with_reducible show wpAny _ _ (call (Value.ref _) _) _ _ _); k_dflt (refine' Spec.c (by k_asm) (by k_asm) (by k_asm) (by k_asm) (by k_asm) (by first | exact rfl | assumption) ?zzh ?zzD ?zzU ?_; (case zzh => walk_at "spec"); (case zzD => ktr_room); (case zzU => ktr_room)); walk_at "i2"))
  (k_with "call ref" => (k_here; (with_reducible show wpAny _ _ (call (Value.ref _) _) _ _ _); k_dflt (refine' Spec.ck (by k_asm) (by k_asm) (by k_asm) (by k_asm) (by k_asm) (by first | exact rfl | assumption) ?zzh ?zzel ?zzD ?zzU ?_; (case zzh => walk_at "spec"); (case zzel => walk_at "el"); (case zzD => ktr_room); (case zzU => ktr_room)); intros; (first | intro zzN | rename News _ _ _ _ => zzN); (try dsimp only at zzN); (revert zzN; intro _); (try dsimp only); (try k_sweep)))
  (k_with "el" => (first | exact RStr.el | exact RInt.el | exact RBool.el | exact NextRet.el | exact RTup0.el | exact RTup.el | exact RNil.el | exact ROne.el | exact RLst.el | exact NamesRet.el | exact ChRet.el | exact SizesRet.el))
  (k_with "spec" => (exact nextF_spec (by k_updF) (by assumption) (by omega) (by k_mem) (by first | decide | ((try simp only [List.size_toArray]); omega))))
  (k_with "fx" => (k_here; k_dflt (refine For_X (by k_asm) ?_)))
  (k_with "callWith" => (first | with_reducible refine PyProof.Rows.callWith_method0 ?_ | ((with_reducible refine' PyProof.Rows.callWith_builtin1 ?_ ?zzcwe ?zzcwp); (case zzcwe => rfl); (case zzcwp => rfl)) | ((with_reducible refine' PyProof.Rows.callWith_method1 ?_ ?zzcwe ?zzcwp); (case zzcwe => rfl); (case zzcwp => rfl))))
  (k_with "subscriptTail Name Constant ref int" => (first | (k_extra "subscriptTail") | (k_here; (with_reducible show wpAny _ _ (subscriptTail _ _ (Value.ref _) (Value.int _ _)) _ _ _); (with_unfolding_all refine' item_litK ?zzk1 ?zzk2 ?zzk3 ?zzk4 ?_ ?zzk6; (case zzk1 => is_list); (case zzk2 => decide); (case zzk3 => decide); (case zzk4 => rfl); (case zzk6 => with_unfolding_all rfl); k_whole))))
  (k_with "subscriptTail Name BinOp ref int" => (k_extra "subscriptTail"))
  (k_with "subscriptTail Name Name ref int" => (k_extra "subscriptTail"))
  (k_with "subscriptTail Name UnaryOp ref int" => (k_extra "subscriptTail"))
  (k_with "joinParts" => (k_here; (with_reducible refine' join_end ?zzjez ?_); (case zzjez => kt_le)))
  (k_with "exec Raise some none" => (k_here; k_dflt (refine raise_X (by k_asm) (by k_asm) (by rfl) ?_)))
  (k_with "RaiseEnd" => (refine ⟨_, _, _, _, _, _, rfl, ?zzC, by k_asm, by k_asm, by k_mem, ?_⟩; (case zzC => first | exact .inl rfl | exact .inr rfl)))
  (k_with "leaving ref" => (k_here; k_dflt (first | (refine' leave_excK ?zzkk ?zzK rfl ?zzhk ?zzF ?zzN ?zzhe ?zzht ?zzhs ?zzhne ?zzhnt ?zzhsub ?_; (case zzkk => assumption); (case zzK => assumption); (case zzhk => rfl); (case zzF => k_asm); (case zzN => k_asm); (case zzhe => k_mem); (case zzht => k_mem); (case zzhs => assumption); (case zzhne => assumption); (case zzhnt => assumption); (case zzhsub => ((repeat (first | exact sub_refl | assumption | refine sub_cons ?_)); done))) | (refine' leave_onK2 ?zzkk ?zzK rfl ?zzF ?zzR ?zzU ?_; (case zzkk => assumption); (case zzR => assumption); (case zzF => assumption); (case zzK => assumption); (case zzU => assumption))); intro _ zzR zzU; (try dsimp only at zzR zzU ⊢); (revert zzR zzU; intro _ _)))
  (k_with "formatField str" => (k_here; (refine' PyProof.Rows.formatField_str ?_ ?zzz; (case zzz => (simp only [sizeLine_eq]; omega))); intro _ _))
  (k_with "call type:tuple" => (k_here; (with_reducible show wpAny _ _ (call (Value.type _) [Value.ref _]) _ _ _); k_dflt (refine' kde_tupleOf ?zzk1 ?zzk2 ?zzk3 ?zzk4 ?zzk5 ?_; (case zzk1 => k_asm); (case zzk2 => k_asm); (case zzk3 => exact News.isList (by k_asm) (by k_mem)); (case zzk4 => (simp only [List.size_toArray]; omega)); (case zzk5 => exact List.toList_toArray _); k_whole); intro _ _ _ _ zzl1; (try k_lt zzl1); (revert zzl1; intro _)))
  (k_with "newTuple" => (k_here; k_dflt (refine' newTuple_L ?zzk1 ?zzk2 ?zzk3 ?_; (case zzk1 => k_asm); (case zzk2 => k_asm); (case zzk3 => (simp only [sizeLine_eq, List.length_cons, List.length_nil]; omega))); intro _ _ _ _ zzl1; (try k_lt zzl1); (revert zzl1; intro _)))
  (k_with "setItem ref str" => (k_here; k_dflt (refine' dset_new ?zzF ?zzN ?zzU ?zzd ?zzn ?zzz ?_; (case zzF => k_asm); (case zzN => k_asm); (case zzU => k_updF); (case zzd => assumption); (case zzn => assumption); (case zzz => omega)); intro _ _ _ zzN zzhd zzhv; (try dsimp only at zzN); (revert zzN zzhd zzhv; intro _ _ _)))
  (k_with "call builtin:list.extend" => (k_here; (with_reducible show wpAny _ _ (call (Value.builtin _) [Value.ref _, Value.ref _]) _ _ _); k_dflt (refine' ext_L ?zzF ?zzN ?zzb ?zzU ?zzz ?zzy ?_; (case zzF => k_asm); (case zzN => k_asm); (case zzb => k_mem); (case zzU => k_updF); (case zzz => omega); (case zzy => omega)); intro _ _ _ zzN; (try dsimp only at zzN); (revert zzN; intro _)))
  (k_with "spec" => (exact nextF_spec (by k_updF) (by assumption) (by omega) (by k_mem) (by first | decide | ((try simp only [List.size_toArray]); omega))))
  trivial
section
variable {w : World} {loose : List Str} {mean : ExcName → Option Value} {mg mb : Str → Option Value} {news : Led}
theorem itemsBelow_succ (t : Pk) (l : Nat) : itemsBelow t (l + 1) = itemsBelow t l ++ [⟨t.name ++ letter l, false, t.below.getD l (S ""), t.name⟩] := by
  unfold itemsBelow
  rw [List.range_succ, List.map_append]
  rfl
structure BelowOk (v : Int) (below : List Str) : Prop where
  l : below.length ≤ 3
  b : ∀ x ∈ below, x = S "one" ∨ x = S ""
  a : 3 < v → below ≠ []
  n : ¬ 3 < v → below = []
section
open PySem.Calls PySem.Spec
variable {A : Around} {E : Value → Shared → Prop} {s : Shared} {h₀ : Heap} {L T : Addr} {m : Str → Option Value} {vs : List Value} {n : Nat} {k : Int} {u : Tok}
theorem mult_item {value slice : Expr} {Q : Value → Shared → Prop} (N : News h₀ L s.heap news) (hm : (T, tupObj vs n) ∈ news) (hI : StrsAre vs mults) (h0 : 0 ≤ k) (h1 : k < 6) (h : ∀ t x, x ∈ mults → (3 < k → x = S "") → Q (.str x t) s)
    (hs : subscripted slice false (.ref T) (.int k u) = operate [.ref T, .int k u] (getItem (.ref T) (.int k u)) := by with_unfolding_all rfl) :
    wpAny (model PG w) A (subscriptTail value slice (.ref T) (.int k u)) Q E s := by
  have hl : mults.length = 6 := rfl
  have hlt : k.toNat < mults.length := by omega
  obtain ⟨t', e⟩ := hI.get k.toNat (mults.getD k.toNat PySem.Str.empty) (by rw [List.getD_eq_getElem?_getD, List.getElem?_eq_getElem hlt]; rfl)
  have ht : IsTup s.heap T vs.toArray := News.isTup N hm
  have hn : k < ((vs.toArray.size : Nat) : Int) := by rw [List.size_toArray, hI.length]; omega
  refine tail_any ht.typeIs slot_tuple_getitem.lookup (getItem_tuple ht (by omega) (by omega) (seqIndex_of h0 hn) (x := .str _ t') (by simpa using e) (h t' _ ?_ ?_)) hs
  · rw [List.getElem?_eq_getElem hlt]
    exact List.getElem_mem hlt
  · intro h3
    have : k = 4 ∨ k = 5 := by omega
    rcases this with rfl | rfl <;> rfl
theorem last_item {value slice : Expr} {Q : Value → Shared → Prop} {a : Array Value} {x : Value} (N : News h₀ L s.heap news) (hm : (T, listOf (a.push x) n) ∈ news) (hk : k = (a.size : Int)) (hz : a.size ≤ 1000) (h : Q x s)
    (hs : subscripted slice false (.ref T) (.int k u) = operate [.ref T, .int k u] (getItem (.ref T) (.int k u)) := by with_unfolding_all rfl) :
    wpAny (model PG w) A (subscriptTail value slice (.ref T) (.int k u)) Q E s :=
  tail_any (News.isList N hm).typeIs slot_list_getitem.lookup (wpAny_getItem_list (News.isList N hm) (by omega) (by omega) (x := x) (by subst hk; simp) h) hs
theorem strs_item {value slice : Expr} {Q : Value → Shared → Prop} {xs : List Str} (N : News h₀ L s.heap news) (hm : (T, listOf vs.toArray n) ∈ news) (hI : StrsAre vs xs) (h0 : 0 ≤ k) (h1 : k < (xs.length : Int)) (hz : xs.length ≤ 1000) (h : ∀ t, Q (.str (xs.getD k.toNat (S "")) t) s)
    (hs : subscripted slice false (.ref T) (.int k u) = operate [.ref T, .int k u] (getItem (.ref T) (.int k u)) := by with_unfolding_all rfl) :
    wpAny (model PG w) A (subscriptTail value slice (.ref T) (.int k u)) Q E s := by
  have hlt : k.toNat < xs.length := by omega
  obtain ⟨t', e⟩ := hI.get k.toNat (xs.getD k.toNat (S "")) (by rw [List.getD_eq_getElem?_getD, List.getElem?_eq_getElem hlt]; rfl)
  exact tail_any (News.isList N hm).typeIs slot_list_getitem.lookup (wpAny_getItem_list (News.isList N hm) h0 (by omega) (x := .str _ t') (by simpa using e) (h t')) hs
theorem abc_item {value slice : Expr} {Q : Value → Shared → Prop} {tx : Tok} (h0 : 0 ≤ k) (h1 : k < 3) (h : ∀ t, Q (.str (letter k.toNat) t) { s with toks := s.toks + 1 })
    (hs : subscripted slice false (.str (S "abc") tx) (.int k u) = operate [.str (S "abc") tx, .int k u] (getItem (.str (S "abc") tx) (.int k u)) := by with_unfolding_all rfl) :
    wpAny (model PG w) A (subscriptTail value slice (.str (S "abc") tx) (.int k u)) Q E s := by
  obtain rfl | rfl | rfl : k = 0 ∨ k = 1 ∨ k = 2 := by omega
  · exact tail_any (typeIs_str _ _ _) slot_str_getitem.lookup (getItem_str (c := 97) (by decide) (by decide) (h s.toks)) hs
  · exact tail_any (typeIs_str _ _ _) slot_str_getitem.lookup (getItem_str (c := 98) (by decide) (by decide) (h s.toks)) hs
  · exact tail_any (typeIs_str _ _ _) slot_str_getitem.lookup (getItem_str (c := 99) (by decide) (by decide) (h s.toks)) hs
theorem tName_len {k : Nat} (h : k < 4) : (tName k).length = 2 := by
  obtain rfl | rfl | rfl | rfl : k = 0 ∨ k = 1 ∨ k = 2 ∨ k = 3 := by omega
  all_goals decide
theorem letter_len {k : Nat} (h : k < 3) : (letter k).length = 1 := by
  obtain rfl | rfl | rfl : k = 0 ∨ k = 1 ∨ k = 2 := by omega
  all_goals decide
end
theorem w26 : True := by
  (k_with "subscriptTail" => (k_here; (with_reducible show wpAny _ _ (subscriptTail _ _ (Value.ref _) (Value.int _ _)) _ _ _); k_dflt (refine' mult_item ?zzN ?zzm ?zzI ?zza ?zzb ?_; (case zzN => k_asm); (case zzm => exact List.Mem.head _); (case zzI => exact .cons _ _ (.cons _ _ (.cons _ _ (.cons _ _ (.cons _ _ (.cons _ _ .nil)))))); (case zza => assumption); (case zzb => assumption)); intro _ _ _ _))
  trivial
theorem setL_last : ∀ (a : List Value) (x v : Value), ki_setL (a ++ [x]) a.length v = some (a ++ [v])
  | [], _, _ => rfl
  | y :: a, x, v => by
    show ki_setL (y :: (a ++ [x])) (a.length + 1) v = _
    unfold ki_setL
    rw [setL_last a x v]
    rfl
theorem seqIdx_last (n : Nat) : seqIndex? (-1) (n + 1) = some n := by
  unfold seqIndex?
  simp only [show (-1 : Int) < 0 from by decide, if_true]
  rw [if_pos (by simp only [Bool.and_eq_true, decide_eq_true_eq]; omega)]
  congr 1
  omega
theorem strs_last {ys : List Value} {n : Nat} {x : Str} (h : StrsAre ys (List.replicate (n + 1) x)) : ∃ a t, ys = a ++ [.str x t] ∧ StrsAre a (List.replicate n x) ∧ a.length = n := by
  have hd := strs_dat (nw := []) h
  have hl : ys.length = n + 1 := by have := h.length; simpa using this
  have hne : ys ≠ [] := by intro e; rw [e] at hl; cases hl
  rw [List.replicate_succ'] at h
  have hs : ys = ys.dropLast ++ [ys.getLast hne] := (List.dropLast_concat_getLast hne).symm
  generalize ys.dropLast = a at hs
  generalize ys.getLast hne = z at hs
  subst hs
  have hla : a.length = n := by simpa using hl
  have h2 := strs_dat (nw := []) h
  have key : ∀ (a : List Value) (n : Nat), a.length = n → DatAll [] (a ++ [z]) ((List.replicate n x).map Dat.str ++ [Dat.str x]) → DatAll [] a ((List.replicate n x).map Dat.str) ∧ DatIn [] z (.str x) := by
    intro a
    induction a with
    | nil =>
      intro n hn hh
      cases hn
      obtain ⟨v, r, e, h1, h2⟩ := dat_cons hh
      cases e
      exact ⟨.nil, h1⟩
    | cons b r ih =>
      intro n hn hh
      cases n with
      | zero => cases hn
      | succ n =>
        rw [List.replicate_succ, List.map_cons, List.cons_append, List.cons_append] at hh
        obtain ⟨v, r', e, h1, h2⟩ := dat_cons hh
        cases e
        obtain ⟨k1, k2⟩ := ih n (by simpa using hn) h2
        rw [List.replicate_succ, List.map_cons]
        exact ⟨.cons h1 k1, k2⟩
  rw [List.map_append] at h2
  obtain ⟨k1, k2⟩ := key a n hla h2
  obtain ⟨t, rfl⟩ := dat_str k2
  exact ⟨a, t, rfl, strs_of (nw := []) k1, hla⟩
inductive MdRet (w : World) (d c : Addr) (vs : List Value) (k0 : Nat) (rest : Led) : Value → Led → Prop
  | mk (T il tl : Addr) (n : Nat) (vi : List Value) (ni : Nat) (vt : List Value) (nt : Nat) (o' : Obj) (j : Nat) (tops : List Pk) (nr : Led) (hb : ∀ p ∈ rest, p ∈ nr) (hd1 : ∀ p ∈ nr, p.1 ≠ d) (hi1 : ∀ p ∈ nr, p.1 ≠ il) (ht1 : ∀ p ∈ nr, p.1 ≠ tl) (u1 : il ≠ d) (u2 : tl ≠ d) (u3 : il ≠ tl) (hT : ∀ p ∈ nr, p.1 ≠ T) (u4 : T ≠ il) (u5 : T ≠ tl) (u6 : T ≠ d) (hF : Fd w d c vs o' j) (hj : j ≤ k0 + 20)
      (hl1 : 1 ≤ tops.length) (hl4 : tops.length ≤ 4) (hdt : DatAll nr vt (tops.map Pk.dat)) (hdi : DatAll nr vi ((tops.flatMap itemsOf).map Item.dat)) (hnm : ∀ i (h : i < tops.length), tops[i].name = tName i) (hok : ∀ t ∈ tops, TopOk t) :
      MdRet w d c vs k0 rest (.ref T) ((T, tupObj [.ref il, .ref tl] n) :: (il, listOf vi.toArray ni) :: (tl, listOf vt.toArray nt) :: (d, o') :: nr)
inductive MdJ (w : World) (d c : Addr) (vs : List Value) (k0 : Nat) (il tl : Addr) (rest : Led) (k : Nat) (m : Str → Option Value) : Led → Prop
  | mk (hm : Kn m [(S "feed", .ref d), (S "items", .ref il), (S "tops", .ref tl)]) (vi : List Value) (ni : Nat) (vt : List Value) (nt : Nat) (o' : Obj) (j : Nat) (tops : List Pk) (nr : Led) (hb : ∀ p ∈ rest, p ∈ nr) (hd1 : ∀ p ∈ nr, p.1 ≠ d) (hi1 : ∀ p ∈ nr, p.1 ≠ il) (ht1 : ∀ p ∈ nr, p.1 ≠ tl) (hF : Fd w d c vs o' j) (hj : j ≤ k0 + 1 + 4 * k) (hlen : tops.length = k)
      (hdt : DatAll nr vt (tops.map Pk.dat)) (hdi : DatAll nr vi ((tops.flatMap itemsOf).map Item.dat)) (hnm : ∀ i (h : i < tops.length), tops[i].name = tName i) (hok : ∀ t ∈ tops, TopOk t) :
      MdJ w d c vs k0 il tl rest k m ((il, listOf vi.toArray ni) :: (tl, listOf vt.toArray nt) :: (d, o') :: nr)
inductive MdC (w : World) (d c : Addr) (vs : List Value) (k0 : Nat) (il tl : Addr) (k : Nat) (tv2 : Tok) (kd : Int) (tkd : Tok) (vi : List Value) (ni : Nat) (vt : List Value) (nt : Nat) (nr : Led) (s : Shared) (g : Heap) (L I : Addr) (oI : Obj) : Flow → Shared → Prop
  | mk (h' : Heap) (tk : Nat) (m' : Str → Option Value) (o' : Obj) (j' : Nat) (b : Addr) (vb : List Value) (nb : Nat) (below : List Str) (F : Fr g L h' m') (N : News g L h' ((b, listOf vb.toArray nb) :: (I, oI) :: (il, listOf vi.toArray ni) :: (tl, listOf vt.toArray nt) :: (d, o') :: nr)) (b1 : ∀ p ∈ nr, p.1 ≠ b) (z1 : I ≠ b) (z2 : il ≠ b) (z3 : tl ≠ b) (z4 : d ≠ b) (hF : Fd w d c vs o' j') (hj : j' ≤ k0 + 1 + 4 * k + 2)
      (hvb : StrsAre vb below) (hbw : BelowOk kd below) (hm : Kn m' [(S "feed", .ref d), (S "items", .ref il), (S "tops", .ref tl), (S "k", .int k tv2), (S "kind", .int kd tkd), (S "below", .ref b)]) :
      MdC w d c vs k0 il tl k tv2 kd tkd vi ni vt nt nr s g L I oI .next { s with heap := h', toks := tk }
inductive Md9 (g : Heap) (L : Addr) (h : Heap) (il tl d I Dt Di Dn E1 E2 E3 b : Addr) (vi vt : List Value) (o3' oI : Obj) (k : Nat) (kd : Int) (x : Str) (tx : Tok) (vb : List Value) (nb : Nat) (nr : Led) : Prop
  | mk (q1 q2 q3 q4 q5 : Tok) (n1 n2 : Nat) (N9 : News g L h ((il, listOf (vi ++ [Value.ref Di]).toArray n1) :: (tl, listOf (vt.toArray.push (Value.ref Dt)) n2) :: (d, o3') :: (I, oI) :: (Di, tupObj [Value.str (S "sig") q1, Value.int 0 q2, Value.ref Dn, Value.bool (decide (3 < kd)), Value.str x tx, Value.str (S "") q3, Value.ref E3, Value.ref E2, Value.ref E1] 0) :: (E1, tupObj [] 0) :: (E2, tupObj [] 0) :: (E3, tupObj [] 0) :: (Dn, tupObj [Value.str (tName k) q4] 0) :: (Dt, tupObj [Value.str (tName k) q5, Value.str x tx, Value.bool (decide (3 < kd)), Value.ref b] 0) :: (b, listOf vb.toArray nb) :: nr)) :
      Md9 g L h il tl d I Dt Di Dn E1 E2 E3 b vi vt o3' oI k kd x tx vb nb nr
structure Md2 (nr nr' : Led) (vi vt : List Value) (Di Dt b : Addr) (tops : List Pk) (tk0 : Pk) (k : Nat) (kd : Int) (x : Str) (tx q5 : Tok) (vb : List Value) (nb : Nat) : Prop where
  ma : ∀ p ∈ nr, p ∈ nr'
  mb : DatAll nr' (vt ++ [.ref Dt]) ((tops ++ [tk0]).map Pk.dat)
  mc : DatAll nr' (vi ++ [.ref Di]) ((tops.flatMap itemsOf ++ [(⟨tk0.name, tk0.abs, tk0.mult, S ""⟩ : Item)]).map Item.dat)
  md : (Dt, tupObj [Value.str (tName k) q5, Value.str x tx, Value.bool (decide (3 < kd)), Value.ref b] 0) ∈ nr'
  me : (b, listOf vb.toArray nb) ∈ nr'
inductive MdK (d il tl I b Dt : Addr) (k : Nat) (tv2 : Tok) (vt : List Value) (n2 : Nat) (o3' oI : Obj) (nr : Led) (tops : List Pk) (tk0 : Pk) (q5 : Tok) (x : Str) (tx : Tok) (kd : Int) (vb : List Value) (nb : Nat) (l : Nat) (m : Str → Option Value) : Led → Prop
  | mk (hm : Kn m [(S "feed", .ref d), (S "items", .ref il), (S "tops", .ref tl), (S "k", .int k tv2), (S "below", .ref b)]) (vi' : List Value) (ni' : Nat) (nr' : Led) (hsub : ∀ p ∈ nr, p ∈ nr') (hdt : DatAll nr' (vt ++ [.ref Dt]) ((tops ++ [tk0]).map Pk.dat)) (hDt : (Dt, tupObj [Value.str (tName k) q5, Value.str x tx, Value.bool (decide (3 < kd)), Value.ref b] 0) ∈ nr') (hb : (b, listOf vb.toArray nb) ∈ nr')
      (g1 : ∀ p ∈ nr', p.1 ≠ il) (g2 : ∀ p ∈ nr', p.1 ≠ tl) (g3 : ∀ p ∈ nr', p.1 ≠ d) (g4 : ∀ p ∈ nr', p.1 ≠ I) (hdi : DatAll nr' vi' ((tops.flatMap itemsOf ++ ((⟨tk0.name, tk0.abs, tk0.mult, S ""⟩ : Item) :: itemsBelow tk0 l)).map Item.dat)) :
      MdK d il tl I b Dt k tv2 vt n2 o3' oI nr tops tk0 q5 x tx kd vb nb l m ((il, listOf vi'.toArray ni') :: (tl, listOf (vt.toArray.push (Value.ref Dt)) n2) :: (d, o3') :: (I, oI) :: nr')
inductive Md12 (g : Heap) (L : Addr) (h : Heap) (il tl d I I2 Dt Di2 Dn2 E12 E22 E32 : Addr) (vi2 vt : List Value) (n2 : Nat) (o3' oI oI2 : Obj) (k l : Nat) (below : List Str) (nr2 : Led) : Prop
  | mk (e1 e2 e3 e4 e5 : Tok) (n7 : Nat) (N12 : News g L h ((I2, oI2) :: (il, listOf (vi2 ++ [Value.ref Di2]).toArray n7) :: (tl, listOf (vt.toArray.push (Value.ref Dt)) n2) :: (d, o3') :: (I, oI) :: (Di2, tupObj [Value.str (S "sig") e1, Value.int 0 e2, Value.ref Dn2, Value.bool false, Value.str (below.getD l (S "")) e3, Value.str (tName k) e4, Value.ref E32, Value.ref E22, Value.ref E12] 0) :: (E12, tupObj [] 0) :: (E22, tupObj [] 0) :: (E32, tupObj [] 0) :: (Dn2, tupObj [Value.str (tName k ++ letter l) e5] 0) :: nr2)) :
      Md12 g L h il tl d I I2 Dt Di2 Dn2 E12 E22 E32 vi2 vt n2 o3' oI oI2 k l below nr2
theorem model_spec {d c : Addr} {o : Obj} {rest : Led} {vs : List Value} {nc k0 : Nat}
    (hd : ∀ p ∈ rest, p.1 ≠ d) (hF : Fd w d c vs o k0) (hk : k0 ≤ 1000) (hc : (c, listOf vs.toArray nc) ∈ rest) :
    Spec w loose mean mg mb 60 900 (.ref 439) [.ref d] ((d, o) :: rest) (MdRet w d c vs k0 rest) None2 := by
  unfold Spec
  k_fill
  intro dp un gd cn cs a ccd cl outer A₀ base h₀ L m s Q E B F X N T hk hR hok hret hexc
  refine wpAny_call ?_
  k_dflt ktr_enter
  rename Fr _ _ _ _ => F1
  replace F1 : Fr _ _ _ (fun y => List.lookup y [(Str.ofString "feed", Value.ref d)]) := F1
  refine opq (by passes_own) ?_
  intro A9 R9 E9 kR9 kE9 pE9
  rename Fr _ _ _ _ => F1
  rename News _ _ _ _ => N1
  rename_i g9 L9 _ _ _ _ _
  repeat' (k_extra "ktr_rel")
  rename IsRange _ _ _ _ _ _ _ _ => hrg
  rename News _ _ _ _ => N9
  rename Fr _ _ _ _ => F9
  rename Fd w d c vs _ (k0 + 1) => hF1
  rename_i _ il _ lil tl _ ltl Dt _ lDt _ _ _ _ _ _ v tv o1 hv0 hv1 _ _ _ _ _ _ _
  have N0 := ntake N9 (nx := (il, listOf ([] : List Value).toArray 0) :: (tl, listOf ([] : List Value).toArray 0) :: (d, o1) :: rest) (sub_mk (by k_mem) (sub_mk (by k_mem) (sub_mk (by k_mem) (by k_extra "tb_rel"))))
  have hi0 : ∀ p ∈ rest, p.1 ≠ il := allLt_off lil.2
  have ht0 : ∀ p ∈ rest, p.1 ≠ tl := allLt_off ltl.2.2
  have u1 : d ≠ il := Nat.ne_of_lt lil.1
  have u2 : d ≠ tl := Nat.ne_of_lt ltl.2.1
  have u3 : il ≠ tl := Nat.ne_of_lt ltl.1
  have u4 : tl ≠ il := Ne.symm u3
  refine ⟨_, _, _, fun k m nx => MdJ w d c vs k0 il tl rest k m nx,
    _, _, src_range0 rfl hrg (by omega) (by omega), F9, N0, fun _ _ _ _ => trivial, ⟨⟨rfl, rfl, rfl, trivial⟩, [], 0, [], 0, o1, _, [], rest, sub_refl, hd, hi0, ht0, hF1, by omega, rfl, .nil, .nil, (fun i h => nomatch h), (fun _ h => nomatch h)⟩, ?_, ?_⟩
  · rintro k v2 m₁ nx h tk I oI R kR hk2 ⟨tv2, rfl⟩ ⟨hm, vi, ni, vt, nt, o2, j, tops, nr, hb, hd1, hi1, ht1, hF2, hj, hlen, hdt, hdi, hnm, hok⟩ off F3 N3
    replace F3 := frov F3 hm
    have hc0 := hb _ hc
    have hk4 : k < 4 := by omega
    have y1 : il ≠ I := off_head off
    have y2 : tl ≠ I := off_head (off_tail off)
    have y3 : d ≠ I := off_head (off_tail (off_tail off))
    have y5 := off_tail (off_tail (off_tail off))
    have hvt : vt.length = k := by have := hdt.length; simp only [List.length_map] at this; omega
    repeat' ((fail_if_success (with_reducible show wpAny _ _ (exec (Stmt.If _ _ _ _) _) _ _ _)); k_extra "ktr_rel")
    rename_i kd tkd o3 hkd0 hkd1 hF3 bl _ lbl Db _ lDb _ _ _ F5 N5
    have N6 := ntake N5 (nx := (bl, listOf ([] : List Value).toArray 0) :: (I, oI) :: (il, listOf vi.toArray ni) :: (tl, listOf vt.toArray nt) :: (d, o3) :: nr) (sub_mk (by k_mem) (sub_mk (by k_mem) (sub_mk (by k_mem) (sub_mk (by k_mem) (sub_mk (by k_mem) (by k_extra "tb_rel"))))))
    clear N5
    have b1 : ∀ p ∈ nr, p.1 ≠ bl := allLt_off lbl.2.2.2.2
    refine wpAny_mono (Q := fun f s' => Cut (MdC w d c vs k0 il tl k tv2 kd tkd vi ni vt nt nr s g9 L9 I oI f s')) ?_ ?_ (fun _ _ e => e)
    · repeat' (k_extra "ktr_rel")
      · rename IsRange _ _ _ _ _ _ _ _ => hrg2
        rename News _ _ _ _ => N7
        rename Fr _ _ _ _ => F7
        rename Fd w d c vs _ (j + 1 + 1) => hF4
        rename _ < (3 : Int) => hv3
        rename_i v3 _ o4 hv03 _ _ _ _ _ _ _
        refine ⟨_, _, _, fun k2 ys2 nx2 => nx2 = (bl, listOf ([] : List Value).toArray 0) :: (I, oI) :: (il, listOf vi.toArray ni) :: (tl, listOf vt.toArray nt) :: (d, o4) :: nr ∧ StrsAre ys2 (List.replicate k2 (S "one")), _, _, src_range0 rfl hrg2 (by omega) (by omega), (by simp only [sizeLine_eq]; omega), F7, N7, fun _ _ _ _ => trivial, ⟨rfl, .nil⟩, ?_, ?_⟩
        · rintro k2 v2 ys2 nx2 I2 oI2 C oC D m₂ h9 tk9 E9 R kR hk9 ⟨tv2, rfl⟩ ⟨rfl, hys2⟩ hyl2 hC off9 F13 N13
          refine assignC (by rfl) (by rfl) off9 hC F13 N13 fun h4 oC4 tk4 hC4 F14 N14 => ?_
          clear F13 N13 hC
          refine wpAny_pure ?_
          repeat' (k_extra "ktr_rel")
          refine CEnd.intro kR (by k_asm) (by k_asm) (by k_extra "tb_rel") hC4 off9.off ⟨rfl, ?_⟩
          rw [List.replicate_succ']
          exact strs_snoc hys2 _ _
        · rintro ys2 nx2 ⟨rfl, hys2⟩ hyl2
          intro D9' h9 tk9 F13 N13 o9
          have hyl3 := hys2.length
          simp only [List.length_replicate] at hyl3
          obtain ⟨n3, hn3⟩ : ∃ n3, (1 + v3).toNat = n3 + 1 := ⟨v3.toNat, by omega⟩
          have oo1 := off_tail o9
          have z1 : I ≠ D9' := off_head oo1
          have z2 : il ≠ D9' := off_head (off_tail oo1)
          have z3 : tl ≠ D9' := off_head (off_tail (off_tail oo1))
          have z4 : d ≠ D9' := off_head (off_tail (off_tail (off_tail oo1)))
          have z5 := off_tail (off_tail (off_tail (off_tail oo1)))
          repeat' (k_extra "ktr_rel")
          · rename News _ _ _ _ => N8
            rename Fr _ _ _ _ => F8
            rename 3 < kd => hkd3
            rw [hn3] at hys2
            obtain ⟨a9, t9, rfl, ha9, hl9⟩ := strs_last hys2
            refine ki_setNeg (its := (a9 ++ [_]).toArray) (j := a9.length) (q := a9 ++ [_]) F8 N8 (by decide) (by decide) (by rw [List.size_toArray, List.length_append]; exact seqIdx_last _) (setL_last _ _ _) (.head o9) fun h6 F6' N6' => ?_
            repeat' (k_extra "ktr_rel")
            rename News _ _ _ _ => N10
            rename Fr _ _ _ _ => F10
            refine ⟨_, _, _, o4, j + 1 + 1, D9', _, _, List.replicate n3 (S "one") ++ [S ""], F10, ntake N10 (sub_mk (by k_mem) (sub_mk (by k_mem) (sub_mk (by k_mem) (sub_mk (by k_mem) (sub_mk (by k_mem) (by k_extra "tb_rel")))))), z5, z1, z2, z3, z4, by assumption, by omega, strs_snoc ha9 _ _, ⟨by simp only [List.length_append, List.length_replicate, List.length_cons, List.length_nil]; omega, ?_, fun _ => by simp, fun hx => absurd hkd3 hx⟩, ⟨rfl, rfl, rfl, rfl, rfl, rfl, trivial⟩⟩
            intro x hx
            rcases List.mem_append.mp hx with h | h
            · exact .inl (List.eq_of_mem_replicate h)
            · exact .inr (List.mem_singleton.mp h)
          · rename News _ _ _ _ => N10
            rename Fr _ _ _ _ => F10
            rename 3 < kd => hkd3
            exact ⟨_, _, _, o4, j + 1 + 1, D9', ys2, _, List.replicate (1 + v3).toNat (S "one"), F10, ntake N10 (sub_mk (.head _) (sub_mk (by k_mem) (sub_mk (by k_mem) (sub_mk (by k_mem) (sub_mk (by k_mem) (by k_extra "tb_rel")))))), z5, z1, z2, z3, z4, by assumption, by omega, hys2, ⟨by simp only [List.length_replicate]; omega, fun x hx => .inl (List.eq_of_mem_replicate hx), fun _ => by rw [hn3, List.replicate_succ]; exact List.cons_ne_nil _ _, fun hx => absurd hkd3 hx⟩, ⟨rfl, rfl, rfl, rfl, rfl, rfl, trivial⟩⟩
      · rename Fr _ _ _ _ => F10
        rename ¬ 3 < kd => hkd3
        exact ⟨_, _, _, o3, j + 1, bl, [], 0, [], F10, by k_asm, b1, Nat.ne_of_lt lbl.1, Nat.ne_of_lt lbl.2.1, Nat.ne_of_lt lbl.2.2.1, Nat.ne_of_lt lbl.2.2.2.1, by assumption, by omega, .nil, ⟨Nat.zero_le _, (fun _ h => nomatch h), fun hx => absurd hx hkd3, fun _ => rfl⟩, ⟨rfl, rfl, rfl, rfl, rfl, rfl, trivial⟩⟩
    rintro f s' ⟨h2, tk2, m8, o3', j3, b, vb, nb, below, F6, N7, b2, z1, z2, z3, z4, hF4, hj3, hvb, hbw, hm8⟩
    replace F6 := frov F6 hm8
    clear hF2 hF3
    have hvbl := hvb.length
    have hbl3 := hbw.l
    have hvi : vi.length ≤ 16 := by
      have := hdi.length
      simp only [List.length_map] at this
      have h2 := items_len tops hok
      omega
    repeat' ((fail_if_success (with_reducible show wpAny _ _ (subscriptTail _ _ (Value.ref tl) (Value.int _ _)) _ _ _)); k_extra "ktr_rel")
    (refine' last_item ?N ?m ?k ?z ?_; (case N => k_asm); (case m => (repeat (first | exact List.Mem.head _ | refine List.Mem.tail _ ?_))); (case k => (simp only [List.size_toArray]; omega)); (case z => (simp only [List.size_toArray]; omega)))
    repeat' ((fail_if_success (with_reducible show wpAny _ _ (subscriptTail _ _ (Value.ref tl) (Value.int _ _)) _ _ _)); k_extra "ktr_rel")
    (refine' last_item ?N ?m ?k ?z ?_; (case N => k_asm); (case m => (repeat (first | exact List.Mem.head _ | refine List.Mem.tail _ ?_))); (case k => (simp only [List.size_toArray]; omega)); (case z => (simp only [List.size_toArray]; omega)))
    repeat' (k_extra "ktr_rel")
    rename IsRange _ _ _ _ _ _ _ _ => hrg3
    rename News _ _ _ _ => N8
    rename Fr _ _ _ _ => F8
    rename_i Dm _ lDm tx x hx hy Dt _ lDt _ _ Dn _ lDn E3 _ lE3 E2 _ lE2 E1 _ lE1 Di _ lDi _ _ _ _ _ _ _ _ _
    rw [List.push_toArray] at N8
    obtain ⟨q1, q2, q3, q4, q5, n1, n2, N9⟩ : Md9 g9 L9 _ il tl d I Dt Di Dn E1 E2 E3 b vi vt o3' oI k kd x tx vb nb nr :=
      ⟨_, _, _, _, _, _, _, ntake N8 (sub_mk (by k_mem) (sub_mk (by k_mem) (sub_mk (by k_mem) (sub_mk (by k_mem) (sub_mk (by k_mem) (sub_mk (by k_mem) (sub_mk (by k_mem) (sub_mk (by k_mem) (sub_mk (by k_mem) (sub_mk (by k_mem) (sub_mk (by k_mem) (by k_extra "tb_rel"))))))))))))⟩
    clear N8
    obtain ⟨tk0, htk0⟩ : ∃ tk0 : Pk, tk0 = ⟨tName k, x, decide (3 < kd), below⟩ := ⟨_, rfl⟩
    have hdt2 : ∀ nr' : Led, (∀ p ∈ ((Di, tupObj [Value.str (S "sig") q1, Value.int 0 q2, Value.ref Dn, Value.bool (decide (3 < kd)), Value.str x tx, Value.str (S "") q3, Value.ref E3, Value.ref E2, Value.ref E1] 0) :: (E1, tupObj [] 0) :: (E2, tupObj [] 0) :: (E3, tupObj [] 0) :: (Dn, tupObj [Value.str (tName k) q4] 0) :: (Dt, tupObj [Value.str (tName k) q5, Value.str x tx, Value.bool (decide (3 < kd)), Value.ref b] 0) :: (b, listOf vb.toArray nb) :: nr : Led), p ∈ nr') →
        Md2 nr nr' vi vt Di Dt b tops tk0 k kd x tx q5 vb nb := by
      intro nr' hs
      have hs1 : ∀ p ∈ nr, p ∈ nr' := fun p hp => hs p (.tail _ (.tail _ (.tail _ (.tail _ (.tail _ (.tail _ (.tail _ hp)))))))
      have eE1 := hs (E1, _) (.tail _ (.head _))
      have eE2 := hs (E2, _) (.tail _ (.tail _ (.head _)))
      have eE3 := hs (E3, _) (.tail _ (.tail _ (.tail _ (.head _))))
      have eDn := hs (Dn, _) (.tail _ (.tail _ (.tail _ (.tail _ (.head _)))))
      have eDt := hs (Dt, _) (.tail _ (.tail _ (.tail _ (.tail _ (.tail _ (.head _))))))
      have eb := hs (b, _) (.tail _ (.tail _ (.tail _ (.tail _ (.tail _ (.tail _ (.head _)))))))
      refine ⟨hs1, ?_, ?_, eDt, eb⟩
      · rw [List.map_append, htk0]
        exact (hdt.mono hs1).append (.one (.tuple eDt (.cons (.str _ _) (.cons (.str _ _) (.cons (.bool _) (.one (.list eb (strs_dat hvb))))))))
      · rw [List.map_append, htk0]
        exact (hdi.mono hs1).append (.one (.tuple (hs (Di, _) (.head _)) (.cons (.str _ _) (.cons (.int _ _) (.cons (.tuple eDn (.one (.str _ _))) (.cons (.bool _) (.cons (.str _ _) (.cons (.str _ _) (.cons (.tuple eE3 .nil) (.cons (.tuple eE2 .nil) (.one (.tuple eE1 .nil))))))))))))
    have chain : ∀ a : Addr, a < Dm → a < Dt ∧ a < Dn ∧ a < E3 ∧ a < E2 ∧ a < E1 ∧ a < Di := fun a c1 =>
      ⟨Nat.lt_trans c1 lDt.1, Nat.lt_trans (Nat.lt_trans c1 lDt.1) lDn.1, Nat.lt_trans (Nat.lt_trans (Nat.lt_trans c1 lDt.1) lDn.1) lE3.1, Nat.lt_trans (Nat.lt_trans (Nat.lt_trans (Nat.lt_trans c1 lDt.1) lDn.1) lE3.1) lE2.1,
       Nat.lt_trans (Nat.lt_trans (Nat.lt_trans (Nat.lt_trans (Nat.lt_trans c1 lDt.1) lDn.1) lE3.1) lE2.1) lE1.1, Nat.lt_trans (Nat.lt_trans (Nat.lt_trans (Nat.lt_trans (Nat.lt_trans (Nat.lt_trans c1 lDt.1) lDn.1) lE3.1) lE2.1) lE1.1) lDi.1⟩
    have mkoff : ∀ a : Addr, a < Dm → b ≠ a → (∀ p ∈ nr, p.1 ≠ a) → ∀ o1 o2 o3 o4 o5 o6 o7, ∀ p ∈ ((Di, o1) :: (E1, o2) :: (E2, o3) :: (E3, o4) :: (Dn, o5) :: (Dt, o6) :: (b, o7) :: nr : Led), p.1 ≠ a := fun a c1 hb' hn o1 o2 o3 o4 o5 o6 o7 => by
      obtain ⟨c2, c3, c4, c5, c6, c7⟩ := chain a c1
      exact off_cons (Nat.ne_of_gt c7) (off_cons (Nat.ne_of_gt c6) (off_cons (Nat.ne_of_gt c5) (off_cons (Nat.ne_of_gt c4) (off_cons (Nat.ne_of_gt c3) (off_cons (Nat.ne_of_gt c2) (off_cons hb' hn))))))
    have f1 := mkoff il lDm.2.2.1 (Ne.symm z2) hi1
    have f2 := mkoff tl lDm.2.2.2.1 (Ne.symm z3) ht1
    have f3 := mkoff d lDm.2.2.2.2.1 (Ne.symm z4) hd1
    have f4 := mkoff I lDm.2.1 (Ne.symm z1) y5
    refine ⟨_, _, _, fun l m nx => MdK d il tl I b Dt k tv2 vt n2 o3' oI nr tops tk0 q5 x tx kd vb nb l m nx,
      _, _, src_range0 rfl hrg3 (by omega) (by simp only [List.size_toArray]; omega), F8, N9, fun _ _ _ _ => trivial, ⟨⟨rfl, rfl, rfl, rfl, rfl, trivial⟩, _, _, _, (hdt2 _ sub_refl).ma, (hdt2 _ sub_refl).mb, (hdt2 _ sub_refl).md, (hdt2 _ sub_refl).me, f1 _ _ _ _ _ _ _, f2 _ _ _ _ _ _ _, f3 _ _ _ _ _ _ _, f4 _ _ _ _ _ _ _, (hdt2 _ sub_refl).mc⟩, ?_, ?_⟩
    · rintro l v3 m₂ nx2 h3 tk3 I2 oI2 R kR hl2 ⟨tv3, rfl⟩ ⟨hm2, vi2, ni2, nr2, hsub2, hdt3, hDt3, hb3, g1, g2, g3, g4, hdi3⟩ off2 F10 N10
      replace F10 := frov F10 hm2
      have hl2' : l < vb.length := by rw [List.size_toArray] at hl2; exact hl2
      have hl3 : l < 3 := by omega
      have hlb : l < below.length := by omega
      have hvi2 : vi2.length ≤ 100 := by
        have h1 := hdi3.length
        rw [List.length_map, List.length_append, List.length_cons] at h1
        have h3 : (itemsBelow tk0 l).length = l := by unfold itemsBelow; rw [List.length_map, List.length_range]
        have h2 := items_len tops hok
        omega
      clear hl2
      have x1 : il ≠ I2 := off_head off2
      have x2 : tl ≠ I2 := off_head (off_tail off2)
      have x3 : d ≠ I2 := off_head (off_tail (off_tail off2))
      have x4 : I ≠ I2 := off_head (off_tail (off_tail (off_tail off2)))
      have x5 := off_tail (off_tail (off_tail (off_tail off2)))
      have t1 := tName_len hk4
      have t2 := letter_len hl3
      (try clear chain); (try clear mkoff); (try clear f1); (try clear f2); (try clear f3); (try clear f4); (try clear hdt2); (try clear lDm); (try clear lDt); (try clear lDn); (try clear lE3); (try clear lE2); (try clear lE1); (try clear lDi); (try clear lbl); (try clear lDb); (try clear N9); (try clear F8); (try clear F6); (try clear F5); (try clear F3); (try clear F9); (try clear hrg3); (try clear hrg); (try clear N6); (try clear N3); (try clear N0); (try clear N1); (try clear F1); (try clear lil); (try clear ltl); (try clear lDt); (try clear hx); (try clear hy); (try clear hj3); (try clear hF1)
      repeat' ((fail_if_success (with_reducible show wpAny _ _ (subscriptTail _ _ (Value.ref tl) (Value.int _ _)) _ _ _)); k_extra "ktr_rel")
      (refine' last_item ?N ?m ?k ?z ?_; (case N => k_asm); (case m => (repeat (first | exact List.Mem.head _ | refine List.Mem.tail _ ?_))); (case k => (simp only [List.size_toArray]; omega)); (case z => (simp only [List.size_toArray]; omega)))
      repeat' ((fail_if_success (with_reducible show wpAny _ _ (subscriptTail _ _ (Value.str _ _) (Value.int _ _)) _ _ _)); k_extra "ktr_rel")
      refine abc_item (by omega) (by omega) fun t9 => ?_
      rw [Int.toNat_natCast]
      repeat' ((fail_if_success (with_reducible show wpAny _ _ (subscriptTail _ _ (Value.ref b) (Value.int _ _)) _ _ _)); k_extra "ktr_rel")
      refine' strs_item ?N ?m hvb ?z1 ?z2 ?z3 ?_
      (case N => k_asm)
      (case m => k_mem)
      (case z1 => omega)
      (case z2 => omega)
      (case z3 => omega)
      intro t8
      repeat' ((fail_if_success (with_reducible show wpAny _ _ (subscriptTail _ _ (Value.ref tl) (Value.int _ _)) _ _ _)); k_extra "ktr_rel")
      (refine' last_item ?N ?m ?k ?z ?_; (case N => k_asm); (case m => (repeat (first | exact List.Mem.head _ | refine List.Mem.tail _ ?_))); (case k => (simp only [List.size_toArray]; omega)); (case z => (simp only [List.size_toArray]; omega)))
      repeat' (k_extra "ktr_rel")
      rename_i Dn2 _ lDn2 E32 _ lE32 E22 _ lE22 E12 _ lE12 Di2 _ lDi2 _ F11 N11
      rw [List.push_toArray] at N11
      rw [Int.toNat_natCast] at N11
      obtain ⟨e1, e2, e3, e4, e5, n7, N12⟩ : Md12 g9 L9 _ il tl d I I2 Dt Di2 Dn2 E12 E22 E32 vi2 vt n2 o3' oI oI2 k l below nr2 :=
        ⟨_, _, _, _, _, _, ntake N11 (sub_mk (by k_mem) (sub_mk (by k_mem) (sub_mk (by k_mem) (sub_mk (by k_mem) (sub_mk (by k_mem) (sub_mk (by k_mem) (sub_mk (by k_mem) (sub_mk (by k_mem) (sub_mk (by k_mem) (sub_mk (by k_mem) (by k_extra "tb_rel")))))))))))⟩
      clear N11
      have chain2 : ∀ a : Addr, a < Dn2 → a < E32 ∧ a < E22 ∧ a < E12 ∧ a < Di2 := fun a c1 =>
        ⟨Nat.lt_trans c1 lE32.1, Nat.lt_trans (Nat.lt_trans c1 lE32.1) lE22.1, Nat.lt_trans (Nat.lt_trans (Nat.lt_trans c1 lE32.1) lE22.1) lE12.1, Nat.lt_trans (Nat.lt_trans (Nat.lt_trans (Nat.lt_trans c1 lE32.1) lE22.1) lE12.1) lDi2.1⟩
      have mkoff2 : ∀ a : Addr, a < Dn2 → (∀ p ∈ nr2, p.1 ≠ a) → ∀ o1 o2 o3 o4 o5, ∀ p ∈ ((Di2, o1) :: (E12, o2) :: (E22, o3) :: (E32, o4) :: (Dn2, o5) :: nr2 : Led), p.1 ≠ a := fun a c1 hn o1 o2 o3 o4 o5 => by
        obtain ⟨c2, c3, c4, c5⟩ := chain2 a c1
        exact off_cons (Nat.ne_of_gt c5) (off_cons (Nat.ne_of_gt c4) (off_cons (Nat.ne_of_gt c3) (off_cons (Nat.ne_of_gt c2) (off_cons (Nat.ne_of_gt c1) hn))))
      have s5 : ∀ (o1 o2 o3 o4 o5 : Obj), ∀ p ∈ nr2, p ∈ ((Di2, o1) :: (E12, o2) :: (E22, o3) :: (E32, o4) :: (Dn2, o5) :: nr2 : Led) := fun _ _ _ _ _ p hp => .tail _ (.tail _ (.tail _ (.tail _ (.tail _ hp))))
      have hi0 : (⟨tk0.name ++ letter l, false, tk0.below.getD l (S ""), tk0.name⟩ : Item) = ⟨tName k ++ letter l, false, below.getD l (S ""), tName k⟩ := by rw [htk0]
      refine tend kR F11 N12 (nx := (il, listOf (vi2 ++ [Value.ref Di2]).toArray n7) :: (tl, listOf (vt.toArray.push (Value.ref Dt)) n2) :: (d, o3') :: (I, oI) :: _) (fun p hp => hp) (off_cons x1 (off_cons x2 (off_cons x3 (off_cons x4 (mkoff2 I2 lDn2.1 x5 _ _ _ _ _))))) ⟨⟨rfl, rfl, rfl, rfl, rfl, trivial⟩, _, _, _, fun p hp => s5 _ _ _ _ _ p (hsub2 p hp), hdt3.mono (s5 _ _ _ _ _), s5 _ _ _ _ _ _ hDt3, s5 _ _ _ _ _ _ hb3, mkoff2 il lDn2.2.1 g1 _ _ _ _ _, mkoff2 tl lDn2.2.2.1 g2 _ _ _ _ _, mkoff2 d lDn2.2.2.2.1 g3 _ _ _ _ _, mkoff2 I lDn2.2.2.2.2.1 g4 _ _ _ _ _, ?_⟩
      rw [itemsBelow_succ, ← List.cons_append, ← List.append_assoc, List.map_append, hi0]
      exact (hdi3.mono (s5 _ _ _ _ _)).append (.one (.tuple (.head _) (.cons (.str _ _) (.cons (.int _ _) (.cons (.tuple (.tail _ (.tail _ (.tail _ (.tail _ (.head _))))) (.one (.str _ _))) (.cons (.bool _) (.cons (.str _ _) (.cons (.str _ _) (.cons (.tuple (.tail _ (.tail _ (.tail _ (.head _)))) .nil) (.cons (.tuple (.tail _ (.tail _ (.head _))) .nil) (.one (.tuple (.tail _ (.head _)) .nil))))))))))))
    · rintro m₂ nx2 h3 tk3 ⟨hm2, vi2, ni2, nr2, hsub2, hdt3, hDt3, hb3, g1, g2, g3, g4, hdi3⟩ F10 N10
      replace F10 := frov F10 hm2
      rw [List.push_toArray] at N10
      repeat' (k_extra "ktr_rel")
      have hTk : TopOk tk0 := by
        rw [htk0]
        exact ⟨hx, hbl3, hbw.b, fun ha => ⟨hy (of_decide_eq_true ha), hbw.a (of_decide_eq_true ha)⟩, fun ha => hbw.n (of_decide_eq_false ha)⟩
      have hlb : tk0.below.length = vb.toArray.size := by rw [htk0, List.size_toArray]; exact hvbl.symm
      refine tend kR (nx := (il, listOf vi2.toArray ni2) :: (tl, listOf (vt ++ [Value.ref Dt]).toArray n2) :: (d, o3') :: nr2) (by k_asm) (by k_asm) (sub_mk (.tail _ (.tail _ (.tail _ (.head _)))) (sub_mk (.head _) (sub_mk (.tail _ (.head _)) (sub_mk (.tail _ (.tail _ (.head _))) (fun p hp => .tail _ (.tail _ (.tail _ (.tail _ hp)))))))) (off_cons y1 (off_cons y2 (off_cons y3 g4))) ⟨⟨rfl, rfl, rfl, trivial⟩, vi2, ni2, vt ++ [Value.ref Dt], n2, o3', j3, tops ++ [tk0], nr2, fun p hp => hsub2 p (hb p hp), g3, g1, g2, hF4, by omega, by rw [List.length_append, hlen]; rfl, hdt3, ?_, ?_, ?_⟩
      · rw [List.flatMap_append, List.flatMap_cons, List.flatMap_nil, List.append_nil]
        unfold itemsOf
        rw [hlb]
        exact hdi3
      · intro i hi
        by_cases q : i < tops.length
        · rw [List.getElem_append_left q]; exact hnm i q
        · rw [List.length_append, List.length_cons, List.length_nil] at hi
          have : i = k := by omega
          subst this
          rw [List.getElem_append_right (by omega)]
          simp only [hlen, Nat.sub_self, List.getElem_cons_zero, htk0]
      · intro t ht
        rcases List.mem_append.mp ht with h | h
        · exact hok t h
        · cases List.mem_singleton.mp h
          exact hTk
  · rintro m₁ nx h tk ⟨hm, vi, ni, vt, nt, o2, j, tops, nr, hb, hd1, hi1, ht1, hF2, hj, hlen, hdt, hdi, hnm, hok⟩ F3 N3
    replace F3 := frov F3 hm
    repeat' (k_extra "ktr_rel")
    rename News _ _ _ _ => kN
    rename _ < _ ∧ _ => la
    exact hret _ _ _ _ (by k_asm) kN ⟨_, il, tl, _, vi, ni, vt, nt, o2, j, tops, nr, hb, hd1, hi1, ht1, Ne.symm u1, Ne.symm u2, u3, allLt_off la.2.2.2, Ne.symm (Nat.ne_of_lt la.1), Ne.symm (Nat.ne_of_lt la.2.1), Ne.symm (Nat.ne_of_lt la.2.2.1), hF2, by omega, by omega, by omega, hdt, hdi, hnm, hok⟩
end
end
section
structure TopsOk (tops : List Pk) : Prop where
  n1 : 1 ≤ tops.length
  n4 : tops.length ≤ 4
  nm : ∀ i (h : i < tops.length), tops[i].name = tName i
  ok : ∀ t ∈ tops, TopOk t
noncomputable def full (k : Nat) : List Str := [tName k, tName k ++ letter 0, tName k ++ letter 1, tName k ++ letter 2]
noncomputable def allNames : List Str := full 0 ++ full 1 ++ full 2 ++ full 3
noncomputable def NmSpec (l : List Str) : Prop := l.Nodup ∧ (∀ x ∈ l, x ≠ S "int" ∧ x ≠ S "Int" ∧ x ≠ S "" ∧ x.length ≤ 100 ∧ PyData.strOk x = true)
theorem allNames_nodup : allNames.Nodup := by decide
theorem allNames_ok : ∀ x ∈ allNames, x ≠ S "int" ∧ x ≠ S "Int" ∧ x ≠ S "" ∧ x.length ≤ 100 ∧ PyData.strOk x = true := by decide +kernel
theorem below_names (t : Pk) : ∀ l, (itemsBelow t l).map Item.name = (List.range l).map fun j => t.name ++ letter j := fun l => by
  unfold itemsBelow
  rw [List.map_map]
  rfl
theorem names_sub {t : Pk} (h : TopOk t) {k : Nat} (hn : t.name = tName k) : ((itemsOf t).map Item.name).Sublist (full k) := by
  unfold itemsOf full
  rw [List.map_cons, below_names, hn]
  refine List.Sublist.cons_cons _ ?_
  have : (List.range t.below.length).Sublist (List.range 3) := List.range_sublist.mpr h.l
  exact this.map fun j => tName k ++ letter j
theorem names_all {tops : List Pk} (h : TopsOk tops) : ((tops.flatMap itemsOf).map Item.name).Sublist allNames := by
  obtain ⟨h1, h4, hn, ho⟩ := h
  match tops, h1, h4, hn, ho with
  | [a], _, _, hn, ho =>
    have e0 := names_sub (ho a (by simp)) (hn 0 (by simp))
    simp only [List.flatMap_cons, List.flatMap_nil, List.append_nil]
    exact ((e0.trans (List.sublist_append_left _ _)).trans (List.sublist_append_left _ _)).trans (List.sublist_append_left _ _)
  | [a, b], _, _, hn, ho =>
    have e0 := names_sub (ho a (by simp)) (hn 0 (by simp))
    have e1 := names_sub (ho b (by simp)) (hn 1 (by simp))
    simp only [List.flatMap_cons, List.flatMap_nil, List.append_nil, List.map_append]
    exact ((e0.append e1).trans (List.sublist_append_left _ _)).trans (List.sublist_append_left _ _)
  | [a, b, c], _, _, hn, ho =>
    have e0 := names_sub (ho a (by simp)) (hn 0 (by simp))
    have e1 := names_sub (ho b (by simp)) (hn 1 (by simp))
    have e2 := names_sub (ho c (by simp)) (hn 2 (by simp))
    simp only [List.flatMap_cons, List.flatMap_nil, List.append_nil, List.map_append, ← List.append_assoc]
    exact ((e0.append e1).append e2).trans (List.sublist_append_left _ _)
  | [a, b, c, d], _, _, hn, ho =>
    have e0 := names_sub (ho a (by simp)) (hn 0 (by simp))
    have e1 := names_sub (ho b (by simp)) (hn 1 (by simp))
    have e2 := names_sub (ho c (by simp)) (hn 2 (by simp))
    have e3 := names_sub (ho d (by simp)) (hn 3 (by simp))
    simp only [List.flatMap_cons, List.flatMap_nil, List.append_nil, List.map_append, ← List.append_assoc]
    exact ((e0.append e1).append e2).append e3
  | a :: b :: c :: d :: e :: r, _, h4, _, _ => exact absurd h4 (by simp)
  | [], h1, _, _, _ => exact absurd h1 (by simp)
theorem its_nodup {tops : List Pk} (h : TopsOk tops) : ((tops.flatMap itemsOf).map Item.name).Nodup := allNames_nodup.sublist (names_all h)
theorem its_name {tops : List Pk} (h : TopsOk tops) {i : Item} (hi : i ∈ tops.flatMap itemsOf) : i.name ≠ S "int" ∧ i.name ≠ S "Int" ∧ i.name ≠ S "" ∧ i.name.length ≤ 100 ∧ PyData.strOk i.name = true :=
  allNames_ok _ ((names_all h).subset (List.mem_map.mpr ⟨i, hi, rfl⟩))
noncomputable def headOf (t : Pk) : Item := ⟨t.name, t.abs, t.mult, S ""⟩
theorem head_mem {tops : List Pk} {t : Pk} (h : t ∈ tops) : headOf t ∈ tops.flatMap itemsOf := List.mem_flatMap.mpr ⟨t, h, .head _⟩
theorem top_name {tops : List Pk} (h : TopsOk tops) {t : Pk} (ht : t ∈ tops) : t.name ≠ S "int" ∧ t.name ≠ S "Int" ∧ t.name ≠ S "" ∧ t.name.length ≤ 100 ∧ PyData.strOk t.name = true := its_name h (head_mem ht)
theorem tops_sub : ∀ (l : List Pk), (l.map Pk.name).Sublist ((l.flatMap itemsOf).map Item.name)
  | [] => .slnil
  | t :: l => by
    rw [List.map_cons, List.flatMap_cons, itemsOf, List.cons_append, List.map_cons, List.map_append]
    exact ((tops_sub l).trans (List.sublist_append_right _ _)).cons_cons _
theorem tops_nodup {tops : List Pk} (h : TopsOk tops) : (tops.map Pk.name).Nodup := (its_nodup h).sublist (tops_sub tops)
theorem below_mem {t : Pk} {l : Nat} {i : Item} (h : i ∈ itemsBelow t l) : i.parent = t.name ∧ ∃ j, j < l ∧ i.name = t.name ++ letter j := by
  obtain ⟨j, hj, rfl⟩ := List.mem_map.mp h
  exact ⟨rfl, j, List.mem_range.mp hj, rfl⟩
theorem its_len {tops : List Pk} (h : TopsOk tops) : (tops.flatMap itemsOf).length ≤ 16 := by
  have := items_len tops h.ok
  have := h.n4
  omega
theorem its_wf {tops : List Pk} (h : TopsOk tops) : WfIts (tops.flatMap itemsOf) where
  len := by have := its_len h; omega
  up := fun i hi => by
    obtain ⟨t, ht, hi⟩ := List.mem_flatMap.mp hi
    rcases List.mem_cons.mp hi with rfl | hi
    · exact .inl rfl
    · obtain ⟨e, -⟩ := below_mem hi
      exact .inr ⟨by rw [e]; exact (top_name h ht).2.2.1, headOf t, head_mem ht, e, rfl⟩
  n1 := fun i hi => (its_name h hi).1
  n2 := fun i hi => (its_name h hi).2.1
  n0 := fun i hi => (its_name h hi).2.2.1
  nl := fun i hi => (its_name h hi).2.2.2.1
theorem its_sok {tops : List Pk} (h : TopsOk tops) : ∀ i ∈ tops.flatMap itemsOf, PyData.strOk i.name = true := fun i hi => (its_name h hi).2.2.2.2
theorem its_once {tops : List Pk} (h : TopsOk tops) : ∀ a b (ha : a < (tops.flatMap itemsOf).length) (hb : b < (tops.flatMap itemsOf).length), (tops.flatMap itemsOf)[a].name = (tops.flatMap itemsOf)[b].name → a = b := by
  intro a b ha hb e
  have h1 : a < ((tops.flatMap itemsOf).map Item.name).length := by simpa using ha
  have h2 : b < ((tops.flatMap itemsOf).map Item.name).length := by simpa using hb
  exact (List.getElem_inj (h₀ := h1) (h₁ := h2) (its_nodup h)).mp (by simpa using e)
/-- every parent stands ahead -/
noncomputable def UpOk (l : List Item) : Prop := ∀ k (h : k < l.length), l[k].parent = S "" ∨ (l[k].parent ≠ S "" ∧ ∃ j ∈ l.take k, l[k].parent = j.name)
theorem UpOk.append {a b : List Item} (ha : UpOk a) (hb : UpOk b) : UpOk (a ++ b) := by
  intro k hk
  by_cases q : k < a.length
  · rw [List.getElem_append_left q, List.take_append_of_le_length (by omega)]
    exact ha k q
  · have q2 : a.length ≤ k := by omega
    have q3 : k - a.length < b.length := by rw [List.length_append] at hk; omega
    rw [List.getElem_append_right q2]
    rcases hb _ q3 with h | ⟨h, j, hj, e⟩
    · exact .inl h
    · refine .inr ⟨h, j, ?_, e⟩
      rw [List.take_append]
      exact List.mem_append.mpr (.inr hj)
theorem up_one {t : Pk} (h : t.name ≠ S "") : UpOk (itemsOf t) := by
  intro k hk
  cases k with
  | zero => exact .inl rfl
  | succ k =>
    have e : (itemsOf t)[k + 1].parent = t.name := by
      have hm : (itemsOf t)[k + 1] ∈ itemsBelow t t.below.length := by
        exact List.getElem_mem (l := itemsBelow t t.below.length) (n := k) (Nat.lt_of_succ_lt_succ hk)
      exact (below_mem hm).1
    refine .inr ⟨by rw [e]; exact h, headOf t, ?_, e⟩
    show headOf t ∈ (headOf t :: itemsBelow t t.below.length).take (k + 1)
    rw [List.take_succ_cons]
    exact .head _
theorem up_all : ∀ (l : List Pk), (∀ t ∈ l, t.name ≠ S "") → UpOk (l.flatMap itemsOf)
  | [], _ => fun k hk => absurd hk (by simp)
  | t :: l, h => by
    rw [List.flatMap_cons]
    exact (up_one (h t (.head _))).append (up_all l fun x hx => h x (.tail _ hx))
theorem its_up {tops : List Pk} (h : TopsOk tops) : UpOk (tops.flatMap itemsOf) := up_all tops fun t ht => (top_name h ht).2.2.1
/-- the lined one -/
noncomputable def opdOf (lined : Str) : List Str := if lined = S "" then [] else [lined]
theorem opd_len (lined : Str) : (opdOf lined).length ≤ 1 := by
  unfold opdOf; split <;> simp
theorem opd_top {tops : List Pk} {lined : Str} (hl : lined = S "" ∨ ∃ t ∈ tops, t.name = lined) : ∀ o ∈ opdOf lined, ∃ i ∈ tops.flatMap itemsOf, i.name = o ∧ i.parent = S "" := by
  intro o ho
  unfold opdOf at ho
  split at ho
  · cases ho
  · rcases hl with h | ⟨t, ht, e⟩
    · contradiction
    · cases List.mem_singleton.mp ho
      exact ⟨headOf t, head_mem ht, e, rfl⟩
theorem opd_mem {tops : List Pk} (h : TopsOk tops) {lined : Str} {t : Pk} (ht : t ∈ tops) : decide (t.name ∈ opdOf lined) = (t.name == lined) := by
  unfold opdOf
  by_cases q : lined = S ""
  · rw [if_pos q]
    have : t.name ≠ lined := by rw [q]; exact (top_name h ht).2.2.1
    simp [this]
  · rw [if_neg q]
    by_cases e : t.name = lined <;> simp [e]
/-- what was told -/
theorem sigs2_sub {tops : List Pk} (h : TopsOk tops) : (sigs2 tops).Sublist allNames := by
  have key : ∀ k, [tName k, tName k ++ S "a"].Sublist (full k) := fun k => ((List.nil_sublist _).cons_cons _).cons_cons _
  obtain ⟨h1, h4, hn, ho⟩ := h
  match tops, h1, h4, hn, ho with
  | [a], _, _, hn, ho =>
    have e0 := hn 0 (by simp)
    simp only [List.getElem_cons_zero] at e0
    simp only [sigs2, List.flatMap_cons, List.flatMap_nil, List.append_nil, e0]
    exact (((key 0).trans (List.sublist_append_left _ _)).trans (List.sublist_append_left _ _)).trans (List.sublist_append_left _ _)
  | [a, b], _, _, hn, ho =>
    have e0 := hn 0 (by simp)
    have e1 := hn 1 (by simp)
    simp only [List.getElem_cons_zero, List.getElem_cons_succ] at e0 e1
    simp only [sigs2, List.flatMap_cons, List.flatMap_nil, List.append_nil, e0, e1]
    exact (((key 0).append (key 1)).trans (List.sublist_append_left _ _)).trans (List.sublist_append_left _ _)
  | [a, b, c], _, _, hn, ho =>
    have e0 := hn 0 (by simp)
    have e1 := hn 1 (by simp)
    have e2 := hn 2 (by simp)
    simp only [List.getElem_cons_zero, List.getElem_cons_succ] at e0 e1 e2
    simp only [sigs2, List.flatMap_cons, List.flatMap_nil, List.append_nil, e0, e1, e2]
    rw [← List.append_assoc]
    exact (((key 0).append (key 1)).append (key 2)).trans (List.sublist_append_left _ _)
  | [a, b, c, d], _, _, hn, ho =>
    have e0 := hn 0 (by simp)
    have e1 := hn 1 (by simp)
    have e2 := hn 2 (by simp)
    have e3 := hn 3 (by simp)
    simp only [List.getElem_cons_zero, List.getElem_cons_succ] at e0 e1 e2 e3
    simp only [sigs2, List.flatMap_cons, List.flatMap_nil, List.append_nil, e0, e1, e2, e3]
    rw [← List.append_assoc, ← List.append_assoc]
    exact (((key 0).append (key 1)).append (key 2)).append (key 3)
  | a :: b :: c :: d :: e :: r, _, h4, _, _ => exact absurd h4 (by simp)
  | [], h1, _, _, _ => exact absurd h1 (by simp)
theorem told_nodup {tops : List Pk} (h : TopsOk tops) {told : List Tell} (hs : (told.map Tell.sig).Sublist (sigs2 tops ++ [S "Int"])) : (told.map Tell.sig).Nodup := by
  have h1 : (allNames ++ [S "Int"]).Nodup := by decide
  exact h1.sublist (hs.trans ((sigs2_sub h).append (List.Sublist.refl _)))
theorem told_wf {tops : List Pk} (h : TopsOk tops) {told : List Tell} (hl : told.length ≤ 21) (hs : (told.map Tell.sig).Sublist (sigs2 tops ++ [S "Int"])) (ht : ∀ t ∈ told, TellOk tops t) : WfTold (tops.flatMap itemsOf) told where
  len := by omega
  known := fun t hm => by
    rcases (ht t hm).ok with ⟨e, -⟩ | ⟨p, hp, e, -⟩ | ⟨p, hp, hb, e, -⟩
    · exact .inl e
    · exact .inr ⟨headOf p, head_mem hp, e.symm⟩
    · refine .inr ⟨⟨p.name ++ letter 0, false, p.below.getD 0 (S ""), p.name⟩, List.mem_flatMap.mpr ⟨p, hp, .tail _ (List.mem_map.mpr ⟨0, List.mem_range.mpr ?_, rfl⟩)⟩, e.symm⟩
      cases q : p.below with
      | nil => exact absurd q hb
      | cons => simp
  once := fun a b ha hb e => by
    have h1 : a < (told.map Tell.sig).length := by simpa using ha
    have h2 : b < (told.map Tell.sig).length := by simpa using hb
    exact (List.getElem_inj (h₀ := h1) (h₁ := h2) (told_nodup h hs)).mp (by simpa using e)
theorem told_big {tops : List Pk} {told : List Tell} (ht : ∀ t ∈ told, TellOk tops t) : ∀ t ∈ told, t.number.natAbs < 10 ^ 40 := by
  have hv : ∀ x ∈ sizeVals, x.natAbs < 10 ^ 40 := by decide
  intro t hm
  rcases (ht t hm).ok with ⟨-, e⟩ | ⟨p, hp, -, e, -⟩ | ⟨p, hp, hb, -, e1, e2⟩
  · rw [e]; decide
  · exact hv _ e
  · have : t.number.natAbs < 4 := by omega
    exact Nat.lt_trans this (by decide)
theorem tell_of {tops : List Pk} (h : TopsOk tops) {p : Pk} (hp : p ∈ tops) {t : Tell} (ht : TellOk tops t) (e : t.sig = p.name) (hm : p.mult = S "lone") : t.exact = false := by
  have key : ∀ {x y : Pk}, x ∈ tops → y ∈ tops → x.name = y.name → x = y := by
    intro x y hx hy e
    obtain ⟨a, ha, rfl⟩ := List.getElem_of_mem hx
    obtain ⟨b, hb, rfl⟩ := List.getElem_of_mem hy
    have h1 : a < (tops.map Pk.name).length := by simpa using ha
    have h2 : b < (tops.map Pk.name).length := by simpa using hb
    have := (List.getElem_inj (h₀ := h1) (h₁ := h2) (tops_nodup h)).mp (by simpa using e)
    subst this
    rfl
  rcases ht.ok with ⟨e1, -⟩ | ⟨q, hq, e1, -, h2⟩ | ⟨q, hq, hb, e1, -⟩
  · exact absurd (e.symm.trans e1) (top_name h hp).2.1
  · have : q = p := key hq hp (e1.symm.trans e)
    subst this
    exact h2 hm
  · exfalso
    have hmem : (⟨q.name ++ letter 0, false, q.below.getD 0 (S ""), q.name⟩ : Item) ∈ tops.flatMap itemsOf := by
      refine List.mem_flatMap.mpr ⟨q, hq, .tail _ (List.mem_map.mpr ⟨0, List.mem_range.mpr ?_, rfl⟩)⟩
      cases hz : q.below with
      | nil => exact absurd hz hb
      | cons => simp
    obtain ⟨a, ha, ea⟩ := List.getElem_of_mem hmem
    obtain ⟨b, hb2, eb⟩ := List.getElem_of_mem (head_mem hp)
    have hab := its_once h a b ha hb2 (by rw [ea, eb]; exact e1.symm.trans e)
    subst hab
    have := congrArg Item.parent (ea.symm.trans eb)
    exact (top_name h hq).2.2.1 this
/-- the lots -/
theorem head_find (told : List Tell) (nm : Str) : (((told.filter fun x => x.sig == nm).map fun x => (x.exact, x.number)).head?) = tellOf told nm := by
  unfold tellOf
  rw [List.head?_map, List.head?_filter]
  congr 2
theorem flatMap_one {β : Type} (g : Pk → List β) (t : Pk) : ∀ (l : List Pk), (l.map Pk.name).Nodup → t ∈ l → l.flatMap (fun x => if x.name = t.name then g x else []) = g t
  | [], _, h => nomatch h
  | a :: l, hn, h => by
    rw [List.map_cons, List.nodup_cons] at hn
    have hz : ∀ (l : List Pk), t.name ∉ l.map Pk.name → l.flatMap (fun x => if x.name = t.name then g x else []) = [] := by
      intro l hl
      rw [List.flatMap_eq_nil_iff]
      intro x hx
      rw [if_neg]
      intro e
      exact hl (List.mem_map.mpr ⟨x, hx, e⟩)
    rw [List.flatMap_cons]
    rcases List.mem_cons.mp h with rfl | h
    · rw [if_pos rfl, hz l hn.1, List.append_nil]
    · have : a.name ≠ t.name := fun e => hn.1 (List.mem_map.mpr ⟨t, h, e.symm⟩)
      rw [if_neg this, List.nil_append]
      exact flatMap_one g t l hn.2 h
theorem chs_top {tops : List Pk} (h : TopsOk tops) {t : Pk} (ht : t ∈ tops) : chs (tops.flatMap itemsOf) t.name = itemsBelow t t.below.length := by
  unfold chs
  rw [List.filter_flatMap, ← flatMap_one (fun t => itemsBelow t t.below.length) t tops (tops_nodup h) ht]
  congr 1
  funext x
  have hne : ¬ S "" = t.name := fun e => (top_name h ht).2.2.1 e.symm
  unfold itemsOf
  rw [List.filter_cons_of_neg (by simpa using hne)]
  by_cases e : x.name = t.name
  · rw [if_pos e, List.filter_eq_self.mpr]
    intro i hi
    simpa using (below_mem hi).1.trans e
  · rw [if_neg e, List.filter_eq_nil_iff]
    intro i hi
    simpa [(below_mem hi).1] using e
theorem below_mults (t : Pk) : (itemsBelow t t.below.length).map Item.mult = t.below := by
  unfold itemsBelow
  rw [List.map_map]
  apply List.ext_getElem
  · simp
  · intro i h1 h2
    simp [List.getElem?_eq_getElem h2]
theorem usual_top {tops : List Pk} (h : TopsOk tops) {t : Pk} (ht : t ∈ tops) (s0 : Sc) : usualFor (tops.flatMap itemsOf) (usual s0.default) (headOf t) = dueMany s0 t := by
  have hT := h.ok t ht
  unfold usualFor dueMany nones
  show (if t.abs = true ∧ 0 < (chs _ t.name).length ∧ ((chs _ t.name).filter _).map _ = [] then ((chs _ t.name).length : Int) else _) = _
  rw [chs_top h ht]
  have hl : (itemsBelow t t.below.length).length = t.below.length := by simp [itemsBelow]
  rw [hl]
  cases ha : t.abs with
  | false => simp
  | true =>
    have hb := (hT.a ha).2
    have hb2 : 0 < t.below.length := List.length_pos_iff.mpr hb
    have key : (((itemsBelow t t.below.length).filter fun j => j.mult != S "one").map Item.name = []) ↔ (t.below.any fun x => x == S "") = false := by
      rw [List.map_eq_nil_iff, List.filter_eq_nil_iff]
      have hm := below_mults t
      constructor
      · intro q
        rw [List.any_eq_false]
        intro x hx
        rw [← hm] at hx
        obtain ⟨i, hi, rfl⟩ := List.mem_map.mp hx
        have := q i hi
        simp only [bne_iff_ne, ne_eq, Decidable.not_not] at this
        rw [this]
        decide
      · intro q i hi
        rw [List.any_eq_false] at q
        have hx : i.mult ∈ t.below := by rw [← hm]; exact List.mem_map.mpr ⟨i, hi, rfl⟩
        rcases hT.b _ hx with e | e
        · rw [e]; decide
        · exact absurd (q _ hx) (by rw [e]; decide)
    cases hq : t.below.any fun x => x == S "" with
    | false => rw [if_pos ⟨rfl, hb2, key.mpr hq⟩]; rfl
    | true =>
      rw [if_neg (fun c => by rw [key.mp c.2.2] at hq; cases hq)]
      rfl
theorem lot_top {tops : List Pk} (h : TopsOk tops) {t : Pk} (ht : t ∈ tops) {s0 : Sc} {lined : Str} (hk : ∀ x ∈ s0.told, TellOk tops x) :
    lotFor (tops.flatMap itemsOf) (usual s0.default) s0.told (opdOf lined) (headOf t) = lotDue s0 t lined := by
  unfold lotFor lotDue dueNums
  rw [usual_top h ht, head_find]
  show lotOf t.mult (tellOf s0.told t.name) (dueMany s0 t) (decide (t.name ∈ opdOf lined)) = _
  rw [opd_mem h ht]
  unfold lotOf
  by_cases h1 : t.mult = S "one"
  · rw [h1]; rfl
  · have e1 : (t.mult == S "one") = false := by simpa using h1
    rw [e1]
    by_cases h2 : t.mult = S "lone"
    · have e2 : (t.mult == S "lone") = true := by simpa using h2
      rw [e2]
      simp only [if_true, Bool.false_eq_true, if_false]
      cases q : tellOf s0.told t.name with
      | none => rfl
      | some ek =>
        obtain ⟨e, k⟩ := ek
        unfold tellOf at q
        cases f : s0.told.find? (fun x => decide (x.sig = t.name)) with
        | none => rw [f] at q; cases q
        | some x =>
          rw [f] at q
          cases q
          have hx := List.mem_of_find?_eq_some f
          have hx2 := List.find?_some f
          have hx3 := tell_of h ht (hk x hx) (by simpa using hx2) h2
          simp only [hx3, Bool.false_and, Bool.false_eq_true, if_false]
    · have e2 : (t.mult == S "lone") = false := by simpa using h2
      rw [e2]
      simp only [Bool.false_eq_true, if_false]
      all_goals (rcases tellOf s0.told t.name with _ | ⟨e, k⟩ <;> rfl)
theorem hLots_tops {tops : List Pk} (h : TopsOk tops) {s0 : Sc} {lined : Str} (hk : ∀ x ∈ s0.told, TellOk tops x) :
    hLots (tops.flatMap itemsOf) (usual s0.default) s0.told (opdOf lined) (tops.flatMap itemsOf) = dueLots s0 lined tops := by
  unfold hLots dueLots
  have key : ∀ (l : List Pk), (∀ t ∈ l, t ∈ tops) → (l.flatMap itemsOf).filter (fun i => i.top == i.name) = l.map headOf := by
    intro l
    induction l with
    | nil => intro _; rfl
    | cons t l ih =>
      intro hl
      have ht := hl t (.head _)
      rw [List.flatMap_cons, List.filter_append, ih fun x hx => hl x (.tail _ hx), List.map_cons]
      have : (itemsOf t).filter (fun i => i.top == i.name) = [headOf t] := by
        unfold itemsOf
        rw [List.filter_cons_of_pos (by simp [Item.top])]
        rw [List.filter_eq_nil_iff.mpr]
        · rfl
        · intro i hi
          have hi2 : i ∈ tops.flatMap itemsOf := List.mem_flatMap.mpr ⟨t, ht, .tail _ hi⟩
          obtain ⟨e1, -⟩ := below_mem hi
          have hne : i.parent ≠ S "" := by rw [e1]; exact (top_name h ht).2.2.1
          unfold Item.top
          rw [if_neg hne, e1]
          intro q
          have q := eq_of_beq q
          obtain ⟨a, ha, ea⟩ := List.getElem_of_mem hi2
          obtain ⟨b, hb2, eb⟩ := List.getElem_of_mem (head_mem ht)
          have hab := its_once h a b ha hb2 (by rw [ea, eb]; exact q.symm)
          subst hab
          have := congrArg Item.parent (ea.symm.trans eb)
          exact hne this
      rw [this]
      rfl
  rw [key tops fun t ht => ht, List.map_map]
  apply List.map_congr_left
  intro t ht
  show (t.name, lotFor _ _ _ _ (headOf t)) = _
  rw [lot_top h ht hk]
theorem law_same {tops : List Pk} (h : TopsOk tops) {s0 : Sc} {lined : Str} (hk : ∀ x ∈ s0.told, TellOk tops x) :
    heardRes (tops.flatMap itemsOf) s0 (opdOf lined) = dueRes s0 lined tops := by
  unfold heardRes dueRes hRun
  rw [hLots_tops h hk]
theorem usual_nonneg (d : Int) : 0 ≤ usual d := by unfold usual; split <;> omega
theorem heard_pos {its : List Item} {s0 : Sc} {opd : List Str} (hb : s0.told.any Tell.bad = false) : ∀ i ∈ its, ∀ e k, lotFor its (usual s0.default) s0.told opd i = some (e, k) → 0 ≤ k := by
  intro i _ e k
  have hu : 0 ≤ usualFor its (usual s0.default) i := by
    unfold usualFor
    split
    · omega
    · exact usual_nonneg _
  unfold lotFor
  have ht : ∀ e k, tellOf s0.told i.name = some (e, k) → 0 ≤ k := by
    intro e k q
    unfold tellOf at q
    cases f : s0.told.find? (fun x => decide (x.sig = i.name)) with
    | none => rw [f] at q; cases q
    | some x =>
      rw [f] at q
      cases q
      have hx := List.mem_of_find?_eq_some f
      have := List.any_eq_false.mp hb x hx
      unfold Tell.bad at this
      simp only [Bool.or_eq_true, decide_eq_true_eq, not_or] at this
      omega
  generalize tellOf s0.told i.name = tt at ht
  generalize usualFor its (usual s0.default) i = u at hu
  unfold lotOf
  intro q
  rcases tt with _ | ⟨e1, k1⟩
  · dsimp only at q
    split at q
    · cases q; omega
    · split at q
      · cases q; split <;> omega
      · cases q; omega
  · have h1 := ht e1 k1 rfl
    dsimp only at q
    split at q
    · split at q
      · cases q
      · cases q; omega
    · split at q
      · split at q
        · cases q
        · cases q; split <;> omega
      · cases q; omega
theorem due_pos {tops : List Pk} (h : TopsOk tops) {s0 : Sc} {lined : Str} (hk : ∀ x ∈ s0.told, TellOk tops x) (hb : s0.told.any Tell.bad = false) : ∀ t ∈ tops, ∀ e k, lotDue s0 t lined = some (e, k) → 0 ≤ k := by
  intro t ht e k q
  rw [← lot_top h ht hk] at q
  exact heard_pos hb _ (head_mem ht) e k q
end
section
theorem w27 : True := by
  k_with_none
  (k_with "omega" => first | decide | with_reducible (first | exact room2 (by assumption) (by decide) | exact room1 (by assumption) (by decide) | exact le_t (by assumption) (by decide) | assumption | exact Nat.ne_of_lt (by assumption) | exact Nat.ne_of_gt (by assumption)) | (law_clear; lia) | omega +splitDisjunctions)
  (k_with "ktr_room" => ((try dsimp +zetaDelta only [ktrTop, Around.deeper, Around.under, Around.in1]); omega))
  (k_with "ktr_units" => ((have hcL9 := cLine_is); (try dsimp +zetaDelta only [ktrTop, Around.deeper, Around.under, Around.in1, Around.mark]); omega))
  (k_with "k_all" => assumption)
  (k_with "tb_rel" => ((repeat (first | exact sub_refl | refine sub_cons ?_)); done))
  (k_with "st" => ((fail_if_success (with_reducible show CEndV _ _ _)); (fail_if_success (with_reducible show TEndV _ _ _)); (fail_if_success (with_reducible show LoopX _ _ _ _ _ _ _ _ _ _ _)); (fail_if_success (with_reducible show CompX _ _ _ _ _ _ _ _ _ _ _ _ _ _)); (first | ((with_reducible show KEnd _ _ _); refine kuse (by with_reducible assumption) ?_) | ((with_reducible show wpAny _ _ (execs (Stmt.Raise _ _ _ :: _) _) _ _ _); exfalso; (first | omega | (simp only [List.size_toArray, List.length_cons] at *; omega))) | ((with_reducible show wpAny _ _ (execs (_ :: _) _) _ _ _); (try dsimp only); walk1) | ((with_reducible show wpAny _ _ (eval (Expr.BinOp _ _ _ _) _) _ _ _); (try dsimp only); walk1) | (k_unfold; (try dsimp only)) | (k_end; wrow_close) | walk1 | (dsimp only; walk1) | (leave1; walk_say "STEP leave1"; try dsimp only) | fail "no step")))
  (k_with "subscriptTail" => (k_here; (with_reducible show wpAny _ _ (subscriptTail _ _ (Value.ref _) (Value.str _ _)) _ _ _); k_dflt (refine kda_item (knd := PySem.strKind _ _) (by k_asm) (by k_mem) (by assumption) (strKind_is _ _ _ _) (by assumption) ?_)))
  (k_with "call builtin:len" => (k_here; k_dflt (first | refine len_list (News.isList (by k_asm) (by k_mem)) (by walk_at "ln") ?_ | refine PyProof.Rows.len_tuple (News.isTup (by k_asm) (by k_mem)) (by walk_at "ln") ?_)))
  (k_with "ln" => (simp only [List.size_toArray, List.length_cons, List.length_append, List.length_nil, List.length_map]; omega))
  (k_with "subscriptTail" => (k_here; (with_reducible show wpAny _ _ (subscriptTail _ _ (Value.ref _) (Value.int _ _)) _ _ _); k_dflt (refine' item_tupleT ?zzt ?zza ?zzb ?zzc ?zzd ?_; (case zzt => exact News.isTup (by k_asm) (by k_mem)); (case zza => decide); (case zzb => decide); (case zzc => rfl); (case zzd => rfl); k_whole)))
  (k_with "call type:tuple" => (k_here; (with_reducible show wpAny _ _ (call (Value.type _) [Value.ref _]) _ _ _); k_dflt (refine call_tuple_tup (News.isTup (by k_asm) (by k_mem)) ?_)))
  (k_with "k_mem" => first | with_reducible assumption | assumption)
  (k_with "call type:list" => (k_here; (with_reducible show wpAny _ _ (call (Value.type "list") [Value.ref _]) _ _ _); k_dflt (refine' kup_listOf ?zzF ?zzN ?zzb ?zze ?_ ?zzz; (case zzF => k_asm); (case zzN => k_asm); (case zzb => k_mem); (case zze => exact rfl); (case zzz => (simp only [sizeLine_eq]; omega))); intro _ _ _ _ _ _))
  (k_with "WhlIf" => (first | refine WhlIf.no (by assumption) ?_ | refine WhlIf.yes (by assumption) ?_))
  (k_with "ktr_unf" => (refine' code_defC ?zzk1 ?zzk2 ?zzk3 ?zzk4 ?zzk5 ?zzkA ?zzkF ?zzkK ?zzk6 ?zzk7 ?zzk8 ?zzk9 ?zzkB ?zzkD ?_ ?zzc2 ?zzc3 ?zzc4; (case zzkA => exact rfl); (case zzkF => exact rfl); (case zzkK => first | assumption | exact rfl); (case zzk1 => k_asm); (case zzk2 => k_asm); (case zzk3 => k_asm); (case zzk4 => k_asm); (case zzk5 => k_asm); (case zzk6 => k_is); (case zzk7 => k_is); (case zzk8 => ktr_room); (case zzk9 => exact BindsTo.of_eq rfl); (case zzkB => exact rfl); (case zzkD => decide +kernel); (case zzc2 => exact rfl); (case zzc3 => exact rfl); (case zzc4 => exact rfl); k_whole; walk_at "i1"))
  (k_with "eval ListComp" => (k_here; k_dflt (refine ListComp_X (by k_asm) (by rfl) (by decide) (by rfl) (by decide) ?_)))
  (k_with "exec Assign cons ListComp" => (k_here; k_dflt (refine Assign_ListComp_X (by k_asm) (by with_unfolding_all rfl) (by rfl) (by decide) (by rfl) (by decide) (by rfl) (by rfl) ?_)))
  (k_with "exec For Name Name cons nil" => walk_at "fx")
  (k_with "exec For Name Call cons nil" => walk_at "fx")
  (k_with "exec For Name Subscript cons nil" => walk_at "fx")
  (k_with "exec For Name Attribute cons nil" => walk_at "fx")
  (k_with "exec For Name IfExp cons nil" => walk_at "fx")
  (k_with "exec For Tuple Name cons nil" => walk_at "fx")
  (k_with "exec For Tuple Call cons nil" => walk_at "fx")
  (k_with "exec For Tuple Subscript cons nil" => walk_at "fx")
  (k_with "exec For Tuple Attribute cons nil" => walk_at "fx")
  (k_with "compareOp In str ref" => (k_here; k_dflt (first | refine in_no (by k_asm) (by k_mem) (by assumption) (by assumption) (by assumption) ?_ | refine in_yes (by k_asm) (by k_mem) (by assumption) (by assumption) (by assumption) ?_)))
  (k_with "compareOp NotIn str ref" => (k_here; k_dflt (refine notin_no (by k_asm) (by k_mem) (by assumption) (by assumption) (by assumption) ?_)))
  (k_with "setItem ref str" => (k_here; k_dflt (refine' kda_set (knd := PySem.strKind _ _) ?zzF ?zzN ?zzU ?zzd (strKind_is _ _ _ _) ?zzz ?_; (case zzF => k_asm); (case zzN => k_asm); (case zzU => k_updF); (case zzd => assumption); (case zzz => (simp only [sizeLine_eq]; omega))); intro _ _ _ zzN zzhd; (try dsimp only at zzN); (revert zzN zzhd; intro _ _)))
  (k_with "k_ne" => first | assumption | exact Ne.symm (by assumption))
  (k_with "getAttr ref" => (k_here; k_dflt (refine' get_own ?zzk1 ?zzk2 ?zzk3 ?zzk4 ?zzk5 ?zzk6 ?zzk7 ?zzk8 ?zzk9 ?_; (case zzk1 => k_asm); (case zzk2 => k_asm); (case zzk3 => k_inst); (case zzk4 => k_is); (case zzk5 => k_is); (case zzk6 => k_is); (case zzk7 => k_is); (case zzk8 => first | assumption | k_get); (case zzk9 => k_handed); k_whole)))
  (k_with "getMethod ref" => (k_here; k_dflt (refine' method_inst ?zzk1 ?zzk2 ?zzk3 ?zzk4 ?zzk5 ?zzk6 ?zzk7 ?_; (case zzk1 => k_asm); (case zzk2 => k_asm); (case zzk3 => k_inst); (case zzk4 => k_is); (case zzk5 => k_is); (case zzk6 => k_is); (case zzk7 => first | assumption | k_get); k_whole)))
  (k_with "k_ne" => first | with_reducible assumption | with_reducible exact Ne.symm (by assumption) | exact ne_l1 (by assumption) (by k_mem) | exact ne_l2 (by assumption) (by k_mem) | exact ne_o1 (by assumption) (by k_mem) | exact ne_o2 (by assumption) (by k_mem))
  (k_with "k_all" => first | with_reducible assumption | exact off_l1 (by assumption) (by k_extra "tb_rel") | exact off_o1 (by assumption) (by k_extra "tb_rel"))
  (k_with "ktr_rel" => ((fail_if_success (with_reducible show wpAny _ _ (exec (Stmt.While _ _ _ _) _) _ _ _)); walk_at "st"))
  (k_with "compareOp NotIn str ref" => (k_here; k_dflt (refine notin_list_strs (News.isList (by k_asm) (by k_mem)) (by assumption) ?_)))
  (k_with "compareOp Eq ref ref" => (k_here; k_dflt (refine' eq_empty ?zzN ?zza ?zzb ?zzd ?zzo ?zzu ?_; (case zzN => k_asm); (case zza => k_mem); (case zzb => k_mem); (case zzd => assumption); (case zzo => assumption); (case zzu => (dsimp +zetaDelta only [ktrTop, Around.deeper, Around.under, Around.in1]; (have hcL9 := cLine_is); omega)))))
  (k_with "subscriptTail Name Slice ref ref" => (k_here; k_dflt (refine' slice15 ?zzF ?zzN ?zzt ?_; (case zzF => k_asm); (case zzN => k_asm); (case zzt => exact News.isTup (by k_asm) (by k_mem))); intro _ _ _ _))
  (k_with "call ref" => (k_here; (with_reducible show wpAny _ _ (call (Value.ref _) _) _ _ _); k_dflt (refine' Spec.c (by k_asm) (by k_asm) (by k_asm) (by k_asm) (by k_asm) (by first | exact rfl | assumption) ?zzh ?zzD ?zzU ?_; (case zzh => walk_at "spec"); (case zzD => ktr_room); (case zzU => ktr_room)); walk_at "i2"))
  (k_with "call ref" => (k_here; (with_reducible show wpAny _ _ (call (Value.ref _) _) _ _ _); k_dflt (refine' Spec.ck (by k_asm) (by k_asm) (by k_asm) (by k_asm) (by k_asm) (by first | exact rfl | assumption) ?zzh ?zzel ?zzD ?zzU ?_; (case zzh => walk_at "spec"); (case zzel => walk_at "el"); (case zzD => ktr_room); (case zzU => ktr_room)); intros; (first | intro zzN | rename News _ _ _ _ => zzN); (try dsimp only at zzN); (revert zzN; intro _); (try dsimp only); (try k_sweep)))
  (k_with "el" => (first | exact RStr.el | exact RInt.el | exact RBool.el | exact NextRet.el | exact RTup0.el | exact RTup.el | exact RNil.el | exact ROne.el | exact RLst.el | exact NamesRet.el | exact ChRet.el | exact SizesRet.el))
  (k_with "spec" => (exact nextF_spec (by k_updF) (by assumption) (by omega) (by k_mem) (by first | decide | ((try simp only [List.size_toArray]); omega))))
  (k_with "fx" => (k_here; k_dflt (refine For_X (by k_asm) ?_)))
  (k_with "callWith" => (first | with_reducible refine PyProof.Rows.callWith_method0 ?_ | ((with_reducible refine' PyProof.Rows.callWith_builtin1 ?_ ?zzcwe ?zzcwp); (case zzcwe => rfl); (case zzcwp => rfl)) | ((with_reducible refine' PyProof.Rows.callWith_method1 ?_ ?zzcwe ?zzcwp); (case zzcwe => rfl); (case zzcwp => rfl))))
  (k_with "subscriptTail Name Constant ref int" => (first | (k_extra "subscriptTail") | (k_here; (with_reducible show wpAny _ _ (subscriptTail _ _ (Value.ref _) (Value.int _ _)) _ _ _); (with_unfolding_all refine' item_litK ?zzk1 ?zzk2 ?zzk3 ?zzk4 ?_ ?zzk6; (case zzk1 => is_list); (case zzk2 => decide); (case zzk3 => decide); (case zzk4 => rfl); (case zzk6 => with_unfolding_all rfl); k_whole))))
  (k_with "subscriptTail Name BinOp ref int" => (k_extra "subscriptTail"))
  (k_with "subscriptTail Name Name ref int" => (k_extra "subscriptTail"))
  (k_with "subscriptTail Name UnaryOp ref int" => (k_extra "subscriptTail"))
  (k_with "joinParts" => (k_here; (with_reducible refine' join_end ?zzjez ?_); (case zzjez => kt_le)))
  (k_with "spec" => (refine' top_spec ?zzhS ?zzhi ?zzhn ?zzhp; (case zzhS => exact Sigs.mono (by assumption) (by k_extra "tb_rel")); (case zzhi => assumption); (case zzhn => first | assumption | exact rfl); (case zzhp => assumption)))
  trivial
inductive UpRet (sg lo : Addr) (news : Led) : Value → Led → Prop
  | mk (x dx : Addr) (es : List DictEntry) (nd : Nat) (hg1 : getL (Str.ofString "signatures") es = some (some (.ref sg))) (hg2 : getL (Str.ofString "lots") es = some (some (.ref lo))) (hg3 : getL (Str.ofString "of_sig") es = some none) (hg4 : getL (Str.ofString "of_column") es = some none) (hx1 : ∀ p ∈ news, p.1 ≠ x) (hx2 : ∀ p ∈ news, p.1 ≠ dx) :
      UpRet sg lo news (.ref x) ((x, instObj 214 dx) :: (dx, dictOf es nd) :: news)
theorem UpRet.el {sg lo : Addr} {nw : Led} : ∀ K : Value → Led → Prop, (∀ x dx es nd, getL (Str.ofString "signatures") es = some (some (.ref sg)) → getL (Str.ofString "lots") es = some (some (.ref lo)) → getL (Str.ofString "of_sig") es = some none → getL (Str.ofString "of_column") es = some none → (∀ p ∈ nw, p.1 ≠ x) → (∀ p ∈ nw, p.1 ≠ dx) → K (.ref x) ((x, instObj 214 dx) :: (dx, dictOf es nd) :: nw)) → ∀ r n, UpRet sg lo nw r n → K r n := fun _ k _ _ h => by cases h; exact k _ _ _ _ (by assumption) (by assumption) (by assumption) (by assumption) (by assumption) (by assumption)
section
variable {w : World} {loose : List Str} {mean : ExcName → Option Value} {mg mb : Str → Option Value} {news : Led} {x sg lo : Addr} {its : List Item} {op : List Dat} {t : Tok} {i : Item} {nm : Str}
theorem uppers_spec : Spec w loose mean mg mb 60 900 (.ref 214) [.ref sg, .none, .ref lo] news (UpRet sg lo news) None2 := by
  unfold Spec
  k_fill
  intro dp un gd cn cs a ccd cl outer A₀ base h₀ L m s Q E B F X N T hk hR hok hret hexc
  refine call_cls F X N (by k_dflt k_is) (by k_dflt k_is) (by k_dflt k_is) ?_
  intro x dx hh0 F0 N0 l1 l2
  replace l2 := ltN l2
  have hbsx : ∀ p ∈ news, p.1 ≠ x := fun p hp => Nat.ne_of_lt (Nat.lt_trans (l1 p hp) l2)
  have hbsdx : ∀ p ∈ news, p.1 ≠ dx := off_lt l1
  have hw1 : (Code.builtin "type.__call__" ⟨[Value.ref 214, Value.ref sg, Value.none, Value.ref lo], []⟩).weight = 1 := rfl
  have hw2 : (Code.builtin "type.__call__" ⟨[Value.ref 214, Value.ref sg, Value.none, Value.ref lo], []⟩).cUnits = 1 := rfl
  k_dflt ktr_enter
  rename Fr _ _ _ _ => F1
  replace F1 : Fr _ _ _ (fun y => List.lookup y [(Str.ofString "lots", Value.ref lo), (Str.ofString "kinds", Value.none), (Str.ofString "signatures", Value.ref sg), (Str.ofString "self", Value.ref x)]) := F1
  refine opq (by passes_own) ?_
  intro A9 R9 E9 kR9 kE9 pE9
  repeat' (k_extra "ktr_rel")
  rename News _ _ _ _ => kN
  exact hret _ _ _ _ (by k_asm) (ntake kN (sub_mk (by k_mem) (sub_mk (by k_mem) (by k_extra "tb_rel")))) (.mk x dx _ _ rfl rfl rfl rfl hbsx hbsdx)
theorem of_sig_spec {dx : Addr} {es : List DictEntry} {nd : Nat} {olo : Obj} {kl : List (Str × Value)} {v : Value} (hS : Sigs w sg its op news) (hi : i ∈ its) (hn : nm = i.name) (hp : i.parent = S "") (hne : i.name ≠ S "")
    (a1 : (x, instObj 214 dx) ∈ news) (a2 : (dx, dictOf es nd) ∈ news) (g1 : getL (Str.ofString "signatures") es = some (some (.ref sg))) (g2 : getL (Str.ofString "lots") es = some (some (.ref lo)))
    (a3 : (lo, olo) ∈ news) (a4 : (lo == sysModules) = false) (a5 : olo.IsDictOf (PySem.strKind PG w) kl) (hv : valueAt kl i.name = some v) :
    Spec w loose mean mg mb 20 120 (.ref 199) [.ref x, .str nm t] news (fun r news' => r = v ∧ news' = news) None2 := by
  unfold Spec
  k_fill
  intro dp un gd cn cs a ccd cl outer A₀ base h₀ L m s Q E B F X N T hk hR hok hret hexc
  subst hn
  have hS0 := hS
  cases hS0 with | mk c1 c2 c3 c4 c5 c6 c7 c8 c9 b1 b2 b3 b4 =>
  have hpp : i.parent = S "" ∨ (i.parent ≠ S "" ∧ ∃ j ∈ its, i.parent = j.name ∧ j.parent = S "") := .inl hp
  have htop : i.top = i.name := by unfold Item.top; rw [if_pos hp]
  have hv2 : valueAt kl i.top = some v := by rw [htop]; exact hv
  have hne2 : i.top ≠ S "" := by rw [htop]; exact hne
  have hne4 : (i.top != Str.ofString "") = true := by simpa using hne2
  refine wpAny_call ?_
  k_dflt ktr_enter
  rename Fr _ _ _ _ => F1
  replace F1 : Fr _ _ _ (fun y => List.lookup y [(Str.ofString "sig", Value.str i.name t), (Str.ofString "self", Value.ref x)]) := F1
  refine opq (by passes_own) ?_
  intro A9 R9 E9 kR9 kE9 pE9
  repeat' (k_extra "ktr_rel")
  all_goals first
    | (rename (i.top != Str.ofString "") = false => hq; rw [hne4] at hq; cases hq)
    | exact hret _ _ _ _ (by k_asm) (by k_asm) ⟨rfl, rfl⟩
end
end
section
noncomputable def rowDat (r : List Int) : Dat := .tuple (r.map Dat.int)
noncomputable def prodRows (s t : List (List Int)) : List (List Int) := s.flatMap fun a => t.map fun b => a ++ b
section
open PySem.Calls PySem.Spec
variable {A : Around} {E : Value → Shared → Prop} {s : Shared} {h₀ : Heap} {L : Addr} {m : Str → Option Value} {w : World} {news : Led}
theorem add_dat {t b : Addr} {ds es : List Dat} {nb : Led} {Q : Value → Shared → Prop} (F : Fr h₀ L s.heap m) (N : News h₀ L s.heap news) (hs : ∀ p ∈ nb, p ∈ news) (h1 : DatIn nb (.ref t) (.tuple ds)) (h2 : DatIn nb (.ref b) (.tuple es)) (hz : ds.length + es.length ≤ 1000)
    (h : ∀ (T : Addr) (fr : Led) (h' : Heap), Fr h₀ L h' m → News h₀ L h' (fr ++ news) → (∀ p ∈ fr, ∀ q ∈ news, q.1 ≠ p.1) → DatIn (fr ++ nb) (.ref T) (.tuple (ds ++ es)) → Q (.ref T) { s with heap := h' }) :
    wpAny (model PG w) A (binaryOp .Add (.ref t) (.ref b)) Q E s := by
  obtain ⟨t', vs, n1, et, m1, d1⟩ := dat_tuple h1
  cases et
  obtain ⟨b', us, n2, eb, m2, d2⟩ := dat_tuple h2
  cases eb
  refine add_tuples F N (News.isTup N (hs _ m1)) (News.isTup N (hs _ m2)) (fun e => ?_) (fun _ e => ?_) (fun _ _ h' F' N' => ?_) (by rw [d1.length, d2.length, sizeLine_eq]; omega)
  · subst e
    cases d1
    exact h b [] s.heap F N (fun _ hp => nomatch hp) h2
  · subst e
    cases d2
    exact h t [] s.heap F N (fun _ hp => nomatch hp) (by rw [List.append_nil]; exact h1)
  · exact h s.heap.objs.size [(s.heap.objs.size, tupObj (vs ++ us) 0)] h' F' N' (fun p hp q hq => by
      cases List.mem_singleton.mp hp
      exact Nat.ne_of_lt (Heap.lt_size (N q hq).1)) (.tuple (.head _) ((d1.append d2).mono fun _ hp => .tail _ hp))
end
theorem w28 : True := by
  k_with_none
  (k_with "omega" => first | decide | with_reducible (first | exact room2 (by assumption) (by decide) | exact room1 (by assumption) (by decide) | exact le_t (by assumption) (by decide) | assumption | exact Nat.ne_of_lt (by assumption) | exact Nat.ne_of_gt (by assumption)) | (law_clear; lia) | omega +splitDisjunctions)
  (k_with "ktr_room" => ((try dsimp +zetaDelta only [ktrTop, Around.deeper, Around.under, Around.in1]); omega))
  (k_with "ktr_units" => ((have hcL9 := cLine_is); (try dsimp +zetaDelta only [ktrTop, Around.deeper, Around.under, Around.in1, Around.mark]); omega))
  (k_with "k_all" => assumption)
  (k_with "tb_rel" => ((repeat (first | exact sub_refl | refine sub_cons ?_)); done))
  (k_with "st" => ((fail_if_success (with_reducible show CEndV _ _ _)); (fail_if_success (with_reducible show TEndV _ _ _)); (fail_if_success (with_reducible show LoopX _ _ _ _ _ _ _ _ _ _ _)); (fail_if_success (with_reducible show CompX _ _ _ _ _ _ _ _ _ _ _ _ _ _)); (first | ((with_reducible show KEnd _ _ _); refine kuse (by with_reducible assumption) ?_) | ((with_reducible show wpAny _ _ (execs (Stmt.Raise _ _ _ :: _) _) _ _ _); exfalso; (first | omega | (simp only [List.size_toArray, List.length_cons] at *; omega))) | ((with_reducible show wpAny _ _ (execs (_ :: _) _) _ _ _); (try dsimp only); walk1) | ((with_reducible show wpAny _ _ (eval (Expr.BinOp _ _ _ _) _) _ _ _); (try dsimp only); walk1) | (k_unfold; (try dsimp only)) | (k_end; wrow_close) | walk1 | (dsimp only; walk1) | (leave1; walk_say "STEP leave1"; try dsimp only) | fail "no step")))
  (k_with "subscriptTail" => (k_here; (with_reducible show wpAny _ _ (subscriptTail _ _ (Value.ref _) (Value.str _ _)) _ _ _); k_dflt (refine kda_item (knd := PySem.strKind _ _) (by k_asm) (by k_mem) (by assumption) (strKind_is _ _ _ _) (by assumption) ?_)))
  (k_with "call builtin:len" => (k_here; k_dflt (first | refine len_list (News.isList (by k_asm) (by k_mem)) (by walk_at "ln") ?_ | refine PyProof.Rows.len_tuple (News.isTup (by k_asm) (by k_mem)) (by walk_at "ln") ?_)))
  (k_with "ln" => (simp only [List.size_toArray, List.length_cons, List.length_append, List.length_nil, List.length_map]; omega))
  (k_with "subscriptTail" => (k_here; (with_reducible show wpAny _ _ (subscriptTail _ _ (Value.ref _) (Value.int _ _)) _ _ _); k_dflt (refine' item_tupleT ?zzt ?zza ?zzb ?zzc ?zzd ?_; (case zzt => exact News.isTup (by k_asm) (by k_mem)); (case zza => decide); (case zzb => decide); (case zzc => rfl); (case zzd => rfl); k_whole)))
  (k_with "call type:tuple" => (k_here; (with_reducible show wpAny _ _ (call (Value.type _) [Value.ref _]) _ _ _); k_dflt (refine call_tuple_tup (News.isTup (by k_asm) (by k_mem)) ?_)))
  (k_with "k_mem" => first | with_reducible assumption | assumption)
  (k_with "call type:list" => (k_here; (with_reducible show wpAny _ _ (call (Value.type "list") [Value.ref _]) _ _ _); k_dflt (refine' kup_listOf ?zzF ?zzN ?zzb ?zze ?_ ?zzz; (case zzF => k_asm); (case zzN => k_asm); (case zzb => k_mem); (case zze => exact rfl); (case zzz => (simp only [sizeLine_eq]; omega))); intro _ _ _ _ _ _))
  (k_with "WhlIf" => (first | refine WhlIf.no (by assumption) ?_ | refine WhlIf.yes (by assumption) ?_))
  (k_with "ktr_unf" => (refine' code_defC ?zzk1 ?zzk2 ?zzk3 ?zzk4 ?zzk5 ?zzkA ?zzkF ?zzkK ?zzk6 ?zzk7 ?zzk8 ?zzk9 ?zzkB ?zzkD ?_ ?zzc2 ?zzc3 ?zzc4; (case zzkA => exact rfl); (case zzkF => exact rfl); (case zzkK => first | assumption | exact rfl); (case zzk1 => k_asm); (case zzk2 => k_asm); (case zzk3 => k_asm); (case zzk4 => k_asm); (case zzk5 => k_asm); (case zzk6 => k_is); (case zzk7 => k_is); (case zzk8 => ktr_room); (case zzk9 => exact BindsTo.of_eq rfl); (case zzkB => exact rfl); (case zzkD => decide +kernel); (case zzc2 => exact rfl); (case zzc3 => exact rfl); (case zzc4 => exact rfl); k_whole; walk_at "i1"))
  (k_with "eval ListComp" => (k_here; k_dflt (refine ListComp_X (by k_asm) (by rfl) (by decide) (by rfl) (by decide) ?_)))
  (k_with "exec Assign cons ListComp" => (k_here; k_dflt (refine Assign_ListComp_X (by k_asm) (by with_unfolding_all rfl) (by rfl) (by decide) (by rfl) (by decide) (by rfl) (by rfl) ?_)))
  (k_with "exec For Name Name cons nil" => walk_at "fx")
  (k_with "exec For Name Call cons nil" => walk_at "fx")
  (k_with "exec For Name Subscript cons nil" => walk_at "fx")
  (k_with "exec For Name Attribute cons nil" => walk_at "fx")
  (k_with "exec For Name IfExp cons nil" => walk_at "fx")
  (k_with "exec For Tuple Name cons nil" => walk_at "fx")
  (k_with "exec For Tuple Call cons nil" => walk_at "fx")
  (k_with "exec For Tuple Subscript cons nil" => walk_at "fx")
  (k_with "exec For Tuple Attribute cons nil" => walk_at "fx")
  (k_with "compareOp In str ref" => (k_here; k_dflt (first | refine in_no (by k_asm) (by k_mem) (by assumption) (by assumption) (by assumption) ?_ | refine in_yes (by k_asm) (by k_mem) (by assumption) (by assumption) (by assumption) ?_)))
  (k_with "compareOp NotIn str ref" => (k_here; k_dflt (refine notin_no (by k_asm) (by k_mem) (by assumption) (by assumption) (by assumption) ?_)))
  (k_with "setItem ref str" => (k_here; k_dflt (refine' kda_set (knd := PySem.strKind _ _) ?zzF ?zzN ?zzU ?zzd (strKind_is _ _ _ _) ?zzz ?_; (case zzF => k_asm); (case zzN => k_asm); (case zzU => k_updF); (case zzd => assumption); (case zzz => (simp only [sizeLine_eq]; omega))); intro _ _ _ zzN zzhd; (try dsimp only at zzN); (revert zzN zzhd; intro _ _)))
  (k_with "k_ne" => first | assumption | exact Ne.symm (by assumption))
  (k_with "getAttr ref" => (k_here; k_dflt (refine' get_own ?zzk1 ?zzk2 ?zzk3 ?zzk4 ?zzk5 ?zzk6 ?zzk7 ?zzk8 ?zzk9 ?_; (case zzk1 => k_asm); (case zzk2 => k_asm); (case zzk3 => k_inst); (case zzk4 => k_is); (case zzk5 => k_is); (case zzk6 => k_is); (case zzk7 => k_is); (case zzk8 => first | assumption | k_get); (case zzk9 => k_handed); k_whole)))
  (k_with "getMethod ref" => (k_here; k_dflt (refine' method_inst ?zzk1 ?zzk2 ?zzk3 ?zzk4 ?zzk5 ?zzk6 ?zzk7 ?_; (case zzk1 => k_asm); (case zzk2 => k_asm); (case zzk3 => k_inst); (case zzk4 => k_is); (case zzk5 => k_is); (case zzk6 => k_is); (case zzk7 => first | assumption | k_get); k_whole)))
  (k_with "k_ne" => first | with_reducible assumption | with_reducible exact Ne.symm (by assumption) | exact ne_l1 (by assumption) (by k_mem) | exact ne_l2 (by assumption) (by k_mem) | exact ne_o1 (by assumption) (by k_mem) | exact ne_o2 (by assumption) (by k_mem))
  (k_with "k_all" => first | with_reducible assumption | exact off_l1 (by assumption) (by k_extra "tb_rel") | exact off_o1 (by assumption) (by k_extra "tb_rel"))
  (k_with "ktr_rel" => ((fail_if_success (with_reducible show wpAny _ _ (exec (Stmt.While _ _ _ _) _) _ _ _)); walk_at "st"))
  (k_with "compareOp NotIn str ref" => (k_here; k_dflt (refine notin_list_strs (News.isList (by k_asm) (by k_mem)) (by assumption) ?_)))
  (k_with "compareOp Eq ref ref" => (k_here; k_dflt (refine' eq_empty ?zzN ?zza ?zzb ?zzd ?zzo ?zzu ?_; (case zzN => k_asm); (case zza => k_mem); (case zzb => k_mem); (case zzd => assumption); (case zzo => assumption); (case zzu => (dsimp +zetaDelta only [ktrTop, Around.deeper, Around.under, Around.in1]; (have hcL9 := cLine_is); omega)))))
  (k_with "subscriptTail Name Slice ref ref" => (k_here; k_dflt (refine' slice15 ?zzF ?zzN ?zzt ?_; (case zzF => k_asm); (case zzN => k_asm); (case zzt => exact News.isTup (by k_asm) (by k_mem))); intro _ _ _ _))
  (k_with "call ref" => (k_here; (with_reducible show wpAny _ _ (call (Value.ref _) _) _ _ _); k_dflt (refine' Spec.c (by k_asm) (by k_asm) (by k_asm) (by k_asm) (by k_asm) (by first | exact rfl | assumption) ?zzh ?zzD ?zzU ?_; (case zzh => walk_at "spec"); (case zzD => ktr_room); (case zzU => ktr_room)); walk_at "i2"))
  (k_with "call ref" => (k_here; (with_reducible show wpAny _ _ (call (Value.ref _) _) _ _ _); k_dflt (refine' Spec.ck (by k_asm) (by k_asm) (by k_asm) (by k_asm) (by k_asm) (by first | exact rfl | assumption) ?zzh ?zzel ?zzD ?zzU ?_; (case zzh => walk_at "spec"); (case zzel => walk_at "el"); (case zzD => ktr_room); (case zzU => ktr_room)); intros; (first | intro zzN | rename News _ _ _ _ => zzN); (try dsimp only at zzN); (revert zzN; intro _); (try dsimp only); (try k_sweep)))
  (k_with "el" => (first | exact RStr.el | exact RInt.el | exact RBool.el | exact NextRet.el | exact RTup0.el | exact RTup.el | exact RNil.el | exact ROne.el | exact RLst.el | exact NamesRet.el | exact ChRet.el | exact SizesRet.el))
  (k_with "spec" => (exact nextF_spec (by k_updF) (by assumption) (by omega) (by k_mem) (by first | decide | ((try simp only [List.size_toArray]); omega))))
  (k_with "fx" => (k_here; k_dflt (refine For_X (by k_asm) ?_)))
  (k_with "callWith" => (first | with_reducible refine PyProof.Rows.callWith_method0 ?_ | ((with_reducible refine' PyProof.Rows.callWith_builtin1 ?_ ?zzcwe ?zzcwp); (case zzcwe => rfl); (case zzcwp => rfl)) | ((with_reducible refine' PyProof.Rows.callWith_method1 ?_ ?zzcwe ?zzcwp); (case zzcwe => rfl); (case zzcwp => rfl))))
  (k_with "subscriptTail Name Constant ref int" => (first | (k_extra "subscriptTail") | (k_here; (with_reducible show wpAny _ _ (subscriptTail _ _ (Value.ref _) (Value.int _ _)) _ _ _); (with_unfolding_all refine' item_litK ?zzk1 ?zzk2 ?zzk3 ?zzk4 ?_ ?zzk6; (case zzk1 => is_list); (case zzk2 => decide); (case zzk3 => decide); (case zzk4 => rfl); (case zzk6 => with_unfolding_all rfl); k_whole))))
  (k_with "subscriptTail Name BinOp ref int" => (k_extra "subscriptTail"))
  (k_with "subscriptTail Name Name ref int" => (k_extra "subscriptTail"))
  (k_with "subscriptTail Name UnaryOp ref int" => (k_extra "subscriptTail"))
  (k_with "joinParts" => (k_here; (with_reducible refine' join_end ?zzjez ?_); (case zzjez => kt_le)))
  (k_with "eval ListComp" => (k_here; k_dflt (refine ListComp2_X (by k_asm) (by rfl) (by decide) (by rfl) (by decide) ?_)))
  trivial
section
variable {w : World} {loose : List Str} {mean : ExcName → Option Value} {mg mb : Str → Option Value} {news : Led} {a b : Addr} {s0 t0 : List (List Int)}
theorem prod_len (t : List (List Int)) : ∀ s : List (List Int), (prodRows s t).length = s.length * t.length
  | [] => by simp [prodRows]
  | x :: s => by
    have := prod_len t s
    unfold prodRows at this ⊢
    rw [List.flatMap_cons, List.length_append, this, List.length_map, List.length_cons, Nat.succ_mul, Nat.add_comm]
theorem prod_take {s t : List (List Int)} {i : Nat} (h : i < s.length) : prodRows (s.take (i + 1)) t = prodRows (s.take i) t ++ t.map fun y => s[i] ++ y := by
  unfold prodRows
  rw [List.take_add_one, List.getElem?_eq_getElem h, List.flatMap_append]
  simp
theorem product_spec {nb : Led} (hnb : ∀ p ∈ nb, p ∈ news) (ha : DatIn nb (.ref a) (.tuple (s0.map rowDat))) (hb : DatIn nb (.ref b) (.tuple (t0.map rowDat))) (hl : s0.length * t0.length ≤ 10000) (hs9 : ∀ r ∈ s0, r.length ≤ 10) (ht9 : ∀ r ∈ t0, r.length ≤ 10) :
    Spec w loose mean mg mb 20 120 (.ref 131) [.ref a, .ref b] news (FrR news nb (.tuple ((prodRows s0 t0).map rowDat))) None2 := by
  unfold Spec
  k_fill
  intro dp un gd cn cs a ccd cl outer A₀ base h₀ L m s Q E B F X N T hk hR hok hret hexc
  obtain ⟨aa, va, na, ea, ma, da⟩ := dat_tuple ha
  cases ea
  obtain ⟨ab, vb, kb9, eb, mb', db⟩ := dat_tuple hb
  cases eb
  refine wpAny_call ?_
  k_dflt ktr_unf
  refine opq (by passes_own) ?_
  intro A9 R9 E9 kR9 kE9 pE9
  repeat' (k_extra "ktr_rel")
  rename_i g9 L9 _ _ _ _ _ _ _ l9 q1 q2 q3 oA dA N1
  rename Fr _ _ _ _ => F1
  have hlv : va.length = s0.length := by have := da.length; simpa using this
  have hlb : vb.length = t0.length := by have := db.length; simpa using this
  replace ma := hnb _ ma
  replace mb' := hnb _ mb'
  refine ⟨_, _, _, fun i ys nx => FrJ ((L9 + 1, oA) :: news) nb ((prodRows (s0.take i) t0).map rowDat) ys nx, _, _, src_tup rfl N1 (sub_cons sub_refl _ ma), F1, N1, ?_, ⟨[], rfl, (fun _ hp => nomatch hp), .nil⟩, ?_, ?_⟩
  · rintro i ys nx ⟨fr, rfl, -, -⟩
    exact sub_app _ (.tail _ ma)
  · rintro i v ys nx I oI C oC D m₂ h tk E' hi hv ⟨fr0, hnx, hfr0, hys⟩ hC off F2 N2
    have hb : ∀ p ∈ ((L9 + 1, oA) :: news : Led), p ∈ nx := by rw [hnx]; exact sub_app
    refine assignC (by rfl) (by rfl) off hC F2 N2 fun h' oC' tk' hC' F3 N3 => ?_
    clear F2 N2 hC
    have hx' : (fun y => if y = Str.ofString "one" then some v else m₂ y) (Str.ofString "one") = some v := by simp
    generalize (fun y => if y = Str.ofString "one" then some v else m₂ y) = m₃ at hC' hx'
    have hcl := hb _ (.head _)
    have hmb := hb _ (.tail _ mb')
    repeat' (k_extra "ktr_rel")
    have his : i < s0.length := by omega
    have hd' := datAt da hv (by simpa using his)
    simp only [List.getElem_map] at hd'
    obtain ⟨o1, u1, z1, rfl, mo1, do1⟩ := dat_tuple hd'
    have hbase : (i + 1) * t0.length ≤ 10000 := Nat.le_trans (Nat.mul_le_mul_right _ his) hl
    rw [Nat.succ_mul] at hbase
    refine ⟨_, _, _, fun j mm ys nx => mm (Str.ofString "one") = some (.ref o1) ∧ FrJ ((L9 + 1, oA) :: news) nb ((prodRows (s0.take i) t0 ++ (t0.take j).map fun y => s0[i] ++ y).map rowDat) ys nx, ys, nx, oC', m₃, _, _, rfl, src_tup rfl N3 (.tail _ (.tail _ (.tail _ hmb))), F3, N3, hC', off, ?_, ?_, ⟨hx', fr0, hnx, hfr0, by simpa using hys⟩, ?_, ?_⟩
    · rintro j mm ys nx ⟨-, fr, rfl, -, -⟩
      exact .tail _ (sub_app _ (.tail _ mb'))
    · rintro j mm ys nx ⟨-, fr, -, -, hd⟩
      have := hd.length
      rw [List.length_map, List.length_append, prod_len, List.length_map, List.length_take, List.length_take, Nat.min_eq_left (Nat.le_of_lt his)] at this
      have hmin := Nat.min_le_right j t0.length
      rw [sizeLine_eq]
      omega
    · rintro j v2 ys2 nx2 I2 oI2 oC2 m₄ h5 tk5 E5 hj hv2 ⟨hm4, fr2, hnx2, hfr2, hys2⟩ hC2 off2 offI F5 N5
      have hb2 : ∀ p ∈ ((L9 + 1, oA) :: news : Led), p ∈ nx2 := by rw [hnx2]; exact sub_app
      refine assignC (by rfl) (by rfl) off2 hC2 F5 N5 fun h6 oC6 tk6 hC6 F6 N6 => ?_
      clear F5 N5 hC2 F3 N3
      have hx2 : (fun y => if y = Str.ofString "late" then some v2 else m₄ y) (Str.ofString "late") = some v2 := by simp
      have hx3 : (fun y => if y = Str.ofString "late" then some v2 else m₄ y) (Str.ofString "one") = some (Value.ref o1) := by
        rw [← hm4]
        exact if_neg (by decide)
      generalize (fun y => if y = Str.ofString "late" then some v2 else m₄ y) = m₅ at hC6 hx2 hx3
      have hjt : j < t0.length := by omega
      have hd2 := datAt db hv2 (by simpa using hjt)
      simp only [List.getElem_map] at hd2
      obtain ⟨o2, u2, z2, rfl, mo2, do2⟩ := dat_tuple hd2
      have hsn : ∀ p ∈ news, p ∈ nx2 := fun p hp => hb2 p (.tail _ hp)
      repeat' ((fail_if_success (with_reducible show wpAny _ _ (binaryOp _ (Value.ref _) (Value.ref _)) _ _ _)); k_extra "ktr_rel")
      refine' add_dat (nb := nb) ?F ?N ?hs hd' hd2 ?hz ?_
      (case F => k_asm)
      (case N => k_asm)
      (case hs => exact fun p hp => .tail _ (.tail _ (.tail _ (.tail _ (hsn p (hnb p hp))))))
      (case hz => (simp only [List.length_map]; have z1 := hs9 _ (List.getElem_mem his); have z2 := ht9 _ (List.getElem_mem hjt); omega))
      intro T fr h7 F7 N7 hfr hT
      refine CEnd2.intro (nx := (I, oI) :: (fr ++ nx2)) F7 N7 ?_ hC6 ?_ ⟨fr ++ nx2, rfl, ?_, hx3, fr ++ fr2, by rw [hnx2, List.append_assoc], ?_, ?_⟩
      · exact sub_mk (sub_app _ (.head _)) (sub_mk (sub_app _ (.tail _ (.head _))) (sub_mk (sub_app _ (.tail _ (.tail _ (.head _)))) (sub_mk (sub_app _ (.tail _ (.tail _ (.tail _ (.head _))))) fun p hp => by
          rcases List.mem_append.mp hp with h | h
          · exact sub_app1 _ h
          · exact sub_app _ (.tail _ (.tail _ (.tail _ (.tail _ h)))))))
      · intro p hp
        rcases List.mem_cons.mp hp with rfl | hp
        · exact off2.off _ (.head _)
        · rcases List.mem_append.mp hp with h | h
          · exact ⟨Ne.symm (hfr p h _ (.head _)), Ne.symm (hfr p h _ (.tail _ (.head _))), Ne.symm (hfr p h _ (.tail _ (.tail _ (.head _))))⟩
          · exact off2.off _ (.tail _ h)
      · intro p hp
        rcases List.mem_append.mp hp with h | h
        · exact Ne.symm (hfr p h _ (.tail _ (.tail _ (.tail _ (.head _)))))
        · exact (offI.off p h).1
      · intro p hp q hq
        rcases List.mem_append.mp hp with h | h
        · exact hfr p h q (.tail _ (.tail _ (.tail _ (.tail _ (hb2 q hq)))))
        · exact hfr2 p h q hq
      · rw [take_map _ hjt, ← List.append_assoc, List.map_append, List.append_assoc]
        refine (hys2.mono fun p hp => sub_app _ hp).append (.one ?_)
        unfold rowDat
        rw [List.map_append]
        refine hT.mono fun p hp => ?_
        rcases List.mem_append.mp hp with h | h
        · exact sub_app1 _ h
        · exact sub_app _ (sub_app _ h)
    · rintro mm ys nx ⟨-, fr, hnx, hfr, hd⟩
      refine ⟨fr, hnx, hfr, ?_⟩
      rw [prod_take his]
      rw [hlb, List.take_length] at hd
      exact hd
  · rintro ys nx ⟨fr, hnx, hfr, hys⟩
    have hb : ∀ p ∈ ((L9 + 1, oA) :: news : Led), p ∈ nx := by rw [hnx]; exact sub_app
    rw [hlv, List.take_length] at hys
    have hyl : ys.length ≤ 10000 := by rw [hys.length, List.length_map, prod_len]; exact hl
    intro D h5 tk5 F5 N5 o5
    have hcl := hb _ (.head _)
    repeat' ((fail_if_success (with_reducible show wpAny _ _ (call (Value.type _) [Value.ref _]) _ _ _)); k_extra "ktr_rel")
    refine' kde_tupleOf (zs := ys) ?k1 ?k2 ?k3 ?k4 ?k5 ?_
    (case k1 => k_asm)
    (case k2 => k_asm)
    (case k3 => exact News.isList (by k_asm) (by k_mem))
    (case k4 => (rw [List.size_toArray]; omega))
    (case k5 => rfl)
    intro D3 h3 F10 N10 l10
    repeat' (k_extra "ktr_rel")
    rename News _ _ _ _ => kN
    refine hret _ _ _ _ (by k_asm) kN ⟨(D3, tupObj ys 0) :: (D, LCg.lst ys) :: (fr ++ [(L9 + 1, oA)]), by rw [hnx]; simp, ?_, .tuple (n := 0) (.head _) (hys.mono fun p hp => ?_)⟩
    · intro p hp q hq
      have hqn := hb q (.tail _ hq)
      rcases List.mem_cons.mp hp with rfl | hp
      · exact Nat.ne_of_lt (l10 q (.tail _ hqn))
      · rcases List.mem_cons.mp hp with rfl | hp
        · exact o5 q hqn
        · rcases List.mem_append.mp hp with h | h
          · exact hfr p h q (.tail _ hq)
          · cases List.mem_singleton.mp h
            exact q1 q hq
    · rcases List.mem_append.mp hp with h | h
      · exact .tail _ (.tail _ (sub_app1 _ (sub_app1 _ h)))
      · exact .tail _ (.tail _ (sub_app _ h))
end
end
section
theorem w29 : True := by
  k_with_none
  (k_with "omega" => first | decide | with_reducible (first | exact room2 (by assumption) (by decide) | exact room1 (by assumption) (by decide) | exact le_t (by assumption) (by decide) | assumption | exact Nat.ne_of_lt (by assumption) | exact Nat.ne_of_gt (by assumption)) | (law_clear; lia) | omega +splitDisjunctions)
  (k_with "ktr_room" => ((try dsimp +zetaDelta only [ktrTop, Around.deeper, Around.under, Around.in1]); omega))
  (k_with "ktr_units" => ((have hcL9 := cLine_is); (try dsimp +zetaDelta only [ktrTop, Around.deeper, Around.under, Around.in1, Around.mark]); omega))
  (k_with "k_all" => assumption)
  (k_with "tb_rel" => ((repeat (first | exact sub_refl | refine sub_cons ?_)); done))
  (k_with "st" => ((fail_if_success (with_reducible show CEndV _ _ _)); (fail_if_success (with_reducible show TEndV _ _ _)); (fail_if_success (with_reducible show LoopX _ _ _ _ _ _ _ _ _ _ _)); (fail_if_success (with_reducible show CompX _ _ _ _ _ _ _ _ _ _ _ _ _ _)); (first | ((with_reducible show KEnd _ _ _); refine kuse (by with_reducible assumption) ?_) | ((with_reducible show wpAny _ _ (execs (Stmt.Raise _ _ _ :: _) _) _ _ _); exfalso; (first | omega | (simp only [List.size_toArray, List.length_cons] at *; omega))) | ((with_reducible show wpAny _ _ (execs (_ :: _) _) _ _ _); (try dsimp only); walk1) | ((with_reducible show wpAny _ _ (eval (Expr.BinOp _ _ _ _) _) _ _ _); (try dsimp only); walk1) | (k_unfold; (try dsimp only)) | (k_end; wrow_close) | walk1 | (dsimp only; walk1) | (leave1; walk_say "STEP leave1"; try dsimp only) | fail "no step")))
  (k_with "subscriptTail" => (k_here; (with_reducible show wpAny _ _ (subscriptTail _ _ (Value.ref _) (Value.str _ _)) _ _ _); k_dflt (refine kda_item (knd := PySem.strKind _ _) (by k_asm) (by k_mem) (by assumption) (strKind_is _ _ _ _) (by assumption) ?_)))
  (k_with "call builtin:len" => (k_here; k_dflt (first | refine len_list (News.isList (by k_asm) (by k_mem)) (by walk_at "ln") ?_ | refine PyProof.Rows.len_tuple (News.isTup (by k_asm) (by k_mem)) (by walk_at "ln") ?_)))
  (k_with "ln" => (simp only [List.size_toArray, List.length_cons, List.length_append, List.length_nil, List.length_map]; omega))
  (k_with "subscriptTail" => (k_here; (with_reducible show wpAny _ _ (subscriptTail _ _ (Value.ref _) (Value.int _ _)) _ _ _); k_dflt (refine' item_tupleT ?zzt ?zza ?zzb ?zzc ?zzd ?_; (case zzt => exact News.isTup (by k_asm) (by k_mem)); (case zza => decide); (case zzb => decide); (case zzc => rfl); (case zzd => rfl); k_whole)))
  (k_with "call type:tuple" => (k_here; (with_reducible show wpAny _ _ (call (Value.type _) [Value.ref _]) _ _ _); k_dflt (refine call_tuple_tup (News.isTup (by k_asm) (by k_mem)) ?_)))
  (k_with "k_mem" => first | with_reducible assumption | assumption)
  (k_with "call type:list" => (k_here; (with_reducible show wpAny _ _ (call (Value.type "list") [Value.ref _]) _ _ _); k_dflt (refine' kup_listOf ?zzF ?zzN ?zzb ?zze ?_ ?zzz; (case zzF => k_asm); (case zzN => k_asm); (case zzb => k_mem); (case zze => exact rfl); (case zzz => (simp only [sizeLine_eq]; omega))); intro _ _ _ _ _ _))
  (k_with "WhlIf" => (first | refine WhlIf.no (by assumption) ?_ | refine WhlIf.yes (by assumption) ?_))
  (k_with "ktr_unf" => (refine' code_defC ?zzk1 ?zzk2 ?zzk3 ?zzk4 ?zzk5 ?zzkA ?zzkF ?zzkK ?zzk6 ?zzk7 ?zzk8 ?zzk9 ?zzkB ?zzkD ?_ ?zzc2 ?zzc3 ?zzc4; (case zzkA => exact rfl); (case zzkF => exact rfl); (case zzkK => first | assumption | exact rfl); (case zzk1 => k_asm); (case zzk2 => k_asm); (case zzk3 => k_asm); (case zzk4 => k_asm); (case zzk5 => k_asm); (case zzk6 => k_is); (case zzk7 => k_is); (case zzk8 => ktr_room); (case zzk9 => exact BindsTo.of_eq rfl); (case zzkB => exact rfl); (case zzkD => decide +kernel); (case zzc2 => exact rfl); (case zzc3 => exact rfl); (case zzc4 => exact rfl); k_whole; walk_at "i1"))
  (k_with "eval ListComp" => (k_here; k_dflt (refine ListComp_X (by k_asm) (by rfl) (by decide) (by rfl) (by decide) ?_)))
  (k_with "exec Assign cons ListComp" => (k_here; k_dflt (refine Assign_ListComp_X (by k_asm) (by with_unfolding_all rfl) (by rfl) (by decide) (by rfl) (by decide) (by rfl) (by rfl) ?_)))
  (k_with "exec For Name Name cons nil" => walk_at "fx")
  (k_with "exec For Name Call cons nil" => walk_at "fx")
  (k_with "exec For Name Subscript cons nil" => walk_at "fx")
  (k_with "exec For Name Attribute cons nil" => walk_at "fx")
  (k_with "exec For Name IfExp cons nil" => walk_at "fx")
  (k_with "exec For Tuple Name cons nil" => walk_at "fx")
  (k_with "exec For Tuple Call cons nil" => walk_at "fx")
  (k_with "exec For Tuple Subscript cons nil" => walk_at "fx")
  (k_with "exec For Tuple Attribute cons nil" => walk_at "fx")
  (k_with "compareOp In str ref" => (k_here; k_dflt (first | refine in_no (by k_asm) (by k_mem) (by assumption) (by assumption) (by assumption) ?_ | refine in_yes (by k_asm) (by k_mem) (by assumption) (by assumption) (by assumption) ?_)))
  (k_with "compareOp NotIn str ref" => (k_here; k_dflt (refine notin_no (by k_asm) (by k_mem) (by assumption) (by assumption) (by assumption) ?_)))
  (k_with "setItem ref str" => (k_here; k_dflt (refine' kda_set (knd := PySem.strKind _ _) ?zzF ?zzN ?zzU ?zzd (strKind_is _ _ _ _) ?zzz ?_; (case zzF => k_asm); (case zzN => k_asm); (case zzU => k_updF); (case zzd => assumption); (case zzz => (simp only [sizeLine_eq]; omega))); intro _ _ _ zzN zzhd; (try dsimp only at zzN); (revert zzN zzhd; intro _ _)))
  (k_with "k_ne" => first | assumption | exact Ne.symm (by assumption))
  (k_with "getAttr ref" => (k_here; k_dflt (refine' get_own ?zzk1 ?zzk2 ?zzk3 ?zzk4 ?zzk5 ?zzk6 ?zzk7 ?zzk8 ?zzk9 ?_; (case zzk1 => k_asm); (case zzk2 => k_asm); (case zzk3 => k_inst); (case zzk4 => k_is); (case zzk5 => k_is); (case zzk6 => k_is); (case zzk7 => k_is); (case zzk8 => first | assumption | k_get); (case zzk9 => k_handed); k_whole)))
  (k_with "getMethod ref" => (k_here; k_dflt (refine' method_inst ?zzk1 ?zzk2 ?zzk3 ?zzk4 ?zzk5 ?zzk6 ?zzk7 ?_; (case zzk1 => k_asm); (case zzk2 => k_asm); (case zzk3 => k_inst); (case zzk4 => k_is); (case zzk5 => k_is); (case zzk6 => k_is); (case zzk7 => first | assumption | k_get); k_whole)))
  (k_with "k_ne" => first | with_reducible assumption | with_reducible exact Ne.symm (by assumption) | exact ne_l1 (by assumption) (by k_mem) | exact ne_l2 (by assumption) (by k_mem) | exact ne_o1 (by assumption) (by k_mem) | exact ne_o2 (by assumption) (by k_mem))
  (k_with "k_all" => first | with_reducible assumption | exact off_l1 (by assumption) (by k_extra "tb_rel") | exact off_o1 (by assumption) (by k_extra "tb_rel"))
  (k_with "ktr_rel" => ((fail_if_success (with_reducible show wpAny _ _ (exec (Stmt.While _ _ _ _) _) _ _ _)); walk_at "st"))
  (k_with "compareOp NotIn str ref" => (k_here; k_dflt (refine notin_list_strs (News.isList (by k_asm) (by k_mem)) (by assumption) ?_)))
  (k_with "compareOp Eq ref ref" => (k_here; k_dflt (refine' eq_empty ?zzN ?zza ?zzb ?zzd ?zzo ?zzu ?_; (case zzN => k_asm); (case zza => k_mem); (case zzb => k_mem); (case zzd => assumption); (case zzo => assumption); (case zzu => (dsimp +zetaDelta only [ktrTop, Around.deeper, Around.under, Around.in1]; (have hcL9 := cLine_is); omega)))))
  (k_with "subscriptTail Name Slice ref ref" => (k_here; k_dflt (refine' slice15 ?zzF ?zzN ?zzt ?_; (case zzF => k_asm); (case zzN => k_asm); (case zzt => exact News.isTup (by k_asm) (by k_mem))); intro _ _ _ _))
  (k_with "call ref" => (k_here; (with_reducible show wpAny _ _ (call (Value.ref _) _) _ _ _); k_dflt (refine' Spec.c (by k_asm) (by k_asm) (by k_asm) (by k_asm) (by k_asm) (by first | exact rfl | assumption) ?zzh ?zzD ?zzU ?_; (case zzh => walk_at "spec"); (case zzD => ktr_room); (case zzU => ktr_room)); walk_at "i2"))
  (k_with "call ref" => (k_here; (with_reducible show wpAny _ _ (call (Value.ref _) _) _ _ _); k_dflt (refine' Spec.ck (by k_asm) (by k_asm) (by k_asm) (by k_asm) (by k_asm) (by first | exact rfl | assumption) ?zzh ?zzel ?zzD ?zzU ?_; (case zzh => walk_at "spec"); (case zzel => walk_at "el"); (case zzD => ktr_room); (case zzU => ktr_room)); intros; (first | intro zzN | rename News _ _ _ _ => zzN); (try dsimp only at zzN); (revert zzN; intro _); (try dsimp only); (try k_sweep)))
  (k_with "el" => (first | exact RStr.el | exact RInt.el | exact RBool.el | exact NextRet.el | exact RTup0.el | exact RTup.el | exact RNil.el | exact ROne.el | exact RLst.el | exact NamesRet.el | exact ChRet.el | exact SizesRet.el))
  (k_with "spec" => (exact nextF_spec (by k_updF) (by assumption) (by omega) (by k_mem) (by first | decide | ((try simp only [List.size_toArray]); omega))))
  (k_with "fx" => (k_here; k_dflt (refine For_X (by k_asm) ?_)))
  (k_with "callWith" => (first | with_reducible refine PyProof.Rows.callWith_method0 ?_ | ((with_reducible refine' PyProof.Rows.callWith_builtin1 ?_ ?zzcwe ?zzcwp); (case zzcwe => rfl); (case zzcwp => rfl)) | ((with_reducible refine' PyProof.Rows.callWith_method1 ?_ ?zzcwe ?zzcwp); (case zzcwe => rfl); (case zzcwp => rfl))))
  (k_with "subscriptTail Name Constant ref int" => (first | (k_extra "subscriptTail") | (k_here; (with_reducible show wpAny _ _ (subscriptTail _ _ (Value.ref _) (Value.int _ _)) _ _ _); (with_unfolding_all refine' item_litK ?zzk1 ?zzk2 ?zzk3 ?zzk4 ?_ ?zzk6; (case zzk1 => is_list); (case zzk2 => decide); (case zzk3 => decide); (case zzk4 => rfl); (case zzk6 => with_unfolding_all rfl); k_whole))))
  (k_with "subscriptTail Name BinOp ref int" => (k_extra "subscriptTail"))
  (k_with "subscriptTail Name Name ref int" => (k_extra "subscriptTail"))
  (k_with "subscriptTail Name UnaryOp ref int" => (k_extra "subscriptTail"))
  (k_with "joinParts" => (k_here; (with_reducible refine' join_end ?zzjez ?_); (case zzjez => kt_le)))
  (k_with "exec Raise some none" => (k_here; k_dflt (refine raise_X (by k_asm) (by k_asm) (by rfl) ?_)))
  (k_with "RaiseEnd" => (refine ⟨_, _, _, _, _, _, rfl, ?zzC, by k_asm, by k_asm, by k_mem, ?_⟩; (case zzC => first | exact .inl rfl | exact .inr rfl)))
  (k_with "leaving ref" => (k_here; k_dflt (first | (refine' leave_excK ?zzkk ?zzK rfl ?zzhk ?zzF ?zzN ?zzhe ?zzht ?zzhs ?zzhne ?zzhnt ?zzhsub ?_; (case zzkk => assumption); (case zzK => assumption); (case zzhk => rfl); (case zzF => k_asm); (case zzN => k_asm); (case zzhe => k_mem); (case zzht => k_mem); (case zzhs => assumption); (case zzhne => assumption); (case zzhnt => assumption); (case zzhsub => ((repeat (first | exact sub_refl | assumption | refine sub_cons ?_)); done))) | (refine' leave_onK2 ?zzkk ?zzK rfl ?zzF ?zzR ?zzU ?_; (case zzkk => assumption); (case zzR => assumption); (case zzF => assumption); (case zzK => assumption); (case zzU => assumption))); intro _ zzR zzU; (try dsimp only at zzR zzU ⊢); (revert zzR zzU; intro _ _)))
  (k_with "formatField str" => (k_here; (refine' PyProof.Rows.formatField_str ?_ ?zzz; (case zzz => (simp only [sizeLine_eq]; omega))); intro _ _))
  (k_with "call type:tuple" => (k_here; (with_reducible show wpAny _ _ (call (Value.type _) [Value.ref _]) _ _ _); k_dflt (refine' kde_tupleOf ?zzk1 ?zzk2 ?zzk3 ?zzk4 ?zzk5 ?_; (case zzk1 => k_asm); (case zzk2 => k_asm); (case zzk3 => exact News.isList (by k_asm) (by k_mem)); (case zzk4 => (simp only [List.size_toArray]; omega)); (case zzk5 => exact List.toList_toArray _); k_whole); intro _ _ _ _ zzl1; (try k_lt zzl1); (revert zzl1; intro _)))
  (k_with "newTuple" => (k_here; k_dflt (refine' newTuple_L ?zzk1 ?zzk2 ?zzk3 ?_; (case zzk1 => k_asm); (case zzk2 => k_asm); (case zzk3 => (simp only [sizeLine_eq, List.length_cons, List.length_nil]; omega))); intro _ _ _ _ zzl1; (try k_lt zzl1); (revert zzl1; intro _)))
  (k_with "setItem ref str" => (k_here; k_dflt (refine' dset_new ?zzF ?zzN ?zzU ?zzd ?zzn ?zzz ?_; (case zzF => k_asm); (case zzN => k_asm); (case zzU => k_updF); (case zzd => assumption); (case zzn => assumption); (case zzz => omega)); intro _ _ _ zzN zzhd zzhv; (try dsimp only at zzN); (revert zzN zzhd zzhv; intro _ _ _)))
  (k_with "call builtin:list.extend" => (k_here; (with_reducible show wpAny _ _ (call (Value.builtin _) [Value.ref _, Value.ref _]) _ _ _); k_dflt (refine' ext_L ?zzF ?zzN ?zzb ?zzU ?zzz ?zzy ?_; (case zzF => k_asm); (case zzN => k_asm); (case zzb => k_mem); (case zzU => k_updF); (case zzz => omega); (case zzy => omega)); intro _ _ _ zzN; (try dsimp only at zzN); (revert zzN; intro _)))
  (k_with "spec" => (exact limit_spec))
  trivial
noncomputable def rowsOf (n : Nat) : List (List Int) := (List.range n).map fun (a : Nat) => [((a : Nat) : Int)]
noncomputable def colRows (ns : List Nat) : List (List Int) := ns.foldl (fun f n => prodRows f (rowsOf n)) [[]]
noncomputable def prodN (ns : List Nat) : Nat := ns.foldl (fun a n => a * n) 1
theorem prod_one (s : List (List Int)) : prodRows [[]] s = s := by
  unfold prodRows
  simp
theorem pick1 {ys : List Value} (h : ys.length ≤ 2) : slicePick ys.toArray (some 1) none none = (ys.drop 1).toArray := by
  rcases ys with _ | ⟨a, _ | ⟨b, _ | ⟨c, r⟩⟩⟩
  · rfl
  · exact (kmk_pick_nat #[a] (a := 1) (b := 1) (by rfl)).trans rfl
  · exact (kmk_pick_nat #[a, b] (a := 1) (b := 2) (by rfl)).trans rfl
  · simp only [List.length_cons] at h
    omega
theorem prod_small {a b : Nat} (ha : a ≤ 2 ∨ a = 320) (hb : b ≤ 2 ∨ b = 320) (h : a * b ≤ 100000) : a * b ≤ 640 := by
  rcases ha with ha | rfl
  · exact Nat.le_trans (Nat.mul_le_mul ha (show b ≤ 320 by omega)) (by decide)
  · rcases hb with hb | rfl
    · exact Nat.le_trans (Nat.mul_le_mul (Nat.le_refl 320) hb) (by decide)
    · omega
theorem rowsOf_len (n : Nat) : (rowsOf n).length = n := by simp [rowsOf]
theorem rowsOf_one {n : Nat} : ∀ r ∈ rowsOf n, r.length = 1 := by
  intro r hr
  obtain ⟨a, _, rfl⟩ := List.mem_map.mp hr
  rfl
theorem colRows_len : ∀ ns, (colRows ns).length = prodN ns := by
  intro ns
  unfold colRows prodN
  have key : ∀ (ns : List Nat) (f : List (List Int)) (a : Nat), f.length = a → (ns.foldl (fun f n => prodRows f (rowsOf n)) f).length = ns.foldl (fun a n => a * n) a := by
    intro ns
    induction ns with
    | nil => intro f a h; exact h
    | cons n ns ih => intro f a h; exact ih _ _ (by rw [prod_len, h, rowsOf_len])
  exact key ns _ _ rfl
theorem colRows_snoc (ns : List Nat) (n : Nat) : colRows (ns ++ [n]) = prodRows (colRows ns) (rowsOf n) := by unfold colRows; rw [List.foldl_append]; rfl
theorem prodN_snoc (ns : List Nat) (n : Nat) : prodN (ns ++ [n]) = prodN ns * n := by unfold prodN; rw [List.foldl_append]; rfl
theorem take_map' {α β : Type} (f : α → β) {l : List α} {i : Nat} (h : i < l.length) : (l.map f).take (i + 1) = (l.map f).take i ++ [f l[i]] := by
  rw [← List.map_take, ← List.map_take, take_map f h]
section
variable {w : World} {loose : List Str} {mean : ExcName → Option Value} {mg mb : Str → Option Value} {news bs : Led} {x sg lo ct : Addr} {its : List Item} {op : List Dat} {sz : Str → Nat} {names : List Str}
theorem of_column_spec {dx : Addr} {es : List DictEntry} {nd nc : Nat} {olo : Obj} {kl : List (Str × Value)} {vc : List Value} (hS : Sigs w sg its op news) (hin : ∀ nm ∈ names, nm ≠ S "" ∧ ∃ i ∈ its, i.name = nm ∧ i.parent = S "") (hn1 : 1 ≤ names.length) (hn2 : names.length ≤ 2)
    (a1 : (x, instObj 214 dx) ∈ news) (a2 : (dx, dictOf es nd) ∈ news) (g1 : getL (Str.ofString "signatures") es = some (some (.ref sg))) (g2 : getL (Str.ofString "lots") es = some (some (.ref lo))) (g3 : getL (Str.ofString "of_sig") es = some none)
    (a3 : (lo, olo) ∈ news) (a4 : (lo == sysModules) = false) (a5 : olo.IsDictOf (PySem.strKind PG w) kl) (hv : ∀ nm ∈ names, ∃ v, valueAt kl nm = some v ∧ DatIn news v (.tuple ((rowsOf (sz nm)).map rowDat)))
    (hsz : ∀ nm ∈ names, sz nm ≤ 2 ∨ sz nm = 320) (b1 : (ct, tupObj vc nc) ∈ news) (b2 : StrsAre vc names) (hbs : ∀ p ∈ bs, p ∈ news) :
    SpecX w loose mean mg mb 60 900 (.ref 204) [.ref x, .ref ct] news bs (fun r news' => prodN (names.map sz) ≤ 100000 ∧ DatIn news' r (.tuple ((colRows (names.map sz)).map rowDat)) ∧ ∀ p ∈ news, p ∈ news') (fun C => C = 112 ∧ 100000 < prodN (names.map sz)) := by
  unfold SpecX
  k_fill
  intro dp un gd cn cs a ccd cl outer A₀ base h₀ L m s Q E B F X N T hk hR hok hret hexc
  have hkeep : KeepIs bs := trivial
  obtain ⟨n0, nr0, rfl⟩ : ∃ n0 nr0, names = n0 :: nr0 := by
    cases names with
    | nil => simp at hn1
    | cons a r => exact ⟨a, r, rfl⟩
  have hS0 := hS
  cases hS0 with | @mk dxs e st opn od' ofd oe nd' hh1 t1 hh2 tt2 h3 t3 h4 t4 h5 t5 kvs' vst nst vop nop vod nod nof c1 c2 c3 c4 c5 c6 c7 c8 c9 q1 q2 q3 q4 =>
  refine wpAny_call ?_
  k_dflt ktr_unf
  refine opq (by passes_own) ?_
  intro A9 R9 E9 kR9 kE9 pE9
  repeat' (k_extra "ktr_rel")
  rename_i g9 L9 _ _ _ F1 _ _ _ l9 q5 q6 q7 oA dA N1
  have hvl := b2.length
  refine ⟨_, _, _, fun i ys nx => nx = (L9 + 1, oA) :: news ∧ DatAll news ys (((n0 :: nr0).take i).map fun nm => Dat.tuple ((rowsOf (sz nm)).map rowDat)), _, _, src_tup rfl N1 (sub_cons sub_refl _ b1), (by rw [sizeLine_eq]; omega), F1, N1, ?_, ⟨rfl, .nil⟩, ?_, ?_⟩
  · rintro i ys nx ⟨rfl, -⟩; exact .tail _ b1
  · rintro i v ys nx I oI C oC D m₂ h tk E' R kR hi hv' ⟨rfl, hys⟩ hyl hC off F2 N2
    refine assignC (by rfl) (by rfl) off hC F2 N2 fun h' oC' tk' hC' F3 N3 => ?_
    clear F2 N2 hC
    have hx' : (fun y => if y = Str.ofString "sig" then some v else m₂ y) (Str.ofString "sig") = some v := by simp
    generalize (fun y => if y = Str.ofString "sig" then some v else m₂ y) = m₃ at hC' hx'
    have hin' : i < (n0 :: nr0).length := by omega
    obtain ⟨t', e⟩ := b2.get i (n0 :: nr0)[i] (List.getElem?_eq_getElem hin')
    rw [e] at hv'
    cases hv'
    obtain ⟨hne, it, hit, hnm, hpar⟩ := hin (n0 :: nr0)[i] (List.getElem_mem _)
    obtain ⟨v9, hv9, hd9⟩ := hv (n0 :: nr0)[i] (List.getElem_mem _)
    refine wpAny_pure ?_
    repeat' ((fail_if_success (with_reducible show wpAny _ _ (call (Value.ref 199) _) _ _ _)); k_extra "ktr_rel")
    refine' Spec.c ?N ?F ?B ?X ?T ?K (of_sig_spec (hS.mono (fun p hp => .tail _ (.tail _ (.tail _ (.tail _ hp))))) hit hnm.symm hpar (by rw [hnm]; exact hne) (.tail _ (.tail _ (.tail _ (.tail _ a1)))) (.tail _ (.tail _ (.tail _ (.tail _ a2)))) g1 g2 (.tail _ (.tail _ (.tail _ (.tail _ a3)))) a4 a5 (by rw [hnm]; exact hv9)) ?D ?U ?_
    (case N => k_asm)
    (case F => k_asm)
    (case B => k_asm)
    (case X => k_asm)
    (case T => k_asm)
    (case K => first | exact rfl | assumption)
    (case D => (dsimp +zetaDelta only [ktrTop, Around.deeper, Around.under, Around.in1]; (first | omega | (simp only [wMake]; omega))))
    (case U => (dsimp +zetaDelta only [ktrTop, Around.deeper, Around.under, Around.in1]; (first | omega | (simp only [uMake]; omega))))
    rintro r' news' h' tk' F' N' ⟨rfl, rfl⟩
    refine CEnd.intro kR (nx := (L9 + 1, oA) :: news) (by k_asm) (by k_asm) sub_refl hC' off.off ⟨rfl, ?_⟩
    rw [take_map _ hin']
    exact hys.append (.one hd9)
  · rintro ys nx ⟨rfl, hys⟩ hyl
    intro D h tk F2 N2 o2
    rw [hvl, List.take_length] at hys
    repeat' (k_extra "ktr_rel")
    rename_i _ _ lTp _ _ _ F9 N9
    have hyl2 : ys.length = (n0 :: nr0).length := by have := hys.length; simpa using this
    have N0 := ntake N9 (nx := (D, LCg.lst ys) :: (L9 + 1, oA) :: news) (sub_cons sub_refl)
    refine ⟨_, _, _, fun k m nx => (∃ tm, Kn m [(S "some", .ref D), (S "many", .int (prodN (((n0 :: nr0).map sz).take k) : Int) tm)]) ∧ nx = (D, LCg.lst ys) :: (L9 + 1, oA) :: news,
      _, _, src_list rfl N0 (.head _), F9, N0, ?_, ⟨⟨_, ⟨rfl, rfl, trivial⟩⟩, rfl⟩, ?_, ?_⟩
    · rintro k m nx ⟨-, rfl⟩; exact .head _
    · rintro k v m₁ nx h tk I oI R kR hk hv1 ⟨⟨tm, hm⟩, rfl⟩ off F3 N3
      replace F3 := frov F3 hm
      have hd' := datAt hys hv1 (by simp only [List.length_map]; omega)
      simp only [List.getElem_map] at hd'
      obtain ⟨o1, u1, z1, rfl, mo1, do1⟩ := dat_tuple hd'
      have hu1 : u1.length = sz (n0 :: nr0)[k] := by have := do1.length; simpa [rowsOf] using this
      have hkn : k < (n0 :: nr0).length := by omega
      have hz1 : u1.length ≤ 320 := by rw [hu1]; rcases hsz (n0 :: nr0)[k] (List.getElem_mem _) with h | h <;> omega
      repeat' (k_extra "ktr_rel")
      rename Fr _ _ _ _ => F8
      rename News _ _ _ _ => N8
      have hcast : ((prodN (((n0 :: nr0).map sz).take (k + 1)) : Nat) : Int) = ((prodN (((n0 :: nr0).map sz).take k) : Nat) : Int) * ((u1.toArray.size : Nat) : Int) := by
        rw [take_map' sz hkn, prodN_snoc, Int.natCast_mul, ← hu1, List.size_toArray]
      rw [← hcast] at F8
      refine' tend kR (nx := (D, LCg.lst ys) :: (L9 + 1, oA) :: news) F8 N8 ?_ ?_ ?_
      · exact sub_refl
      · exact off
      exact ⟨⟨_, ⟨rfl, rfl, trivial⟩⟩, rfl⟩
    · rintro m₁ nx h tk ⟨⟨tm, hm⟩, rfl⟩ F3 N3
      replace F3 := frov F3 hm
      have hfull : ((n0 :: nr0).map sz).take ys.length = (n0 :: nr0).map sz := List.take_of_length_le (by rw [List.length_map]; omega)
      rw [hfull] at F3
      repeat' (k_extra "ktr_rel")
      · rename 100000 < _ => hbig
        exact hexc _ _ _ _ _ _ _ (by assumption) (by assumption) (by assumption) ⟨rfl, by omega⟩
      · rename ¬ 100000 < _ => hbig
        rename_i v9 d9 hd9 hm9 hD9 _ _ _ _ F9 N9
        have hbig2 : prodN ((n0 :: nr0).map sz) ≤ 100000 := by omega
        have ed : d9 = Dat.tuple ((rowsOf (sz n0)).map rowDat) := by simpa using hd9.symm
        subst ed
        rw [pick1 (by omega)] at N9
        dsimp only at N9
        refine ⟨_, _, _, fun k m nx => (∃ rv, Kn m [(S "found", rv)] ∧ DatIn nx rv (.tuple ((colRows (((n0 :: nr0).map sz).take (k + 1))).map rowDat))) ∧ ∀ p ∈ _, p ∈ nx,
          _, _, src_list rfl N9 (.head _), F9, N9, ?_, ⟨⟨_, ⟨rfl, trivial⟩, ?_⟩, sub_refl⟩, ?_, ?_⟩
        · rintro k m nx ⟨-, hb⟩; exact hb _ (.head _)
        · refine DatIn.mono (fun p hp => .tail _ (.tail _ (.tail _ hp))) ?_
          have : colRows (((n0 :: nr0).map sz).take (0 + 1)) = rowsOf (sz n0) := by
            rw [List.map_cons, List.take_succ_cons, List.take_zero]
            exact prod_one _
          rw [this]
          exact hD9
        · rintro k v m₂ nx h tk I oI R kR hk hv1 ⟨⟨rv, hm2, hrv⟩, hb⟩ off F10 N10
          replace F10 := frov F10 hm2
          have hk0 : k = 0 := by rw [List.length_drop] at hk; omega
          subst hk0
          obtain ⟨n1, rfl⟩ : ∃ n1, nr0 = [n1] := by
            rw [List.length_drop, hyl2] at hk
            rcases nr0 with _ | ⟨a, _ | ⟨b, r⟩⟩
            · simp at hk
            · exact ⟨a, rfl⟩
            · simp at hn2
          obtain ⟨v', hv', hd'⟩ := hys.get (k := 1) (by simp)
          rw [List.getElem?_drop] at hv1
          rw [show 1 + 0 = 1 from rfl] at hv1
          rw [hv1] at hv'
          cases hv'
          simp only [List.getElem_map, List.getElem_cons_succ, List.getElem_cons_zero] at hd'
          have hb3 : ∀ p ∈ news, p ∈ nx := fun p hp => hb p (.tail _ (.tail _ (.tail _ hp)))
          obtain ⟨o2, u2, z2, rfl, mo2, do2⟩ := dat_tuple hd'
          obtain ⟨o3, u3, z3, rfl, mo3, do3⟩ := dat_tuple hrv
          have e1 : colRows (([n0, n1].map sz).take (0 + 1)) = rowsOf (sz n0) := prod_one _
          have e2 : colRows (([n0, n1].map sz).take (0 + 1 + 1)) = prodRows (rowsOf (sz n0)) (rowsOf (sz n1)) := by
            show prodRows (prodRows [[]] (rowsOf (sz n0))) (rowsOf (sz n1)) = _
            rw [prod_one]
          have e3 : prodN ([n0, n1].map sz) = sz n0 * sz n1 := by
            show 1 * sz n0 * sz n1 = _
            rw [Nat.one_mul]
          have hs640 := prod_small (hsz n0 (.head _)) (hsz n1 (.tail _ (.head _))) (e3 ▸ hbig2)
          rw [e1] at hrv
          have hcl := hb _ (.tail _ (.tail _ (.head _)))
          repeat' ((fail_if_success (with_reducible show wpAny _ _ (call (Value.ref 131) _) _ _ _)); k_extra "ktr_rel")
          refine' Spec.c ?N ?F ?B ?X ?T ?K (product_spec (news := (I, oI) :: nx) (nb := nx) (sub_cons sub_refl) hrv (hd'.mono hb3) (by rw [rowsOf_len, rowsOf_len]; omega) (fun r hr => by rw [rowsOf_one r hr]; decide) (fun r hr => by rw [rowsOf_one r hr]; decide)) ?D ?U ?_
          (case N => k_asm)
          (case F => k_asm)
          (case B => k_asm)
          (case X => k_asm)
          (case T => k_asm)
          (case K => first | exact rfl | assumption)
          (case D => (dsimp +zetaDelta only [ktrTop, Around.deeper, Around.under, Around.in1]; (first | omega | (simp only [wMake]; omega))))
          (case U => (dsimp +zetaDelta only [ktrTop, Around.deeper, Around.under, Around.in1]; (first | omega | (simp only [uMake]; omega))))
          rintro r' news' h' tk' F' N' ⟨fr, rfl, hfr, hr'⟩
          have hcl2 := sub_app (fr := fr) _ (List.Mem.tail (I, oI) hcl)
          repeat' (k_extra "ktr_rel")
          rename Fr _ _ _ _ => F8
          rename News _ _ _ _ => N8
          refine' tend kR (nx := fr ++ nx) F8 N8 ?_ ?_ ?_
          · refine sub_mk (sub_app _ (.head _)) fun p hp => ?_
            rcases List.mem_append.mp hp with h | h
            · exact sub_app1 _ h
            · exact sub_app _ (.tail _ h)
          · intro p hp
            rcases List.mem_append.mp hp with h | h
            · exact Ne.symm (hfr p h _ (.head _))
            · exact off p h
          refine ⟨⟨_, ⟨rfl, trivial⟩, ?_⟩, fun p hp => sub_app _ (hb p hp)⟩
          rw [e2]
          exact hr'
        · rintro m₂ nx h tk ⟨⟨rv, hm2, hrv⟩, hb⟩ F10 N10
          replace F10 := frov F10 hm2
          have hlast : ((n0 :: nr0).map sz).take ((ys.drop 1).length + 1) = (n0 :: nr0).map sz := List.take_of_length_le (by rw [List.length_map, List.length_drop]; omega)
          rw [hlast] at hrv
          have hcl := hb _ (.tail _ (.tail _ (.head _)))
          repeat' (k_extra "ktr_rel")
          rename News _ _ _ _ => kN
          exact hret _ _ _ _ (by k_asm) kN ⟨hbig2, hrv, fun p hp => hb p (.tail _ (.tail _ (.tail _ hp)))⟩
end
end
section
theorem w30 : True := by
  k_with_none
  (k_with "omega" => first | decide | with_reducible (first | exact room2 (by assumption) (by decide) | exact room1 (by assumption) (by decide) | exact le_t (by assumption) (by decide) | assumption | exact Nat.ne_of_lt (by assumption) | exact Nat.ne_of_gt (by assumption)) | (law_clear; lia) | omega +splitDisjunctions)
  (k_with "ktr_room" => ((try dsimp +zetaDelta only [ktrTop, Around.deeper, Around.under, Around.in1]); omega))
  (k_with "ktr_units" => ((have hcL9 := cLine_is); (try dsimp +zetaDelta only [ktrTop, Around.deeper, Around.under, Around.in1, Around.mark]); omega))
  (k_with "k_all" => assumption)
  (k_with "tb_rel" => ((repeat (first | exact sub_refl | refine sub_cons ?_)); done))
  (k_with "st" => ((fail_if_success (with_reducible show CEndV _ _ _)); (fail_if_success (with_reducible show TEndV _ _ _)); (fail_if_success (with_reducible show LoopX _ _ _ _ _ _ _ _ _ _ _)); (fail_if_success (with_reducible show CompX _ _ _ _ _ _ _ _ _ _ _ _ _ _)); (first | ((with_reducible show KEnd _ _ _); refine kuse (by with_reducible assumption) ?_) | ((with_reducible show wpAny _ _ (execs (Stmt.Raise _ _ _ :: _) _) _ _ _); exfalso; (first | omega | (simp only [List.size_toArray, List.length_cons] at *; omega))) | ((with_reducible show wpAny _ _ (execs (_ :: _) _) _ _ _); (try dsimp only); walk1) | ((with_reducible show wpAny _ _ (eval (Expr.BinOp _ _ _ _) _) _ _ _); (try dsimp only); walk1) | (k_unfold; (try dsimp only)) | (k_end; wrow_close) | walk1 | (dsimp only; walk1) | (leave1; walk_say "STEP leave1"; try dsimp only) | fail "no step")))
  (k_with "subscriptTail" => (k_here; (with_reducible show wpAny _ _ (subscriptTail _ _ (Value.ref _) (Value.str _ _)) _ _ _); k_dflt (refine kda_item (knd := PySem.strKind _ _) (by k_asm) (by k_mem) (by assumption) (strKind_is _ _ _ _) (by assumption) ?_)))
  (k_with "call builtin:len" => (k_here; k_dflt (first | refine len_list (News.isList (by k_asm) (by k_mem)) (by walk_at "ln") ?_ | refine PyProof.Rows.len_tuple (News.isTup (by k_asm) (by k_mem)) (by walk_at "ln") ?_)))
  (k_with "ln" => (simp only [List.size_toArray, List.length_cons, List.length_append, List.length_nil, List.length_map]; omega))
  (k_with "subscriptTail" => (k_here; (with_reducible show wpAny _ _ (subscriptTail _ _ (Value.ref _) (Value.int _ _)) _ _ _); k_dflt (refine' item_tupleT ?zzt ?zza ?zzb ?zzc ?zzd ?_; (case zzt => exact News.isTup (by k_asm) (by k_mem)); (case zza => decide); (case zzb => decide); (case zzc => rfl); (case zzd => rfl); k_whole)))
  (k_with "call type:tuple" => (k_here; (with_reducible show wpAny _ _ (call (Value.type _) [Value.ref _]) _ _ _); k_dflt (refine call_tuple_tup (News.isTup (by k_asm) (by k_mem)) ?_)))
  (k_with "k_mem" => first | with_reducible assumption | assumption)
  (k_with "call type:list" => (k_here; (with_reducible show wpAny _ _ (call (Value.type "list") [Value.ref _]) _ _ _); k_dflt (refine' kup_listOf ?zzF ?zzN ?zzb ?zze ?_ ?zzz; (case zzF => k_asm); (case zzN => k_asm); (case zzb => k_mem); (case zze => exact rfl); (case zzz => (simp only [sizeLine_eq]; omega))); intro _ _ _ _ _ _))
  (k_with "WhlIf" => (first | refine WhlIf.no (by assumption) ?_ | refine WhlIf.yes (by assumption) ?_))
  (k_with "ktr_unf" => (refine' code_defC ?zzk1 ?zzk2 ?zzk3 ?zzk4 ?zzk5 ?zzkA ?zzkF ?zzkK ?zzk6 ?zzk7 ?zzk8 ?zzk9 ?zzkB ?zzkD ?_ ?zzc2 ?zzc3 ?zzc4; (case zzkA => exact rfl); (case zzkF => exact rfl); (case zzkK => first | assumption | exact rfl); (case zzk1 => k_asm); (case zzk2 => k_asm); (case zzk3 => k_asm); (case zzk4 => k_asm); (case zzk5 => k_asm); (case zzk6 => k_is); (case zzk7 => k_is); (case zzk8 => ktr_room); (case zzk9 => exact BindsTo.of_eq rfl); (case zzkB => exact rfl); (case zzkD => decide +kernel); (case zzc2 => exact rfl); (case zzc3 => exact rfl); (case zzc4 => exact rfl); k_whole; walk_at "i1"))
  (k_with "eval ListComp" => (k_here; k_dflt (refine ListComp_X (by k_asm) (by rfl) (by decide) (by rfl) (by decide) ?_)))
  (k_with "exec Assign cons ListComp" => (k_here; k_dflt (refine Assign_ListComp_X (by k_asm) (by with_unfolding_all rfl) (by rfl) (by decide) (by rfl) (by decide) (by rfl) (by rfl) ?_)))
  (k_with "exec For Name Name cons nil" => walk_at "fx")
  (k_with "exec For Name Call cons nil" => walk_at "fx")
  (k_with "exec For Name Subscript cons nil" => walk_at "fx")
  (k_with "exec For Name Attribute cons nil" => walk_at "fx")
  (k_with "exec For Name IfExp cons nil" => walk_at "fx")
  (k_with "exec For Tuple Name cons nil" => walk_at "fx")
  (k_with "exec For Tuple Call cons nil" => walk_at "fx")
  (k_with "exec For Tuple Subscript cons nil" => walk_at "fx")
  (k_with "exec For Tuple Attribute cons nil" => walk_at "fx")
  (k_with "compareOp In str ref" => (k_here; k_dflt (first | refine in_no (by k_asm) (by k_mem) (by assumption) (by assumption) (by assumption) ?_ | refine in_yes (by k_asm) (by k_mem) (by assumption) (by assumption) (by assumption) ?_)))
  (k_with "compareOp NotIn str ref" => (k_here; k_dflt (refine notin_no (by k_asm) (by k_mem) (by assumption) (by assumption) (by assumption) ?_)))
  (k_with "setItem ref str" => (k_here; k_dflt (refine' kda_set (knd := PySem.strKind _ _) ?zzF ?zzN ?zzU ?zzd (strKind_is _ _ _ _) ?zzz ?_; (case zzF => k_asm); (case zzN => k_asm); (case zzU => k_updF); (case zzd => assumption); (case zzz => (simp only [sizeLine_eq]; omega))); intro _ _ _ zzN zzhd; (try dsimp only at zzN); (revert zzN zzhd; intro _ _)))
  (k_with "k_ne" => first | assumption | exact Ne.symm (by assumption))
  (k_with "getAttr ref" => (k_here; k_dflt (refine' get_own ?zzk1 ?zzk2 ?zzk3 ?zzk4 ?zzk5 ?zzk6 ?zzk7 ?zzk8 ?zzk9 ?_; (case zzk1 => k_asm); (case zzk2 => k_asm); (case zzk3 => k_inst); (case zzk4 => k_is); (case zzk5 => k_is); (case zzk6 => k_is); (case zzk7 => k_is); (case zzk8 => first | assumption | k_get); (case zzk9 => k_handed); k_whole)))
  (k_with "getMethod ref" => (k_here; k_dflt (refine' method_inst ?zzk1 ?zzk2 ?zzk3 ?zzk4 ?zzk5 ?zzk6 ?zzk7 ?_; (case zzk1 => k_asm); (case zzk2 => k_asm); (case zzk3 => k_inst); (case zzk4 => k_is); (case zzk5 => k_is); (case zzk6 => k_is); (case zzk7 => first | assumption | k_get); k_whole)))
  (k_with "k_ne" => first | with_reducible assumption | with_reducible exact Ne.symm (by assumption) | exact ne_l1 (by assumption) (by k_mem) | exact ne_l2 (by assumption) (by k_mem) | exact ne_o1 (by assumption) (by k_mem) | exact ne_o2 (by assumption) (by k_mem))
  (k_with "k_all" => first | with_reducible assumption | exact off_l1 (by assumption) (by k_extra "tb_rel") | exact off_o1 (by assumption) (by k_extra "tb_rel"))
  (k_with "ktr_rel" => ((fail_if_success (with_reducible show wpAny _ _ (exec (Stmt.While _ _ _ _) _) _ _ _)); walk_at "st"))
  (k_with "compareOp NotIn str ref" => (k_here; k_dflt (refine notin_list_strs (News.isList (by k_asm) (by k_mem)) (by assumption) ?_)))
  (k_with "compareOp Eq ref ref" => (k_here; k_dflt (refine' eq_empty ?zzN ?zza ?zzb ?zzd ?zzo ?zzu ?_; (case zzN => k_asm); (case zza => k_mem); (case zzb => k_mem); (case zzd => assumption); (case zzo => assumption); (case zzu => (dsimp +zetaDelta only [ktrTop, Around.deeper, Around.under, Around.in1]; (have hcL9 := cLine_is); omega)))))
  (k_with "subscriptTail Name Slice ref ref" => (k_here; k_dflt (refine' slice15 ?zzF ?zzN ?zzt ?_; (case zzF => k_asm); (case zzN => k_asm); (case zzt => exact News.isTup (by k_asm) (by k_mem))); intro _ _ _ _))
  (k_with "call ref" => (k_here; (with_reducible show wpAny _ _ (call (Value.ref _) _) _ _ _); k_dflt (refine' Spec.c (by k_asm) (by k_asm) (by k_asm) (by k_asm) (by k_asm) (by first | exact rfl | assumption) ?zzh ?zzD ?zzU ?_; (case zzh => walk_at "spec"); (case zzD => ktr_room); (case zzU => ktr_room)); walk_at "i2"))
  (k_with "call ref" => (k_here; (with_reducible show wpAny _ _ (call (Value.ref _) _) _ _ _); k_dflt (refine' Spec.ck (by k_asm) (by k_asm) (by k_asm) (by k_asm) (by k_asm) (by first | exact rfl | assumption) ?zzh ?zzel ?zzD ?zzU ?_; (case zzh => walk_at "spec"); (case zzel => walk_at "el"); (case zzD => ktr_room); (case zzU => ktr_room)); intros; (first | intro zzN | rename News _ _ _ _ => zzN); (try dsimp only at zzN); (revert zzN; intro _); (try dsimp only); (try k_sweep)))
  (k_with "el" => (first | exact RStr.el | exact RInt.el | exact RBool.el | exact NextRet.el | exact RTup0.el | exact RTup.el | exact RNil.el | exact ROne.el | exact RLst.el | exact NamesRet.el | exact ChRet.el | exact SizesRet.el))
  (k_with "spec" => (exact nextF_spec (by k_updF) (by assumption) (by omega) (by k_mem) (by first | decide | ((try simp only [List.size_toArray]); omega))))
  (k_with "fx" => (k_here; k_dflt (refine For_X (by k_asm) ?_)))
  (k_with "callWith" => (first | with_reducible refine PyProof.Rows.callWith_method0 ?_ | ((with_reducible refine' PyProof.Rows.callWith_builtin1 ?_ ?zzcwe ?zzcwp); (case zzcwe => rfl); (case zzcwp => rfl)) | ((with_reducible refine' PyProof.Rows.callWith_method1 ?_ ?zzcwe ?zzcwp); (case zzcwe => rfl); (case zzcwp => rfl))))
  (k_with "subscriptTail Name Constant ref int" => (first | (k_extra "subscriptTail") | (k_here; (with_reducible show wpAny _ _ (subscriptTail _ _ (Value.ref _) (Value.int _ _)) _ _ _); (with_unfolding_all refine' item_litK ?zzk1 ?zzk2 ?zzk3 ?zzk4 ?_ ?zzk6; (case zzk1 => is_list); (case zzk2 => decide); (case zzk3 => decide); (case zzk4 => rfl); (case zzk6 => with_unfolding_all rfl); k_whole))))
  (k_with "subscriptTail Name BinOp ref int" => (k_extra "subscriptTail"))
  (k_with "subscriptTail Name Name ref int" => (k_extra "subscriptTail"))
  (k_with "subscriptTail Name UnaryOp ref int" => (k_extra "subscriptTail"))
  (k_with "joinParts" => (k_here; (with_reducible refine' join_end ?zzjez ?_); (case zzjez => kt_le)))
  (k_with "exec Raise some none" => (k_here; k_dflt (refine raise_X (by k_asm) (by k_asm) (by rfl) ?_)))
  (k_with "RaiseEnd" => (refine ⟨_, _, _, _, _, _, rfl, ?zzC, by k_asm, by k_asm, by k_mem, ?_⟩; (case zzC => first | exact .inl rfl | exact .inr rfl)))
  (k_with "leaving ref" => (k_here; k_dflt (first | (refine' leave_excK ?zzkk ?zzK rfl ?zzhk ?zzF ?zzN ?zzhe ?zzht ?zzhs ?zzhne ?zzhnt ?zzhsub ?_; (case zzkk => assumption); (case zzK => assumption); (case zzhk => rfl); (case zzF => k_asm); (case zzN => k_asm); (case zzhe => k_mem); (case zzht => k_mem); (case zzhs => assumption); (case zzhne => assumption); (case zzhnt => assumption); (case zzhsub => ((repeat (first | exact sub_refl | assumption | refine sub_cons ?_)); done))) | (refine' leave_onK2 ?zzkk ?zzK rfl ?zzF ?zzR ?zzU ?_; (case zzkk => assumption); (case zzR => assumption); (case zzF => assumption); (case zzK => assumption); (case zzU => assumption))); intro _ zzR zzU; (try dsimp only at zzR zzU ⊢); (revert zzR zzU; intro _ _)))
  (k_with "formatField str" => (k_here; (refine' PyProof.Rows.formatField_str ?_ ?zzz; (case zzz => (simp only [sizeLine_eq]; omega))); intro _ _))
  (k_with "call type:tuple" => (k_here; (with_reducible show wpAny _ _ (call (Value.type _) [Value.ref _]) _ _ _); k_dflt (refine' kde_tupleOf ?zzk1 ?zzk2 ?zzk3 ?zzk4 ?zzk5 ?_; (case zzk1 => k_asm); (case zzk2 => k_asm); (case zzk3 => exact News.isList (by k_asm) (by k_mem)); (case zzk4 => (simp only [List.size_toArray]; omega)); (case zzk5 => exact List.toList_toArray _); k_whole); intro _ _ _ _ zzl1; (try k_lt zzl1); (revert zzl1; intro _)))
  (k_with "newTuple" => (k_here; k_dflt (refine' newTuple_L ?zzk1 ?zzk2 ?zzk3 ?_; (case zzk1 => k_asm); (case zzk2 => k_asm); (case zzk3 => (simp only [sizeLine_eq, List.length_cons, List.length_nil]; omega))); intro _ _ _ _ zzl1; (try k_lt zzl1); (revert zzl1; intro _)))
  (k_with "setItem ref str" => (k_here; k_dflt (refine' dset_new ?zzF ?zzN ?zzU ?zzd ?zzn ?zzz ?_; (case zzF => k_asm); (case zzN => k_asm); (case zzU => k_updF); (case zzd => assumption); (case zzn => assumption); (case zzz => omega)); intro _ _ _ zzN zzhd zzhv; (try dsimp only at zzN); (revert zzN zzhd zzhv; intro _ _ _)))
  (k_with "call builtin:list.extend" => (k_here; (with_reducible show wpAny _ _ (call (Value.builtin _) [Value.ref _, Value.ref _]) _ _ _); k_dflt (refine' ext_L ?zzF ?zzN ?zzb ?zzU ?zzz ?zzy ?_; (case zzF => k_asm); (case zzN => k_asm); (case zzb => k_mem); (case zzU => k_updF); (case zzz => omega); (case zzy => omega)); intro _ _ _ zzN; (try dsimp only at zzN); (revert zzN; intro _)))
  (k_with "exec Assign cons ListComp" => (k_here; k_dflt (refine Assign_ListComp2_X (by k_asm) (by with_unfolding_all rfl) (by rfl) (by decide) (by rfl) (by decide) (by rfl) (by rfl) ?_)))
  trivial
inductive LpJ (L9 : Addr) (news : Led) (ds : List Dat) (m : Str → Option Value) (nx : Led) : Prop
  | mk (FL : Addr) (oc : Obj) (v0 : Option Value) (nr : Led) (vf : List Value) (nf : Nat) (hm : Kn m [(S "found", .ref FL)]) (hnx : nx = (L9 + 1, oc) :: nr) (hb : ∀ p ∈ news, p ∈ nr) (ho : ∀ p ∈ nr, p.1 ≠ L9 + 1) (hc : oc.data = .cell v0) (hf : (FL, listOf vf.toArray nf) ∈ nr) (hd : DatAll nr vf ds) : LpJ L9 news ds m nx
section
variable {w : World} {loose : List Str} {mean : ExcName → Option Value} {mg mb : Str → Option Value} {news : Led} {sl : Addr} {ns : List Nat}
theorem prod_take_le {ns : List Nat} (hsz : ∀ n ∈ ns, n ≤ 2 ∨ n = 320) {k : Nat} (hk : k ≤ 2) : prodN (ns.take k) ≤ 102400 := by
  have hs : ∀ n ∈ ns, n ≤ 320 := fun n hn => by rcases hsz n hn with h | h <;> omega
  have hk2 : k = 0 ∨ k = 1 ∨ k = 2 := by omega
  rcases hk2 with rfl | rfl | rfl
  · simp [prodN]
  · rcases ns with _ | ⟨a, r⟩
    · simp [prodN]
    · have := hs a (.head _)
      show 1 * a ≤ _
      omega
  · rcases ns with _ | ⟨a, _ | ⟨b, r⟩⟩
    · simp [prodN]
    · have := hs a (.head _)
      show 1 * a ≤ _
      omega
    · show 1 * a * b ≤ 102400
      rw [Nat.one_mul]
      exact Nat.mul_le_mul (hs a (.head _)) (hs b (.tail _ (.head _)))
theorem fold_rows (n : Nat) : ∀ (ns : List Nat) (f : List (List Int)) (k : Nat), (∀ r ∈ f, r.length = k) → ∀ r ∈ ns.foldl (fun f n => prodRows f (rowsOf n)) f, r.length = k + ns.length := by
  intro ns
  induction ns with
  | nil => intro f k h r hr; exact h r hr
  | cons a ns ih =>
    intro f k h r hr
    have := ih (prodRows f (rowsOf a)) (k + 1) (by
      intro q hq
      obtain ⟨x, hx, hq⟩ := List.mem_flatMap.mp hq
      obtain ⟨y, hy, rfl⟩ := List.mem_map.mp hq
      rw [List.length_append, h x hx, rowsOf_one y hy]) r hr
    rw [this, List.length_cons]
    omega
theorem colRows_rows {ns : List Nat} : ∀ r ∈ colRows ns, r.length = ns.length := by
  intro r hr
  have := fold_rows 0 ns [[]] 0 (fun r hr => by cases List.mem_singleton.mp hr; rfl) r hr
  omega
theorem prod_pre {ns : List Nat} (hl : ns.length ≤ 2) (hsz : ∀ n ∈ ns, n ≤ 2 ∨ n = 320) (hb : prodN ns ≤ 100000) {k : Nat} : prodN (ns.take k) ≤ 640 := by
  have hs : ∀ n ∈ ns, n ≤ 320 := fun n hn => by rcases hsz n hn with h | h <;> omega
  rcases ns with _ | ⟨a, _ | ⟨b, _ | ⟨c, r⟩⟩⟩
  · simp [prodN]
  · have := hs a (.head _)
    rcases k with _ | k
    · simp [prodN]
    · show prodN (a :: List.take k []) ≤ 640
      rw [List.take_nil]
      show 1 * a ≤ _
      omega
  · have h1 := hs a (.head _)
    have hb2 : a * b ≤ 100000 := by
      have : 1 * a * b ≤ 100000 := hb
      rwa [Nat.one_mul] at this
    have h2 := prod_small (hsz a (.head _)) (hsz b (.tail _ (.head _))) hb2
    rcases k with _ | _ | k
    · simp [prodN]
    · show 1 * a ≤ _
      omega
    · show prodN (a :: b :: List.take k []) ≤ 640
      rw [List.take_nil]
      show 1 * a * b ≤ _
      rw [Nat.one_mul]
      exact h2
  · simp only [List.length_cons] at hl
    omega
theorem lawprod_spec {vs : List Value} {nl : Nat} (hm : (sl, listOf vs.toArray nl) ∈ news) (hd : DatAll news vs (ns.map fun (n : Nat) => Dat.int (n : Int))) (hl : ns.length ≤ 2) (hsz : ∀ n ∈ ns, n ≤ 2 ∨ n = 320) :
    Spec w loose mean mg mb 20 120 (.ref 468) [.ref sl] news (fun r news' => (∀ p ∈ news, p ∈ news') ∧ ((100000 < prodN ns ∧ ∃ t, r = .str (S "limit") t) ∨ (prodN ns ≤ 100000 ∧ DatIn news' r (.tuple ((colRows ns).map rowDat))))) None2 := by
  unfold Spec
  k_fill
  intro dp un gd cn cs a ccd cl outer A₀ base h₀ L m s Q E B F X N T hk hR hok hret hexc
  have hvl : vs.length = ns.length := by have := hd.length; simpa using this
  refine wpAny_call ?_
  k_dflt ktr_unf
  refine opq (by passes_own) ?_
  intro A9 R9 E9 kR9 kE9 pE9
  repeat' (k_extra "ktr_rel")
  rename_i g9 L9 _ _ _ _ _ _ l9 q5 q6 q7 oA dA _ F1 N1
  refine ⟨_, _, _, fun k m nx => (∃ tm, Kn m [(S "sizes", .ref sl), (S "many", .int ((prodN (ns.take k) : Nat) : Int) tm)]) ∧ ∃ oc v0, nx = (L9 + 1, oc) :: news ∧ oc.data = .cell v0,
    _, _, src_list rfl N1 (.tail _ hm), F1, N1, ?_, ⟨⟨_, ⟨rfl, rfl, trivial⟩⟩, oA, none, rfl, dA⟩, ?_, ?_⟩
  · rintro k m nx ⟨-, oc, v0, rfl, -⟩; exact .tail _ hm
  · rintro k v m₁ nx h tk I oI R kR hk hv1 ⟨⟨tm, hm1⟩, oc, v0, rfl, hoc⟩ off F3 N3
    replace F3 := frov F3 hm1
    have hkn : k < ns.length := by omega
    have hd' := datAt hd hv1 (by simpa using hkn)
    simp only [List.getElem_map] at hd'
    obtain ⟨t1, rfl⟩ := dat_int hd'
    have x1 : L9 + 1 ≠ I := off_head off
    have hz1 : ns[k] ≤ 320 := by rcases hsz ns[k] (List.getElem_mem _) with h | h <;> omega
    have hz2 : prodN (ns.take k) ≤ 102400 := prod_take_le hsz (by omega)
    repeat' (k_extra "ktr_rel")
    rename Fr _ _ _ _ => F8
    rename News _ _ _ _ => N8
    rename Obj => oc9
    rename oc9.data = _ => d9
    have hcast : ((prodN (ns.take (k + 1)) : Nat) : Int) = ((prodN (ns.take k) : Nat) : Int) * ((ns[k] : Nat) : Int) := by
      rw [List.take_add_one, List.getElem?_eq_getElem hkn]
      show ((prodN (ns.take k ++ [ns[k]]) : Nat) : Int) = _
      rw [prodN_snoc, Int.natCast_mul]
    rw [← hcast] at F8
    refine' tend kR (nx := (L9 + 1, oc9) :: news) F8 N8 ?_ ?_ ?_
    · exact sub_refl
    · exact off_cons x1 (off_tail off)
    exact ⟨⟨_, ⟨rfl, rfl, trivial⟩⟩, oc9, _, rfl, d9⟩
  · rintro m₁ nx h tk ⟨⟨tm, hm1⟩, oc, v0, rfl, hoc⟩ F3 N3
    replace F3 := frov F3 hm1
    have hfull : ns.take vs.length = ns := List.take_of_length_le (by omega)
    rw [hfull] at F3
    repeat' (k_extra "ktr_rel")
    · rename 100000 < _ => hbig
      rename News _ _ _ _ => kN
      exact hret _ _ _ _ (by k_asm) kN ⟨sub_cons sub_refl, .inl ⟨by omega, _, rfl⟩⟩
    · rename ¬ 100000 < _ => hbig
      rename 0 < _ => hpos
      rename_i Te _ lTe FL0 _ _ _ lFL _ F5 N5
      have N6 := ntake N5 (nx := (L9 + 1, oc) :: (FL0, listOf [Value.ref Te].toArray 0) :: (Te, tupObj [] 0) :: news) (sub_mk (by k_mem) (sub_mk (by k_mem) (sub_mk (by k_mem) (by k_extra "tb_rel"))))
      refine ⟨_, _, _, fun k m nx => LpJ L9 news ((colRows (ns.take k)).map rowDat) m nx,
        _, _, src_list rfl N6 (.tail _ (.tail _ (.tail _ hm))), F5, N6, ?_, ⟨FL0, oc, v0, _, _, _, ⟨rfl, trivial⟩, rfl, sub_cons (sub_cons sub_refl), off_cons (Ne.symm (Nat.ne_of_lt lFL.2.1)) (off_cons (Ne.symm (Nat.ne_of_lt lTe.1)) q5), hoc, .head _, .one (.tuple (.tail _ (.head _)) .nil)⟩, ?_, ?_⟩
      · rintro k m nx ⟨FL, oc, v0, nr, vf, nf, -, rfl, hb, -⟩
        exact .tail _ (hb _ hm)
      · rintro k v m₂ nx h2 tk2 I oI R kR hk hv1 ⟨FL, oc, v0, nr, vf, nf, hm2, rfl, hb, hoff, hoc, hFL, hdf⟩ off F7 N7
        replace F7 := frov F7 hm2
        have hkn : k < ns.length := by omega
        have hd' := datAt hd hv1 (by simpa using hkn)
        simp only [List.getElem_map] at hd'
        obtain ⟨t1, rfl⟩ := dat_int hd'
        have x1 : L9 + 1 ≠ I := off_head off
        have x2 := off_tail off
        have hz1 : ns[k] ≤ 320 := by rcases hsz ns[k] (List.getElem_mem _) with h | h <;> omega
        repeat' (k_extra "ktr_rel")
        rename Fr _ _ _ _ => F8
        rename News _ _ _ _ => N8
        rename Obj => oc9
        rename oc9.data = _ => d9
        obtain ⟨S0, hS0⟩ : ∃ S0, S0 = colRows (ns.take k) := ⟨_, rfl⟩
        rw [← hS0] at hdf
        have hS0l : S0.length ≤ 640 := by rw [hS0, colRows_len]; exact prod_pre hl hsz (by omega)
        have hS0r : ∀ r ∈ S0, r.length ≤ 10 := fun r hr => by
          rw [hS0] at hr
          have := colRows_rows r hr
          rw [this, List.length_take]
          omega
        have hSn : S0.length * ns[k] ≤ 640 := by
          have e1 : ns.take (k + 1) = ns.take k ++ [ns[k]] := by rw [List.take_add_one, List.getElem?_eq_getElem hkn]; rfl
          have := prod_pre hl hsz (show prodN ns ≤ 100000 by omega) (k := k + 1)
          rw [e1, prodN_snoc] at this
          rw [hS0, colRows_len]
          exact this
        have hvl2 : vf.length = S0.length := by have := hdf.length; simpa using this
        refine ⟨_, _, _, fun i ys nx => FrJ ((I, oI) :: (L9 + 1, oc9) :: nr) nr ((prodRows (S0.take i) (rowsOf ns[k])).map rowDat) ys nx, _, _, src_list rfl N8 (.tail _ (.tail _ hFL)), F8, N8, ?_, ⟨[], rfl, (fun _ hp => nomatch hp), .nil⟩, ?_, ?_⟩
        · rintro i ys nx ⟨fr, rfl, -, -⟩
          exact sub_app _ (.tail _ (.tail _ hFL))
        · rintro i v ys nx I1 oI1 C oC D m₅ h5 tk5 E5 hi hv2 ⟨fr0, hnx, hfr0, hys⟩ hC off1 F9 N9
          have hbase : ∀ p ∈ ((I, oI) :: (L9 + 1, oc9) :: nr : Led), p ∈ nx := by rw [hnx]; exact sub_app
          refine assignC (by rfl) (by rfl) off1 hC F9 N9 fun h' oC' tk' hC' F10 N10 => ?_
          clear F9 N9 hC
          have hx' : (fun y => if y = Str.ofString "row" then some v else m₅ y) (Str.ofString "row") = some v := by simp
          generalize (fun y => if y = Str.ofString "row" then some v else m₅ y) = m₆ at hC' hx'
          have hcl := hbase _ (.tail _ (.head _))
          have his : i < S0.length := by omega
          have hd2 := datAt hdf hv2 (by simpa using his)
          simp only [List.getElem_map] at hd2
          obtain ⟨o1, u1, z1, rfl, mo1, do1⟩ := dat_tuple hd2
          repeat' (k_extra "ktr_rel")
          rename IsRange _ _ _ _ _ _ _ _ => hrg
          rename News _ _ _ _ => N11
          rename Fr _ _ _ _ => F11
          have hrow1 := hS0r _ (List.getElem_mem his)
          have hbd : (i + 1) * ns[k] ≤ 640 := Nat.le_trans (Nat.mul_le_mul_right _ his) hSn
          rw [Nat.succ_mul] at hbd
          refine ⟨_, _, _, fun j mm ys nx => mm (Str.ofString "row") = some (.ref o1) ∧ j ≤ ns[k] ∧ FrJ ((I, oI) :: (L9 + 1, oc9) :: nr) nr ((prodRows (S0.take i) (rowsOf ns[k]) ++ ((rowsOf ns[k]).take j).map fun y => S0[i] ++ y).map rowDat) ys nx, ys, nx, oC', m₆, _, _, rfl, src_range0 rfl hrg (by omega) (by omega), F11, N11, hC', off1, fun _ _ _ _ _ => trivial, ?_, ⟨hx', Nat.zero_le _, fr0, hnx, hfr0, by simpa using hys⟩, ?_, ?_⟩
          · rintro j mm ys nx ⟨-, hjl, fr, -, -, hd⟩
            have := hd.length
            rw [List.length_map, List.length_append, prod_len, List.length_map, List.length_take, List.length_take, Nat.min_eq_left (Nat.le_of_lt his), rowsOf_len] at this
            have hmin := Nat.min_le_right j ns[k]
            rw [sizeLine_eq]
            omega
          · rintro j v2 ys2 nx2 I2 oI2 oC2 m₇ h7 tk7 E7 hj ⟨tv2, rfl⟩ ⟨hm7, hjl, fr2, hnx2, hfr2, hys2⟩ hC2 off2 offI F12 N12
            have hb2 : ∀ p ∈ ((I, oI) :: (L9 + 1, oc9) :: nr : Led), p ∈ nx2 := by rw [hnx2]; exact sub_app
            refine assignC (by rfl) (by rfl) off2 hC2 F12 N12 fun h8 oC8 tk8 hC8 F13 N13 => ?_
            clear F12 N12 hC2 F11 N11
            have hx2 : (fun y => if y = Str.ofString "a" then some (Value.int (j : Int) tv2) else m₇ y) (Str.ofString "a") = some (Value.int (j : Int) tv2) := by simp
            have hx3 : (fun y => if y = Str.ofString "a" then some (Value.int (j : Int) tv2) else m₇ y) (Str.ofString "row") = some (Value.ref o1) := by
              rw [← hm7]
              exact if_neg (by decide)
            generalize (fun y => if y = Str.ofString "a" then some (Value.int (j : Int) tv2) else m₇ y) = m₈ at hC8 hx2 hx3
            have hjn : j < ns[k] := by omega
            repeat' ((fail_if_success (with_reducible show wpAny _ _ (binaryOp _ (Value.ref _) (Value.ref _)) _ _ _)); k_extra "ktr_rel")
            rename_i Ta _ F14 N14 lTa
            refine' add_dat (nb := (Ta, tupObj [Value.int (j : Int) tv2] 0) :: nr) ?F ?N ?hs (hd2.mono (sub_cons sub_refl)) (.tuple (.head _) (.one (.int (j : Int) tv2))) ?hz ?_
            (case F => k_asm)
            (case N => k_asm)
            (case hs => exact sub_mk (.head _) fun p hp => .tail _ (.tail _ (.tail _ (.tail _ (.tail _ (hb2 p (.tail _ (.tail _ hp))))))))
            (case hz => (simp only [List.length_map, List.length_cons, List.length_nil]; omega))
            intro T fr h9 F15 N15 hfr hT
            have hTaB : ∀ q ∈ ((I, oI) :: (L9 + 1, oc9) :: nr : Led), q.1 ≠ Ta := fun q hq => allLt_off lTa.2.2.2.2 q (hb2 q hq)
            have z1 := Nat.ne_of_gt lTa.1
            have z2 := Nat.ne_of_gt lTa.2.1
            have z3 := Nat.ne_of_gt lTa.2.2.1
            have z4 := Nat.ne_of_gt lTa.2.2.2.1
            refine CEnd2.intro (nx := (I1, oI1) :: ((fr ++ [(Ta, tupObj [Value.int (j : Int) tv2] 0)]) ++ nx2)) F15 N15 ?_ hC8 ?_ ⟨_, rfl, ?_, hx3, hjn, (fr ++ [(Ta, tupObj [Value.int (j : Int) tv2] 0)]) ++ fr2, by rw [hnx2, ← List.append_assoc], ?_, ?_⟩
            · exact sub_mk (sub_app _ (.tail _ (.head _))) (sub_mk (sub_app _ (.tail _ (.tail _ (.head _)))) (sub_mk (sub_app _ (.tail _ (.tail _ (.tail _ (.head _))))) (sub_mk (sub_app _ (.tail _ (.tail _ (.tail _ (.tail _ (.head _)))))) fun p hp => by
                rcases List.mem_append.mp hp with h | h
                · rcases List.mem_append.mp h with h | h
                  · exact sub_app1 _ h
                  · cases List.mem_singleton.mp h
                    exact sub_app _ (.head _)
                · exact sub_app _ (.tail _ (.tail _ (.tail _ (.tail _ (.tail _ h))))))))
            · intro p hp
              rcases List.mem_cons.mp hp with rfl | hp
              · exact off2.off _ (.head _)
              · rcases List.mem_append.mp hp with h | h
                · rcases List.mem_append.mp h with h | h
                  · exact ⟨Ne.symm (hfr p h _ (.tail _ (.head _))), Ne.symm (hfr p h _ (.tail _ (.tail _ (.head _)))), Ne.symm (hfr p h _ (.tail _ (.tail _ (.tail _ (.head _)))))⟩
                  · cases List.mem_singleton.mp h
                    exact ⟨z1, z2, z3⟩
                · exact off2.off _ (.tail _ h)
            · intro p hp
              rcases List.mem_append.mp hp with h | h
              · rcases List.mem_append.mp h with h | h
                · exact Ne.symm (hfr p h _ (.tail _ (.tail _ (.tail _ (.tail _ (.head _))))))
                · cases List.mem_singleton.mp h
                  exact z4
              · exact (offI.off p h).1
            · intro p hp q hq
              rcases List.mem_append.mp hp with h | h
              · rcases List.mem_append.mp h with h | h
                · exact hfr p h q (.tail _ (.tail _ (.tail _ (.tail _ (.tail _ (hb2 q hq))))))
                · cases List.mem_singleton.mp h
                  exact hTaB q hq
              · exact hfr2 p h q hq
            · have hjl2 : j < (rowsOf ns[k]).length := by rw [rowsOf_len]; exact hjn
              have e9 : (rowsOf ns[k])[j] = [(j : Int)] := by simp [rowsOf]
              rw [take_map _ hjl2, ← List.append_assoc, List.map_append, List.append_assoc]
              refine (hys2.mono fun p hp => sub_app _ hp).append (.one ?_)
              rw [e9]
              unfold rowDat
              rw [List.map_append]
              refine hT.mono fun p hp => ?_
              rcases List.mem_append.mp hp with h | h
              · exact sub_app1 _ (sub_app1 _ h)
              · rcases List.mem_cons.mp h with rfl | h
                · exact sub_app1 _ (sub_app _ (.head _))
                · exact sub_app _ (sub_app _ h)
          · rintro mm ys nx ⟨-, -, fr, hnx, hfr, hd⟩
            refine ⟨fr, hnx, hfr, ?_⟩
            rw [prod_take his]
            rw [Int.toNat_natCast, List.take_of_length_le (l := rowsOf ns[k]) (by rw [rowsOf_len]; exact Nat.le_refl _)] at hd
            exact hd
        · rintro ys nx ⟨fr, hnx, hfr, hys⟩
          rw [hvl2, List.take_length] at hys
          intro D h5 tk5 F9 N9 o9
          have hbase : ∀ p ∈ ((I, oI) :: (L9 + 1, oc9) :: nr : Led), p ∈ nx := by rw [hnx]; exact sub_app
          have hcl := hbase _ (.tail _ (.head _))
          repeat' (k_extra "ktr_rel")
          refine' tend kR (nx := (L9 + 1, oc9) :: (D, LCg.lst ys) :: (fr ++ nr)) (by k_asm) (by k_asm) ?_ ?_ ⟨D, oc9, _, (D, LCg.lst ys) :: (fr ++ nr), ys, ys.length, ⟨rfl, trivial⟩, rfl, ?_, ?_, d9, .head _, ?_⟩
          · refine sub_mk (.tail _ (hbase _ (.head _))) (sub_mk (.tail _ (hbase _ (.tail _ (.head _)))) (sub_mk (.head _) fun p hp => ?_))
            rcases List.mem_append.mp hp with h | h
            · exact .tail _ (by rw [hnx]; exact sub_app1 _ h)
            · exact .tail _ (hbase _ (.tail _ (.tail _ h)))
          · refine off_cons x1 (off_cons (Ne.symm (o9 _ (hbase _ (.head _)))) fun p hp => ?_)
            rcases List.mem_append.mp hp with h | h
            · exact Ne.symm (hfr p h _ (.head _))
            · exact x2 p h
          · exact fun p hp => .tail _ (sub_app _ (hb p hp))
          · refine off_cons (Ne.symm (o9 _ (hbase _ (.tail _ (.head _))))) fun p hp => ?_
            rcases List.mem_append.mp hp with h | h
            · exact Ne.symm (hfr p h _ (.tail _ (.head _)))
            · exact hoff p h
          · have e1 : ns.take (k + 1) = ns.take k ++ [ns[k]] := by rw [List.take_add_one, List.getElem?_eq_getElem hkn]; rfl
            rw [e1, colRows_snoc, ← hS0]
            exact hys.mono (sub_cons sub_refl)
      · rintro m₂ nx h2 tk2 ⟨FL, oc, v0, nr, vf, nf, hm2, rfl, hb, hoff, hoc, hFL, hdf⟩ F7 N7
        replace F7 := frov F7 hm2
        have hvf : vf.length ≤ 640 := by
          rw [hdf.length, List.length_map, colRows_len]
          exact prod_pre hl hsz (by omega)
        repeat' ((fail_if_success (with_reducible show wpAny _ _ (call (Value.type _) [Value.ref _]) _ _ _)); k_extra "ktr_rel")
        refine' kde_tupleOf (zs := vf) ?k1 ?k2 ?k3 ?k4 ?k5 ?_
        (case k1 => k_asm)
        (case k2 => k_asm)
        (case k3 => exact News.isList (by k_asm) (by k_mem))
        (case k4 => (rw [List.size_toArray]; omega))
        (case k5 => rfl)
        intro D3 h3 F10 N10 l10
        repeat' (k_extra "ktr_rel")
        rename News _ _ _ _ => kN
        rw [hfull] at hdf
        exact hret _ _ _ _ (by k_asm) kN ⟨fun p hp => .tail _ (.tail _ (hb p hp)), .inr ⟨by omega, .tuple (n := 0) (.head _) (hdf.mono fun p hp => .tail _ (.tail _ hp))⟩⟩
    · rename ¬ 100000 < _ => hbig
      rename ¬ 0 < _ => hpos
      rename_i FL0 _ _ _ lF0 _ FLe _ F5 N5 lFe
      have hnil : colRows ns = [] := List.eq_nil_of_length_eq_zero (by rw [colRows_len]; omega)
      refine ⟨_, _, _, fun k m nx => Kn m [(S "found", .ref FL0)] ∧ nx = (FLe, listOf #[] 0) :: (FL0, listOf #[] 0) :: (L9 + 1, oc) :: news,
        _, _, src_list (vs := []) rfl N5 (.head _), F5, N5, ?_, ⟨⟨rfl, trivial⟩, rfl⟩, ?_, ?_⟩
      · rintro k m nx ⟨-, rfl⟩; exact .head _
      · rintro k v m₂ nx h2 tk2 I oI R kR hk
        exact absurd hk (Nat.not_lt_zero _)
      · rintro m₂ nx h2 tk2 ⟨hm2, rfl⟩ F7 N7
        replace F7 := frov F7 hm2
        repeat' ((fail_if_success (with_reducible show wpAny _ _ (call (Value.type _) [Value.ref _]) _ _ _)); k_extra "ktr_rel")
        refine' kde_tupleOf (zs := []) ?k1 ?k2 ?k3 ?k4 ?k5 ?_
        (case k1 => k_asm)
        (case k2 => k_asm)
        (case k3 => exact News.isList (by k_asm) (List.Mem.tail _ (List.Mem.head _)))
        (case k4 => decide)
        (case k5 => rfl)
        intro D3 h3 F10 N10 l10
        repeat' (k_extra "ktr_rel")
        rename News _ _ _ _ => kN
        exact hret _ _ _ _ (by k_asm) kN ⟨fun p hp => .tail _ (.tail _ (.tail _ (.tail _ hp))), .inr ⟨by omega, .tuple (n := 0) (.head _) (by rw [hnil]; exact .nil)⟩⟩
end
end
section
theorem w31 : True := by
  k_with_none
  (k_with "omega" => first | decide | with_reducible (first | exact room2 (by assumption) (by decide) | exact room1 (by assumption) (by decide) | exact le_t (by assumption) (by decide) | assumption | exact Nat.ne_of_lt (by assumption) | exact Nat.ne_of_gt (by assumption)) | (law_clear; lia) | omega +splitDisjunctions)
  (k_with "ktr_room" => ((try dsimp +zetaDelta only [ktrTop, Around.deeper, Around.under, Around.in1]); omega))
  (k_with "ktr_units" => ((have hcL9 := cLine_is); (try dsimp +zetaDelta only [ktrTop, Around.deeper, Around.under, Around.in1, Around.mark]); omega))
  (k_with "k_all" => assumption)
  (k_with "tb_rel" => ((repeat (first | exact sub_refl | refine sub_cons ?_)); done))
  (k_with "st" => ((fail_if_success (with_reducible show CEndV _ _ _)); (fail_if_success (with_reducible show TEndV _ _ _)); (fail_if_success (with_reducible show LoopX _ _ _ _ _ _ _ _ _ _ _)); (fail_if_success (with_reducible show CompX _ _ _ _ _ _ _ _ _ _ _ _ _ _)); (first | ((with_reducible show KEnd _ _ _); refine kuse (by with_reducible assumption) ?_) | ((with_reducible show wpAny _ _ (execs (Stmt.Raise _ _ _ :: _) _) _ _ _); exfalso; (first | omega | (simp only [List.size_toArray, List.length_cons] at *; omega))) | ((with_reducible show wpAny _ _ (execs (_ :: _) _) _ _ _); (try dsimp only); walk1) | ((with_reducible show wpAny _ _ (eval (Expr.BinOp _ _ _ _) _) _ _ _); (try dsimp only); walk1) | (k_unfold; (try dsimp only)) | (k_end; wrow_close) | walk1 | (dsimp only; walk1) | (leave1; walk_say "STEP leave1"; try dsimp only) | fail "no step")))
  (k_with "subscriptTail" => (k_here; (with_reducible show wpAny _ _ (subscriptTail _ _ (Value.ref _) (Value.str _ _)) _ _ _); k_dflt (refine kda_item (knd := PySem.strKind _ _) (by k_asm) (by k_mem) (by assumption) (strKind_is _ _ _ _) (by assumption) ?_)))
  (k_with "call builtin:len" => (k_here; k_dflt (first | refine len_list (News.isList (by k_asm) (by k_mem)) (by walk_at "ln") ?_ | refine PyProof.Rows.len_tuple (News.isTup (by k_asm) (by k_mem)) (by walk_at "ln") ?_)))
  (k_with "ln" => (simp only [List.size_toArray, List.length_cons, List.length_append, List.length_nil, List.length_map]; omega))
  (k_with "subscriptTail" => (k_here; (with_reducible show wpAny _ _ (subscriptTail _ _ (Value.ref _) (Value.int _ _)) _ _ _); k_dflt (refine' item_tupleT ?zzt ?zza ?zzb ?zzc ?zzd ?_; (case zzt => exact News.isTup (by k_asm) (by k_mem)); (case zza => decide); (case zzb => decide); (case zzc => rfl); (case zzd => rfl); k_whole)))
  (k_with "call type:tuple" => (k_here; (with_reducible show wpAny _ _ (call (Value.type _) [Value.ref _]) _ _ _); k_dflt (refine call_tuple_tup (News.isTup (by k_asm) (by k_mem)) ?_)))
  (k_with "k_mem" => first | with_reducible assumption | assumption)
  (k_with "call type:list" => (k_here; (with_reducible show wpAny _ _ (call (Value.type "list") [Value.ref _]) _ _ _); k_dflt (refine' kup_listOf ?zzF ?zzN ?zzb ?zze ?_ ?zzz; (case zzF => k_asm); (case zzN => k_asm); (case zzb => k_mem); (case zze => exact rfl); (case zzz => (simp only [sizeLine_eq]; omega))); intro _ _ _ _ _ _))
  (k_with "WhlIf" => (first | refine WhlIf.no (by assumption) ?_ | refine WhlIf.yes (by assumption) ?_))
  (k_with "ktr_unf" => (refine' code_defC ?zzk1 ?zzk2 ?zzk3 ?zzk4 ?zzk5 ?zzkA ?zzkF ?zzkK ?zzk6 ?zzk7 ?zzk8 ?zzk9 ?zzkB ?zzkD ?_ ?zzc2 ?zzc3 ?zzc4; (case zzkA => exact rfl); (case zzkF => exact rfl); (case zzkK => first | assumption | exact rfl); (case zzk1 => k_asm); (case zzk2 => k_asm); (case zzk3 => k_asm); (case zzk4 => k_asm); (case zzk5 => k_asm); (case zzk6 => k_is); (case zzk7 => k_is); (case zzk8 => ktr_room); (case zzk9 => exact BindsTo.of_eq rfl); (case zzkB => exact rfl); (case zzkD => decide +kernel); (case zzc2 => exact rfl); (case zzc3 => exact rfl); (case zzc4 => exact rfl); k_whole; walk_at "i1"))
  (k_with "eval ListComp" => (k_here; k_dflt (refine ListComp_X (by k_asm) (by rfl) (by decide) (by rfl) (by decide) ?_)))
  (k_with "exec Assign cons ListComp" => (k_here; k_dflt (refine Assign_ListComp_X (by k_asm) (by with_unfolding_all rfl) (by rfl) (by decide) (by rfl) (by decide) (by rfl) (by rfl) ?_)))
  (k_with "exec For Name Name cons nil" => walk_at "fx")
  (k_with "exec For Name Call cons nil" => walk_at "fx")
  (k_with "exec For Name Subscript cons nil" => walk_at "fx")
  (k_with "exec For Name Attribute cons nil" => walk_at "fx")
  (k_with "exec For Name IfExp cons nil" => walk_at "fx")
  (k_with "exec For Tuple Name cons nil" => walk_at "fx")
  (k_with "exec For Tuple Call cons nil" => walk_at "fx")
  (k_with "exec For Tuple Subscript cons nil" => walk_at "fx")
  (k_with "exec For Tuple Attribute cons nil" => walk_at "fx")
  (k_with "compareOp In str ref" => (k_here; k_dflt (first | refine in_no (by k_asm) (by k_mem) (by assumption) (by assumption) (by assumption) ?_ | refine in_yes (by k_asm) (by k_mem) (by assumption) (by assumption) (by assumption) ?_)))
  (k_with "compareOp NotIn str ref" => (k_here; k_dflt (refine notin_no (by k_asm) (by k_mem) (by assumption) (by assumption) (by assumption) ?_)))
  (k_with "setItem ref str" => (k_here; k_dflt (refine' kda_set (knd := PySem.strKind _ _) ?zzF ?zzN ?zzU ?zzd (strKind_is _ _ _ _) ?zzz ?_; (case zzF => k_asm); (case zzN => k_asm); (case zzU => k_updF); (case zzd => assumption); (case zzz => (simp only [sizeLine_eq]; omega))); intro _ _ _ zzN zzhd; (try dsimp only at zzN); (revert zzN zzhd; intro _ _)))
  (k_with "k_ne" => first | assumption | exact Ne.symm (by assumption))
  (k_with "getAttr ref" => (k_here; k_dflt (refine' get_own ?zzk1 ?zzk2 ?zzk3 ?zzk4 ?zzk5 ?zzk6 ?zzk7 ?zzk8 ?zzk9 ?_; (case zzk1 => k_asm); (case zzk2 => k_asm); (case zzk3 => k_inst); (case zzk4 => k_is); (case zzk5 => k_is); (case zzk6 => k_is); (case zzk7 => k_is); (case zzk8 => first | assumption | k_get); (case zzk9 => k_handed); k_whole)))
  (k_with "getMethod ref" => (k_here; k_dflt (refine' method_inst ?zzk1 ?zzk2 ?zzk3 ?zzk4 ?zzk5 ?zzk6 ?zzk7 ?_; (case zzk1 => k_asm); (case zzk2 => k_asm); (case zzk3 => k_inst); (case zzk4 => k_is); (case zzk5 => k_is); (case zzk6 => k_is); (case zzk7 => first | assumption | k_get); k_whole)))
  (k_with "k_ne" => first | with_reducible assumption | with_reducible exact Ne.symm (by assumption) | exact ne_l1 (by assumption) (by k_mem) | exact ne_l2 (by assumption) (by k_mem) | exact ne_o1 (by assumption) (by k_mem) | exact ne_o2 (by assumption) (by k_mem))
  (k_with "k_all" => first | with_reducible assumption | exact off_l1 (by assumption) (by k_extra "tb_rel") | exact off_o1 (by assumption) (by k_extra "tb_rel"))
  (k_with "ktr_rel" => ((fail_if_success (with_reducible show wpAny _ _ (exec (Stmt.While _ _ _ _) _) _ _ _)); walk_at "st"))
  (k_with "compareOp NotIn str ref" => (k_here; k_dflt (refine notin_list_strs (News.isList (by k_asm) (by k_mem)) (by assumption) ?_)))
  (k_with "compareOp Eq ref ref" => (k_here; k_dflt (refine' eq_empty ?zzN ?zza ?zzb ?zzd ?zzo ?zzu ?_; (case zzN => k_asm); (case zza => k_mem); (case zzb => k_mem); (case zzd => assumption); (case zzo => assumption); (case zzu => (dsimp +zetaDelta only [ktrTop, Around.deeper, Around.under, Around.in1]; (have hcL9 := cLine_is); omega)))))
  (k_with "subscriptTail Name Slice ref ref" => (k_here; k_dflt (refine' slice15 ?zzF ?zzN ?zzt ?_; (case zzF => k_asm); (case zzN => k_asm); (case zzt => exact News.isTup (by k_asm) (by k_mem))); intro _ _ _ _))
  (k_with "call ref" => (k_here; (with_reducible show wpAny _ _ (call (Value.ref _) _) _ _ _); k_dflt (refine' Spec.c (by k_asm) (by k_asm) (by k_asm) (by k_asm) (by k_asm) (by first | exact rfl | assumption) ?zzh ?zzD ?zzU ?_; (case zzh => walk_at "spec"); (case zzD => ktr_room); (case zzU => ktr_room)); walk_at "i2"))
  (k_with "call ref" => (k_here; (with_reducible show wpAny _ _ (call (Value.ref _) _) _ _ _); k_dflt (refine' Spec.ck (by k_asm) (by k_asm) (by k_asm) (by k_asm) (by k_asm) (by first | exact rfl | assumption) ?zzh ?zzel ?zzD ?zzU ?_; (case zzh => walk_at "spec"); (case zzel => walk_at "el"); (case zzD => ktr_room); (case zzU => ktr_room)); intros; (first | intro zzN | rename News _ _ _ _ => zzN); (try dsimp only at zzN); (revert zzN; intro _); (try dsimp only); (try k_sweep)))
  (k_with "el" => (first | exact RStr.el | exact RInt.el | exact RBool.el | exact NextRet.el | exact RTup0.el | exact RTup.el | exact RNil.el | exact ROne.el | exact RLst.el | exact NamesRet.el | exact ChRet.el | exact SizesRet.el))
  (k_with "spec" => (exact nextF_spec (by k_updF) (by assumption) (by omega) (by k_mem) (by first | decide | ((try simp only [List.size_toArray]); omega))))
  (k_with "fx" => (k_here; k_dflt (refine For_X (by k_asm) ?_)))
  (k_with "callWith" => (first | with_reducible refine PyProof.Rows.callWith_method0 ?_ | ((with_reducible refine' PyProof.Rows.callWith_builtin1 ?_ ?zzcwe ?zzcwp); (case zzcwe => rfl); (case zzcwp => rfl)) | ((with_reducible refine' PyProof.Rows.callWith_method1 ?_ ?zzcwe ?zzcwp); (case zzcwe => rfl); (case zzcwp => rfl))))
  (k_with "subscriptTail Name Constant ref int" => (first | (k_extra "subscriptTail") | (k_here; (with_reducible show wpAny _ _ (subscriptTail _ _ (Value.ref _) (Value.int _ _)) _ _ _); (with_unfolding_all refine' item_litK ?zzk1 ?zzk2 ?zzk3 ?zzk4 ?_ ?zzk6; (case zzk1 => is_list); (case zzk2 => decide); (case zzk3 => decide); (case zzk4 => rfl); (case zzk6 => with_unfolding_all rfl); k_whole))))
  (k_with "subscriptTail Name BinOp ref int" => (k_extra "subscriptTail"))
  (k_with "subscriptTail Name Name ref int" => (k_extra "subscriptTail"))
  (k_with "subscriptTail Name UnaryOp ref int" => (k_extra "subscriptTail"))
  (k_with "joinParts" => (k_here; (with_reducible refine' join_end ?zzjez ?_); (case zzjez => kt_le)))
  (k_with "exec Raise some none" => (k_here; k_dflt (refine raise_X (by k_asm) (by k_asm) (by rfl) ?_)))
  (k_with "RaiseEnd" => (refine ⟨_, _, _, _, _, _, rfl, ?zzC, by k_asm, by k_asm, by k_mem, ?_⟩; (case zzC => first | exact .inl rfl | exact .inr rfl)))
  (k_with "leaving ref" => (k_here; k_dflt (first | (refine' leave_excK ?zzkk ?zzK rfl ?zzhk ?zzF ?zzN ?zzhe ?zzht ?zzhs ?zzhne ?zzhnt ?zzhsub ?_; (case zzkk => assumption); (case zzK => assumption); (case zzhk => rfl); (case zzF => k_asm); (case zzN => k_asm); (case zzhe => k_mem); (case zzht => k_mem); (case zzhs => assumption); (case zzhne => assumption); (case zzhnt => assumption); (case zzhsub => ((repeat (first | exact sub_refl | assumption | refine sub_cons ?_)); done))) | (refine' leave_onK2 ?zzkk ?zzK rfl ?zzF ?zzR ?zzU ?_; (case zzkk => assumption); (case zzR => assumption); (case zzF => assumption); (case zzK => assumption); (case zzU => assumption))); intro _ zzR zzU; (try dsimp only at zzR zzU ⊢); (revert zzR zzU; intro _ _)))
  (k_with "formatField str" => (k_here; (refine' PyProof.Rows.formatField_str ?_ ?zzz; (case zzz => (simp only [sizeLine_eq]; omega))); intro _ _))
  (k_with "call type:tuple" => (k_here; (with_reducible show wpAny _ _ (call (Value.type _) [Value.ref _]) _ _ _); k_dflt (refine' kde_tupleOf ?zzk1 ?zzk2 ?zzk3 ?zzk4 ?zzk5 ?_; (case zzk1 => k_asm); (case zzk2 => k_asm); (case zzk3 => exact News.isList (by k_asm) (by k_mem)); (case zzk4 => (simp only [List.size_toArray]; omega)); (case zzk5 => exact List.toList_toArray _); k_whole); intro _ _ _ _ zzl1; (try k_lt zzl1); (revert zzl1; intro _)))
  (k_with "newTuple" => (k_here; k_dflt (refine' newTuple_L ?zzk1 ?zzk2 ?zzk3 ?_; (case zzk1 => k_asm); (case zzk2 => k_asm); (case zzk3 => (simp only [sizeLine_eq, List.length_cons, List.length_nil]; omega))); intro _ _ _ _ zzl1; (try k_lt zzl1); (revert zzl1; intro _)))
  (k_with "setItem ref str" => (k_here; k_dflt (refine' dset_new ?zzF ?zzN ?zzU ?zzd ?zzn ?zzz ?_; (case zzF => k_asm); (case zzN => k_asm); (case zzU => k_updF); (case zzd => assumption); (case zzn => assumption); (case zzz => omega)); intro _ _ _ zzN zzhd zzhv; (try dsimp only at zzN); (revert zzN zzhd zzhv; intro _ _ _)))
  (k_with "call builtin:list.extend" => (k_here; (with_reducible show wpAny _ _ (call (Value.builtin _) [Value.ref _, Value.ref _]) _ _ _); k_dflt (refine' ext_L ?zzF ?zzN ?zzb ?zzU ?zzz ?zzy ?_; (case zzF => k_asm); (case zzN => k_asm); (case zzb => k_mem); (case zzU => k_updF); (case zzz => omega); (case zzy => omega)); intro _ _ _ zzN; (try dsimp only at zzN); (revert zzN; intro _)))
  (k_with "spec" => (exact nextF_spec (by k_updF) (by assumption) (by omega) (by k_mem) (by first | decide | ((try simp only [List.size_toArray]); omega))))
  trivial
theorem row_ok (r : List Int) : noB (rowDat r) = true ∧ dep (rowDat r) ≤ 1 := by
  unfold rowDat
  refine ⟨by simp only [noB]; exact noBs_map _ (fun _ => rfl) _, ?_⟩
  have := deps_map Dat.int (k := 0) (fun _ => Nat.le_refl _) r
  simp only [dep]
  omega
noncomputable def sizes4 : List Int := [1, 320, 2, 0]
section
open PySem.Calls PySem.Spec
variable {w : World} {A : Around} {E : Value → Shared → Prop} {s : Shared} {h₀ : Heap} {L T : Addr} {m : Str → Option Value} {vs : List Value} {n : Nat} {k : Int} {u : Tok} {news : Led}
theorem cmp_dat {prog : Program} {v y : Value} {Q : Value → Shared → Prop} {ds : List Dat} (N : News h₀ L s.heap news) (h1 : DatIn news v (.tuple ds)) (h2 : DatIn news y (.tuple ds)) (hn : noBs ds = true) (hd : deps ds ≤ 4) (hu : A.units + 10 < cLine) (h : Q (.bool true) s) :
    wpAny (model prog w) A (compareOp .Eq v y) Q E s := by
  obtain ⟨a, vs, n, rfl, m1, d1⟩ := dat_tuple h1
  obtain ⟨b, us, k, rfl, m2, d2⟩ := dat_tuple h2
  have hl : vs.length = us.length := by rw [d1.length, d2.length]
  refine PySem.SeqAt.eq_tupleAt (e := fun _ => true) (News.isTup N m1) (News.isTup N m2) (by omega) (fun j h1 h2 => dat_eqs N ds A.in1 vs us d1 d2 hn (by simp only [Around.in1_units]; omega) j (by simpa using h1) (by simpa using h2)) ?_
  have hb : ((List.range (min vs.toArray.size us.toArray.size)).all (fun _ => true) && vs.toArray.size == us.toArray.size) = true := by simp [hl]
  rw [hb]
  exact h
theorem list_at {value slice : Expr} {Q : Value → Shared → Prop} {nb : Led} {ds : List Dat} (N : News h₀ L s.heap news) (hm : (T, listOf vs.toArray n) ∈ news) (hD : DatAll nb vs ds) (h0 : 0 ≤ k) (h1 : k < ((vs.toArray.size : Nat) : Int)) (hz : vs.length ≤ 1000) (h : ∀ v (hlt : k.toNat < ds.length), DatIn nb v ds[k.toNat] → Q v s)
    (hs : subscripted slice false (.ref T) (.int k u) = operate [.ref T, .int k u] (getItem (.ref T) (.int k u)) := by with_unfolding_all rfl) :
    wpAny (model PG w) A (subscriptTail value slice (.ref T) (.int k u)) Q E s := by
  rw [List.size_toArray] at h1
  have hl := hD.length
  have hlt : k.toNat < ds.length := by omega
  obtain ⟨v, hv, hd⟩ := hD.get (k := k.toNat) hlt
  exact tail_any (News.isList N hm).typeIs slot_list_getitem.lookup (wpAny_getItem_list (News.isList N hm) h0 (by omega) (x := v) (by simpa using hv) (h v hlt hd)) hs
end
section
variable {w : World} {loose : List Str} {mean : ExcName → Option Value} {mg mb : Str → Option Value} {news : Led} {sg tp d c : Addr} {its : List Item} {op : List Dat} {tops : List Pk} {vs vtp : List Value} {nc ntp k0 : Nat} {o : Obj} {rest : Led}
inductive ColJ (w : World) (d c : Addr) (vs : List Value) (k0 : Nat) (lo zd sg : Addr) (b0 : Led) (tops : List Pk) (k : Nat) (m : Str → Option Value) : Led → Prop
  | mk {ol oz o' : Obj} {j : Nat} {kl kz : List (Str × Value)} {nr : Led} {rs : List (Str × Nat)} (hm1 : Kn m [(S "signatures", .ref sg), (S "lots", .ref lo)]) (hb : ∀ p ∈ b0, p ∈ nr) (hol1 : ∀ p ∈ nr, p.1 ≠ lo) (hoz1 : ∀ p ∈ nr, p.1 ≠ zd) (hod1 : ∀ p ∈ nr, p.1 ≠ d) (hF2 : Fd w d c vs o' j) (hj : j ≤ k0 + k)
      (hol : ol.IsDictOf (PySem.strKind PG w) kl) (hkl : Vals nr kl (rs.map fun r => (r.1, Dat.tuple ((rowsOf r.2).map rowDat)))) (hoz : oz.IsDictOf (PySem.strKind PG w) kz) (hkz : Vals nr kz (rs.map fun r => (r.1, Dat.int (r.2 : Int)))) (hrs : rs.map (·.1) = (tops.take k).map Pk.name) (hrz : ∀ r ∈ rs, r.2 ≤ 2 ∨ r.2 = 320) : ColJ w d c vs k0 lo zd sg b0 tops k m ((lo, ol) :: (zd, oz) :: (d, o') :: nr)
inductive ColK (w : World) (d c : Addr) (vs : List Value) (k0 : Nat) (lo zd : Addr) (ol oz : Obj) (tops : List Pk) (nr : Led) (i : Nat) (ys : List Value) : Led → Prop
  | mk (o' : Obj) (j' : Nat) (names : List Str) (hF : Fd w d c vs o' j') (hj : j' ≤ k0 + 5 + i) (hys : StrsAre ys names) (hl : names.length = i) (hm : ∀ nm ∈ names, ∃ t ∈ tops, t.name = nm) : ColK w d c vs k0 lo zd ol oz tops nr i ys ((lo, ol) :: (zd, oz) :: (d, o') :: nr)
theorem column_spec (hd : ∀ p ∈ rest, p.1 ≠ d) (hF : Fd w d c vs o k0) (hk : k0 ≤ 1000) (hc : (c, listOf vs.toArray nc) ∈ rest) (hS : Sigs w sg its op rest) (hin : ∀ t ∈ tops, t.name ≠ S "" ∧ ∃ i ∈ its, i.name = t.name ∧ i.parent = S "") (hl1 : 1 ≤ tops.length) (hl4 : tops.length ≤ 4)
    (hnd : (tops.map Pk.name).Nodup) (htp : (tp, listOf vtp.toArray ntp) ∈ rest) (hts : DatAll rest vtp (tops.map Pk.dat)) :
    Spec0 w loose mean mg mb 300 4000 (.ref 473) [.ref d, .ref sg, .ref tp] ((d, o) :: rest) (fun r _ => r = .bool true) := by
  unfold Spec0
  k_fill
  intro dp un gd cn cs a ccd A₀ base h₀ L m s Q E B F X XB TB N T hk hR hok hret
  refine wpAny_call ?_
  k_dflt (refine' code_defS0C ?k1 ?k2 ?k3 ?k4 ?k5 ?kA ?k6 ?k7 ?k8 ?k9 ?kB ?kD ?_ ?c1 ?c2 ?c3 ?c4; (case kA => exact rfl); (case k1 => k_asm); (case k2 => k_asm); (case k3 => k_asm); (case k4 => k_asm); (case k5 => k_asm); (case k6 => k_is); (case k7 => k_is); (case k8 => ktr_room); (case k9 => exact BindsTo.of_eq rfl); (case kB => exact rfl); (case kD => decide +kernel); (case c1 => assumption); (case c2 => exact rfl); (case c3 => exact rfl); (case c4 => exact rfl))
  intro g' L' h' tk' cells' FG' F' N' Y' B' X' T' D' l1
  (try (have q1' := off_cell1 l1; have q2' := off_cell2 l1; have q3' := off_cell3 l1))
  k_cells Y'
  (try simp only [List.cons_append, List.nil_append] at N')
  (try dsimp only)
  (try k_fold)
  repeat' (k_extra "ktr_rel")
  rename_i hk9 o1c o2c o3c dc1 dc2 dc3 lo _ olo hlo hso _ _ _ llo zd _ ozd hzd hsz0 _ _ _ lzd Dt _ lDt _ _ _ oc F9 N9 dcz
  obtain ⟨b0, hb0⟩ : ∃ b0 : Led, b0 = (L' + 1 + 1 + 1, oc) :: (L' + 1 + 1, o2c) :: (L' + 1, o3c) :: rest := ⟨_, rfl⟩
  have N0 := ntake N9 (nx := (lo, olo) :: (zd, ozd) :: (d, o) :: b0) (sub_mk (by k_mem) (sub_mk (by k_mem) (sub_mk (by k_mem) (by rw [hb0]; exact sub_mk (by k_mem) (sub_mk (by k_mem) (sub_mk (by k_mem) (by k_extra "tb_rel")))))))
  have ol0 : ∀ p ∈ b0, p.1 ≠ lo := by rw [hb0]; exact off_cons (Nat.ne_of_lt llo.1) (off_cons (Nat.ne_of_lt llo.2.1) (off_cons (Nat.ne_of_lt llo.2.2.1) (allLt_off llo.2.2.2.2)))
  have oz0 : ∀ p ∈ b0, p.1 ≠ zd := by rw [hb0]; exact off_cons (Nat.ne_of_lt lzd.2.1) (off_cons (Nat.ne_of_lt lzd.2.2.1) (off_cons (Nat.ne_of_lt lzd.2.2.2.1) (allLt_off lzd.2.2.2.2.2)))
  have od0 : ∀ p ∈ b0, p.1 ≠ d := by rw [hb0]; exact off_cons (Ne.symm (q3' _ (.head _))) (off_cons (Ne.symm (q2' _ (.head _))) (off_cons (Ne.symm (q1' _ (.head _))) hd))
  have u1 : lo ≠ zd := Nat.ne_of_lt lzd.1
  have u2 : lo ≠ d := Ne.symm (Nat.ne_of_lt llo.2.2.2.1)
  have u3 : zd ≠ d := Ne.symm (Nat.ne_of_lt lzd.2.2.2.2.1)
  have hvt : vtp.length = tops.length := by have := hts.length; simpa using this
  have hb1 : (L' + 1 + 1 + 1, oc) ∈ b0 := by rw [hb0]; exact .head _
  have hb2 : (L' + 1 + 1, o2c) ∈ b0 := by rw [hb0]; exact .tail _ (.head _)
  have hb3 : (L' + 1, o3c) ∈ b0 := by rw [hb0]; exact .tail _ (.tail _ (.head _))
  have hb4 : ∀ p ∈ rest, p ∈ b0 := by rw [hb0]; exact fun p hp => .tail _ (.tail _ (.tail _ hp))
  clear N9 hb0 llo lzd lDt
  refine ⟨_, _, _, fun k m nx => ColJ w d c vs k0 lo zd sg b0 tops k m nx,
    _, _, src_list rfl N0 (.tail _ (.tail _ (.tail _ (hb4 _ htp)))), F9, N0, ?_, ColJ.mk (kl := []) (kz := []) (rs := []) ⟨rfl, rfl, trivial⟩ sub_refl ol0 oz0 od0 hF (Nat.le_refl _) hso .nil hsz0 .nil rfl (fun _ h => nomatch h), ?_, ?_⟩
  · rintro k m nx hJ
    cases hJ with | mk hm1 hb hol1 hoz1 hod1 hF2 hj hol hkl hoz hkz hrs hrz =>
    exact .tail _ (.tail _ (.tail _ (hb _ (hb4 _ htp))))
  · rintro k v m₁ nx h tk I oI R kR hkv hv1 hJ off F3 N3
    cases hJ with | @mk ol oz o2 j kl kz nr rs hm1 hb hol1 hoz1 hod1 hF2 hj hol hkl hoz hkz hrs hrz =>
    replace F3 := frov F3 hm1
    have y1 : lo ≠ I := off_head off
    have y2 : zd ≠ I := off_head (off_tail off)
    have y3 : d ≠ I := off_head (off_tail (off_tail off))
    have y4 := off_tail (off_tail (off_tail off))
    have hkn : k < tops.length := by omega
    have hd' := datAt hts hv1 (by simpa using hkn)
    simp only [List.getElem_map] at hd'
    cases pk_open hd' with | @mk ap bp np nbp t1 t2 vsb m1 m2 m3 =>
    have hc0 := hb _ (hb4 _ hc)
    have hm1' := hb _ (hb4 _ m1)
    have hcl1 := hb _ hb1
    have hcl2 := hb _ hb2
    have hcl3 := hb _ hb3
    have hname : ∀ r ∈ rs, r.1 ≠ tops[k].name := by
      intro r hr e
      have h1 : r.1 ∈ (tops.take k).map Pk.name := by rw [← hrs]; exact List.mem_map.mpr ⟨r, hr, rfl⟩
      rw [e] at h1
      exact name_freshP hnd hkn h1
    have hkzn : valueAt kz tops[k].name = none := hkz.none (by
      intro j hj
      obtain ⟨r, hr, rfl⟩ := List.mem_map.mp hj
      exact hname r hr)
    have hkln : valueAt kl tops[k].name = none := hkl.none (by
      intro j hj
      obtain ⟨r, hr, rfl⟩ := List.mem_map.mp hj
      exact hname r hr)
    have hrl : rs.length = k := by
      have := congrArg List.length hrs
      rw [List.length_map, List.length_map, List.length_take] at this
      omega
    have hkll := hkl.length
    have hkzl := hkz.length
    rw [List.length_map] at hkll hkzl
    repeat' (k_extra "ktr_rel")
    rename_i D0 _ lD0 _ _ _ v9 _ o9 hv0 hv1w hF9 _ t8 _ oz9 _ _ hoz9 _ _ _ _ _ _ hrg F5 N5 _
    obtain ⟨z, hz, hzz⟩ : ∃ z : Nat, [1, 320, 2, 0].getD v9.toNat 0 = (z : Int) ∧ (z ≤ 2 ∨ z = 320) := by
      have hk : v9 = 0 ∨ v9 = 1 ∨ v9 = 2 ∨ v9 = 3 := by omega
      rcases hk with rfl | rfl | rfl | rfl
      · exact ⟨1, rfl, .inl (by decide)⟩
      · exact ⟨320, rfl, .inr rfl⟩
      · exact ⟨2, rfl, .inl (by decide)⟩
      · exact ⟨0, rfl, .inl (by decide)⟩
    rw [hz] at hoz9 hrg
    have hz3 : z ≤ 320 := by omega
    have N6 := ntake N5 (nx := (I, oI) :: (lo, ol) :: (zd, oz9) :: (d, o9) :: nr) (sub_cons sub_refl)
    clear N5
    obtain ⟨L0, hL0⟩ : ∃ L0 : Led, L0 = (I, oI) :: (lo, ol) :: (zd, oz9) :: (d, o9) :: nr := ⟨_, rfl⟩
    rw [← hL0] at N6
    refine ⟨_, _, _, fun k ys nx => RgJ L0 k (fun (a : Nat) => rowDat [(a : Int)]) ys nx, _, _, src_range0 rfl hrg (by omega) (by omega), (by simp only [sizeLine_eq]; omega), F5, N6, fun _ _ _ _ => trivial, ⟨[], rfl, apart_nil, .nil⟩, ?_, ?_⟩
    · rintro k2 v2 ys nx I2 oI2 C oC D m₂ h2 tk2 E2 R kR hk2 ⟨tv2, rfl⟩ ⟨fr, hnx, hfr, hys⟩ hyl hC off2 F6 N6
      refine assignC (by rfl) (by rfl) off2 hC F6 N6 fun h3 oC3 tk3 hC3 F7 N7 => ?_
      clear F6 N6 hC
      have hx' : (fun y => if y = Str.ofString "a" then some (Value.int (k2 : Int) tv2) else m₂ y) (Str.ofString "a") = some (Value.int (k2 : Int) tv2) := by simp
      generalize (fun y => if y = Str.ofString "a" then some (Value.int (k2 : Int) tv2) else m₂ y) = m₃ at hC3 hx'
      refine wpAny_pure ?_
      repeat' (k_extra "ktr_rel")
      rename I2 < _ ∧ _ => la
      refine CEnd.intro kR (nx := _ :: nx) (by k_asm) (by k_asm) (sub_mk (by k_mem) (sub_mk (by k_mem) (sub_mk (by k_mem) (sub_mk (.head _) (by k_extra "tb_rel"))))) hC3 ?_ ?_
      · intro p hp
        rcases List.mem_cons.mp hp with rfl | hp
        · exact ⟨Ne.symm (Nat.ne_of_lt la.1), Ne.symm (Nat.ne_of_lt la.2.1), Ne.symm (Nat.ne_of_lt la.2.2.1)⟩
        · exact off2.off p hp
      · refine ⟨_ :: fr, by rw [hnx, List.cons_append], apart_cons (fun q hq => allLt_off la.2.2.2 q (by rw [hnx]; exact sub_app _ hq)) hfr, ?_⟩
        rw [range_map_snoc]
        refine (hys.mono (sub_cons sub_refl)).append (.one ?_)
        exact .tuple (.head _) (.one (.int _ _))
    · rintro ys nx ⟨fr, hnx, hfr, hys⟩ hyl
      intro D2 h2 tk2 F6 N7 o2'
      rw [Int.toNat_natCast] at hys
      have hylen := hys.length
      simp only [List.length_map, List.length_range] at hylen
      have oL : ∀ p ∈ L0, p.1 ≠ D2 := fun p h => o2' _ (by rw [hnx]; exact sub_app _ h)
      have N8 := ntake N7 (nx := (I, oI) :: (lo, ol) :: (zd, oz9) :: (d, o9) :: (D2, LCg.lst ys) :: (fr ++ nr)) (fun p hp => by
        have up : ∀ q ∈ L0, q ∈ ((D2, LCg.lst ys) :: nx : Led) := fun q hq => .tail _ (by rw [hnx]; exact sub_app _ hq)
        rw [hL0] at up
        have hsubf : ∀ q ∈ fr ++ nr, q ∈ ((D2, LCg.lst ys) :: nx : Led) := fun q hq => by
          rcases List.mem_append.mp hq with h | h
          · exact .tail _ (by rw [hnx]; exact sub_app1 _ h)
          · exact up q (.tail _ (.tail _ (.tail _ (.tail _ h))))
        revert p hp
        exact sub_mk (up _ (.head _)) (sub_mk (up _ (.tail _ (.head _))) (sub_mk (up _ (.tail _ (.tail _ (.head _)))) (sub_mk (up _ (.tail _ (.tail _ (.tail _ (.head _))))) (sub_mk (.head _) hsubf)))))
      rw [hL0] at hfr oL
      have g5 : ∀ p ∈ fr ++ nr, p.1 ≠ I := fun p hp => (List.mem_append.mp hp).elim (fun h => hfr p h _ (.head _)) (y4 p)
      have g1 : ∀ p ∈ fr ++ nr, p.1 ≠ lo := fun p hp => (List.mem_append.mp hp).elim (fun h => hfr p h _ (.tail _ (.head _))) (hol1 p)
      have g2 : ∀ p ∈ fr ++ nr, p.1 ≠ zd := fun p hp => (List.mem_append.mp hp).elim (fun h => hfr p h _ (.tail _ (.tail _ (.head _)))) (hoz1 p)
      have g3 : ∀ p ∈ fr ++ nr, p.1 ≠ d := fun p hp => (List.mem_append.mp hp).elim (fun h => hfr p h _ (.tail _ (.tail _ (.tail _ (.head _))))) (hod1 p)
      have hb9 : ∀ p ∈ nr, p ∈ fr ++ nr := sub_app
      have hf9 : ∀ p ∈ fr, p ∈ fr ++ nr := sub_app1
      replace hys := hys.mono hf9
      generalize fr ++ nr = nr2 at g1 g2 g3 g5 hb9 hf9 N8 hys
      have hc0 := hb9 _ hc0
      have hm1' := hb9 _ hm1'
      have hcl1 := hb9 _ hcl1
      have hcl2 := hb9 _ hcl2
      have hcl3 := hb9 _ hcl3
      clear N7 N6 F5 hrg N3 F3
      repeat' ((fail_if_success (with_reducible show wpAny _ _ (call (Value.type _) [Value.ref _]) _ _ _)); k_extra "ktr_rel")
      refine' kde_tupleOf (zs := ys) ?k1 ?k2 ?k3 ?k4 ?k5 ?_
      (case k1 => k_asm)
      (case k2 => k_asm)
      (case k3 => exact News.isList (by k_asm) (by k_mem))
      (case k4 => (rw [List.size_toArray]; omega))
      (case k5 => rfl)
      intro D3 h3 F10 N10 l10
      repeat' (k_extra "ktr_rel")
      rename Obj.IsDictOf _ _ (kl ++ _) => hol9
      rename News _ _ _ _ => N11
      rename Fr _ _ _ _ => F11
      have i1 : ∀ p ∈ nr2, p.1 ≠ D3 := fun p hp => Nat.ne_of_lt (l10 p (.tail _ (.tail _ (.tail _ (.tail _ (.tail _ hp))))))
      have j1 : D3 ≠ lo := Ne.symm (Nat.ne_of_lt (l10 (lo, ol) (.tail _ (.head _))))
      have j2 : D3 ≠ zd := Ne.symm (Nat.ne_of_lt (l10 (zd, oz9) (.tail _ (.tail _ (.head _)))))
      have j3 : D3 ≠ d := Ne.symm (Nat.ne_of_lt (l10 (d, o9) (.tail _ (.tail _ (.tail _ (.head _))))))
      have j5 : D3 ≠ I := Ne.symm (Nat.ne_of_lt (l10 (I, oI) (.head _)))
      have hnewl : ∀ q ∈ (rs.map fun r => (r.1, Dat.tuple ((rowsOf r.2).map rowDat))), q.1 ≠ tops[k].name := by
        intro q hq
        obtain ⟨r, hr, rfl⟩ := List.mem_map.mp hq
        exact hname r hr
      have hnewz : ∀ q ∈ (rs.map fun r => (r.1, Dat.int (r.2 : Int))), q.1 ≠ tops[k].name := by
        intro q hq
        obtain ⟨r, hr, rfl⟩ := List.mem_map.mp hq
        exact hname r hr
      have sA : ∀ p ∈ nr, p ∈ ((D3, tupObj ys 0) :: nr2 : Led) := fun p hp => .tail _ (hb9 p hp)
      refine' tend kR (nx := (lo, _) :: (zd, oz9) :: (d, o9) :: (D3, tupObj ys 0) :: nr2) F11 N11 ?_ ?_ (ColJ.mk (rs := rs ++ [(tops[k].name, z)]) ⟨rfl, rfl, trivial⟩ ?_ ?_ ?_ ?_ hF9 ?_ hol9 ?_ hoz9 ?_ ?_ ?_)
      · exact sub_mk (by k_mem) (sub_mk (by k_mem) (sub_mk (by k_mem) (sub_mk (by k_mem) (sub_mk (by k_mem) (by k_extra "tb_rel")))))
      · exact off_cons y1 (off_cons y2 (off_cons y3 (off_cons j5 g5)))
      · exact fun p hp => sA p (hb p hp)
      · exact off_cons j1 g1
      · exact off_cons j2 g2
      · exact off_cons j3 g3
      · omega
      · rw [List.map_append]
        refine .snoc (hkl.mono sA) (.tuple (.head _) ?_) hnewl
        have : (rowsOf z).map rowDat = (List.range z).map fun (a : Nat) => rowDat [(a : Int)] := by unfold rowsOf; rw [List.map_map]; rfl
        rw [this]
        exact hys.mono (sub_cons sub_refl)
      · rw [List.map_append]
        exact .snoc (hkz.mono sA) (.int _ _) hnewz
      · rw [List.map_append, hrs, take_map _ hkn]
        rfl
      · intro r hr
        rcases List.mem_append.mp hr with h | h
        · exact hrz r h
        · cases List.mem_singleton.mp h
          exact hzz
  · rintro m₁ nx h tk hJ F3 N3
    cases hJ with | @mk ol oz o2 j kl kz nr rs hm1 hb hol1 hoz1 hod1 hF2 hj hol hkl hoz hkz hrs hrz =>
    replace F3 := frov F3 hm1
    rw [hvt, List.take_length] at hrs
    have hc0 := hb _ (hb4 _ hc)
    have htp0 := hb _ (hb4 _ htp)
    have hcl1 := hb _ hb1
    have hcl2 := hb _ hb2
    have hcl3 := hb _ hb3
    have hS1 := hS.mono fun p hp => hb _ (hb4 p hp)
    have hts1 := hts.mono fun p hp => hb _ (hb4 p hp)
    repeat' (k_extra "ktr_rel")
    rename_i v9 _ o9 hv90 hv91 hF9 _ _ _ _ _ _ hrg F5 N5 _
    refine ⟨_, _, _, fun i ys nx => ColK w d c vs k0 lo zd ol oz tops nr i ys nx, _, _, src_range0 rfl hrg (by omega) (by omega), (by simp only [sizeLine_eq]; omega), F5, N5, fun _ _ _ _ => trivial, ⟨o9, _, [], hF9, by omega, .nil, rfl, fun _ h => nomatch h⟩, ?_, ?_⟩
    · rintro k2 v2 ys nx I2 oI2 C oC D m₂ h2 tk2 E2 R kR hk2 ⟨tv2, rfl⟩ hKK hyl hC off2 F6 N6
      cases hKK with | mk o3 j3 names hF3 hj3 hys hnl hnm =>
      refine assignC (by rfl) (by rfl) off2 hC F6 N6 fun h3 oC3 tk3 hC3 F7 N7 => ?_
      clear F6 N6 hC
      have z1 := off2.off (d, o3) (.tail _ (.tail _ (.head _)))
      have z2 := off2.off (lo, ol) (.head _)
      have z3 := off2.off (zd, oz) (.tail _ (.head _))
      have z7 : d ≠ I2 := z1.1
      have z8 : d ≠ C := z1.2.1
      have z9 : d ≠ D := z1.2.2
      have z4 : I2 ≠ C := off2.ic
      have z5 : I2 ≠ D := off2.id
      have z6 : C ≠ D := off2.cd
      have w1 : ∀ p ∈ nr, p.1 ≠ I2 := fun p hp => (off2.off p (.tail _ (.tail _ (.tail _ hp)))).1
      have w2 : ∀ p ∈ nr, p.1 ≠ C := fun p hp => (off2.off p (.tail _ (.tail _ (.tail _ hp)))).2.1
      have w3 : ∀ p ∈ nr, p.1 ≠ D := fun p hp => (off2.off p (.tail _ (.tail _ (.tail _ hp)))).2.2
      refine wpAny_pure ?_
      repeat' ((fail_if_success (with_reducible show wpAny _ _ (call (Value.ref 434) _) _ _ _)); k_extra "ktr_rel")
      have hw9 : (0 : Int) < ((vtp.toArray.size : Nat) : Int) := by rw [List.size_toArray]; omega
      have U9 : UpdF d o3 ((I2, oI2) :: (C, oC3) :: (D, LCg.lst ys) :: (lo, ol) :: (zd, oz) :: (d, o3) :: nr) (fun o => (I2, oI2) :: (C, oC3) :: (D, LCg.lst ys) :: (lo, ol) :: (zd, oz) :: (d, o) :: nr) := by k_updF
      refine' Spec.ck ?N ?F ?B ?X ?T ?K (nextF_spec U9 hF3 (by omega) (by k_mem) hw9) ?el ?D ?U ?_
      (case N => k_asm)
      (case F => k_asm)
      (case B => k_asm)
      (case X => k_asm)
      (case T => k_asm)
      (case K => first | exact rfl | assumption)
      (case el => first | walk_at "el" | exact UpRet.el)
      (case D => ktr_room)
      (case U => ktr_room)
      intro h' tk' F' v' t' o' hv0' hv1' hF' N'
      (try dsimp only at N')
      repeat' ((fail_if_success (with_reducible show wpAny _ _ (subscriptTail _ _ (Value.ref tp) (Value.int _ _)) _ _ _)); k_extra "ktr_rel")
      refine' list_at ?N ?m hts1 hv0' hv1' ?z ?_
      (case N => k_asm)
      (case m => k_mem)
      (case z => omega)
      intro v5 hlt5 hd5
      simp only [List.getElem_map] at hd5
      cases pk_open hd5 with | @mk ap bp np nbp t1 t2 vsb m1 m2 m3 =>
      repeat' (k_extra "ktr_rel")
      refine CEnd.intro kR (nx := (lo, ol) :: (zd, oz) :: (d, o') :: nr) (by k_asm) (by k_asm) sub_refl hC3 ?_ ⟨o', j3 + 1, names ++ [_], hF', by omega, strs_snoc hys _ _, ?_, ?_⟩
      · intro p hp
        rcases List.mem_cons.mp hp with rfl | hp
        · exact z2
        · rcases List.mem_cons.mp hp with rfl | hp
          · exact z3
          · rcases List.mem_cons.mp hp with rfl | hp
            · exact z1
            · exact ⟨w1 p hp, w2 p hp, w3 p hp⟩
      · rw [List.length_append, hnl]; rfl
      · intro nm hn
        rcases List.mem_append.mp hn with h | h
        · exact hnm nm h
        · cases List.mem_singleton.mp h
          exact ⟨_, List.getElem_mem _, rfl⟩
    · intro ys nx hKK hyl
      cases hKK with | mk o3 j3 names hF3 hj3 hys hnl hnm =>
      intro D2 h2 tk2 F6 N7 o2'
      repeat' ((fail_if_success (with_reducible show wpAny _ _ (call (Value.type _) [Value.ref _]) _ _ _)); k_extra "ktr_rel")
      refine' kde_tupleOf (zs := ys) ?k1 ?k2 ?k3 ?k4 ?k5 ?_
      (case k1 => k_asm)
      (case k2 => k_asm)
      (case k3 => exact News.isList (by k_asm) (by k_mem))
      (case k4 => (rw [List.size_toArray]; omega))
      (case k5 => rfl)
      intro D3 h3 F10 N10 l10
      repeat' (k_extra "ktr_rel")
      rename Fr _ _ _ _ => F11
      rename News _ _ _ _ => N11
      obtain ⟨B1, hB1⟩ : ∃ B1 : Led, B1 = (D3, tupObj ys 0) :: (D2, LCg.lst ys) :: (lo, ol) :: (zd, oz) :: (d, o3) :: nr := ⟨_, rfl⟩
      have N12 := N11
      rw [← hB1] at N12
      clear N11
      have e1 : (D3, tupObj ys 0) ∈ B1 := by rw [hB1]; exact .head _
      have e2 : (lo, ol) ∈ B1 := by rw [hB1]; exact .tail _ (.tail _ (.head _))
      have e3 : (zd, oz) ∈ B1 := by rw [hB1]; exact .tail _ (.tail _ (.tail _ (.head _)))
      have e4 : ∀ p ∈ nr, p ∈ B1 := by rw [hB1]; exact fun p hp => .tail _ (.tail _ (.tail _ (.tail _ (.tail _ hp))))
      clear hB1 N10 F10
      have hcl1 := e4 _ hcl1
      have hcl2 := e4 _ hcl2
      have hcl3 := e4 _ hcl3
      have hS2 := hS1.mono e4
      obtain ⟨sz, hsz⟩ : ∃ sz : Str → Nat, ∀ nm ∈ names, ∃ r ∈ rs, r.1 = nm ∧ sz nm = r.2 := by
        refine ⟨fun nm => ((rs.find? fun r => decide (r.1 = nm)).map (·.2)).getD 0, fun nm hn => ?_⟩
        obtain ⟨t, ht, et⟩ := hnm nm hn
        have h1 : nm ∈ rs.map (·.1) := by rw [hrs, ← et]; exact List.mem_map.mpr ⟨t, ht, rfl⟩
        obtain ⟨r, hr, er⟩ := List.mem_map.mp h1
        cases f : rs.find? fun r => decide (r.1 = nm) with
        | none => exact absurd er (by simpa using List.find?_eq_none.mp f r hr)
        | some q => exact ⟨q, List.mem_of_find?_eq_some f, by simpa using List.find?_some f, by simp only [f]; rfl⟩
      have hcn1 : 1 ≤ names.length := by omega
      have hcn2 : names.length ≤ 2 := by omega
      have hszz : ∀ nm ∈ names, sz nm ≤ 2 ∨ sz nm = 320 := fun nm hn => by
        obtain ⟨r, hr, -, e⟩ := hsz nm hn
        rw [e]
        exact hrz r hr
      have hvv : ∀ nm ∈ names, ∃ v, valueAt kl nm = some v ∧ DatIn B1 v (.tuple ((rowsOf (sz nm)).map rowDat)) := fun nm hn => by
        obtain ⟨r, hr, rfl, e'⟩ := hsz nm hn
        obtain ⟨v, h1, h2⟩ := hkl.get _ (List.mem_map.mpr ⟨r, hr, rfl⟩)
        rw [e']
        exact ⟨v, h1, h2.mono e4⟩
      have hnn : ∀ nm ∈ names, nm ≠ S "" ∧ ∃ i ∈ its, i.name = nm ∧ i.parent = S "" := fun nm hn => by
        obtain ⟨t, ht, rfl⟩ := hnm nm hn
        exact hin t ht
      refine wpAny_mono (Q := fun f s' => Cut (f = .next ∧ ∃ (g9 : Heap) (h9 : Heap) (tk9 : Nat) (m9 : Str → Option Value) (v9 : Value) (NX : Led), s' = { s with heap := h9, toks := tk9 } ∧ KtsTurn ([envOf cn cs L a ccd].filterMap (·.frame)) g' g9 ∧ Fr g9 L' h9 m9 ∧ News g9 L' h9 NX ∧ (∀ p ∈ B1, p ∈ NX) ∧ Below (ktrTop dp un gd cn cs L a ccd [] []) base [envOf cn cs L a ccd] g9 ∧ (Mine.hd.heap_39 w.params).In g9 ∧ Top Mine.hd.view_39 loose mean mg mb g9 ∧
          Kn m9 [(S "column", .ref D3), (S "told", v9)] ∧ ((100000 < prodN (names.map sz) ∧ ∃ t, v9 = .str (S "limit") t) ∨ (prodN (names.map sz) ≤ 100000 ∧ DatIn NX v9 (.tuple ((colRows (names.map sz)).map rowDat)))))) ?_ ?_ (fun _ _ e => e)
      · refine wpAny_Try_except ?_
        repeat' ((fail_if_success (with_reducible show wpAny _ _ (call (Value.ref 214) _) _ _ _)); k_extra "ktr_rel")
        refine' Spec.ck ?N ?F ?B ?X ?T ?K (uppers_spec) ?el ?D ?U ?_
        (case N => exact N12)
        (case F => k_asm)
        (case B => k_asm)
        (case X => k_asm)
        (case T => k_asm)
        (case K => first | exact rfl | assumption)
        (case el => first | walk_at "el" | exact UpRet.el)
        (case D => ktr_room)
        (case U => ktr_room)
        intro h' tk' F' x9 dx9 es9 nd9 hg1 hg2 hg3 hg4 hx1 hx2 N'
        repeat' ((fail_if_success (with_reducible show wpAny _ _ (call (Value.ref 204) _) _ _ _)); k_extra "ktr_rel")
        refine' SpecX.use (of_column_spec (bs := B1) (sz := sz) (names := names) (hS2.mono (sub_cons (sub_cons sub_refl))) hnn hcn1 hcn2 (.head _) (.tail _ (.head _)) hg1 hg2 hg3 (.tail _ (.tail _ e2)) hlo hol (fun nm hn => by obtain ⟨v, h1, h2⟩ := hvv nm hn; exact ⟨v, h1, h2.mono (sub_cons (sub_cons sub_refl))⟩) hszz (.tail _ (.tail _ e1)) hys (sub_cons (sub_cons sub_refl))) ?B ?F ?X ?N ?T ?K ?D ?U ?_ ?_
        (case N => k_asm)
        (case F => k_asm)
        (case B => k_asm)
        (case X => k_asm)
        (case T => k_asm)
        (case K => first | exact rfl | assumption)
        (case D => (dsimp +zetaDelta only [ktrTop, Around.deeper, Around.under, Around.in1]; (first | omega | (simp only [wMake]; omega))))
        (case U => (dsimp +zetaDelta only [ktrTop, Around.deeper, Around.under, Around.in1]; (first | omega | (simp only [uMake]; omega))))
        · rintro r'' news'' h'' tk'' F'' N'' ⟨hp, hr, hsub⟩
          repeat' (k_extra "ktr_rel")
          rename Fr _ _ _ _ => F13
          rename News _ _ _ _ => N13
          exact ⟨by trivial, g', _, _, _, r'', news'', rfl, KtsTurn.refl, F13, N13, fun p hp => hsub p (.tail _ (.tail _ hp)), B', X', T', ⟨rfl, rfl, trivial⟩, .inr ⟨hp, hr⟩⟩
        · rintro e9 C9 t9 ws9 g9 h9 tk9 Fg9 R9 U9 ⟨rfl, hbig⟩
          refine caught_1C R9 Fg9 B' U9 XB TB D' KtsTurn.refl (by k_dflt k_is) (by kernel_rfl) ?_
          intro h5 g5 n5 T5 F5 N5a Got5 N5 B5 X5 P5 D5
          clear N5a
          repeat' (k_extra "ktr_rel")
          rename Fr _ _ _ _ => F13
          rename News _ _ _ _ => N13
          exact ⟨by trivial, g5, _, _, _, _, B1, rfl, T5, F13, N13, fun _ h => h, B5, X5, P5, ⟨rfl, rfl, trivial⟩, .inl ⟨hbig, _, rfl⟩⟩
      · rintro f s' ⟨rfl, g9, h9, tk9, m9, v9, NX, rfl, T9, F13, N13, hBX, B9, X9, P9, hm9, hres⟩
        replace F13 := frov F13 hm9
        have e1 := hBX _ e1
        have e3 := hBX _ e3
        have hcl1 := hBX _ hcl1
        have hcl2 := hBX _ hcl2
        have hcl3 := hBX _ hcl3
        clear B' X' T' D' N12 F11
        have hyn := hys.length
        repeat' (k_extra "ktr_rel")
        rename Fr _ _ _ _ => F14
        rename News _ _ _ _ => N14
        refine ⟨_, _, _, fun i ys2 nx => nx = NX ∧ DatAll NX ys2 ((names.take i).map fun nm => Dat.int ((sz nm : Nat) : Int)), _, _, src_tup rfl N14 e1, (by rw [sizeLine_eq]; omega), F14, N14, ?_, ⟨rfl, .nil⟩, ?_, ?_⟩
        · rintro i ys2 nx ⟨rfl, -⟩; exact e1
        · rintro i v ys2 nx I2 oI2 C oC D m₂ h2 tk2 E2 R kR hi hv2 ⟨rfl, hys2⟩ hyl2 hC off2 F6 N6
          refine assignC (by rfl) (by rfl) off2 hC F6 N6 fun h3 oC3 tk3 hC3 F7 N7 => ?_
          clear F6 N6 hC
          have hx' : (fun y => if y = Str.ofString "name" then some v else m₂ y) (Str.ofString "name") = some v := by simp
          generalize (fun y => if y = Str.ofString "name" then some v else m₂ y) = m₃ at hC3 hx'
          have hin' : i < names.length := by omega
          obtain ⟨t', e⟩ := hys.get i names[i] (List.getElem?_eq_getElem hin')
          rw [e] at hv2
          cases hv2
          obtain ⟨r, hr, er, er'⟩ := hsz names[i] (List.getElem_mem _)
          obtain ⟨vz, hz1, hz2⟩ := hkz.get _ (List.mem_map.mpr ⟨r, hr, rfl⟩)
          obtain ⟨tz, rfl⟩ := dat_int hz2
          simp only [er, ← er'] at hz1
          refine wpAny_pure ?_
          repeat' (k_extra "ktr_rel")
          refine CEnd.intro kR (nx := nx) (by k_asm) (by k_asm) sub_refl hC3 off2.off ⟨rfl, ?_⟩
          rw [take_map _ hin']
          exact hys2.append (.one (.int _ _))
        · rintro ys2 nx ⟨rfl, hys2⟩ hyl2
          intro D4 h4 tk4 F15 N15 o4
          rw [hyn, List.take_length] at hys2
          repeat' ((fail_if_success (with_reducible show wpAny _ _ (call (Value.ref 468) _) _ _ _)); k_extra "ktr_rel")
          refine' Spec.c ?N ?F ?B ?X ?T ?K (lawprod_spec (ns := names.map sz) (nl := ys2.length) (.head _) (by rw [List.map_map]; exact hys2.mono (sub_cons sub_refl)) (by rw [List.length_map]; exact hcn2) (fun n hn => by obtain ⟨nm, h1, rfl⟩ := List.mem_map.mp hn; exact hszz nm h1)) ?D ?U ?_
          (case N => exact N15)
          (case F => k_asm)
          (case B => k_asm)
          (case X => k_asm)
          (case T => k_asm)
          (case K => first | exact rfl | assumption)
          (case D => (dsimp +zetaDelta only [ktrTop, Around.deeper, Around.under, Around.in1]; (first | omega | (simp only [wMake]; omega))))
          (case U => (dsimp +zetaDelta only [ktrTop, Around.deeper, Around.under, Around.in1]; (first | omega | (simp only [uMake]; omega))))
          rintro r' news' h' tk' F' N' ⟨hsub, hr'⟩
          repeat' ((fail_if_success (with_reducible show wpAny _ _ (compareOp _ _ _) _ _ _)); k_extra "ktr_rel")
          rcases hres with ⟨hbig, tL, rfl⟩ | ⟨hsm, hdv⟩
          · rcases hr' with ⟨hb', tM, rfl⟩ | ⟨hs', -⟩
            · refine PySem.SeqAt.RcAt.str_str _ _ _ _ PG w _ _ ?_
              rw [beq_self_eq_true]
              refine leaveS0_ (by k_asm) N' T9 ?_
              intro kF kN
              exact hret _ _ _ _ kF kN rfl
            · exact absurd hbig (Nat.not_lt.mpr hs')
          · rcases hr' with ⟨hb', tM, rfl⟩ | ⟨hs', hdr⟩
            · exact absurd hb' (Nat.not_lt.mpr hsm)
            · refine cmp_dat N' (hdv.mono fun p hp => hsub p (.tail _ hp)) hdr (noBs_map _ (fun r => (row_ok r).1) _) (Nat.le_trans (deps_map _ (fun r => (row_ok r).2) _) (by decide)) (by dsimp +zetaDelta only [ktrTop, Around.deeper, Around.under, Around.in1]; omega) ?_
              refine leaveS0_ (by k_asm) N' T9 ?_
              intro kF kN
              exact hret _ _ _ _ kF kN rfl
end
end
section
theorem w32 : True := by
  (k_with "exec Raise some none" => (k_here; k_dflt (refine raise_X (by k_asm) (by k_asm) (by rfl) ?_)))
  (k_with "RaiseEnd" => (refine ⟨_, _, _, _, _, _, rfl, ?zzC, by k_asm, by k_asm, by k_mem, ?_⟩; (case zzC => first | exact .inl rfl | exact .inr rfl)))
  (k_with "leaving ref" => (k_here; k_dflt (first | (refine' leave_excK ?zzkk ?zzK rfl ?zzhk ?zzF ?zzN ?zzhe ?zzht ?zzhs ?zzhne ?zzhnt ?zzhsub ?_; (case zzkk => assumption); (case zzK => assumption); (case zzhk => rfl); (case zzF => k_asm); (case zzN => k_asm); (case zzhe => k_mem); (case zzht => k_mem); (case zzhs => assumption); (case zzhne => assumption); (case zzhnt => assumption); (case zzhsub => ((repeat (first | exact sub_refl | assumption | refine sub_cons ?_)); done))) | (refine' leave_onK2 ?zzkk ?zzK rfl ?zzF ?zzR ?zzU ?_; (case zzkk => assumption); (case zzR => assumption); (case zzF => assumption); (case zzK => assumption); (case zzU => assumption))); intro _ zzR zzU; (try dsimp only at zzR zzU ⊢); (revert zzR zzU; intro _ _)))
  (k_with "formatField str" => (k_here; (refine' PyProof.Rows.formatField_str ?_ ?zzz; (case zzz => (simp only [sizeLine_eq]; omega))); intro _ _))
  (k_with "call type:tuple" => (k_here; (with_reducible show wpAny _ _ (call (Value.type _) [Value.ref _]) _ _ _); k_dflt (refine' kde_tupleOf ?zzk1 ?zzk2 ?zzk3 ?zzk4 ?zzk5 ?_; (case zzk1 => k_asm); (case zzk2 => k_asm); (case zzk3 => exact News.isList (by k_asm) (by k_mem)); (case zzk4 => (simp only [List.size_toArray]; omega)); (case zzk5 => exact List.toList_toArray _); k_whole); intro _ _ _ _ zzl1; (try k_lt zzl1); (revert zzl1; intro _)))
  (k_with "newTuple" => (k_here; k_dflt (refine' newTuple_L ?zzk1 ?zzk2 ?zzk3 ?_; (case zzk1 => k_asm); (case zzk2 => k_asm); (case zzk3 => (simp only [sizeLine_eq, List.length_cons, List.length_nil]; omega))); intro _ _ _ _ zzl1; (try k_lt zzl1); (revert zzl1; intro _)))
  (k_with "setItem ref str" => (k_here; k_dflt (refine' dset_new ?zzF ?zzN ?zzU ?zzd ?zzn ?zzz ?_; (case zzF => k_asm); (case zzN => k_asm); (case zzU => k_updF); (case zzd => assumption); (case zzn => assumption); (case zzz => omega)); intro _ _ _ zzN zzhd zzhv; (try dsimp only at zzN); (revert zzN zzhd zzhv; intro _ _ _)))
  (k_with "call builtin:list.extend" => (k_here; (with_reducible show wpAny _ _ (call (Value.builtin _) [Value.ref _, Value.ref _]) _ _ _); k_dflt (refine' ext_L ?zzF ?zzN ?zzb ?zzU ?zzz ?zzy ?_; (case zzF => k_asm); (case zzN => k_asm); (case zzb => k_mem); (case zzU => k_updF); (case zzz => omega); (case zzy => omega)); intro _ _ _ zzN; (try dsimp only at zzN); (revert zzN; intro _)))
  (k_with "spec" => (exact nextF_spec (by k_updF) (by assumption) (by omega) (by k_mem) (by first | decide | ((try simp only [List.size_toArray]); omega))))
  trivial
section
variable {w : World} {loose : List Str} {mean : ExcName → Option Value} {mg mb : Str → Option Value}
theorem Spec0.use {d u : Nat} {f : Value} {vs : List Value} {news : Led} {Ret : Value → Led → Prop} {dp un : Nat} {gd : Option (List Code)} {cn : Str} {cs : Scope} {a : Addr} {ccd : Value} {A₀ : Around} {base h₀ : Heap} {L : Addr} {m : Str → Option Value} {s : Shared} {Q E : Value → Shared → Prop}
    (h : Spec0 w loose mean mg mb d u f vs news Ret) (B : Below A₀ base [] h₀) (F : Fr h₀ L s.heap m) (X : (Mine.hd.heap_39 w.params).In h₀) (XB : (Mine.hd.heap_39 w.params).In base) (TB : Top Mine.hd.view_39 loose mean mg mb base) (N : News h₀ L s.heap news) (T : Top Mine.hd.view_39 loose mean mg mb h₀) (K : cs.kind = .function) (D : dp + d < recursionLimit) (U : un + u < cLine)
    (ret : ∀ r news' h' tk', Fr h₀ L h' m → News h₀ L h' news' → Ret r news' → Q r { s with heap := h', toks := tk' }) :
    wpAny (model PySem.Challenge.rw_nz0394_01.row.prog w) (ktrTop dp un gd cn cs L a ccd [] []) (call f vs) Q E s := h _ _ _ _ _ _ _ _ _ _ _ _ _ _ _ B F X XB TB N T K D U ret
theorem OutAt.mono {rows : List Row} {v : Value} {n1 n2 : Led} (h : OutAt w rows n1 v) (hs : ∀ p ∈ n1, p ∈ n2) : OutAt w rows n2 v := by
  cases h with | mk a1 a2 a3 b1 b2 b3 b4 c1 c2 c3 c4 => exact .mk (hs _ a1) (hs _ a2) a3 (hs _ b1) b2 b3 (b4.mono hs) (hs _ c1) c2 c3 (c4.mono hs)
theorem ResAt.mono {r : Res} {v : Value} {n1 n2 : Led} (h : ResAt w n1 r v) (hs : ∀ p ∈ n1, p ∈ n2) : ResAt w n2 r v := by
  cases h with
  | limit => exact .limit
  | scope => exact .scope
  | ok h => exact .ok (h.mono hs)
end
inductive LwA (w : World) (s1 : Shared) (il tl dd D2 : Addr) (vi : List Value) (ni : Nat) (vt : List Value) (nt : Nat) (ws : List Value) (tops : List Pk) (nr : Led) : Flow → Shared → Prop
  | mk (h' : Heap) (tk' : Nat) (m' : Str → Option Value) (lined : Str) (tl9 : Tok) (o' : Obj) (j' : Nat) (F : Fr s1.heap s1.heap.objs.size h' m') (N : News s1.heap s1.heap.objs.size h' ((il, listOf vi.toArray ni) :: (tl, listOf vt.toArray nt) :: (dd, o') :: nr)) (hF : Fd w dd D2 ws o' j') (hj : j' ≤ 22) (hlin : lined = S "" ∨ ∃ t ∈ tops, t.name = lined)
      (hm : Kn m' [(S "feed", .ref dd), (S "items", .ref il), (S "tops", .ref tl), (S "lined", .str lined tl9)]) : LwA w s1 il tl dd D2 vi ni vt nt ws tops nr .next { s1 with heap := h', toks := tk' }
inductive LwB (s1 : Shared) (il tl dd : Addr) (vt : List Value) (nt : Nat) (o2 : Obj) (tops : List Pk) (lined : Str) (tl9 : Tok) (nr : Led) : Flow → Shared → Prop
  | mk (h' : Heap) (tk' : Nat) (m' : Str → Option Value) (vi' : List Value) (ni' : Nat) (nr' : Led) (F : Fr s1.heap s1.heap.objs.size h' m') (N : News s1.heap s1.heap.objs.size h' ((il, listOf vi'.toArray ni') :: (tl, listOf vt.toArray nt) :: (dd, o2) :: nr')) (hb : ∀ p ∈ nr, p ∈ nr') (hi : ∀ p ∈ nr', p.1 ≠ il) (ht : ∀ p ∈ nr', p.1 ≠ tl) (hd : ∀ p ∈ nr', p.1 ≠ dd) (hdi : DatAll nr' vi' ((tops.flatMap itemsOf).map Item.dat ++ (opdOf lined).map openDat))
      (hm : Kn m' [(S "feed", .ref dd), (S "items", .ref il), (S "tops", .ref tl), (S "lined", .str lined tl9)]) : LwB s1 il tl dd vt nt o2 tops lined tl9 nr .next { s1 with heap := h', toks := tk' }
inductive LwD (g : Heap) (L : Addr) (h : Heap) (il tl dd D4 D5 : Addr) (vi : List Value) (vt : List Value) (nt : Nat) (o2 : Obj) (lined : Str) (nr : Led) : Prop
  | mk (e1 e2 e3 e4 e5 : Tok) (n6 : Nat) (N7 : News g L h ((il, listOf (vi ++ [Value.ref D5]).toArray n6) :: (tl, listOf vt.toArray nt) :: (dd, o2) :: (D5, tupObj [Value.str (S "open") e1, Value.int 0 e2, Value.str (S "util/ordering") e3, Value.ref D4, Value.str (S "o") e4] 0) :: (D4, tupObj [Value.str lined e5] 0) :: nr)) : LwD g L h il tl dd D4 D5 vi vt nt o2 lined nr
inductive LwJ (w : World) (dd tl sg D2 : Addr) (ws : List Value) (lined : Str) (tl9 : Tok) (b0 : Led) (k : Nat) (m : Str → Option Value) : Led → Prop
  | mk (hm : Kn m [(S "feed", .ref dd), (S "tops", .ref tl), (S "lined", .str lined tl9), (S "signatures", .ref sg)]) (o' : Obj) (j' : Nat) (hF : Fd w dd D2 ws o' j') (hj : j' ≤ 22 + 60 * k) : LwJ w dd tl sg D2 ws lined tl9 b0 k m ((dd, o') :: b0)
 local macro_rules | `(tactic| tm_at "eq") => `(tactic| (apply PyProof.Rows.v_eq_bool <;> tm_val))
theorem law_holds : PySem.Challenge.rw_nz0394_01.Holds := by
  refine holds_law Mine.hd.said fun said => ?_
  refine holds_open (q := Mine.hd.view_39) (loose := []) (Xt := Mine.hd.XT) (XP := XL Mine.hd.view_39 []) (Yf := Hook.obs (kHook Mine.hd.heap_39 Mine.hd.as39 Mine.hd.as_ok)) (Ya := Hook.val (kHook Mine.hd.heap_39 Mine.hd.as39 Mine.hd.as_ok)) (YP := Hook.says (kHook Mine.hd.heap_39 Mine.hd.as39 Mine.hd.as_ok)) (N := 7400) Mine.hd.left (Hook.of (kHook Mine.hd.heap_39 Mine.hd.as39 Mine.hd.as_ok)) (Hook.keeps (kHook Mine.hd.heap_39 Mine.hd.as39 Mine.hd.as_ok)) (fun s e => xl_of s (Bool.and_eq_true_iff.mp e).1) XL.keeps (by rfl) (by rfl) (by rfl) (fun s e => recFacts_of (Bool.and_eq_true_iff.mp e).2) (by rfl) said (by decide +kernel) ⟨rfl, rfl, rfl, rfl, rfl, by decide +kernel⟩ ⟨[WData.list []], by decide +kernel, by decide +kernel⟩ ?_
  k_go0
  all_goals try k_fold
  repeat' ((fail_if_success (with_reducible show wpAny _ _ (call (Value.ref 439) _) _ _ _)); k_extra "ktr_rel")
  rename_i dd _ _ lo9 _ _ D1 ws _ hI9 hC9 hL9 l19 D2 c2 _ l29 _ o9 hd9 _ F9 N9
  replace l19 := l19.1
  replace l29 := And.intro l29.1 l29.2.1
  rename Below _ _ _ _ => K0
  rename Frag.In _ _ => KX
  rename Top _ _ _ _ _ _ => T0
  have K1 : Below callerA _ [] _ := K0
  dsimp only [Top.heap] at K1
  have hF0 : Fd _ dd D2 ws o9 0 := ⟨⟨_, _, _, hd9⟩, lo9, Ne.symm (Nat.ne_of_lt l29.2), _, hI9, by rw [hC9]; omega⟩
  have N10 := ntake N9 (nx := (dd, o9) :: [(D2, listOf ws.toArray c2), (D1, listOf ws.toArray 0)]) (sub_mk (by k_mem) (sub_mk (by k_mem) (sub_mk (by k_mem) (fun _ h => nomatch h))))
  have hoff0 : ∀ p ∈ ([(D2, listOf ws.toArray c2), (D1, listOf ws.toArray 0)] : Led), p.1 ≠ dd := off_cons (Ne.symm (Nat.ne_of_lt l29.2)) (off_cons (Ne.symm (Nat.ne_of_lt l19)) (fun _ h => nomatch h))
  clear N9
  refine' Spec.c ?N ?F ?B ?X ?T ?K (model_spec hoff0 hF0 (by decide) (.head _)) ?D ?U ?_
  (case N => exact N10)
  (case F => k_asm)
  (case B => k_asm)
  (case X => k_asm)
  (case T => k_asm)
  (case K => first | exact rfl | assumption)
  (case D => decide)
  (case U => decide)
  rintro r' news' h' tk' F' N' ⟨Tm, il, tl, nT, vi, ni, vt, nt, o1, j1, tops, nr, hb1, hd1, hi1, ht1, u1, u2, u3, hT1, u4, u5, u6, hF1, hj1, hl1, hl4, hdt, hdi, hnm, hok⟩
  rename Shared => s1
  rename World => w
  have hT : TopsOk tops := ⟨hl1, hl4, hnm, hok⟩
  have hc0 := hb1 _ (.head _)
  have hvtl : vt.length = tops.length := by have := hdt.length; simpa using this
  have hdt1 : DatAll nr vt (tops.map Pk.dat) := hdt
  clear N10 F9 hd9 hF0
  repeat' ((fail_if_success (with_reducible show wpAny _ _ (exec (Stmt.Assign _ (Expr.IfExp _ _ _ _) _) _) _ _ _)); k_extra "ktr_rel")
  rename Fr _ _ _ _ => F2
  rename News _ _ _ _ => N2
  have N3 := ntake N2 (nx := (il, listOf vi.toArray ni) :: (tl, listOf vt.toArray nt) :: (dd, o1) :: nr) (sub_cons sub_refl)
  clear N2
  refine wpAny_mono (Q := fun f s' => Cut (LwA w s1 il tl dd D2 vi ni vt nt ws tops nr f s')) ?_ ?_ (fun _ _ e => e)
  · repeat' ((fail_if_success (with_reducible show Cut _)); (fail_if_success (with_reducible show wpAny _ _ (call (Value.ref 434) _) _ _ _)); k_extra "ktr_rel")
    rename Fr _ _ _ _ => F5
    have U9 : UpdF dd o1 ((il, listOf vi.toArray ni) :: (tl, listOf vt.toArray nt) :: (dd, o1) :: nr) (fun o => (il, listOf vi.toArray ni) :: (tl, listOf vt.toArray nt) :: (dd, o) :: nr) := by k_updF
    refine' Spec.c ?N ?F ?B ?X ?T ?K (nextF_spec U9 hF1 (by omega) (.tail _ (.tail _ (.tail _ hc0))) (by decide)) ?D ?U ?_
    (case N => exact N3)
    (case F => k_asm)
    (case B => k_asm)
    (case X => k_asm)
    (case T => k_asm)
    (case K => first | exact rfl | assumption)
    (case D => decide)
    (case U => decide)
    rintro r' news' h' tk' F' N' ⟨v', t', o', hv0', hv1', hF'⟩
    (try dsimp only at N')
    clear F5 N3
    repeat' ((fail_if_success (with_reducible show Cut _)); (fail_if_success (with_reducible show wpAny _ _ (call (Value.ref 434) _) _ _ _)); k_extra "ktr_rel")
    · have hw9 : (0 : Int) < ((vt.toArray.size : Nat) : Int) := by rw [List.size_toArray]; omega
      have U8 : UpdF dd o' ((il, listOf vi.toArray ni) :: (tl, listOf vt.toArray nt) :: (dd, o') :: nr) (fun o => (il, listOf vi.toArray ni) :: (tl, listOf vt.toArray nt) :: (dd, o) :: nr) := by k_updF
      refine' Spec.c ?N ?F ?B ?X ?T ?K (nextF_spec U8 hF' (by omega) (.tail _ (.tail _ (.tail _ hc0))) hw9) ?D ?U ?_
      (case N => exact N')
      (case F => k_asm)
      (case B => k_asm)
      (case X => k_asm)
      (case T => k_asm)
      (case K => first | exact rfl | assumption)
      (case D => decide)
      (case U => decide)
      rintro r5 news5 h5 tk5 F5 N5 ⟨v5, t5, o5, hv05, hv15, hF5⟩
      (try dsimp only at N5)
      clear N' F' U9 U8
      repeat' ((fail_if_success (with_reducible show Cut _)); (fail_if_success (with_reducible show wpAny _ _ (subscriptTail _ _ (Value.ref tl) (Value.int _ _)) _ _ _)); k_extra "ktr_rel")
      refine' list_at ?N ?m hdt1 hv05 hv15 ?z ?_
      (case N => k_asm)
      (case m => exact List.Mem.tail _ (List.Mem.head _))
      (case z => omega)
      intro v6 hlt6 hd6
      simp only [List.getElem_map] at hd6
      cases pk_open hd6 with | @mk ap bp np nbp t1 t2 vsb m1 m2 m3 =>
      repeat' ((fail_if_success (with_reducible show Cut _)); k_extra "ktr_rel")
      rename Fr _ _ _ _ => F6
      exact ⟨_, _, _, _, _, o5, j1 + 1 + 1, F6, by k_asm, hF5, by omega, .inr ⟨_, List.getElem_mem _, rfl⟩, ⟨rfl, rfl, rfl, rfl, trivial⟩⟩
    · rename Fr _ _ _ _ => F6
      exact ⟨_, _, _, S "", _, o', j1 + 1, F6, by k_asm, hF', by omega, .inl rfl, ⟨rfl, rfl, rfl, rfl, trivial⟩⟩
  rintro f s' ⟨h2, tk2, m2, lined, tl9, o2, j2, F4, N4, hF4, hj4, hlin, hm2⟩
  replace F4 := frov F4 hm2
  clear N3 F2
  repeat' ((fail_if_success (with_reducible show Cut _)); (fail_if_success (with_reducible show wpAny _ _ (exec (Stmt.If _ _ _ _) _) _ _ _)); k_extra "ktr_rel")
  have hvil : vi.length ≤ 16 := by
    have h1 := hdi.length
    rw [List.length_map] at h1
    have h2 := its_len hT
    omega
  have u7 : tl ≠ il := Ne.symm u3
  refine wpAny_mono (Q := fun f s' => Cut (LwB s1 il tl dd vt nt o2 tops lined tl9 nr f s')) ?_ ?_ (fun _ _ e => e)
  · by_cases hle : lined = S ""
    · have hlf : (lined != Str.ofString "") = false := by simpa using hle
      repeat' ((fail_if_success (with_reducible show Cut _)); k_extra "ktr_rel")
      all_goals first
        | (with_reducible rename (lined != Str.ofString "") = true => hq; rw [hlf] at hq; cases hq)
        | skip
      rename Fr _ _ _ _ => F6
      exact ⟨_, _, _, vi, ni, nr, F6, by k_asm, sub_refl, hi1, ht1, hd1, by rw [opdOf, if_pos hle]; simpa using hdi, ⟨rfl, rfl, rfl, rfl, trivial⟩⟩
    · have hlf : (lined != Str.ofString "") = true := by simpa using hle
      repeat' ((fail_if_success (with_reducible show Cut _)); k_extra "ktr_rel")
      all_goals first
        | (with_reducible rename (lined != Str.ofString "") = false => hq; rw [hlf] at hq; cases hq)
        | skip
      rename_i D4 _ lD4 D5 _ lD5 _ F6 N6
      rw [List.push_toArray] at N6
      obtain ⟨e1, e2, e3, e4, e5, n6, N7⟩ : LwD _ _ _ il tl dd D4 D5 vi vt nt o2 lined nr :=
        ⟨_, _, _, _, _, _, ntake N6 (sub_mk (by k_mem) (sub_mk (by k_mem) (sub_mk (by k_mem) (sub_mk (by k_mem) (sub_mk (by k_mem) (by k_extra "tb_rel"))))))⟩
      refine ⟨_, _, _, vi ++ [Value.ref D5], n6, _, F6, N7, sub_cons (sub_cons sub_refl), off_cons (Nat.ne_of_gt lD5.2.1) (off_cons (Nat.ne_of_gt lD4.1) hi1), off_cons (Nat.ne_of_gt lD5.2.2.1) (off_cons (Nat.ne_of_gt lD4.2.1) ht1), off_cons (Nat.ne_of_gt lD5.2.2.2.1) (off_cons (Nat.ne_of_gt lD4.2.2.1) hd1), ?_, ⟨rfl, rfl, rfl, rfl, trivial⟩⟩
      rw [opdOf, if_neg hle]
      exact (hdi.mono (sub_cons (sub_cons sub_refl))).append (.one (.tuple (.head _) (.cons (.str _ _) (.cons (.int _ _) (.cons (.str _ _) (.cons (.tuple (.tail _ (.head _)) (.one (.str _ _))) (.one (.str _ _))))))))
  rintro f s' ⟨h3, tk3, m3, vi2, ni2, nr2, F6, N6, hb2, hi2, ht2, hd2, hdi2, hm3⟩
  replace F6 := frov F6 hm3
  clear F4 N4 hm2
  have hvil2 := its_len hT
  obtain ⟨bs, hbs⟩ : ∃ bs : Led, bs = (il, listOf vi2.toArray ni2) :: (tl, listOf vt.toArray nt) :: nr2 := ⟨_, rfl⟩
  have N7 := ntake N6 (nx := [(dd, o2)] ++ bs) (by rw [hbs]; exact sub_mk (.tail _ (.tail _ (.head _))) (sub_mk (.head _) (sub_mk (.tail _ (.head _)) (fun p hp => .tail _ (.tail _ (.tail _ hp))))))
  have hbd : ∀ p ∈ bs, p.1 ≠ dd := by rw [hbs]; exact off_cons u1 (off_cons u2 hd2)
  have hbil : (il, listOf vi2.toArray ni2) ∈ bs := by rw [hbs]; exact .head _
  have hbtl : (tl, listOf vt.toArray nt) ∈ bs := by rw [hbs]; exact .tail _ (.head _)
  have hbnr : ∀ p ∈ nr2, p ∈ bs := by rw [hbs]; exact fun p hp => .tail _ (.tail _ hp)
  have hbc : (D2, listOf ws.toArray c2) ∈ bs := hbnr _ (hb2 _ hc0)
  have hbdt : DatAll bs vt (tops.map Pk.dat) := hdt1.mono fun p hp => hbnr _ (hb2 _ hp)
  have hbdi : DatAll bs vi2 ((tops.flatMap itemsOf).map Item.dat ++ (opdOf lined).map openDat) := hdi2.mono hbnr
  clear N6 hbs hdi2 hdi hdt hdt1
  repeat' ((fail_if_success (with_reducible show wpAny _ _ (call (Value.ref 416) _) _ _ _)); k_extra "ktr_rel")
  refine' Spec.c ?N ?F ?B ?X ?T ?K (sigs_spec (fr := [(dd, o2)]) (bs := bs) hbil hbdi (by omega) (opd_len lined) (its_sok hT) (its_once hT) (fun o ho => by obtain ⟨i, h1, h2, -⟩ := opd_top hlin o ho; exact ⟨i, h1, h2⟩) (its_up hT)) ?D ?U ?_
  (case N => exact N7)
  (case F => k_asm)
  (case B => k_asm)
  (case X => k_asm)
  (case T => k_asm)
  (case K => first | exact rfl | assumption)
  (case D => decide)
  (case U => decide)
  rintro r8 news8 h8 tk8 F8 N8 ⟨sg, nx8, rfl, rfl, hSg, hnx8⟩
  obtain ⟨b0, hb0⟩ : ∃ b0 : Led, b0 = nx8 ++ bs := ⟨_, rfl⟩
  rw [← hb0] at hSg
  have hbd0 : ∀ p ∈ b0, p.1 ≠ dd := by
    rw [hb0]
    intro p hp
    rcases List.mem_append.mp hp with h | h
    · exact hnx8 p h (dd, o2) (.head _)
    · exact hbd p h
  have hsb : ∀ p ∈ bs, p ∈ b0 := by rw [hb0]; exact fun p hp => List.mem_append.mpr (.inr hp)
  have N9 := ntake N8 (nx := (dd, o2) :: b0) (by
    rw [hb0]
    exact sub_mk (List.mem_append.mpr (.inr (.head _))) (fun p hp => by
      rcases List.mem_append.mp hp with h | h
      · exact List.mem_append.mpr (.inl h)
      · exact List.mem_append.mpr (.inr (.tail _ h))))
  clear N8 N7
  repeat' ((fail_if_success (with_reducible show LoopX _ _ _ _ _ _ _ _ _ _ _ _ _)); k_extra "ktr_rel")
  rename IsRange _ _ _ _ _ _ _ _ => hrg
  rename News _ _ _ _ => N10
  rename Fr _ _ _ _ => F10
  have hcb := hsb _ hbc
  have htb := hsb _ hbtl
  have hdb := hbdt.mono hsb
  have hw9 : ∀ t ∈ tops, t.below.length ≤ 10 ∧ t.name.length ≤ 100 := fun t ht => ⟨by have := (hok t ht).l; omega, (top_name hT ht).2.2.2.1⟩
  have hin9 : ∀ t ∈ tops, t.name ≠ S "" ∧ ∃ i ∈ tops.flatMap itemsOf, i.name = t.name ∧ i.parent = S "" := fun t ht => ⟨(top_name hT ht).2.2.1, headOf t, head_mem ht, rfl, rfl⟩
  refine ⟨_, _, _, fun k m nx => LwJ w dd tl sg D2 ws lined tl9 b0 k m nx,
    _, _, src_range0 rfl hrg (by omega) (by omega), F10, N10, fun _ _ _ _ => trivial, ⟨⟨rfl, rfl, rfl, rfl, trivial⟩, o2, j2, hF4, by omega⟩, ?_, ?_⟩
  · rintro lap v m4 nx h4 tk4 I oI R kR hlap ⟨tv, rfl⟩ ⟨hm4, o3, j3, hF5, hj5⟩ off F11 N11
    replace F11 := frov F11 hm4
    clear F10 N10 hrg
    have y1 : dd ≠ I := off_head off
    have y2 := off_tail off
    have N12 := ntake N11 (nx := (dd, o3) :: (I, oI) :: b0) (sub_mk (.tail _ (.head _)) (sub_mk (.head _) (fun p hp => .tail _ (.tail _ hp))))
    clear N11
    repeat' ((fail_if_success (with_reducible show wpAny _ _ (call (Value.ref 446) _) _ _ _)); k_extra "ktr_rel")
    refine' Spec.c ?N ?F ?B ?X ?T ?K (scopelaw_spec (rest := (I, oI) :: b0) (off_cons (Ne.symm y1) hbd0) hF5 (by omega) (.tail _ hcb) (.tail _ htb) (hdb.mono (sub_cons sub_refl)) (by omega) hw9) ?D ?U ?_
    (case N => k_asm)
    (case F => k_asm)
    (case B => k_asm)
    (case X => k_asm)
    (case T => k_asm)
    (case K => first | exact rfl | assumption)
    (case D => decide)
    (case U => decide)
    rintro r5 news5 h5 tk5 F5 N5 ⟨sc, o4, k1, nx4, s0, hb4, hoff4, hF6, hk6, hsc, hdef, htl21, hsig, hto⟩
    have hb5 : ∀ p ∈ b0, p ∈ nx4 := fun p hp => hb4 p (.tail _ hp)
    repeat' ((fail_if_success (with_reducible show wpAny _ _ (call (Value.ref 463) _) _ _ _)); k_extra "ktr_rel")
    refine' Spec0.use (heard_spec (hSg.mono (fun p hp => .tail _ (hb5 p hp))) (its_wf hT) (its_sok hT) (its_nodup hT) (opd_len lined) (opd_top hlin) (told_wf hT htl21 hsig hto) (hsc.mono (sub_cons sub_refl)) heard_pos (told_big hto)) ?B ?F ?X ?XB ?TB ?N ?T ?K ?D ?U ?_
    (case N => k_asm)
    (case F => k_asm)
    (case B => k_asm)
    (case X => k_asm)
    (case T => k_asm)
    (case K => first | exact rfl | assumption)
    (case D => decide)
    (case U => decide)
    (case XB => k_asm)
    (case TB => k_asm)
    rintro r6 news6 h6 tk6 F6 N6 ⟨hr6, hs6⟩
    repeat' ((fail_if_success (with_reducible show wpAny _ _ (call (Value.ref 456) _) _ _ _)); k_extra "ktr_rel")
    refine' Spec.c ?N ?F ?B ?X ?T ?K (due_spec (lined := lined) (hsc.mono (fun p hp => hs6 p (.tail _ hp))) (hs6 _ (.tail _ (hb5 _ htb))) (hdb.mono (fun p hp => hs6 p (.tail _ (hb5 p hp)))) (by omega) hw9 (tops_nodup hT) (by omega) (due_pos hT hto)) ?D ?U ?_
    (case N => k_asm)
    (case F => k_asm)
    (case B => k_asm)
    (case X => k_asm)
    (case T => k_asm)
    (case K => first | exact rfl | assumption)
    (case D => decide)
    (case U => decide)
    rintro r7 news7 h7 tk7 F7 N7 ⟨hr7, hs7⟩
    repeat' ((fail_if_success (with_reducible show wpAny _ _ (compareOp _ _ _) _ _ _)); k_extra "ktr_rel")
    have hsame := law_same hT hto (lined := lined)
    rw [hsame] at hr6
    refine resAt_ne (by k_asm) (hr6.mono hs7) hr7 (by show (4 + 3 + 10 : Nat) < cLine; decide) ?_
    repeat' (k_extra "ktr_rel")
    rename Fr _ _ _ _ => F9
    rename News _ _ _ _ => N9
    refine' tend kR (nx := (dd, o4) :: b0) F9 N9 ?_ ?_ ⟨⟨rfl, rfl, rfl, rfl, trivial⟩, o4, k1, hF6, by omega⟩
    · exact sub_mk (hs7 _ (hs6 _ (.tail _ (hb4 _ (.head _))))) (sub_mk (hs7 _ (hs6 _ (.head _))) (fun p hp => hs7 p (hs6 p (.tail _ (hb5 p hp)))))
    · exact off_cons y1 y2
  · rintro m4 nx h4 tk4 ⟨hm4, o3, j3, hF5, hj5⟩ F11 N11
    replace F11 := frov F11 hm4
    clear F10 N10 hrg
    repeat' ((fail_if_success (with_reducible show wpAny _ _ (call (Value.ref 473) _) _ _ _)); k_extra "ktr_rel")
    refine' Spec0.use (column_spec hbd0 hF5 (by omega) hcb hSg hin9 hl1 hl4 (tops_nodup hT) htb hdb) ?B ?F ?X ?XB ?TB ?N ?T ?K ?D ?U ?_
    (case N => k_asm)
    (case F => k_asm)
    (case B => k_asm)
    (case X => k_asm)
    (case T => k_asm)
    (case K => first | exact rfl | assumption)
    (case D => decide)
    (case U => decide)
    (case XB => k_asm)
    (case TB => k_asm)
    rintro r6 news6 h6 tk6 F6 N6 rfl
    repeat' (k_extra "ktr_rel")
end
end Mine
theorem PySem.Challenge.cw_nz0394_01_holds : PySem.Challenge.rw_nz0394_01.Holds :=
  Mine.law_holds
