import PyProof.Rows.All
import Wide.All
import OpenK.AllK
import Wide.FinOn
import PySem.Challenge.RW_nt0488_01
set_option Elab.async false
set_option linter.unusedVariables false
set_option maxRecDepth 100000
set_option maxHeartbeats 8000000
namespace Mine
open PySem PySem.W PyProof.Rows
abbrev hd.prog : Program := PySem.Challenge.rw_nt0488_01.row.toRowW.prog
noncomputable def partsOfDef : Option Stmt → Arguments × List Stmt × Scope
  | some (.FunctionDef _ a b _ _ _ s _ _ _) => (a, b, s)
  | _ => (⟨[], [], none, [], [], none, []⟩, [], default)
noncomputable def partsOfCls : Option Stmt → List Stmt
  | some (.ClassDef _ _ _ b _ _ _ _ _ _ _) => b
  | _ => []
noncomputable def defNr (i : Nat) : Arguments × List Stmt × Scope := partsOfDef (hd.prog.main.body[i]?)
noncomputable def defWithin (i : Nat) : Arguments × List Stmt × Scope := partsOfDef (partsOfCls (hd.prog.main.body[i]?))[0]?
noncomputable def hd.heap_39 : Params → Frag := fun P =>
  (nat_lit 2, { cls := Value.none, data := Data.dict #[{ hash := PyData.keyHash P (Str.ofString "type.__subclasses__.Exception.0"), key := Value.str (Str.ofString "type.__subclasses__.Exception.0") 227, val := Value.int 32 0 }, { hash := PyData.keyHash P (Str.ofString "type.__subclasses__.Exception.n"), key := Value.str (Str.ofString "type.__subclasses__.Exception.n") 228, val := Value.int 1 0 }] 2 }) ::
  (nat_lit 3, { cls := Value.type "dict", data := Data.dict #[{ hash := PyData.keyHash P (Str.ofString "__name__"), key := Value.str (Str.ofString "__name__") 165, val := Value.str (Str.ofString "law_nt0488_01") 396 }, { hash := PyData.keyHash P (Str.ofString "__doc__"), key := Value.str (Str.ofString "__doc__") 166, val := Value.none }, { hash := PyData.keyHash P (Str.ofString "__package__"), key := Value.str (Str.ofString "__package__") 167, val := Value.none }, { hash := PyData.keyHash P (Str.ofString "__loader__"), key := Value.str (Str.ofString "__loader__") 168, val := Value.builtin "__main__.__loader__#opaque" }, { hash := PyData.keyHash P (Str.ofString "__spec__"), key := Value.str (Str.ofString "__spec__") 169, val := Value.none }, { hash := PyData.keyHash P (Str.ofString "__annotations__"), key := Value.str (Str.ofString "__annotations__") 170, val := Value.ref 6 }, { hash := PyData.keyHash P (Str.ofString "__builtins__"), key := Value.str (Str.ofString "__builtins__") 171, val := Value.ref 4 }, { hash := PyData.keyHash P (Str.ofString "__file__"), key := Value.str (Str.ofString "__file__") 173, val := Value.str (Str.ofString "/claim/cut.py") 172 }, { hash := PyData.keyHash P (Str.ofString "__cached__"), key := Value.str (Str.ofString "__cached__") 174, val := Value.none }, { hash := PyData.keyHash P (Str.ofString "GRAIN"), key := Value.str (Str.ofString "GRAIN") 190, val := Value.int 1000000 189 }, { hash := PyData.keyHash P (Str.ofString "LEAST_INT"), key := Value.str (Str.ofString "LEAST_INT") 195, val := Value.int (-2147483648) 194 }, { hash := PyData.keyHash P (Str.ofString "MOST_INT"), key := Value.str (Str.ofString "MOST_INT") 201, val := Value.int 2147483647 200 }, { hash := PyData.keyHash P (Str.ofString "PostError"), key := Value.str (Str.ofString "PostError") 230, val := Value.ref 32 }, { hash := PyData.keyHash P (Str.ofString "PsError"), key := Value.str (Str.ofString "PsError") 246, val := Value.ref 45 }, { hash := PyData.keyHash P (Str.ofString "digit_value"), key := Value.str (Str.ofString "digit_value") 253, val := Value.ref 54 }, { hash := PyData.keyHash P (Str.ofString "INTEGER"), key := Value.str (Str.ofString "INTEGER") 257, val := Value.str (Str.ofString "integer") 256 }, { hash := PyData.keyHash P (Str.ofString "REAL"), key := Value.str (Str.ofString "REAL") 259, val := Value.str (Str.ofString "real") 258 }, { hash := PyData.keyHash P (Str.ofString "MOST_REAL"), key := Value.str (Str.ofString "MOST_REAL") 264, val := Value.int 1000000000000000000000 263 }, { hash := PyData.keyHash P (Str.ofString "PLACES"), key := Value.str (Str.ofString "PLACES") 266, val := Value.int 6 265 }, { hash := PyData.keyHash P (Str.ofString "WORD_SIZE"), key := Value.str (Str.ofString "WORD_SIZE") 270, val := Value.int 4294967296 269 }, { hash := PyData.keyHash P (Str.ofString "MOST_FIGURES"), key := Value.str (Str.ofString "MOST_FIGURES") 272, val := Value.int 6 271 }, { hash := PyData.keyHash P (Str.ofString "divided"), key := Value.str (Str.ofString "divided") 283, val := Value.ref 61 }, { hash := PyData.keyHash P (Str.ofString "is_integer_size"), key := Value.str (Str.ofString "is_integer_size") 290, val := Value.ref 68 }, { hash := PyData.keyHash P (Str.ofString "checked_real"), key := Value.str (Str.ofString "checked_real") 297, val := Value.ref 75 }, { hash := PyData.keyHash P (Str.ofString "real_of"), key := Value.str (Str.ofString "real_of") 304, val := Value.ref 82 }, { hash := PyData.keyHash P (Str.ofString "whole_number"), key := Value.str (Str.ofString "whole_number") 311, val := Value.ref 89 }, { hash := PyData.keyHash P (Str.ofString "figures_value"), key := Value.str (Str.ofString "figures_value") 322, val := Value.ref 96 }, { hash := PyData.keyHash P (Str.ofString "read_radix"), key := Value.str (Str.ofString "read_radix") 332, val := Value.ref 103 }, { hash := PyData.keyHash P (Str.ofString "signed_word"), key := Value.str (Str.ofString "signed_word") 340, val := Value.ref 110 }, { hash := PyData.keyHash P (Str.ofString "read_exponent"), key := Value.str (Str.ofString "read_exponent") 350, val := Value.ref 117 }, { hash := PyData.keyHash P (Str.ofString "number_scaled"), key := Value.str (Str.ofString "number_scaled") 358, val := Value.ref 124 }, { hash := PyData.keyHash P (Str.ofString "split_at"), key := Value.str (Str.ofString "split_at") 368, val := Value.ref 131 }, { hash := PyData.keyHash P (Str.ofString "read_real"), key := Value.str (Str.ofString "read_real") 383, val := Value.ref 138 }, { hash := PyData.keyHash P (Str.ofString "read_number"), key := Value.str (Str.ofString "read_number") 395, val := Value.ref 145 }, { hash := PyData.keyHash P (Str.ofString "_law_odd"), key := Value.str (Str.ofString "_law_odd") 433, val := Value.ref 146 }, { hash := PyData.keyHash P (Str.ofString "_law_deck"), key := Value.str (Str.ofString "_law_deck") 439, val := Value.ref 151 }, { hash := PyData.keyHash P (Str.ofString "_law_draw"), key := Value.str (Str.ofString "_law_draw") 447, val := Value.ref 158 }, { hash := PyData.keyHash P (Str.ofString "_law_octets"), key := Value.str (Str.ofString "_law_octets") 453, val := Value.ref 163 }, { hash := PyData.keyHash P (Str.ofString "_law_plain"), key := Value.str (Str.ofString "_law_plain") 466, val := Value.ref 170 }, { hash := PyData.keyHash P (Str.ofString "_law_based"), key := Value.str (Str.ofString "_law_based") 477, val := Value.ref 177 }, { hash := PyData.keyHash P (Str.ofString "_law_bent"), key := Value.str (Str.ofString "_law_bent") 488, val := Value.ref 184 }, { hash := PyData.keyHash P (Str.ofString "_law_figures"), key := Value.str (Str.ofString "_law_figures") 494, val := Value.ref 189 }, { hash := PyData.keyHash P (Str.ofString "_law_by_base"), key := Value.str (Str.ofString "_law_by_base") 507, val := Value.ref 196 }, { hash := PyData.keyHash P (Str.ofString "_law_of_tens"), key := Value.str (Str.ofString "_law_of_tens") 517, val := Value.ref 203 }, { hash := PyData.keyHash P (Str.ofString "_law_due"), key := Value.str (Str.ofString "_law_due") 531, val := Value.ref 210 }, { hash := PyData.keyHash P (Str.ofString "_law_told"), key := Value.str (Str.ofString "_law_told") 540, val := Value.ref 217 }, { hash := PyData.keyHash P (Str.ofString "law"), key := Value.str (Str.ofString "law") 551, val := Value.ref 224 }] 47 }) ::
  (nat_lit 15, { cls := Value.type "tuple", data := Data.seq #[Value.type "Exception"] }) ::
  (nat_lit 22, { cls := Value.type "tuple", data := Data.seq #[Value.none] }) ::
  (nat_lit 23, { cls := Value.type "tuple", data := Data.seq #[] }) ::
  (nat_lit 25, { cls := Value.type "tuple", data := Data.seq #[Value.str (Str.ofString "self") 217, Value.str (Str.ofString "told") 218] }) ::
  (nat_lit 26, { cls := Value.type "tuple", data := Data.seq #[] }) ::
  (nat_lit 28, { cls := Value.type "code", data := Data.fields #[Value.str (Str.ofString "__init__") 214, Value.str (Str.ofString "PostError.__init__") 215, Value.str (Str.ofString "/claim/cut.py") 216, Value.int 7 0, Value.int 2 0, Value.int 0 0, Value.int 0 0, Value.int 3 0, Value.ref 23, Value.bool true, Value.int 181 0, Value.ref 24, Value.none, Value.ref 25, Value.ref 26, Value.ref 27, Value.int 219 0, Value.int 7 0, Value.str (Str.ofString "/claim/cut.py") 220] }) ::
  (nat_lit 29, { cls := Value.type "function", data := Data.func { name := Str.ofString "__init__", qualname := Str.ofString "PostError.__init__", params := (defWithin 4).1, body := FuncBody.stmts (defWithin 4).2.1, scope := (defWithin 4).2.2, globals := 3, closure := [], defaults := Value.ref 22, kwdefaults := Value.none, pyModule := Value.str (Str.ofString "postcore.base") 187, code := Value.ref 28 } }) ::
  (nat_lit 30, { cls := Value.type "tuple", data := Data.seq #[Value.str (Str.ofString "told") 222] }) ::
  (nat_lit 31, { cls := Value.type "dict", data := Data.dict #[{ hash := PyData.keyHash P (Str.ofString "__module__"), key := Value.str (Str.ofString "__module__") 209, val := Value.str (Str.ofString "postcore.base") 187 }, { hash := PyData.keyHash P (Str.ofString "__firstlineno__"), key := Value.str (Str.ofString "__firstlineno__") 213, val := Value.int 5 212 }, { hash := PyData.keyHash P (Str.ofString "__init__"), key := Value.str (Str.ofString "__init__") 221, val := Value.ref 29 }, { hash := PyData.keyHash P (Str.ofString "__static_attributes__"), key := Value.str (Str.ofString "__static_attributes__") 223, val := Value.ref 30 }, { hash := PyData.keyHash P (Str.ofString "__weakref__"), key := Value.str (Str.ofString "__weakref__") 225, val := Value.ref 33 }, { hash := PyData.keyHash P (Str.ofString "__doc__"), key := Value.str (Str.ofString "__doc__") 226, val := Value.none }] 3 }) ::
  (nat_lit 32, { cls := Value.type "type", data := Data.cls { name := Str.ofString "PostError", bases := [Value.type "Exception"], mro := [Value.ref 32, Value.type "Exception", Value.type "BaseException", Value.type "object"], ns := 31, qualname := Str.ofString "PostError", subclasses := [Value.ref 45] }, slots := #[some (Value.ref 15), none, some (Value.str (Str.ofString "PostError") 202), some (Value.str (Str.ofString "PostError") 210), some (Value.builtin "Exception.__new__"), some (Value.bool true)] }) ::
  (nat_lit 33, { cls := Value.type "getset_descriptor", data := Data.fields #[Value.str (Str.ofString "__weakref__") 224, Value.ref 32, Value.builtin "ExceptionGroup.__weakref__", Value.none] }) ::
  (nat_lit 36, { cls := Value.type "tuple", data := Data.seq #[Value.ref 32] }) ::
  (nat_lit 43, { cls := Value.type "tuple", data := Data.seq #[] }) ::
  (nat_lit 44, { cls := Value.type "dict", data := Data.dict #[{ hash := PyData.keyHash P (Str.ofString "__module__"), key := Value.str (Str.ofString "__module__") 238, val := Value.str (Str.ofString "postcore.base") 187 }, { hash := PyData.keyHash P (Str.ofString "__firstlineno__"), key := Value.str (Str.ofString "__firstlineno__") 242, val := Value.int 9 241 }, { hash := PyData.keyHash P (Str.ofString "__static_attributes__"), key := Value.str (Str.ofString "__static_attributes__") 243, val := Value.ref 43 }, { hash := PyData.keyHash P (Str.ofString "__doc__"), key := Value.str (Str.ofString "__doc__") 244, val := Value.none }] 2 }) ::
  (nat_lit 45, { cls := Value.type "type", data := Data.cls { name := Str.ofString "PsError", bases := [Value.ref 32], mro := [Value.ref 45, Value.ref 32, Value.type "Exception", Value.type "BaseException", Value.type "object"], ns := 44, qualname := Str.ofString "PsError" }, slots := #[some (Value.ref 36), none, some (Value.str (Str.ofString "PsError") 231), some (Value.str (Str.ofString "PsError") 239), some (Value.builtin "Exception.__new__"), some (Value.bool true)] }) ::
  (nat_lit 48, { cls := Value.type "tuple", data := Data.seq #[] }) ::
  (nat_lit 50, { cls := Value.type "tuple", data := Data.seq #[Value.str (Str.ofString "octet") 250] }) ::
  (nat_lit 51, { cls := Value.type "tuple", data := Data.seq #[] }) ::
  (nat_lit 53, { cls := Value.type "code", data := Data.fields #[Value.str (Str.ofString "digit_value") 247, Value.str (Str.ofString "digit_value") 248, Value.str (Str.ofString "/claim/cut.py") 249, Value.int 11 0, Value.int 1 0, Value.int 0 0, Value.int 0 0, Value.int 3 0, Value.ref 48, Value.bool true, Value.int 181 0, Value.ref 49, Value.none, Value.ref 50, Value.ref 51, Value.ref 52, Value.int 251 0, Value.int 11 0, Value.str (Str.ofString "/claim/cut.py") 252] }) ::
  (nat_lit 54, { cls := Value.type "function", data := Data.func { name := Str.ofString "digit_value", qualname := Str.ofString "digit_value", params := (defNr 6).1, body := FuncBody.stmts (defNr 6).2.1, scope := (defNr 6).2.2, globals := 3, closure := [], defaults := Value.none, kwdefaults := Value.none, pyModule := Value.str (Str.ofString "postcore.base") 187, code := Value.ref 53 } }) ::
  (nat_lit 55, { cls := Value.type "tuple", data := Data.seq #[] }) ::
  (nat_lit 57, { cls := Value.type "tuple", data := Data.seq #[Value.str (Str.ofString "number") 276, Value.str (Str.ofString "by") 277, Value.str (Str.ofString "size") 278, Value.str (Str.ofString "parts") 279, Value.str (Str.ofString "found") 280] }) ::
  (nat_lit 58, { cls := Value.type "tuple", data := Data.seq #[] }) ::
  (nat_lit 60, { cls := Value.type "code", data := Data.fields #[Value.str (Str.ofString "divided") 273, Value.str (Str.ofString "divided") 274, Value.str (Str.ofString "/claim/cut.py") 275, Value.int 26 0, Value.int 2 0, Value.int 0 0, Value.int 0 0, Value.int 3 0, Value.ref 55, Value.bool true, Value.int 181 0, Value.ref 56, Value.none, Value.ref 57, Value.ref 58, Value.ref 59, Value.int 281 0, Value.int 26 0, Value.str (Str.ofString "/claim/cut.py") 282] }) ::
  (nat_lit 61, { cls := Value.type "function", data := Data.func { name := Str.ofString "divided", qualname := Str.ofString "divided", params := (defNr 14).1, body := FuncBody.stmts (defNr 14).2.1, scope := (defNr 14).2.2, globals := 3, closure := [], defaults := Value.none, kwdefaults := Value.none, pyModule := Value.str (Str.ofString "postcore.numbers") 254, code := Value.ref 60 } }) ::
  (nat_lit 62, { cls := Value.type "tuple", data := Data.seq #[] }) ::
  (nat_lit 64, { cls := Value.type "tuple", data := Data.seq #[Value.str (Str.ofString "number") 287] }) ::
  (nat_lit 65, { cls := Value.type "tuple", data := Data.seq #[] }) ::
  (nat_lit 67, { cls := Value.type "code", data := Data.fields #[Value.str (Str.ofString "is_integer_size") 284, Value.str (Str.ofString "is_integer_size") 285, Value.str (Str.ofString "/claim/cut.py") 286, Value.int 30 0, Value.int 1 0, Value.int 0 0, Value.int 0 0, Value.int 3 0, Value.ref 62, Value.bool true, Value.int 181 0, Value.ref 63, Value.none, Value.ref 64, Value.ref 65, Value.ref 66, Value.int 288 0, Value.int 30 0, Value.str (Str.ofString "/claim/cut.py") 289] }) ::
  (nat_lit 68, { cls := Value.type "function", data := Data.func { name := Str.ofString "is_integer_size", qualname := Str.ofString "is_integer_size", params := (defNr 15).1, body := FuncBody.stmts (defNr 15).2.1, scope := (defNr 15).2.2, globals := 3, closure := [], defaults := Value.none, kwdefaults := Value.none, pyModule := Value.str (Str.ofString "postcore.numbers") 254, code := Value.ref 67 } }) ::
  (nat_lit 69, { cls := Value.type "tuple", data := Data.seq #[] }) ::
  (nat_lit 71, { cls := Value.type "tuple", data := Data.seq #[Value.str (Str.ofString "millionths") 294] }) ::
  (nat_lit 72, { cls := Value.type "tuple", data := Data.seq #[] }) ::
  (nat_lit 74, { cls := Value.type "code", data := Data.fields #[Value.str (Str.ofString "checked_real") 291, Value.str (Str.ofString "checked_real") 292, Value.str (Str.ofString "/claim/cut.py") 293, Value.int 32 0, Value.int 1 0, Value.int 0 0, Value.int 0 0, Value.int 3 0, Value.ref 69, Value.bool true, Value.int 181 0, Value.ref 70, Value.none, Value.ref 71, Value.ref 72, Value.ref 73, Value.int 295 0, Value.int 32 0, Value.str (Str.ofString "/claim/cut.py") 296] }) ::
  (nat_lit 75, { cls := Value.type "function", data := Data.func { name := Str.ofString "checked_real", qualname := Str.ofString "checked_real", params := (defNr 16).1, body := FuncBody.stmts (defNr 16).2.1, scope := (defNr 16).2.2, globals := 3, closure := [], defaults := Value.none, kwdefaults := Value.none, pyModule := Value.str (Str.ofString "postcore.numbers") 254, code := Value.ref 74 } }) ::
  (nat_lit 76, { cls := Value.type "tuple", data := Data.seq #[] }) ::
  (nat_lit 78, { cls := Value.type "tuple", data := Data.seq #[Value.str (Str.ofString "number") 301] }) ::
  (nat_lit 79, { cls := Value.type "tuple", data := Data.seq #[] }) ::
  (nat_lit 81, { cls := Value.type "code", data := Data.fields #[Value.str (Str.ofString "real_of") 298, Value.str (Str.ofString "real_of") 299, Value.str (Str.ofString "/claim/cut.py") 300, Value.int 36 0, Value.int 1 0, Value.int 0 0, Value.int 0 0, Value.int 3 0, Value.ref 76, Value.bool true, Value.int 181 0, Value.ref 77, Value.none, Value.ref 78, Value.ref 79, Value.ref 80, Value.int 302 0, Value.int 36 0, Value.str (Str.ofString "/claim/cut.py") 303] }) ::
  (nat_lit 82, { cls := Value.type "function", data := Data.func { name := Str.ofString "real_of", qualname := Str.ofString "real_of", params := (defNr 17).1, body := FuncBody.stmts (defNr 17).2.1, scope := (defNr 17).2.2, globals := 3, closure := [], defaults := Value.none, kwdefaults := Value.none, pyModule := Value.str (Str.ofString "postcore.numbers") 254, code := Value.ref 81 } }) ::
  (nat_lit 83, { cls := Value.type "tuple", data := Data.seq #[] }) ::
  (nat_lit 85, { cls := Value.type "tuple", data := Data.seq #[Value.str (Str.ofString "number") 308] }) ::
  (nat_lit 86, { cls := Value.type "tuple", data := Data.seq #[] }) ::
  (nat_lit 88, { cls := Value.type "code", data := Data.fields #[Value.str (Str.ofString "whole_number") 305, Value.str (Str.ofString "whole_number") 306, Value.str (Str.ofString "/claim/cut.py") 307, Value.int 38 0, Value.int 1 0, Value.int 0 0, Value.int 0 0, Value.int 3 0, Value.ref 83, Value.bool true, Value.int 181 0, Value.ref 84, Value.none, Value.ref 85, Value.ref 86, Value.ref 87, Value.int 309 0, Value.int 38 0, Value.str (Str.ofString "/claim/cut.py") 310] }) ::
  (nat_lit 89, { cls := Value.type "function", data := Data.func { name := Str.ofString "whole_number", qualname := Str.ofString "whole_number", params := (defNr 18).1, body := FuncBody.stmts (defNr 18).2.1, scope := (defNr 18).2.2, globals := 3, closure := [], defaults := Value.none, kwdefaults := Value.none, pyModule := Value.str (Str.ofString "postcore.numbers") 254, code := Value.ref 88 } }) ::
  (nat_lit 90, { cls := Value.type "tuple", data := Data.seq #[] }) ::
  (nat_lit 92, { cls := Value.type "tuple", data := Data.seq #[Value.str (Str.ofString "octets") 315, Value.str (Str.ofString "base") 316, Value.str (Str.ofString "found") 317, Value.str (Str.ofString "octet") 318, Value.str (Str.ofString "figure") 319] }) ::
  (nat_lit 93, { cls := Value.type "tuple", data := Data.seq #[] }) ::
  (nat_lit 95, { cls := Value.type "code", data := Data.fields #[Value.str (Str.ofString "figures_value") 312, Value.str (Str.ofString "figures_value") 313, Value.str (Str.ofString "/claim/cut.py") 314, Value.int 42 0, Value.int 2 0, Value.int 0 0, Value.int 0 0, Value.int 3 0, Value.ref 90, Value.bool true, Value.int 181 0, Value.ref 91, Value.none, Value.ref 92, Value.ref 93, Value.ref 94, Value.int 320 0, Value.int 42 0, Value.str (Str.ofString "/claim/cut.py") 321] }) ::
  (nat_lit 96, { cls := Value.type "function", data := Data.func { name := Str.ofString "figures_value", qualname := Str.ofString "figures_value", params := (defNr 19).1, body := FuncBody.stmts (defNr 19).2.1, scope := (defNr 19).2.2, globals := 3, closure := [], defaults := Value.none, kwdefaults := Value.none, pyModule := Value.str (Str.ofString "postcore.numbers") 254, code := Value.ref 95 } }) ::
  (nat_lit 97, { cls := Value.type "tuple", data := Data.seq #[] }) ::
  (nat_lit 99, { cls := Value.type "tuple", data := Data.seq #[Value.str (Str.ofString "octets") 326, Value.str (Str.ofString "at") 327, Value.str (Str.ofString "base") 328, Value.str (Str.ofString "found") 329] }) ::
  (nat_lit 100, { cls := Value.type "tuple", data := Data.seq #[] }) ::
  (nat_lit 102, { cls := Value.type "code", data := Data.fields #[Value.str (Str.ofString "read_radix") 323, Value.str (Str.ofString "read_radix") 324, Value.str (Str.ofString "/claim/cut.py") 325, Value.int 52 0, Value.int 2 0, Value.int 0 0, Value.int 0 0, Value.int 3 0, Value.ref 97, Value.bool true, Value.int 181 0, Value.ref 98, Value.none, Value.ref 99, Value.ref 100, Value.ref 101, Value.int 330 0, Value.int 52 0, Value.str (Str.ofString "/claim/cut.py") 331] }) ::
  (nat_lit 103, { cls := Value.type "function", data := Data.func { name := Str.ofString "read_radix", qualname := Str.ofString "read_radix", params := (defNr 20).1, body := FuncBody.stmts (defNr 20).2.1, scope := (defNr 20).2.2, globals := 3, closure := [], defaults := Value.none, kwdefaults := Value.none, pyModule := Value.str (Str.ofString "postcore.numbers") 254, code := Value.ref 102 } }) ::
  (nat_lit 104, { cls := Value.type "tuple", data := Data.seq #[] }) ::
  (nat_lit 106, { cls := Value.type "tuple", data := Data.seq #[Value.str (Str.ofString "number") 336, Value.str (Str.ofString "found") 337] }) ::
  (nat_lit 107, { cls := Value.type "tuple", data := Data.seq #[] }) ::
  (nat_lit 109, { cls := Value.type "code", data := Data.fields #[Value.str (Str.ofString "signed_word") 333, Value.str (Str.ofString "signed_word") 334, Value.str (Str.ofString "/claim/cut.py") 335, Value.int 62 0, Value.int 1 0, Value.int 0 0, Value.int 0 0, Value.int 3 0, Value.ref 104, Value.bool true, Value.int 181 0, Value.ref 105, Value.none, Value.ref 106, Value.ref 107, Value.ref 108, Value.int 338 0, Value.int 62 0, Value.str (Str.ofString "/claim/cut.py") 339] }) ::
  (nat_lit 110, { cls := Value.type "function", data := Data.func { name := Str.ofString "signed_word", qualname := Str.ofString "signed_word", params := (defNr 21).1, body := FuncBody.stmts (defNr 21).2.1, scope := (defNr 21).2.2, globals := 3, closure := [], defaults := Value.none, kwdefaults := Value.none, pyModule := Value.str (Str.ofString "postcore.numbers") 254, code := Value.ref 109 } }) ::
  (nat_lit 111, { cls := Value.type "tuple", data := Data.seq #[] }) ::
  (nat_lit 113, { cls := Value.type "tuple", data := Data.seq #[Value.str (Str.ofString "octets") 344, Value.str (Str.ofString "begin") 345, Value.str (Str.ofString "figures") 346, Value.str (Str.ofString "found") 347] }) ::
  (nat_lit 114, { cls := Value.type "tuple", data := Data.seq #[] }) ::
  (nat_lit 116, { cls := Value.type "code", data := Data.fields #[Value.str (Str.ofString "read_exponent") 341, Value.str (Str.ofString "read_exponent") 342, Value.str (Str.ofString "/claim/cut.py") 343, Value.int 65 0, Value.int 1 0, Value.int 0 0, Value.int 0 0, Value.int 3 0, Value.ref 111, Value.bool true, Value.int 181 0, Value.ref 112, Value.none, Value.ref 113, Value.ref 114, Value.ref 115, Value.int 348 0, Value.int 65 0, Value.str (Str.ofString "/claim/cut.py") 349] }) ::
  (nat_lit 117, { cls := Value.type "function", data := Data.func { name := Str.ofString "read_exponent", qualname := Str.ofString "read_exponent", params := (defNr 22).1, body := FuncBody.stmts (defNr 22).2.1, scope := (defNr 22).2.2, globals := 3, closure := [], defaults := Value.none, kwdefaults := Value.none, pyModule := Value.str (Str.ofString "postcore.numbers") 254, code := Value.ref 116 } }) ::
  (nat_lit 118, { cls := Value.type "tuple", data := Data.seq #[] }) ::
  (nat_lit 120, { cls := Value.type "tuple", data := Data.seq #[Value.str (Str.ofString "number") 354, Value.str (Str.ofString "tens") 355] }) ::
  (nat_lit 121, { cls := Value.type "tuple", data := Data.seq #[] }) ::
  (nat_lit 123, { cls := Value.type "code", data := Data.fields #[Value.str (Str.ofString "number_scaled") 351, Value.str (Str.ofString "number_scaled") 352, Value.str (Str.ofString "/claim/cut.py") 353, Value.int 73 0, Value.int 2 0, Value.int 0 0, Value.int 0 0, Value.int 3 0, Value.ref 118, Value.bool true, Value.int 181 0, Value.ref 119, Value.none, Value.ref 120, Value.ref 121, Value.ref 122, Value.int 356 0, Value.int 73 0, Value.str (Str.ofString "/claim/cut.py") 357] }) ::
  (nat_lit 124, { cls := Value.type "function", data := Data.func { name := Str.ofString "number_scaled", qualname := Str.ofString "number_scaled", params := (defNr 23).1, body := FuncBody.stmts (defNr 23).2.1, scope := (defNr 23).2.2, globals := 3, closure := [], defaults := Value.none, kwdefaults := Value.none, pyModule := Value.str (Str.ofString "postcore.numbers") 254, code := Value.ref 123 } }) ::
  (nat_lit 125, { cls := Value.type "tuple", data := Data.seq #[] }) ::
  (nat_lit 127, { cls := Value.type "tuple", data := Data.seq #[Value.str (Str.ofString "octets") 362, Value.str (Str.ofString "signs") 363, Value.str (Str.ofString "at") 364, Value.str (Str.ofString "octet") 365] }) ::
  (nat_lit 128, { cls := Value.type "tuple", data := Data.seq #[] }) ::
  (nat_lit 130, { cls := Value.type "code", data := Data.fields #[Value.str (Str.ofString "split_at") 359, Value.str (Str.ofString "split_at") 360, Value.str (Str.ofString "/claim/cut.py") 361, Value.int 83 0, Value.int 2 0, Value.int 0 0, Value.int 0 0, Value.int 3 0, Value.ref 125, Value.bool true, Value.int 181 0, Value.ref 126, Value.none, Value.ref 127, Value.ref 128, Value.ref 129, Value.int 366 0, Value.int 83 0, Value.str (Str.ofString "/claim/cut.py") 367] }) ::
  (nat_lit 131, { cls := Value.type "function", data := Data.func { name := Str.ofString "split_at", qualname := Str.ofString "split_at", params := (defNr 24).1, body := FuncBody.stmts (defNr 24).2.1, scope := (defNr 24).2.2, globals := 3, closure := [], defaults := Value.none, kwdefaults := Value.none, pyModule := Value.str (Str.ofString "postcore.numbers") 254, code := Value.ref 130 } }) ::
  (nat_lit 132, { cls := Value.type "tuple", data := Data.seq #[] }) ::
  (nat_lit 134, { cls := Value.type "tuple", data := Data.seq #[Value.str (Str.ofString "octets") 372, Value.str (Str.ofString "is_below") 373, Value.str (Str.ofString "figures") 374, Value.str (Str.ofString "exponent") 375, Value.str (Str.ofString "whole") 376, Value.str (Str.ofString "rest") 377, Value.str (Str.ofString "tens") 378, Value.str (Str.ofString "behind") 379, Value.str (Str.ofString "number") 380] }) ::
  (nat_lit 135, { cls := Value.type "tuple", data := Data.seq #[] }) ::
  (nat_lit 137, { cls := Value.type "code", data := Data.fields #[Value.str (Str.ofString "read_real") 369, Value.str (Str.ofString "read_real") 370, Value.str (Str.ofString "/claim/cut.py") 371, Value.int 88 0, Value.int 2 0, Value.int 0 0, Value.int 0 0, Value.int 3 0, Value.ref 132, Value.bool true, Value.int 181 0, Value.ref 133, Value.none, Value.ref 134, Value.ref 135, Value.ref 136, Value.int 381 0, Value.int 88 0, Value.str (Str.ofString "/claim/cut.py") 382] }) ::
  (nat_lit 138, { cls := Value.type "function", data := Data.func { name := Str.ofString "read_real", qualname := Str.ofString "read_real", params := (defNr 25).1, body := FuncBody.stmts (defNr 25).2.1, scope := (defNr 25).2.2, globals := 3, closure := [], defaults := Value.none, kwdefaults := Value.none, pyModule := Value.str (Str.ofString "postcore.numbers") 254, code := Value.ref 137 } }) ::
  (nat_lit 139, { cls := Value.type "tuple", data := Data.seq #[] }) ::
  (nat_lit 141, { cls := Value.type "tuple", data := Data.seq #[Value.str (Str.ofString "octets") 387, Value.str (Str.ofString "at") 388, Value.str (Str.ofString "octet") 389, Value.str (Str.ofString "begin") 390, Value.str (Str.ofString "is_below") 391, Value.str (Str.ofString "number") 392] }) ::
  (nat_lit 142, { cls := Value.type "tuple", data := Data.seq #[] }) ::
  (nat_lit 144, { cls := Value.type "code", data := Data.fields #[Value.str (Str.ofString "read_number") 384, Value.str (Str.ofString "read_number") 385, Value.str (Str.ofString "/claim/cut.py") 386, Value.int 99 0, Value.int 1 0, Value.int 0 0, Value.int 0 0, Value.int 3 0, Value.ref 139, Value.bool true, Value.int 181 0, Value.ref 140, Value.none, Value.ref 141, Value.ref 142, Value.ref 143, Value.int 393 0, Value.int 99 0, Value.str (Str.ofString "/claim/cut.py") 394] }) ::
  (nat_lit 145, { cls := Value.type "function", data := Data.func { name := Str.ofString "read_number", qualname := Str.ofString "read_number", params := (defNr 26).1, body := FuncBody.stmts (defNr 26).2.1, scope := (defNr 26).2.2, globals := 3, closure := [], defaults := Value.none, kwdefaults := Value.none, pyModule := Value.str (Str.ofString "postcore.numbers") 254, code := Value.ref 144 } }) ::
  (nat_lit 146, { cls := Value.type "tuple", data := Data.seq #[Value.bytes #[] 398, Value.bytes #[43] 399, Value.bytes #[45] 400, Value.bytes #[46] 401, Value.bytes #[101] 402, Value.bytes #[49, 101] 403, Value.bytes #[101, 53] 404, Value.bytes #[45, 45, 49] 405, Value.bytes #[49, 46, 50, 46, 51] 406, Value.bytes #[49, 101, 49, 46, 53] 407, Value.bytes #[49, 101, 43] 408, Value.bytes #[43, 46] 409, Value.bytes #[45, 46, 53] 410, Value.bytes #[53, 46] 411, Value.bytes #[43, 46, 53, 101, 50] 412, Value.bytes #[49, 54, 35] 413, Value.bytes #[35, 49] 414, Value.bytes #[45, 49, 54, 35, 70] 415, Value.bytes #[49, 35, 48] 416, Value.bytes #[51, 55, 35, 49] 417, Value.bytes #[48, 50, 35, 49] 418, Value.bytes #[48, 49, 54, 35, 70] 419, Value.bytes #[50, 35, 50] 420, Value.bytes #[51, 54, 35, 122, 90] 421, Value.bytes #[49, 101, 57, 57, 57] 422, Value.bytes #[49, 101, 45, 57, 57, 57] 423, Value.bytes #[48, 101, 57, 57, 57] 424, Value.bytes #[50, 49, 52, 55, 52, 56, 51, 54, 52, 55] 425, Value.bytes #[45, 50, 49, 52, 55, 52, 56, 51, 54, 52, 56] 426, Value.bytes #[50, 49, 52, 55, 52, 56, 51, 54, 52, 56] 427, Value.bytes #[49, 54, 35, 70, 70, 70, 70, 70, 70, 70, 70] 428, Value.bytes #[49, 54, 35, 49, 48, 48, 48, 48, 48, 48, 48, 48] 429, Value.bytes #[49, 32] 430, Value.bytes #[97] 431, Value.bytes #[48, 120, 49] 432] }) ::
  (nat_lit 147, { cls := Value.type "tuple", data := Data.seq #[] }) ::
  (nat_lit 150, { cls := Value.type "code", data := Data.fields #[Value.str (Str.ofString "_law_deck") 434, Value.str (Str.ofString "_law_deck") 435, Value.str (Str.ofString "/claim/cut.py") 436, Value.int 111 0, Value.int 1 0, Value.int 0 0, Value.int 0 0, Value.int 3 0, Value.ref 147, Value.bool true, Value.int 181 0, Value.ref 148, Value.none, Value.none, Value.none, Value.ref 149, Value.int 437 0, Value.int 111 0, Value.str (Str.ofString "/claim/cut.py") 438] }) ::
  (nat_lit 151, { cls := Value.type "function", data := Data.func { name := Str.ofString "_law_deck", qualname := Str.ofString "_law_deck", params := (defNr 29).1, body := FuncBody.stmts (defNr 29).2.1, scope := (defNr 29).2.2, globals := 3, closure := [], defaults := Value.none, kwdefaults := Value.none, pyModule := Value.str (Str.ofString "law_nt0488_01") 396, code := Value.ref 150 } }) ::
  (nat_lit 152, { cls := Value.type "tuple", data := Data.seq #[] }) ::
  (nat_lit 154, { cls := Value.type "tuple", data := Data.seq #[Value.str (Str.ofString "deck") 443, Value.str (Str.ofString "many") 444] }) ::
  (nat_lit 155, { cls := Value.type "tuple", data := Data.seq #[] }) ::
  (nat_lit 157, { cls := Value.type "code", data := Data.fields #[Value.str (Str.ofString "_law_draw") 440, Value.str (Str.ofString "_law_draw") 441, Value.str (Str.ofString "/claim/cut.py") 442, Value.int 116 0, Value.int 2 0, Value.int 0 0, Value.int 0 0, Value.int 3 0, Value.ref 152, Value.bool true, Value.int 181 0, Value.ref 153, Value.none, Value.ref 154, Value.ref 155, Value.ref 156, Value.int 445 0, Value.int 116 0, Value.str (Str.ofString "/claim/cut.py") 446] }) ::
  (nat_lit 158, { cls := Value.type "function", data := Data.func { name := Str.ofString "_law_draw", qualname := Str.ofString "_law_draw", params := (defNr 30).1, body := FuncBody.stmts (defNr 30).2.1, scope := (defNr 30).2.2, globals := 3, closure := [], defaults := Value.none, kwdefaults := Value.none, pyModule := Value.str (Str.ofString "law_nt0488_01") 396, code := Value.ref 157 } }) ::
  (nat_lit 159, { cls := Value.type "tuple", data := Data.seq #[] }) ::
  (nat_lit 162, { cls := Value.type "code", data := Data.fields #[Value.str (Str.ofString "_law_octets") 448, Value.str (Str.ofString "_law_octets") 449, Value.str (Str.ofString "/claim/cut.py") 450, Value.int 121 0, Value.int 1 0, Value.int 0 0, Value.int 0 0, Value.int 3 0, Value.ref 159, Value.bool true, Value.int 181 0, Value.ref 160, Value.none, Value.none, Value.none, Value.ref 161, Value.int 451 0, Value.int 121 0, Value.str (Str.ofString "/claim/cut.py") 452] }) ::
  (nat_lit 163, { cls := Value.type "function", data := Data.func { name := Str.ofString "_law_octets", qualname := Str.ofString "_law_octets", params := (defNr 31).1, body := FuncBody.stmts (defNr 31).2.1, scope := (defNr 31).2.2, globals := 3, closure := [], defaults := Value.none, kwdefaults := Value.none, pyModule := Value.str (Str.ofString "law_nt0488_01") 396, code := Value.ref 162 } }) ::
  (nat_lit 164, { cls := Value.type "tuple", data := Data.seq #[] }) ::
  (nat_lit 166, { cls := Value.type "tuple", data := Data.seq #[Value.str (Str.ofString "deck") 457, Value.str (Str.ofString "sign") 458, Value.str (Str.ofString "whole") 459, Value.str (Str.ofString "found") 460, Value.str (Str.ofString "way") 461, Value.str (Str.ofString "many") 462, Value.str (Str.ofString "rest") 463] }) ::
  (nat_lit 167, { cls := Value.type "tuple", data := Data.seq #[] }) ::
  (nat_lit 169, { cls := Value.type "code", data := Data.fields #[Value.str (Str.ofString "_law_plain") 454, Value.str (Str.ofString "_law_plain") 455, Value.str (Str.ofString "/claim/cut.py") 456, Value.int 123 0, Value.int 1 0, Value.int 0 0, Value.int 0 0, Value.int 3 0, Value.ref 164, Value.bool true, Value.int 181 0, Value.ref 165, Value.none, Value.ref 166, Value.ref 167, Value.ref 168, Value.int 464 0, Value.int 123 0, Value.str (Str.ofString "/claim/cut.py") 465] }) ::
  (nat_lit 170, { cls := Value.type "function", data := Data.func { name := Str.ofString "_law_plain", qualname := Str.ofString "_law_plain", params := (defNr 32).1, body := FuncBody.stmts (defNr 32).2.1, scope := (defNr 32).2.2, globals := 3, closure := [], defaults := Value.none, kwdefaults := Value.none, pyModule := Value.str (Str.ofString "law_nt0488_01") 396, code := Value.ref 169 } }) ::
  (nat_lit 171, { cls := Value.type "tuple", data := Data.seq #[] }) ::
  (nat_lit 173, { cls := Value.type "tuple", data := Data.seq #[Value.str (Str.ofString "deck") 470, Value.str (Str.ofString "base") 471, Value.str (Str.ofString "found") 472, Value.str (Str.ofString "turn") 473, Value.str (Str.ofString "place") 474] }) ::
  (nat_lit 174, { cls := Value.type "tuple", data := Data.seq #[] }) ::
  (nat_lit 176, { cls := Value.type "code", data := Data.fields #[Value.str (Str.ofString "_law_based") 467, Value.str (Str.ofString "_law_based") 468, Value.str (Str.ofString "/claim/cut.py") 469, Value.int 138 0, Value.int 1 0, Value.int 0 0, Value.int 0 0, Value.int 3 0, Value.ref 171, Value.bool true, Value.int 181 0, Value.ref 172, Value.none, Value.ref 173, Value.ref 174, Value.ref 175, Value.int 475 0, Value.int 138 0, Value.str (Str.ofString "/claim/cut.py") 476] }) ::
  (nat_lit 177, { cls := Value.type "function", data := Data.func { name := Str.ofString "_law_based", qualname := Str.ofString "_law_based", params := (defNr 33).1, body := FuncBody.stmts (defNr 33).2.1, scope := (defNr 33).2.2, globals := 3, closure := [], defaults := Value.none, kwdefaults := Value.none, pyModule := Value.str (Str.ofString "law_nt0488_01") 396, code := Value.ref 176 } }) ::
  (nat_lit 178, { cls := Value.type "tuple", data := Data.seq #[] }) ::
  (nat_lit 180, { cls := Value.type "tuple", data := Data.seq #[Value.str (Str.ofString "deck") 481, Value.str (Str.ofString "octets") 482, Value.str (Str.ofString "at") 483, Value.str (Str.ofString "way") 484, Value.str (Str.ofString "sign") 485] }) ::
  (nat_lit 181, { cls := Value.type "tuple", data := Data.seq #[] }) ::
  (nat_lit 183, { cls := Value.type "code", data := Data.fields #[Value.str (Str.ofString "_law_bent") 478, Value.str (Str.ofString "_law_bent") 479, Value.str (Str.ofString "/claim/cut.py") 480, Value.int 147 0, Value.int 2 0, Value.int 0 0, Value.int 0 0, Value.int 3 0, Value.ref 178, Value.bool true, Value.int 181 0, Value.ref 179, Value.none, Value.ref 180, Value.ref 181, Value.ref 182, Value.int 486 0, Value.int 147 0, Value.str (Str.ofString "/claim/cut.py") 487] }) ::
  (nat_lit 184, { cls := Value.type "function", data := Data.func { name := Str.ofString "_law_bent", qualname := Str.ofString "_law_bent", params := (defNr 34).1, body := FuncBody.stmts (defNr 34).2.1, scope := (defNr 34).2.2, globals := 3, closure := [], defaults := Value.none, kwdefaults := Value.none, pyModule := Value.str (Str.ofString "law_nt0488_01") 396, code := Value.ref 183 } }) ::
  (nat_lit 185, { cls := Value.type "tuple", data := Data.seq #[] }) ::
  (nat_lit 188, { cls := Value.type "code", data := Data.fields #[Value.str (Str.ofString "_law_figures") 489, Value.str (Str.ofString "_law_figures") 490, Value.str (Str.ofString "/claim/cut.py") 491, Value.int 153 0, Value.int 1 0, Value.int 0 0, Value.int 0 0, Value.int 3 0, Value.ref 185, Value.bool true, Value.int 181 0, Value.ref 186, Value.none, Value.none, Value.none, Value.ref 187, Value.int 492 0, Value.int 153 0, Value.str (Str.ofString "/claim/cut.py") 493] }) ::
  (nat_lit 189, { cls := Value.type "function", data := Data.func { name := Str.ofString "_law_figures", qualname := Str.ofString "_law_figures", params := (defNr 35).1, body := FuncBody.stmts (defNr 35).2.1, scope := (defNr 35).2.2, globals := 3, closure := [], defaults := Value.none, kwdefaults := Value.none, pyModule := Value.str (Str.ofString "law_nt0488_01") 396, code := Value.ref 188 } }) ::
  (nat_lit 190, { cls := Value.type "tuple", data := Data.seq #[] }) ::
  (nat_lit 192, { cls := Value.type "tuple", data := Data.seq #[Value.str (Str.ofString "octets") 498, Value.str (Str.ofString "near") 499, Value.str (Str.ofString "far") 500, Value.str (Str.ofString "base") 501, Value.str (Str.ofString "found") 502, Value.str (Str.ofString "sign") 503, Value.str (Str.ofString "place") 504] }) ::
  (nat_lit 193, { cls := Value.type "tuple", data := Data.seq #[] }) ::
  (nat_lit 195, { cls := Value.type "code", data := Data.fields #[Value.str (Str.ofString "_law_by_base") 495, Value.str (Str.ofString "_law_by_base") 496, Value.str (Str.ofString "/claim/cut.py") 497, Value.int 160 0, Value.int 1 0, Value.int 0 0, Value.int 0 0, Value.int 3 0, Value.ref 190, Value.bool true, Value.int 181 0, Value.ref 191, Value.none, Value.ref 192, Value.ref 193, Value.ref 194, Value.int 505 0, Value.int 160 0, Value.str (Str.ofString "/claim/cut.py") 506] }) ::
  (nat_lit 196, { cls := Value.type "function", data := Data.func { name := Str.ofString "_law_by_base", qualname := Str.ofString "_law_by_base", params := (defNr 36).1, body := FuncBody.stmts (defNr 36).2.1, scope := (defNr 36).2.2, globals := 3, closure := [], defaults := Value.none, kwdefaults := Value.none, pyModule := Value.str (Str.ofString "law_nt0488_01") 396, code := Value.ref 195 } }) ::
  (nat_lit 197, { cls := Value.type "tuple", data := Data.seq #[] }) ::
  (nat_lit 199, { cls := Value.type "tuple", data := Data.seq #[Value.str (Str.ofString "number") 511, Value.str (Str.ofString "tens") 512, Value.str (Str.ofString "sign") 513, Value.str (Str.ofString "value") 514] }) ::
  (nat_lit 200, { cls := Value.type "tuple", data := Data.seq #[] }) ::
  (nat_lit 202, { cls := Value.type "code", data := Data.fields #[Value.str (Str.ofString "_law_of_tens") 508, Value.str (Str.ofString "_law_of_tens") 509, Value.str (Str.ofString "/claim/cut.py") 510, Value.int 173 0, Value.int 3 0, Value.int 0 0, Value.int 0 0, Value.int 3 0, Value.ref 197, Value.bool true, Value.int 181 0, Value.ref 198, Value.none, Value.ref 199, Value.ref 200, Value.ref 201, Value.int 515 0, Value.int 173 0, Value.str (Str.ofString "/claim/cut.py") 516] }) ::
  (nat_lit 203, { cls := Value.type "function", data := Data.func { name := Str.ofString "_law_of_tens", qualname := Str.ofString "_law_of_tens", params := (defNr 37).1, body := FuncBody.stmts (defNr 37).2.1, scope := (defNr 37).2.2, globals := 3, closure := [], defaults := Value.none, kwdefaults := Value.none, pyModule := Value.str (Str.ofString "law_nt0488_01") 396, code := Value.ref 202 } }) ::
  (nat_lit 204, { cls := Value.type "tuple", data := Data.seq #[] }) ::
  (nat_lit 206, { cls := Value.type "tuple", data := Data.seq #[Value.str (Str.ofString "octets") 521, Value.str (Str.ofString "sign") 522, Value.str (Str.ofString "plain") 523, Value.str (Str.ofString "parts") 524, Value.str (Str.ofString "tens") 525, Value.str (Str.ofString "low") 526, Value.str (Str.ofString "some") 527, Value.str (Str.ofString "number") 528] }) ::
  (nat_lit 207, { cls := Value.type "tuple", data := Data.seq #[] }) ::
  (nat_lit 209, { cls := Value.type "code", data := Data.fields #[Value.str (Str.ofString "_law_due") 518, Value.str (Str.ofString "_law_due") 519, Value.str (Str.ofString "/claim/cut.py") 520, Value.int 181 0, Value.int 1 0, Value.int 0 0, Value.int 0 0, Value.int 3 0, Value.ref 204, Value.bool true, Value.int 181 0, Value.ref 205, Value.none, Value.ref 206, Value.ref 207, Value.ref 208, Value.int 529 0, Value.int 181 0, Value.str (Str.ofString "/claim/cut.py") 530] }) ::
  (nat_lit 210, { cls := Value.type "function", data := Data.func { name := Str.ofString "_law_due", qualname := Str.ofString "_law_due", params := (defNr 38).1, body := FuncBody.stmts (defNr 38).2.1, scope := (defNr 38).2.2, globals := 3, closure := [], defaults := Value.none, kwdefaults := Value.none, pyModule := Value.str (Str.ofString "law_nt0488_01") 396, code := Value.ref 209 } }) ::
  (nat_lit 211, { cls := Value.type "tuple", data := Data.seq #[] }) ::
  (nat_lit 213, { cls := Value.type "tuple", data := Data.seq #[Value.str (Str.ofString "octets") 535, Value.str (Str.ofString "found") 536, Value.str (Str.ofString "e") 537] }) ::
  (nat_lit 214, { cls := Value.type "tuple", data := Data.seq #[] }) ::
  (nat_lit 216, { cls := Value.type "code", data := Data.fields #[Value.str (Str.ofString "_law_told") 532, Value.str (Str.ofString "_law_told") 533, Value.str (Str.ofString "/claim/cut.py") 534, Value.int 203 0, Value.int 1 0, Value.int 0 0, Value.int 0 0, Value.int 3 0, Value.ref 211, Value.bool true, Value.int 181 0, Value.ref 212, Value.none, Value.ref 213, Value.ref 214, Value.ref 215, Value.int 538 0, Value.int 203 0, Value.str (Str.ofString "/claim/cut.py") 539] }) ::
  (nat_lit 217, { cls := Value.type "function", data := Data.func { name := Str.ofString "_law_told", qualname := Str.ofString "_law_told", params := (defNr 39).1, body := FuncBody.stmts (defNr 39).2.1, scope := (defNr 39).2.2, globals := 3, closure := [], defaults := Value.none, kwdefaults := Value.none, pyModule := Value.str (Str.ofString "law_nt0488_01") 396, code := Value.ref 216 } }) ::
  (nat_lit 218, { cls := Value.type "tuple", data := Data.seq #[] }) ::
  (nat_lit 220, { cls := Value.type "tuple", data := Data.seq #[Value.str (Str.ofString "script") 544, Value.str (Str.ofString "deck") 545, Value.str (Str.ofString "turn") 546, Value.str (Str.ofString "way") 547, Value.str (Str.ofString "octets") 548] }) ::
  (nat_lit 221, { cls := Value.type "tuple", data := Data.seq #[] }) ::
  (nat_lit 223, { cls := Value.type "code", data := Data.fields #[Value.str (Str.ofString "law") 541, Value.str (Str.ofString "law") 542, Value.str (Str.ofString "/claim/cut.py") 543, Value.int 210 0, Value.int 1 0, Value.int 0 0, Value.int 0 0, Value.int 3 0, Value.ref 218, Value.bool true, Value.int 181 0, Value.ref 219, Value.none, Value.ref 220, Value.ref 221, Value.ref 222, Value.int 549 0, Value.int 210 0, Value.str (Str.ofString "/claim/cut.py") 550] }) ::
  (nat_lit 224, { cls := Value.type "function", data := Data.func { name := Str.ofString "law", qualname := Str.ofString "law", params := (defNr 40).1, body := FuncBody.stmts (defNr 40).2.1, scope := (defNr 40).2.2, globals := 3, closure := [], defaults := Value.none, kwdefaults := Value.none, pyModule := Value.str (Str.ofString "law_nt0488_01") 396, code := Value.ref 223 } }) :: []
noncomputable def hd.fin (P : Params) : Heap := ⟨⟨
  PySem.W.boot_o_0 P ::
  PySem.W.boot_o_1 P ::
  { cls := Value.none, data := Data.dict #[{ hash := PyData.keyHash P (Str.ofString "type.__subclasses__.Exception.0"), key := Value.str (Str.ofString "type.__subclasses__.Exception.0") 227, val := Value.int 32 0 }, { hash := PyData.keyHash P (Str.ofString "type.__subclasses__.Exception.n"), key := Value.str (Str.ofString "type.__subclasses__.Exception.n") 228, val := Value.int 1 0 }] 2 } ::
  { cls := Value.type "dict", data := Data.dict #[{ hash := PyData.keyHash P (Str.ofString "__name__"), key := Value.str (Str.ofString "__name__") 165, val := Value.str (Str.ofString "law_nt0488_01") 396 }, { hash := PyData.keyHash P (Str.ofString "__doc__"), key := Value.str (Str.ofString "__doc__") 166, val := Value.none }, { hash := PyData.keyHash P (Str.ofString "__package__"), key := Value.str (Str.ofString "__package__") 167, val := Value.none }, { hash := PyData.keyHash P (Str.ofString "__loader__"), key := Value.str (Str.ofString "__loader__") 168, val := Value.builtin "__main__.__loader__#opaque" }, { hash := PyData.keyHash P (Str.ofString "__spec__"), key := Value.str (Str.ofString "__spec__") 169, val := Value.none }, { hash := PyData.keyHash P (Str.ofString "__annotations__"), key := Value.str (Str.ofString "__annotations__") 170, val := Value.ref 6 }, { hash := PyData.keyHash P (Str.ofString "__builtins__"), key := Value.str (Str.ofString "__builtins__") 171, val := Value.ref 4 }, { hash := PyData.keyHash P (Str.ofString "__file__"), key := Value.str (Str.ofString "__file__") 173, val := Value.str (Str.ofString "/claim/cut.py") 172 }, { hash := PyData.keyHash P (Str.ofString "__cached__"), key := Value.str (Str.ofString "__cached__") 174, val := Value.none }, { hash := PyData.keyHash P (Str.ofString "GRAIN"), key := Value.str (Str.ofString "GRAIN") 190, val := Value.int 1000000 189 }, { hash := PyData.keyHash P (Str.ofString "LEAST_INT"), key := Value.str (Str.ofString "LEAST_INT") 195, val := Value.int (-2147483648) 194 }, { hash := PyData.keyHash P (Str.ofString "MOST_INT"), key := Value.str (Str.ofString "MOST_INT") 201, val := Value.int 2147483647 200 }, { hash := PyData.keyHash P (Str.ofString "PostError"), key := Value.str (Str.ofString "PostError") 230, val := Value.ref 32 }, { hash := PyData.keyHash P (Str.ofString "PsError"), key := Value.str (Str.ofString "PsError") 246, val := Value.ref 45 }, { hash := PyData.keyHash P (Str.ofString "digit_value"), key := Value.str (Str.ofString "digit_value") 253, val := Value.ref 54 }, { hash := PyData.keyHash P (Str.ofString "INTEGER"), key := Value.str (Str.ofString "INTEGER") 257, val := Value.str (Str.ofString "integer") 256 }, { hash := PyData.keyHash P (Str.ofString "REAL"), key := Value.str (Str.ofString "REAL") 259, val := Value.str (Str.ofString "real") 258 }, { hash := PyData.keyHash P (Str.ofString "MOST_REAL"), key := Value.str (Str.ofString "MOST_REAL") 264, val := Value.int 1000000000000000000000 263 }, { hash := PyData.keyHash P (Str.ofString "PLACES"), key := Value.str (Str.ofString "PLACES") 266, val := Value.int 6 265 }, { hash := PyData.keyHash P (Str.ofString "WORD_SIZE"), key := Value.str (Str.ofString "WORD_SIZE") 270, val := Value.int 4294967296 269 }, { hash := PyData.keyHash P (Str.ofString "MOST_FIGURES"), key := Value.str (Str.ofString "MOST_FIGURES") 272, val := Value.int 6 271 }, { hash := PyData.keyHash P (Str.ofString "divided"), key := Value.str (Str.ofString "divided") 283, val := Value.ref 61 }, { hash := PyData.keyHash P (Str.ofString "is_integer_size"), key := Value.str (Str.ofString "is_integer_size") 290, val := Value.ref 68 }, { hash := PyData.keyHash P (Str.ofString "checked_real"), key := Value.str (Str.ofString "checked_real") 297, val := Value.ref 75 }, { hash := PyData.keyHash P (Str.ofString "real_of"), key := Value.str (Str.ofString "real_of") 304, val := Value.ref 82 }, { hash := PyData.keyHash P (Str.ofString "whole_number"), key := Value.str (Str.ofString "whole_number") 311, val := Value.ref 89 }, { hash := PyData.keyHash P (Str.ofString "figures_value"), key := Value.str (Str.ofString "figures_value") 322, val := Value.ref 96 }, { hash := PyData.keyHash P (Str.ofString "read_radix"), key := Value.str (Str.ofString "read_radix") 332, val := Value.ref 103 }, { hash := PyData.keyHash P (Str.ofString "signed_word"), key := Value.str (Str.ofString "signed_word") 340, val := Value.ref 110 }, { hash := PyData.keyHash P (Str.ofString "read_exponent"), key := Value.str (Str.ofString "read_exponent") 350, val := Value.ref 117 }, { hash := PyData.keyHash P (Str.ofString "number_scaled"), key := Value.str (Str.ofString "number_scaled") 358, val := Value.ref 124 }, { hash := PyData.keyHash P (Str.ofString "split_at"), key := Value.str (Str.ofString "split_at") 368, val := Value.ref 131 }, { hash := PyData.keyHash P (Str.ofString "read_real"), key := Value.str (Str.ofString "read_real") 383, val := Value.ref 138 }, { hash := PyData.keyHash P (Str.ofString "read_number"), key := Value.str (Str.ofString "read_number") 395, val := Value.ref 145 }, { hash := PyData.keyHash P (Str.ofString "_law_odd"), key := Value.str (Str.ofString "_law_odd") 433, val := Value.ref 146 }, { hash := PyData.keyHash P (Str.ofString "_law_deck"), key := Value.str (Str.ofString "_law_deck") 439, val := Value.ref 151 }, { hash := PyData.keyHash P (Str.ofString "_law_draw"), key := Value.str (Str.ofString "_law_draw") 447, val := Value.ref 158 }, { hash := PyData.keyHash P (Str.ofString "_law_octets"), key := Value.str (Str.ofString "_law_octets") 453, val := Value.ref 163 }, { hash := PyData.keyHash P (Str.ofString "_law_plain"), key := Value.str (Str.ofString "_law_plain") 466, val := Value.ref 170 }, { hash := PyData.keyHash P (Str.ofString "_law_based"), key := Value.str (Str.ofString "_law_based") 477, val := Value.ref 177 }, { hash := PyData.keyHash P (Str.ofString "_law_bent"), key := Value.str (Str.ofString "_law_bent") 488, val := Value.ref 184 }, { hash := PyData.keyHash P (Str.ofString "_law_figures"), key := Value.str (Str.ofString "_law_figures") 494, val := Value.ref 189 }, { hash := PyData.keyHash P (Str.ofString "_law_by_base"), key := Value.str (Str.ofString "_law_by_base") 507, val := Value.ref 196 }, { hash := PyData.keyHash P (Str.ofString "_law_of_tens"), key := Value.str (Str.ofString "_law_of_tens") 517, val := Value.ref 203 }, { hash := PyData.keyHash P (Str.ofString "_law_due"), key := Value.str (Str.ofString "_law_due") 531, val := Value.ref 210 }, { hash := PyData.keyHash P (Str.ofString "_law_told"), key := Value.str (Str.ofString "_law_told") 540, val := Value.ref 217 }, { hash := PyData.keyHash P (Str.ofString "law"), key := Value.str (Str.ofString "law") 551, val := Value.ref 224 }] 47 } ::
  PySem.W.boot_o_4 P ::
  PySem.W.boot_o_5 P ::
  PySem.W.boot_o_6 P ::
  PySem.W.boot_o_7 P ::
  PySem.W.boot_o_8 P ::
  PySem.W.boot_o_9 P ::
  PySem.W.boot_o_10 P ::
  { cls := Value.type "tuple", data := Data.seq #[] } ::
  { cls := Value.none, data := Data.fields #[Value.int 5 0, Value.int 0 0, Value.ref 20, Value.int 9 0, Value.int 0 0, Value.ref 41, Value.int 11 0, Value.int 0 0, Value.ref 53, Value.int 26 0, Value.int 0 0, Value.ref 60, Value.int 30 0, Value.int 0 0, Value.ref 67, Value.int 32 0, Value.int 0 0, Value.ref 74, Value.int 36 0, Value.int 0 0, Value.ref 81, Value.int 38 0, Value.int 0 0, Value.ref 88, Value.int 42 0, Value.int 0 0, Value.ref 95, Value.int 52 0, Value.int 0 0, Value.ref 102, Value.int 62 0, Value.int 0 0, Value.ref 109, Value.int 65 0, Value.int 0 0, Value.ref 116, Value.int 73 0, Value.int 0 0, Value.ref 123, Value.int 83 0, Value.int 0 0, Value.ref 130, Value.int 88 0, Value.int 0 0, Value.ref 137, Value.int 99 0, Value.int 0 0, Value.ref 144, Value.int 111 0, Value.int 0 0, Value.ref 150, Value.int 116 0, Value.int 0 0, Value.ref 157, Value.int 121 0, Value.int 0 0, Value.ref 162, Value.int 123 0, Value.int 0 0, Value.ref 169, Value.int 138 0, Value.int 0 0, Value.ref 176, Value.int 147 0, Value.int 0 0, Value.ref 183, Value.int 153 0, Value.int 0 0, Value.ref 188, Value.int 160 0, Value.int 0 0, Value.ref 195, Value.int 173 0, Value.int 0 0, Value.ref 202, Value.int 181 0, Value.int 0 0, Value.ref 209, Value.int 203 0, Value.int 0 0, Value.ref 216, Value.int 210 0, Value.int 0 0, Value.ref 223] } ::
  { cls := Value.type "code", data := Data.fields #[Value.str (Str.ofString "<module>") 182, Value.str (Str.ofString "<module>") 183, Value.str (Str.ofString "/claim/cut.py") 184, Value.int 1 0, Value.int 0 0, Value.int 0 0, Value.int 0 0, Value.int 0 0, Value.ref 11, Value.bool false, Value.int 181 0, Value.ref 12, Value.none, Value.none, Value.none, Value.none, Value.int 185 0, Value.int 1 0, Value.str (Str.ofString "/claim/cut.py") 186] } ::
  { cls := Value.type "frame", slots := #[some (Value.ref 13), some (Value.ref 3), some (Value.ref 3), none, some (Value.str (Str.ofString "__main__") 164), none, some (Value.ref 0)] } ::
  { cls := Value.type "tuple", data := Data.seq #[Value.type "Exception"] } ::
  { cls := Value.type "builtin_function_or_method", data := Data.fields #[Value.builtin "type.__prepare__", Value.type "type"] } ::
  { cls := Value.type "dict", data := Data.dict #[{ hash := PyData.keyHash P (Str.ofString "__module__"), key := Value.str (Str.ofString "__module__") 209, val := Value.str (Str.ofString "postcore.base") 187 }, { hash := PyData.keyHash P (Str.ofString "__qualname__"), key := Value.str (Str.ofString "__qualname__") 211, val := Value.str (Str.ofString "PostError") 210 }, { hash := PyData.keyHash P (Str.ofString "__firstlineno__"), key := Value.str (Str.ofString "__firstlineno__") 213, val := Value.int 5 212 }, { hash := PyData.keyHash P (Str.ofString "__init__"), key := Value.str (Str.ofString "__init__") 221, val := Value.ref 29 }, { hash := PyData.keyHash P (Str.ofString "__static_attributes__"), key := Value.str (Str.ofString "__static_attributes__") 223, val := Value.ref 30 }] 5 } ::
  { cls := Value.type "tuple", data := Data.seq #[] } ::
  { cls := Value.none, data := Data.fields #[Value.int 7 0, Value.int 4 0, Value.ref 28] } ::
  { cls := Value.type "code", data := Data.fields #[Value.str (Str.ofString "PostError") 204, Value.str (Str.ofString "PostError") 205, Value.str (Str.ofString "/claim/cut.py") 206, Value.int 5 0, Value.int 0 0, Value.int 0 0, Value.int 0 0, Value.int 0 0, Value.ref 18, Value.bool false, Value.int 181 0, Value.ref 19, Value.none, Value.none, Value.none, Value.none, Value.int 207 0, Value.int 5 0, Value.str (Str.ofString "/claim/cut.py") 208] } ::
  { cls := Value.type "frame", slots := #[some (Value.ref 20), some (Value.ref 3), some (Value.ref 17), none, some (Value.str (Str.ofString "postcore.base") 187), none, some (Value.ref 0)] } ::
  { cls := Value.type "tuple", data := Data.seq #[Value.none] } ::
  { cls := Value.type "tuple", data := Data.seq #[] } ::
  { cls := Value.none, data := Data.fields #[] } ::
  { cls := Value.type "tuple", data := Data.seq #[Value.str (Str.ofString "self") 217, Value.str (Str.ofString "told") 218] } ::
  { cls := Value.type "tuple", data := Data.seq #[] } ::
  { cls := Value.none, data := Data.func { name := Str.ofString "__init__", qualname := Str.ofString "PostError.__init__", params := (defWithin 4).1, body := FuncBody.stmts (defWithin 4).2.1, scope := (defWithin 4).2.2, globals := 0, closure := [], defaults := Value.none, kwdefaults := Value.none } } ::
  { cls := Value.type "code", data := Data.fields #[Value.str (Str.ofString "__init__") 214, Value.str (Str.ofString "PostError.__init__") 215, Value.str (Str.ofString "/claim/cut.py") 216, Value.int 7 0, Value.int 2 0, Value.int 0 0, Value.int 0 0, Value.int 3 0, Value.ref 23, Value.bool true, Value.int 181 0, Value.ref 24, Value.none, Value.ref 25, Value.ref 26, Value.ref 27, Value.int 219 0, Value.int 7 0, Value.str (Str.ofString "/claim/cut.py") 220] } ::
  { cls := Value.type "function", data := Data.func { name := Str.ofString "__init__", qualname := Str.ofString "PostError.__init__", params := (defWithin 4).1, body := FuncBody.stmts (defWithin 4).2.1, scope := (defWithin 4).2.2, globals := 3, closure := [], defaults := Value.ref 22, kwdefaults := Value.none, pyModule := Value.str (Str.ofString "postcore.base") 187, code := Value.ref 28 } } ::
  { cls := Value.type "tuple", data := Data.seq #[Value.str (Str.ofString "told") 222] } ::
  { cls := Value.type "dict", data := Data.dict #[{ hash := PyData.keyHash P (Str.ofString "__module__"), key := Value.str (Str.ofString "__module__") 209, val := Value.str (Str.ofString "postcore.base") 187 }, { hash := PyData.keyHash P (Str.ofString "__firstlineno__"), key := Value.str (Str.ofString "__firstlineno__") 213, val := Value.int 5 212 }, { hash := PyData.keyHash P (Str.ofString "__init__"), key := Value.str (Str.ofString "__init__") 221, val := Value.ref 29 }, { hash := PyData.keyHash P (Str.ofString "__static_attributes__"), key := Value.str (Str.ofString "__static_attributes__") 223, val := Value.ref 30 }, { hash := PyData.keyHash P (Str.ofString "__weakref__"), key := Value.str (Str.ofString "__weakref__") 225, val := Value.ref 33 }, { hash := PyData.keyHash P (Str.ofString "__doc__"), key := Value.str (Str.ofString "__doc__") 226, val := Value.none }] 3 } ::
  { cls := Value.type "type", data := Data.cls { name := Str.ofString "PostError", bases := [Value.type "Exception"], mro := [Value.ref 32, Value.type "Exception", Value.type "BaseException", Value.type "object"], ns := 31, qualname := Str.ofString "PostError", subclasses := [Value.ref 45] }, slots := #[some (Value.ref 15), none, some (Value.str (Str.ofString "PostError") 202), some (Value.str (Str.ofString "PostError") 210), some (Value.builtin "Exception.__new__"), some (Value.bool true)] } ::
  { cls := Value.type "getset_descriptor", data := Data.fields #[Value.str (Str.ofString "__weakref__") 224, Value.ref 32, Value.builtin "ExceptionGroup.__weakref__", Value.none] } ::
  { cls := Value.type "super", data := Data.fields #[Value.ref 32, Value.ref 32, Value.ref 32] } ::
  { cls := Value.type "builtin_function_or_method", data := Data.fields #[Value.builtin "object.__init_subclass__", Value.ref 32] } ::
  { cls := Value.type "tuple", data := Data.seq #[Value.ref 32] } ::
  { cls := Value.type "builtin_function_or_method", data := Data.fields #[Value.builtin "type.__prepare__", Value.type "type"] } ::
  { cls := Value.type "dict", data := Data.dict #[{ hash := PyData.keyHash P (Str.ofString "__module__"), key := Value.str (Str.ofString "__module__") 238, val := Value.str (Str.ofString "postcore.base") 187 }, { hash := PyData.keyHash P (Str.ofString "__qualname__"), key := Value.str (Str.ofString "__qualname__") 240, val := Value.str (Str.ofString "PsError") 239 }, { hash := PyData.keyHash P (Str.ofString "__firstlineno__"), key := Value.str (Str.ofString "__firstlineno__") 242, val := Value.int 9 241 }, { hash := PyData.keyHash P (Str.ofString "__static_attributes__"), key := Value.str (Str.ofString "__static_attributes__") 243, val := Value.ref 43 }] 4 } ::
  { cls := Value.type "tuple", data := Data.seq #[] } ::
  { cls := Value.none, data := Data.fields #[] } ::
  { cls := Value.type "code", data := Data.fields #[Value.str (Str.ofString "PsError") 233, Value.str (Str.ofString "PsError") 234, Value.str (Str.ofString "/claim/cut.py") 235, Value.int 9 0, Value.int 0 0, Value.int 0 0, Value.int 0 0, Value.int 0 0, Value.ref 39, Value.bool false, Value.int 181 0, Value.ref 40, Value.none, Value.none, Value.none, Value.none, Value.int 236 0, Value.int 9 0, Value.str (Str.ofString "/claim/cut.py") 237] } ::
  { cls := Value.type "frame", slots := #[some (Value.ref 41), some (Value.ref 3), some (Value.ref 38), none, some (Value.str (Str.ofString "postcore.base") 187), none, some (Value.ref 0)] } ::
  { cls := Value.type "tuple", data := Data.seq #[] } ::
  { cls := Value.type "dict", data := Data.dict #[{ hash := PyData.keyHash P (Str.ofString "__module__"), key := Value.str (Str.ofString "__module__") 238, val := Value.str (Str.ofString "postcore.base") 187 }, { hash := PyData.keyHash P (Str.ofString "__firstlineno__"), key := Value.str (Str.ofString "__firstlineno__") 242, val := Value.int 9 241 }, { hash := PyData.keyHash P (Str.ofString "__static_attributes__"), key := Value.str (Str.ofString "__static_attributes__") 243, val := Value.ref 43 }, { hash := PyData.keyHash P (Str.ofString "__doc__"), key := Value.str (Str.ofString "__doc__") 244, val := Value.none }] 2 } ::
  { cls := Value.type "type", data := Data.cls { name := Str.ofString "PsError", bases := [Value.ref 32], mro := [Value.ref 45, Value.ref 32, Value.type "Exception", Value.type "BaseException", Value.type "object"], ns := 44, qualname := Str.ofString "PsError" }, slots := #[some (Value.ref 36), none, some (Value.str (Str.ofString "PsError") 231), some (Value.str (Str.ofString "PsError") 239), some (Value.builtin "Exception.__new__"), some (Value.bool true)] } ::
  { cls := Value.type "super", data := Data.fields #[Value.ref 45, Value.ref 45, Value.ref 45] } ::
  { cls := Value.type "builtin_function_or_method", data := Data.fields #[Value.builtin "object.__init_subclass__", Value.ref 45] } ::
  { cls := Value.type "tuple", data := Data.seq #[] } ::
  { cls := Value.none, data := Data.fields #[] } ::
  { cls := Value.type "tuple", data := Data.seq #[Value.str (Str.ofString "octet") 250] } ::
  { cls := Value.type "tuple", data := Data.seq #[] } ::
  { cls := Value.none, data := Data.func { name := Str.ofString "digit_value", qualname := Str.ofString "digit_value", params := (defNr 6).1, body := FuncBody.stmts (defNr 6).2.1, scope := (defNr 6).2.2, globals := 0, closure := [], defaults := Value.none, kwdefaults := Value.none } } ::
  { cls := Value.type "code", data := Data.fields #[Value.str (Str.ofString "digit_value") 247, Value.str (Str.ofString "digit_value") 248, Value.str (Str.ofString "/claim/cut.py") 249, Value.int 11 0, Value.int 1 0, Value.int 0 0, Value.int 0 0, Value.int 3 0, Value.ref 48, Value.bool true, Value.int 181 0, Value.ref 49, Value.none, Value.ref 50, Value.ref 51, Value.ref 52, Value.int 251 0, Value.int 11 0, Value.str (Str.ofString "/claim/cut.py") 252] } ::
  { cls := Value.type "function", data := Data.func { name := Str.ofString "digit_value", qualname := Str.ofString "digit_value", params := (defNr 6).1, body := FuncBody.stmts (defNr 6).2.1, scope := (defNr 6).2.2, globals := 3, closure := [], defaults := Value.none, kwdefaults := Value.none, pyModule := Value.str (Str.ofString "postcore.base") 187, code := Value.ref 53 } } ::
  { cls := Value.type "tuple", data := Data.seq #[] } ::
  { cls := Value.none, data := Data.fields #[] } ::
  { cls := Value.type "tuple", data := Data.seq #[Value.str (Str.ofString "number") 276, Value.str (Str.ofString "by") 277, Value.str (Str.ofString "size") 278, Value.str (Str.ofString "parts") 279, Value.str (Str.ofString "found") 280] } ::
  { cls := Value.type "tuple", data := Data.seq #[] } ::
  { cls := Value.none, data := Data.func { name := Str.ofString "divided", qualname := Str.ofString "divided", params := (defNr 14).1, body := FuncBody.stmts (defNr 14).2.1, scope := (defNr 14).2.2, globals := 0, closure := [], defaults := Value.none, kwdefaults := Value.none } } ::
  { cls := Value.type "code", data := Data.fields #[Value.str (Str.ofString "divided") 273, Value.str (Str.ofString "divided") 274, Value.str (Str.ofString "/claim/cut.py") 275, Value.int 26 0, Value.int 2 0, Value.int 0 0, Value.int 0 0, Value.int 3 0, Value.ref 55, Value.bool true, Value.int 181 0, Value.ref 56, Value.none, Value.ref 57, Value.ref 58, Value.ref 59, Value.int 281 0, Value.int 26 0, Value.str (Str.ofString "/claim/cut.py") 282] } ::
  { cls := Value.type "function", data := Data.func { name := Str.ofString "divided", qualname := Str.ofString "divided", params := (defNr 14).1, body := FuncBody.stmts (defNr 14).2.1, scope := (defNr 14).2.2, globals := 3, closure := [], defaults := Value.none, kwdefaults := Value.none, pyModule := Value.str (Str.ofString "postcore.numbers") 254, code := Value.ref 60 } } ::
  { cls := Value.type "tuple", data := Data.seq #[] } ::
  { cls := Value.none, data := Data.fields #[] } ::
  { cls := Value.type "tuple", data := Data.seq #[Value.str (Str.ofString "number") 287] } ::
  { cls := Value.type "tuple", data := Data.seq #[] } ::
  { cls := Value.none, data := Data.func { name := Str.ofString "is_integer_size", qualname := Str.ofString "is_integer_size", params := (defNr 15).1, body := FuncBody.stmts (defNr 15).2.1, scope := (defNr 15).2.2, globals := 0, closure := [], defaults := Value.none, kwdefaults := Value.none } } ::
  { cls := Value.type "code", data := Data.fields #[Value.str (Str.ofString "is_integer_size") 284, Value.str (Str.ofString "is_integer_size") 285, Value.str (Str.ofString "/claim/cut.py") 286, Value.int 30 0, Value.int 1 0, Value.int 0 0, Value.int 0 0, Value.int 3 0, Value.ref 62, Value.bool true, Value.int 181 0, Value.ref 63, Value.none, Value.ref 64, Value.ref 65, Value.ref 66, Value.int 288 0, Value.int 30 0, Value.str (Str.ofString "/claim/cut.py") 289] } ::
  { cls := Value.type "function", data := Data.func { name := Str.ofString "is_integer_size", qualname := Str.ofString "is_integer_size", params := (defNr 15).1, body := FuncBody.stmts (defNr 15).2.1, scope := (defNr 15).2.2, globals := 3, closure := [], defaults := Value.none, kwdefaults := Value.none, pyModule := Value.str (Str.ofString "postcore.numbers") 254, code := Value.ref 67 } } ::
  { cls := Value.type "tuple", data := Data.seq #[] } ::
  { cls := Value.none, data := Data.fields #[] } ::
  { cls := Value.type "tuple", data := Data.seq #[Value.str (Str.ofString "millionths") 294] } ::
  { cls := Value.type "tuple", data := Data.seq #[] } ::
  { cls := Value.none, data := Data.func { name := Str.ofString "checked_real", qualname := Str.ofString "checked_real", params := (defNr 16).1, body := FuncBody.stmts (defNr 16).2.1, scope := (defNr 16).2.2, globals := 0, closure := [], defaults := Value.none, kwdefaults := Value.none } } ::
  { cls := Value.type "code", data := Data.fields #[Value.str (Str.ofString "checked_real") 291, Value.str (Str.ofString "checked_real") 292, Value.str (Str.ofString "/claim/cut.py") 293, Value.int 32 0, Value.int 1 0, Value.int 0 0, Value.int 0 0, Value.int 3 0, Value.ref 69, Value.bool true, Value.int 181 0, Value.ref 70, Value.none, Value.ref 71, Value.ref 72, Value.ref 73, Value.int 295 0, Value.int 32 0, Value.str (Str.ofString "/claim/cut.py") 296] } ::
  { cls := Value.type "function", data := Data.func { name := Str.ofString "checked_real", qualname := Str.ofString "checked_real", params := (defNr 16).1, body := FuncBody.stmts (defNr 16).2.1, scope := (defNr 16).2.2, globals := 3, closure := [], defaults := Value.none, kwdefaults := Value.none, pyModule := Value.str (Str.ofString "postcore.numbers") 254, code := Value.ref 74 } } ::
  { cls := Value.type "tuple", data := Data.seq #[] } ::
  { cls := Value.none, data := Data.fields #[] } ::
  { cls := Value.type "tuple", data := Data.seq #[Value.str (Str.ofString "number") 301] } ::
  { cls := Value.type "tuple", data := Data.seq #[] } ::
  { cls := Value.none, data := Data.func { name := Str.ofString "real_of", qualname := Str.ofString "real_of", params := (defNr 17).1, body := FuncBody.stmts (defNr 17).2.1, scope := (defNr 17).2.2, globals := 0, closure := [], defaults := Value.none, kwdefaults := Value.none } } ::
  { cls := Value.type "code", data := Data.fields #[Value.str (Str.ofString "real_of") 298, Value.str (Str.ofString "real_of") 299, Value.str (Str.ofString "/claim/cut.py") 300, Value.int 36 0, Value.int 1 0, Value.int 0 0, Value.int 0 0, Value.int 3 0, Value.ref 76, Value.bool true, Value.int 181 0, Value.ref 77, Value.none, Value.ref 78, Value.ref 79, Value.ref 80, Value.int 302 0, Value.int 36 0, Value.str (Str.ofString "/claim/cut.py") 303] } ::
  { cls := Value.type "function", data := Data.func { name := Str.ofString "real_of", qualname := Str.ofString "real_of", params := (defNr 17).1, body := FuncBody.stmts (defNr 17).2.1, scope := (defNr 17).2.2, globals := 3, closure := [], defaults := Value.none, kwdefaults := Value.none, pyModule := Value.str (Str.ofString "postcore.numbers") 254, code := Value.ref 81 } } ::
  { cls := Value.type "tuple", data := Data.seq #[] } ::
  { cls := Value.none, data := Data.fields #[] } ::
  { cls := Value.type "tuple", data := Data.seq #[Value.str (Str.ofString "number") 308] } ::
  { cls := Value.type "tuple", data := Data.seq #[] } ::
  { cls := Value.none, data := Data.func { name := Str.ofString "whole_number", qualname := Str.ofString "whole_number", params := (defNr 18).1, body := FuncBody.stmts (defNr 18).2.1, scope := (defNr 18).2.2, globals := 0, closure := [], defaults := Value.none, kwdefaults := Value.none } } ::
  { cls := Value.type "code", data := Data.fields #[Value.str (Str.ofString "whole_number") 305, Value.str (Str.ofString "whole_number") 306, Value.str (Str.ofString "/claim/cut.py") 307, Value.int 38 0, Value.int 1 0, Value.int 0 0, Value.int 0 0, Value.int 3 0, Value.ref 83, Value.bool true, Value.int 181 0, Value.ref 84, Value.none, Value.ref 85, Value.ref 86, Value.ref 87, Value.int 309 0, Value.int 38 0, Value.str (Str.ofString "/claim/cut.py") 310] } ::
  { cls := Value.type "function", data := Data.func { name := Str.ofString "whole_number", qualname := Str.ofString "whole_number", params := (defNr 18).1, body := FuncBody.stmts (defNr 18).2.1, scope := (defNr 18).2.2, globals := 3, closure := [], defaults := Value.none, kwdefaults := Value.none, pyModule := Value.str (Str.ofString "postcore.numbers") 254, code := Value.ref 88 } } ::
  { cls := Value.type "tuple", data := Data.seq #[] } ::
  { cls := Value.none, data := Data.fields #[] } ::
  { cls := Value.type "tuple", data := Data.seq #[Value.str (Str.ofString "octets") 315, Value.str (Str.ofString "base") 316, Value.str (Str.ofString "found") 317, Value.str (Str.ofString "octet") 318, Value.str (Str.ofString "figure") 319] } ::
  { cls := Value.type "tuple", data := Data.seq #[] } ::
  { cls := Value.none, data := Data.func { name := Str.ofString "figures_value", qualname := Str.ofString "figures_value", params := (defNr 19).1, body := FuncBody.stmts (defNr 19).2.1, scope := (defNr 19).2.2, globals := 0, closure := [], defaults := Value.none, kwdefaults := Value.none } } ::
  { cls := Value.type "code", data := Data.fields #[Value.str (Str.ofString "figures_value") 312, Value.str (Str.ofString "figures_value") 313, Value.str (Str.ofString "/claim/cut.py") 314, Value.int 42 0, Value.int 2 0, Value.int 0 0, Value.int 0 0, Value.int 3 0, Value.ref 90, Value.bool true, Value.int 181 0, Value.ref 91, Value.none, Value.ref 92, Value.ref 93, Value.ref 94, Value.int 320 0, Value.int 42 0, Value.str (Str.ofString "/claim/cut.py") 321] } ::
  { cls := Value.type "function", data := Data.func { name := Str.ofString "figures_value", qualname := Str.ofString "figures_value", params := (defNr 19).1, body := FuncBody.stmts (defNr 19).2.1, scope := (defNr 19).2.2, globals := 3, closure := [], defaults := Value.none, kwdefaults := Value.none, pyModule := Value.str (Str.ofString "postcore.numbers") 254, code := Value.ref 95 } } ::
  { cls := Value.type "tuple", data := Data.seq #[] } ::
  { cls := Value.none, data := Data.fields #[] } ::
  { cls := Value.type "tuple", data := Data.seq #[Value.str (Str.ofString "octets") 326, Value.str (Str.ofString "at") 327, Value.str (Str.ofString "base") 328, Value.str (Str.ofString "found") 329] } ::
  { cls := Value.type "tuple", data := Data.seq #[] } ::
  { cls := Value.none, data := Data.func { name := Str.ofString "read_radix", qualname := Str.ofString "read_radix", params := (defNr 20).1, body := FuncBody.stmts (defNr 20).2.1, scope := (defNr 20).2.2, globals := 0, closure := [], defaults := Value.none, kwdefaults := Value.none } } ::
  { cls := Value.type "code", data := Data.fields #[Value.str (Str.ofString "read_radix") 323, Value.str (Str.ofString "read_radix") 324, Value.str (Str.ofString "/claim/cut.py") 325, Value.int 52 0, Value.int 2 0, Value.int 0 0, Value.int 0 0, Value.int 3 0, Value.ref 97, Value.bool true, Value.int 181 0, Value.ref 98, Value.none, Value.ref 99, Value.ref 100, Value.ref 101, Value.int 330 0, Value.int 52 0, Value.str (Str.ofString "/claim/cut.py") 331] } ::
  { cls := Value.type "function", data := Data.func { name := Str.ofString "read_radix", qualname := Str.ofString "read_radix", params := (defNr 20).1, body := FuncBody.stmts (defNr 20).2.1, scope := (defNr 20).2.2, globals := 3, closure := [], defaults := Value.none, kwdefaults := Value.none, pyModule := Value.str (Str.ofString "postcore.numbers") 254, code := Value.ref 102 } } ::
  { cls := Value.type "tuple", data := Data.seq #[] } ::
  { cls := Value.none, data := Data.fields #[] } ::
  { cls := Value.type "tuple", data := Data.seq #[Value.str (Str.ofString "number") 336, Value.str (Str.ofString "found") 337] } ::
  { cls := Value.type "tuple", data := Data.seq #[] } ::
  { cls := Value.none, data := Data.func { name := Str.ofString "signed_word", qualname := Str.ofString "signed_word", params := (defNr 21).1, body := FuncBody.stmts (defNr 21).2.1, scope := (defNr 21).2.2, globals := 0, closure := [], defaults := Value.none, kwdefaults := Value.none } } ::
  { cls := Value.type "code", data := Data.fields #[Value.str (Str.ofString "signed_word") 333, Value.str (Str.ofString "signed_word") 334, Value.str (Str.ofString "/claim/cut.py") 335, Value.int 62 0, Value.int 1 0, Value.int 0 0, Value.int 0 0, Value.int 3 0, Value.ref 104, Value.bool true, Value.int 181 0, Value.ref 105, Value.none, Value.ref 106, Value.ref 107, Value.ref 108, Value.int 338 0, Value.int 62 0, Value.str (Str.ofString "/claim/cut.py") 339] } ::
  { cls := Value.type "function", data := Data.func { name := Str.ofString "signed_word", qualname := Str.ofString "signed_word", params := (defNr 21).1, body := FuncBody.stmts (defNr 21).2.1, scope := (defNr 21).2.2, globals := 3, closure := [], defaults := Value.none, kwdefaults := Value.none, pyModule := Value.str (Str.ofString "postcore.numbers") 254, code := Value.ref 109 } } ::
  { cls := Value.type "tuple", data := Data.seq #[] } ::
  { cls := Value.none, data := Data.fields #[] } ::
  { cls := Value.type "tuple", data := Data.seq #[Value.str (Str.ofString "octets") 344, Value.str (Str.ofString "begin") 345, Value.str (Str.ofString "figures") 346, Value.str (Str.ofString "found") 347] } ::
  { cls := Value.type "tuple", data := Data.seq #[] } ::
  { cls := Value.none, data := Data.func { name := Str.ofString "read_exponent", qualname := Str.ofString "read_exponent", params := (defNr 22).1, body := FuncBody.stmts (defNr 22).2.1, scope := (defNr 22).2.2, globals := 0, closure := [], defaults := Value.none, kwdefaults := Value.none } } ::
  { cls := Value.type "code", data := Data.fields #[Value.str (Str.ofString "read_exponent") 341, Value.str (Str.ofString "read_exponent") 342, Value.str (Str.ofString "/claim/cut.py") 343, Value.int 65 0, Value.int 1 0, Value.int 0 0, Value.int 0 0, Value.int 3 0, Value.ref 111, Value.bool true, Value.int 181 0, Value.ref 112, Value.none, Value.ref 113, Value.ref 114, Value.ref 115, Value.int 348 0, Value.int 65 0, Value.str (Str.ofString "/claim/cut.py") 349] } ::
  { cls := Value.type "function", data := Data.func { name := Str.ofString "read_exponent", qualname := Str.ofString "read_exponent", params := (defNr 22).1, body := FuncBody.stmts (defNr 22).2.1, scope := (defNr 22).2.2, globals := 3, closure := [], defaults := Value.none, kwdefaults := Value.none, pyModule := Value.str (Str.ofString "postcore.numbers") 254, code := Value.ref 116 } } ::
  { cls := Value.type "tuple", data := Data.seq #[] } ::
  { cls := Value.none, data := Data.fields #[] } ::
  { cls := Value.type "tuple", data := Data.seq #[Value.str (Str.ofString "number") 354, Value.str (Str.ofString "tens") 355] } ::
  { cls := Value.type "tuple", data := Data.seq #[] } ::
  { cls := Value.none, data := Data.func { name := Str.ofString "number_scaled", qualname := Str.ofString "number_scaled", params := (defNr 23).1, body := FuncBody.stmts (defNr 23).2.1, scope := (defNr 23).2.2, globals := 0, closure := [], defaults := Value.none, kwdefaults := Value.none } } ::
  { cls := Value.type "code", data := Data.fields #[Value.str (Str.ofString "number_scaled") 351, Value.str (Str.ofString "number_scaled") 352, Value.str (Str.ofString "/claim/cut.py") 353, Value.int 73 0, Value.int 2 0, Value.int 0 0, Value.int 0 0, Value.int 3 0, Value.ref 118, Value.bool true, Value.int 181 0, Value.ref 119, Value.none, Value.ref 120, Value.ref 121, Value.ref 122, Value.int 356 0, Value.int 73 0, Value.str (Str.ofString "/claim/cut.py") 357] } ::
  { cls := Value.type "function", data := Data.func { name := Str.ofString "number_scaled", qualname := Str.ofString "number_scaled", params := (defNr 23).1, body := FuncBody.stmts (defNr 23).2.1, scope := (defNr 23).2.2, globals := 3, closure := [], defaults := Value.none, kwdefaults := Value.none, pyModule := Value.str (Str.ofString "postcore.numbers") 254, code := Value.ref 123 } } ::
  { cls := Value.type "tuple", data := Data.seq #[] } ::
  { cls := Value.none, data := Data.fields #[] } ::
  { cls := Value.type "tuple", data := Data.seq #[Value.str (Str.ofString "octets") 362, Value.str (Str.ofString "signs") 363, Value.str (Str.ofString "at") 364, Value.str (Str.ofString "octet") 365] } ::
  { cls := Value.type "tuple", data := Data.seq #[] } ::
  { cls := Value.none, data := Data.func { name := Str.ofString "split_at", qualname := Str.ofString "split_at", params := (defNr 24).1, body := FuncBody.stmts (defNr 24).2.1, scope := (defNr 24).2.2, globals := 0, closure := [], defaults := Value.none, kwdefaults := Value.none } } ::
  { cls := Value.type "code", data := Data.fields #[Value.str (Str.ofString "split_at") 359, Value.str (Str.ofString "split_at") 360, Value.str (Str.ofString "/claim/cut.py") 361, Value.int 83 0, Value.int 2 0, Value.int 0 0, Value.int 0 0, Value.int 3 0, Value.ref 125, Value.bool true, Value.int 181 0, Value.ref 126, Value.none, Value.ref 127, Value.ref 128, Value.ref 129, Value.int 366 0, Value.int 83 0, Value.str (Str.ofString "/claim/cut.py") 367] } ::
  { cls := Value.type "function", data := Data.func { name := Str.ofString "split_at", qualname := Str.ofString "split_at", params := (defNr 24).1, body := FuncBody.stmts (defNr 24).2.1, scope := (defNr 24).2.2, globals := 3, closure := [], defaults := Value.none, kwdefaults := Value.none, pyModule := Value.str (Str.ofString "postcore.numbers") 254, code := Value.ref 130 } } ::
  { cls := Value.type "tuple", data := Data.seq #[] } ::
  { cls := Value.none, data := Data.fields #[] } ::
  { cls := Value.type "tuple", data := Data.seq #[Value.str (Str.ofString "octets") 372, Value.str (Str.ofString "is_below") 373, Value.str (Str.ofString "figures") 374, Value.str (Str.ofString "exponent") 375, Value.str (Str.ofString "whole") 376, Value.str (Str.ofString "rest") 377, Value.str (Str.ofString "tens") 378, Value.str (Str.ofString "behind") 379, Value.str (Str.ofString "number") 380] } ::
  { cls := Value.type "tuple", data := Data.seq #[] } ::
  { cls := Value.none, data := Data.func { name := Str.ofString "read_real", qualname := Str.ofString "read_real", params := (defNr 25).1, body := FuncBody.stmts (defNr 25).2.1, scope := (defNr 25).2.2, globals := 0, closure := [], defaults := Value.none, kwdefaults := Value.none } } ::
  { cls := Value.type "code", data := Data.fields #[Value.str (Str.ofString "read_real") 369, Value.str (Str.ofString "read_real") 370, Value.str (Str.ofString "/claim/cut.py") 371, Value.int 88 0, Value.int 2 0, Value.int 0 0, Value.int 0 0, Value.int 3 0, Value.ref 132, Value.bool true, Value.int 181 0, Value.ref 133, Value.none, Value.ref 134, Value.ref 135, Value.ref 136, Value.int 381 0, Value.int 88 0, Value.str (Str.ofString "/claim/cut.py") 382] } ::
  { cls := Value.type "function", data := Data.func { name := Str.ofString "read_real", qualname := Str.ofString "read_real", params := (defNr 25).1, body := FuncBody.stmts (defNr 25).2.1, scope := (defNr 25).2.2, globals := 3, closure := [], defaults := Value.none, kwdefaults := Value.none, pyModule := Value.str (Str.ofString "postcore.numbers") 254, code := Value.ref 137 } } ::
  { cls := Value.type "tuple", data := Data.seq #[] } ::
  { cls := Value.none, data := Data.fields #[] } ::
  { cls := Value.type "tuple", data := Data.seq #[Value.str (Str.ofString "octets") 387, Value.str (Str.ofString "at") 388, Value.str (Str.ofString "octet") 389, Value.str (Str.ofString "begin") 390, Value.str (Str.ofString "is_below") 391, Value.str (Str.ofString "number") 392] } ::
  { cls := Value.type "tuple", data := Data.seq #[] } ::
  { cls := Value.none, data := Data.func { name := Str.ofString "read_number", qualname := Str.ofString "read_number", params := (defNr 26).1, body := FuncBody.stmts (defNr 26).2.1, scope := (defNr 26).2.2, globals := 0, closure := [], defaults := Value.none, kwdefaults := Value.none } } ::
  { cls := Value.type "code", data := Data.fields #[Value.str (Str.ofString "read_number") 384, Value.str (Str.ofString "read_number") 385, Value.str (Str.ofString "/claim/cut.py") 386, Value.int 99 0, Value.int 1 0, Value.int 0 0, Value.int 0 0, Value.int 3 0, Value.ref 139, Value.bool true, Value.int 181 0, Value.ref 140, Value.none, Value.ref 141, Value.ref 142, Value.ref 143, Value.int 393 0, Value.int 99 0, Value.str (Str.ofString "/claim/cut.py") 394] } ::
  { cls := Value.type "function", data := Data.func { name := Str.ofString "read_number", qualname := Str.ofString "read_number", params := (defNr 26).1, body := FuncBody.stmts (defNr 26).2.1, scope := (defNr 26).2.2, globals := 3, closure := [], defaults := Value.none, kwdefaults := Value.none, pyModule := Value.str (Str.ofString "postcore.numbers") 254, code := Value.ref 144 } } ::
  { cls := Value.type "tuple", data := Data.seq #[Value.bytes #[] 398, Value.bytes #[43] 399, Value.bytes #[45] 400, Value.bytes #[46] 401, Value.bytes #[101] 402, Value.bytes #[49, 101] 403, Value.bytes #[101, 53] 404, Value.bytes #[45, 45, 49] 405, Value.bytes #[49, 46, 50, 46, 51] 406, Value.bytes #[49, 101, 49, 46, 53] 407, Value.bytes #[49, 101, 43] 408, Value.bytes #[43, 46] 409, Value.bytes #[45, 46, 53] 410, Value.bytes #[53, 46] 411, Value.bytes #[43, 46, 53, 101, 50] 412, Value.bytes #[49, 54, 35] 413, Value.bytes #[35, 49] 414, Value.bytes #[45, 49, 54, 35, 70] 415, Value.bytes #[49, 35, 48] 416, Value.bytes #[51, 55, 35, 49] 417, Value.bytes #[48, 50, 35, 49] 418, Value.bytes #[48, 49, 54, 35, 70] 419, Value.bytes #[50, 35, 50] 420, Value.bytes #[51, 54, 35, 122, 90] 421, Value.bytes #[49, 101, 57, 57, 57] 422, Value.bytes #[49, 101, 45, 57, 57, 57] 423, Value.bytes #[48, 101, 57, 57, 57] 424, Value.bytes #[50, 49, 52, 55, 52, 56, 51, 54, 52, 55] 425, Value.bytes #[45, 50, 49, 52, 55, 52, 56, 51, 54, 52, 56] 426, Value.bytes #[50, 49, 52, 55, 52, 56, 51, 54, 52, 56] 427, Value.bytes #[49, 54, 35, 70, 70, 70, 70, 70, 70, 70, 70] 428, Value.bytes #[49, 54, 35, 49, 48, 48, 48, 48, 48, 48, 48, 48] 429, Value.bytes #[49, 32] 430, Value.bytes #[97] 431, Value.bytes #[48, 120, 49] 432] } ::
  { cls := Value.type "tuple", data := Data.seq #[] } ::
  { cls := Value.none, data := Data.fields #[] } ::
  { cls := Value.none, data := Data.func { name := Str.ofString "_law_deck", qualname := Str.ofString "_law_deck", params := (defNr 29).1, body := FuncBody.stmts (defNr 29).2.1, scope := (defNr 29).2.2, globals := 0, closure := [], defaults := Value.none, kwdefaults := Value.none } } ::
  { cls := Value.type "code", data := Data.fields #[Value.str (Str.ofString "_law_deck") 434, Value.str (Str.ofString "_law_deck") 435, Value.str (Str.ofString "/claim/cut.py") 436, Value.int 111 0, Value.int 1 0, Value.int 0 0, Value.int 0 0, Value.int 3 0, Value.ref 147, Value.bool true, Value.int 181 0, Value.ref 148, Value.none, Value.none, Value.none, Value.ref 149, Value.int 437 0, Value.int 111 0, Value.str (Str.ofString "/claim/cut.py") 438] } ::
  { cls := Value.type "function", data := Data.func { name := Str.ofString "_law_deck", qualname := Str.ofString "_law_deck", params := (defNr 29).1, body := FuncBody.stmts (defNr 29).2.1, scope := (defNr 29).2.2, globals := 3, closure := [], defaults := Value.none, kwdefaults := Value.none, pyModule := Value.str (Str.ofString "law_nt0488_01") 396, code := Value.ref 150 } } ::
  { cls := Value.type "tuple", data := Data.seq #[] } ::
  { cls := Value.none, data := Data.fields #[] } ::
  { cls := Value.type "tuple", data := Data.seq #[Value.str (Str.ofString "deck") 443, Value.str (Str.ofString "many") 444] } ::
  { cls := Value.type "tuple", data := Data.seq #[] } ::
  { cls := Value.none, data := Data.func { name := Str.ofString "_law_draw", qualname := Str.ofString "_law_draw", params := (defNr 30).1, body := FuncBody.stmts (defNr 30).2.1, scope := (defNr 30).2.2, globals := 0, closure := [], defaults := Value.none, kwdefaults := Value.none } } ::
  { cls := Value.type "code", data := Data.fields #[Value.str (Str.ofString "_law_draw") 440, Value.str (Str.ofString "_law_draw") 441, Value.str (Str.ofString "/claim/cut.py") 442, Value.int 116 0, Value.int 2 0, Value.int 0 0, Value.int 0 0, Value.int 3 0, Value.ref 152, Value.bool true, Value.int 181 0, Value.ref 153, Value.none, Value.ref 154, Value.ref 155, Value.ref 156, Value.int 445 0, Value.int 116 0, Value.str (Str.ofString "/claim/cut.py") 446] } ::
  { cls := Value.type "function", data := Data.func { name := Str.ofString "_law_draw", qualname := Str.ofString "_law_draw", params := (defNr 30).1, body := FuncBody.stmts (defNr 30).2.1, scope := (defNr 30).2.2, globals := 3, closure := [], defaults := Value.none, kwdefaults := Value.none, pyModule := Value.str (Str.ofString "law_nt0488_01") 396, code := Value.ref 157 } } ::
  { cls := Value.type "tuple", data := Data.seq #[] } ::
  { cls := Value.none, data := Data.fields #[] } ::
  { cls := Value.none, data := Data.func { name := Str.ofString "_law_octets", qualname := Str.ofString "_law_octets", params := (defNr 31).1, body := FuncBody.stmts (defNr 31).2.1, scope := (defNr 31).2.2, globals := 0, closure := [], defaults := Value.none, kwdefaults := Value.none } } ::
  { cls := Value.type "code", data := Data.fields #[Value.str (Str.ofString "_law_octets") 448, Value.str (Str.ofString "_law_octets") 449, Value.str (Str.ofString "/claim/cut.py") 450, Value.int 121 0, Value.int 1 0, Value.int 0 0, Value.int 0 0, Value.int 3 0, Value.ref 159, Value.bool true, Value.int 181 0, Value.ref 160, Value.none, Value.none, Value.none, Value.ref 161, Value.int 451 0, Value.int 121 0, Value.str (Str.ofString "/claim/cut.py") 452] } ::
  { cls := Value.type "function", data := Data.func { name := Str.ofString "_law_octets", qualname := Str.ofString "_law_octets", params := (defNr 31).1, body := FuncBody.stmts (defNr 31).2.1, scope := (defNr 31).2.2, globals := 3, closure := [], defaults := Value.none, kwdefaults := Value.none, pyModule := Value.str (Str.ofString "law_nt0488_01") 396, code := Value.ref 162 } } ::
  { cls := Value.type "tuple", data := Data.seq #[] } ::
  { cls := Value.none, data := Data.fields #[] } ::
  { cls := Value.type "tuple", data := Data.seq #[Value.str (Str.ofString "deck") 457, Value.str (Str.ofString "sign") 458, Value.str (Str.ofString "whole") 459, Value.str (Str.ofString "found") 460, Value.str (Str.ofString "way") 461, Value.str (Str.ofString "many") 462, Value.str (Str.ofString "rest") 463] } ::
  { cls := Value.type "tuple", data := Data.seq #[] } ::
  { cls := Value.none, data := Data.func { name := Str.ofString "_law_plain", qualname := Str.ofString "_law_plain", params := (defNr 32).1, body := FuncBody.stmts (defNr 32).2.1, scope := (defNr 32).2.2, globals := 0, closure := [], defaults := Value.none, kwdefaults := Value.none } } ::
  { cls := Value.type "code", data := Data.fields #[Value.str (Str.ofString "_law_plain") 454, Value.str (Str.ofString "_law_plain") 455, Value.str (Str.ofString "/claim/cut.py") 456, Value.int 123 0, Value.int 1 0, Value.int 0 0, Value.int 0 0, Value.int 3 0, Value.ref 164, Value.bool true, Value.int 181 0, Value.ref 165, Value.none, Value.ref 166, Value.ref 167, Value.ref 168, Value.int 464 0, Value.int 123 0, Value.str (Str.ofString "/claim/cut.py") 465] } ::
  { cls := Value.type "function", data := Data.func { name := Str.ofString "_law_plain", qualname := Str.ofString "_law_plain", params := (defNr 32).1, body := FuncBody.stmts (defNr 32).2.1, scope := (defNr 32).2.2, globals := 3, closure := [], defaults := Value.none, kwdefaults := Value.none, pyModule := Value.str (Str.ofString "law_nt0488_01") 396, code := Value.ref 169 } } ::
  { cls := Value.type "tuple", data := Data.seq #[] } ::
  { cls := Value.none, data := Data.fields #[] } ::
  { cls := Value.type "tuple", data := Data.seq #[Value.str (Str.ofString "deck") 470, Value.str (Str.ofString "base") 471, Value.str (Str.ofString "found") 472, Value.str (Str.ofString "turn") 473, Value.str (Str.ofString "place") 474] } ::
  { cls := Value.type "tuple", data := Data.seq #[] } ::
  { cls := Value.none, data := Data.func { name := Str.ofString "_law_based", qualname := Str.ofString "_law_based", params := (defNr 33).1, body := FuncBody.stmts (defNr 33).2.1, scope := (defNr 33).2.2, globals := 0, closure := [], defaults := Value.none, kwdefaults := Value.none } } ::
  { cls := Value.type "code", data := Data.fields #[Value.str (Str.ofString "_law_based") 467, Value.str (Str.ofString "_law_based") 468, Value.str (Str.ofString "/claim/cut.py") 469, Value.int 138 0, Value.int 1 0, Value.int 0 0, Value.int 0 0, Value.int 3 0, Value.ref 171, Value.bool true, Value.int 181 0, Value.ref 172, Value.none, Value.ref 173, Value.ref 174, Value.ref 175, Value.int 475 0, Value.int 138 0, Value.str (Str.ofString "/claim/cut.py") 476] } ::
  { cls := Value.type "function", data := Data.func { name := Str.ofString "_law_based", qualname := Str.ofString "_law_based", params := (defNr 33).1, body := FuncBody.stmts (defNr 33).2.1, scope := (defNr 33).2.2, globals := 3, closure := [], defaults := Value.none, kwdefaults := Value.none, pyModule := Value.str (Str.ofString "law_nt0488_01") 396, code := Value.ref 176 } } ::
  { cls := Value.type "tuple", data := Data.seq #[] } ::
  { cls := Value.none, data := Data.fields #[] } ::
  { cls := Value.type "tuple", data := Data.seq #[Value.str (Str.ofString "deck") 481, Value.str (Str.ofString "octets") 482, Value.str (Str.ofString "at") 483, Value.str (Str.ofString "way") 484, Value.str (Str.ofString "sign") 485] } ::
  { cls := Value.type "tuple", data := Data.seq #[] } ::
  { cls := Value.none, data := Data.func { name := Str.ofString "_law_bent", qualname := Str.ofString "_law_bent", params := (defNr 34).1, body := FuncBody.stmts (defNr 34).2.1, scope := (defNr 34).2.2, globals := 0, closure := [], defaults := Value.none, kwdefaults := Value.none } } ::
  { cls := Value.type "code", data := Data.fields #[Value.str (Str.ofString "_law_bent") 478, Value.str (Str.ofString "_law_bent") 479, Value.str (Str.ofString "/claim/cut.py") 480, Value.int 147 0, Value.int 2 0, Value.int 0 0, Value.int 0 0, Value.int 3 0, Value.ref 178, Value.bool true, Value.int 181 0, Value.ref 179, Value.none, Value.ref 180, Value.ref 181, Value.ref 182, Value.int 486 0, Value.int 147 0, Value.str (Str.ofString "/claim/cut.py") 487] } ::
  { cls := Value.type "function", data := Data.func { name := Str.ofString "_law_bent", qualname := Str.ofString "_law_bent", params := (defNr 34).1, body := FuncBody.stmts (defNr 34).2.1, scope := (defNr 34).2.2, globals := 3, closure := [], defaults := Value.none, kwdefaults := Value.none, pyModule := Value.str (Str.ofString "law_nt0488_01") 396, code := Value.ref 183 } } ::
  { cls := Value.type "tuple", data := Data.seq #[] } ::
  { cls := Value.none, data := Data.fields #[] } ::
  { cls := Value.none, data := Data.func { name := Str.ofString "_law_figures", qualname := Str.ofString "_law_figures", params := (defNr 35).1, body := FuncBody.stmts (defNr 35).2.1, scope := (defNr 35).2.2, globals := 0, closure := [], defaults := Value.none, kwdefaults := Value.none } } ::
  { cls := Value.type "code", data := Data.fields #[Value.str (Str.ofString "_law_figures") 489, Value.str (Str.ofString "_law_figures") 490, Value.str (Str.ofString "/claim/cut.py") 491, Value.int 153 0, Value.int 1 0, Value.int 0 0, Value.int 0 0, Value.int 3 0, Value.ref 185, Value.bool true, Value.int 181 0, Value.ref 186, Value.none, Value.none, Value.none, Value.ref 187, Value.int 492 0, Value.int 153 0, Value.str (Str.ofString "/claim/cut.py") 493] } ::
  { cls := Value.type "function", data := Data.func { name := Str.ofString "_law_figures", qualname := Str.ofString "_law_figures", params := (defNr 35).1, body := FuncBody.stmts (defNr 35).2.1, scope := (defNr 35).2.2, globals := 3, closure := [], defaults := Value.none, kwdefaults := Value.none, pyModule := Value.str (Str.ofString "law_nt0488_01") 396, code := Value.ref 188 } } ::
  { cls := Value.type "tuple", data := Data.seq #[] } ::
  { cls := Value.none, data := Data.fields #[] } ::
  { cls := Value.type "tuple", data := Data.seq #[Value.str (Str.ofString "octets") 498, Value.str (Str.ofString "near") 499, Value.str (Str.ofString "far") 500, Value.str (Str.ofString "base") 501, Value.str (Str.ofString "found") 502, Value.str (Str.ofString "sign") 503, Value.str (Str.ofString "place") 504] } ::
  { cls := Value.type "tuple", data := Data.seq #[] } ::
  { cls := Value.none, data := Data.func { name := Str.ofString "_law_by_base", qualname := Str.ofString "_law_by_base", params := (defNr 36).1, body := FuncBody.stmts (defNr 36).2.1, scope := (defNr 36).2.2, globals := 0, closure := [], defaults := Value.none, kwdefaults := Value.none } } ::
  { cls := Value.type "code", data := Data.fields #[Value.str (Str.ofString "_law_by_base") 495, Value.str (Str.ofString "_law_by_base") 496, Value.str (Str.ofString "/claim/cut.py") 497, Value.int 160 0, Value.int 1 0, Value.int 0 0, Value.int 0 0, Value.int 3 0, Value.ref 190, Value.bool true, Value.int 181 0, Value.ref 191, Value.none, Value.ref 192, Value.ref 193, Value.ref 194, Value.int 505 0, Value.int 160 0, Value.str (Str.ofString "/claim/cut.py") 506] } ::
  { cls := Value.type "function", data := Data.func { name := Str.ofString "_law_by_base", qualname := Str.ofString "_law_by_base", params := (defNr 36).1, body := FuncBody.stmts (defNr 36).2.1, scope := (defNr 36).2.2, globals := 3, closure := [], defaults := Value.none, kwdefaults := Value.none, pyModule := Value.str (Str.ofString "law_nt0488_01") 396, code := Value.ref 195 } } ::
  { cls := Value.type "tuple", data := Data.seq #[] } ::
  { cls := Value.none, data := Data.fields #[] } ::
  { cls := Value.type "tuple", data := Data.seq #[Value.str (Str.ofString "number") 511, Value.str (Str.ofString "tens") 512, Value.str (Str.ofString "sign") 513, Value.str (Str.ofString "value") 514] } ::
  { cls := Value.type "tuple", data := Data.seq #[] } ::
  { cls := Value.none, data := Data.func { name := Str.ofString "_law_of_tens", qualname := Str.ofString "_law_of_tens", params := (defNr 37).1, body := FuncBody.stmts (defNr 37).2.1, scope := (defNr 37).2.2, globals := 0, closure := [], defaults := Value.none, kwdefaults := Value.none } } ::
  { cls := Value.type "code", data := Data.fields #[Value.str (Str.ofString "_law_of_tens") 508, Value.str (Str.ofString "_law_of_tens") 509, Value.str (Str.ofString "/claim/cut.py") 510, Value.int 173 0, Value.int 3 0, Value.int 0 0, Value.int 0 0, Value.int 3 0, Value.ref 197, Value.bool true, Value.int 181 0, Value.ref 198, Value.none, Value.ref 199, Value.ref 200, Value.ref 201, Value.int 515 0, Value.int 173 0, Value.str (Str.ofString "/claim/cut.py") 516] } ::
  { cls := Value.type "function", data := Data.func { name := Str.ofString "_law_of_tens", qualname := Str.ofString "_law_of_tens", params := (defNr 37).1, body := FuncBody.stmts (defNr 37).2.1, scope := (defNr 37).2.2, globals := 3, closure := [], defaults := Value.none, kwdefaults := Value.none, pyModule := Value.str (Str.ofString "law_nt0488_01") 396, code := Value.ref 202 } } ::
  { cls := Value.type "tuple", data := Data.seq #[] } ::
  { cls := Value.none, data := Data.fields #[] } ::
  { cls := Value.type "tuple", data := Data.seq #[Value.str (Str.ofString "octets") 521, Value.str (Str.ofString "sign") 522, Value.str (Str.ofString "plain") 523, Value.str (Str.ofString "parts") 524, Value.str (Str.ofString "tens") 525, Value.str (Str.ofString "low") 526, Value.str (Str.ofString "some") 527, Value.str (Str.ofString "number") 528] } ::
  { cls := Value.type "tuple", data := Data.seq #[] } ::
  { cls := Value.none, data := Data.func { name := Str.ofString "_law_due", qualname := Str.ofString "_law_due", params := (defNr 38).1, body := FuncBody.stmts (defNr 38).2.1, scope := (defNr 38).2.2, globals := 0, closure := [], defaults := Value.none, kwdefaults := Value.none } } ::
  { cls := Value.type "code", data := Data.fields #[Value.str (Str.ofString "_law_due") 518, Value.str (Str.ofString "_law_due") 519, Value.str (Str.ofString "/claim/cut.py") 520, Value.int 181 0, Value.int 1 0, Value.int 0 0, Value.int 0 0, Value.int 3 0, Value.ref 204, Value.bool true, Value.int 181 0, Value.ref 205, Value.none, Value.ref 206, Value.ref 207, Value.ref 208, Value.int 529 0, Value.int 181 0, Value.str (Str.ofString "/claim/cut.py") 530] } ::
  { cls := Value.type "function", data := Data.func { name := Str.ofString "_law_due", qualname := Str.ofString "_law_due", params := (defNr 38).1, body := FuncBody.stmts (defNr 38).2.1, scope := (defNr 38).2.2, globals := 3, closure := [], defaults := Value.none, kwdefaults := Value.none, pyModule := Value.str (Str.ofString "law_nt0488_01") 396, code := Value.ref 209 } } ::
  { cls := Value.type "tuple", data := Data.seq #[] } ::
  { cls := Value.none, data := Data.fields #[] } ::
  { cls := Value.type "tuple", data := Data.seq #[Value.str (Str.ofString "octets") 535, Value.str (Str.ofString "found") 536, Value.str (Str.ofString "e") 537] } ::
  { cls := Value.type "tuple", data := Data.seq #[] } ::
  { cls := Value.none, data := Data.func { name := Str.ofString "_law_told", qualname := Str.ofString "_law_told", params := (defNr 39).1, body := FuncBody.stmts (defNr 39).2.1, scope := (defNr 39).2.2, globals := 0, closure := [], defaults := Value.none, kwdefaults := Value.none } } ::
  { cls := Value.type "code", data := Data.fields #[Value.str (Str.ofString "_law_told") 532, Value.str (Str.ofString "_law_told") 533, Value.str (Str.ofString "/claim/cut.py") 534, Value.int 203 0, Value.int 1 0, Value.int 0 0, Value.int 0 0, Value.int 3 0, Value.ref 211, Value.bool true, Value.int 181 0, Value.ref 212, Value.none, Value.ref 213, Value.ref 214, Value.ref 215, Value.int 538 0, Value.int 203 0, Value.str (Str.ofString "/claim/cut.py") 539] } ::
  { cls := Value.type "function", data := Data.func { name := Str.ofString "_law_told", qualname := Str.ofString "_law_told", params := (defNr 39).1, body := FuncBody.stmts (defNr 39).2.1, scope := (defNr 39).2.2, globals := 3, closure := [], defaults := Value.none, kwdefaults := Value.none, pyModule := Value.str (Str.ofString "law_nt0488_01") 396, code := Value.ref 216 } } ::
  { cls := Value.type "tuple", data := Data.seq #[] } ::
  { cls := Value.none, data := Data.fields #[] } ::
  { cls := Value.type "tuple", data := Data.seq #[Value.str (Str.ofString "script") 544, Value.str (Str.ofString "deck") 545, Value.str (Str.ofString "turn") 546, Value.str (Str.ofString "way") 547, Value.str (Str.ofString "octets") 548] } ::
  { cls := Value.type "tuple", data := Data.seq #[] } ::
  { cls := Value.none, data := Data.func { name := Str.ofString "law", qualname := Str.ofString "law", params := (defNr 40).1, body := FuncBody.stmts (defNr 40).2.1, scope := (defNr 40).2.2, globals := 0, closure := [], defaults := Value.none, kwdefaults := Value.none } } ::
  { cls := Value.type "code", data := Data.fields #[Value.str (Str.ofString "law") 541, Value.str (Str.ofString "law") 542, Value.str (Str.ofString "/claim/cut.py") 543, Value.int 210 0, Value.int 1 0, Value.int 0 0, Value.int 0 0, Value.int 3 0, Value.ref 218, Value.bool true, Value.int 181 0, Value.ref 219, Value.none, Value.ref 220, Value.ref 221, Value.ref 222, Value.int 549 0, Value.int 210 0, Value.str (Str.ofString "/claim/cut.py") 550] } ::
  { cls := Value.type "function", data := Data.func { name := Str.ofString "law", qualname := Str.ofString "law", params := (defNr 40).1, body := FuncBody.stmts (defNr 40).2.1, scope := (defNr 40).2.2, globals := 3, closure := [], defaults := Value.none, kwdefaults := Value.none, pyModule := Value.str (Str.ofString "law_nt0488_01") 396, code := Value.ref 223 } } :: []⟩, {}⟩
noncomputable def hd.view_39 : Program := view hd.prog [1, 2, 3, 4, 5, 6, 8, 9, 10, 11, 12, 13, 14, 15, 16, 17, 18, 19, 20, 21, 22, 23, 24, 25, 26, 28, 29, 30, 31, 32, 33, 34, 35, 36, 37, 38, 39, 40]
noncomputable def hd.ads : List Addr := nat_lit 2 :: nat_lit 3 :: nat_lit 15 :: nat_lit 22 :: nat_lit 23 :: nat_lit 25 :: nat_lit 26 :: nat_lit 28 :: nat_lit 29 :: nat_lit 30 :: nat_lit 31 :: nat_lit 32 :: nat_lit 33 :: nat_lit 36 :: nat_lit 43 :: nat_lit 44 :: nat_lit 45 :: nat_lit 48 :: nat_lit 50 :: nat_lit 51 :: nat_lit 53 :: nat_lit 54 :: nat_lit 55 :: nat_lit 57 :: nat_lit 58 :: nat_lit 60 :: nat_lit 61 :: nat_lit 62 :: nat_lit 64 :: nat_lit 65 :: nat_lit 67 :: nat_lit 68 :: nat_lit 69 :: nat_lit 71 :: nat_lit 72 :: nat_lit 74 :: nat_lit 75 :: nat_lit 76 :: nat_lit 78 :: nat_lit 79 :: nat_lit 81 :: nat_lit 82 :: nat_lit 83 :: nat_lit 85 :: nat_lit 86 :: nat_lit 88 :: nat_lit 89 :: nat_lit 90 :: nat_lit 92 :: nat_lit 93 :: nat_lit 95 :: nat_lit 96 :: nat_lit 97 :: nat_lit 99 :: nat_lit 100 :: nat_lit 102 :: nat_lit 103 :: nat_lit 104 :: nat_lit 106 :: nat_lit 107 :: nat_lit 109 :: nat_lit 110 :: nat_lit 111 :: nat_lit 113 :: nat_lit 114 :: nat_lit 116 :: nat_lit 117 :: nat_lit 118 :: nat_lit 120 :: nat_lit 121 :: nat_lit 123 :: nat_lit 124 :: nat_lit 125 :: nat_lit 127 :: nat_lit 128 :: nat_lit 130 :: nat_lit 131 :: nat_lit 132 :: nat_lit 134 :: nat_lit 135 :: nat_lit 137 :: nat_lit 138 :: nat_lit 139 :: nat_lit 141 :: nat_lit 142 :: nat_lit 144 :: nat_lit 145 :: nat_lit 146 :: nat_lit 147 :: nat_lit 150 :: nat_lit 151 :: nat_lit 152 :: nat_lit 154 :: nat_lit 155 :: nat_lit 157 :: nat_lit 158 :: nat_lit 159 :: nat_lit 162 :: nat_lit 163 :: nat_lit 164 :: nat_lit 166 :: nat_lit 167 :: nat_lit 169 :: nat_lit 170 :: nat_lit 171 :: nat_lit 173 :: nat_lit 174 :: nat_lit 176 :: nat_lit 177 :: nat_lit 178 :: nat_lit 180 :: nat_lit 181 :: nat_lit 183 :: nat_lit 184 :: nat_lit 185 :: nat_lit 188 :: nat_lit 189 :: nat_lit 190 :: nat_lit 192 :: nat_lit 193 :: nat_lit 195 :: nat_lit 196 :: nat_lit 197 :: nat_lit 199 :: nat_lit 200 :: nat_lit 202 :: nat_lit 203 :: nat_lit 204 :: nat_lit 206 :: nat_lit 207 :: nat_lit 209 :: nat_lit 210 :: nat_lit 211 :: nat_lit 213 :: nat_lit 214 :: nat_lit 216 :: nat_lit 217 :: nat_lit 218 :: nat_lit 220 :: nat_lit 221 :: nat_lit 223 :: nat_lit 224 :: []
theorem hd.keys : ∀ P, hd.ads = (hd.heap_39 P).map (·.1) := fun _ => by kernel_rfl
abbrev hd.loose : List Str := [Str.ofString "LEAST_INT", Str.ofString "MOST_INT", Str.ofString "PostError", Str.ofString "MOST_REAL", Str.ofString "WORD_SIZE"]
abbrev hd.lv : List (Str × WData) := [(Str.ofString "LEAST_INT", WData.int (-2147483648)), (Str.ofString "MOST_INT", WData.int 2147483647), (Str.ofString "MOST_REAL", WData.int 1000000000000000000000), (Str.ofString "WORD_SIZE", WData.int 4294967296)]
noncomputable abbrev hd.seen (s : Shared) : Bool := xlAt hd.view_39 hd.lv s && recOk PySem.Challenge.rw_nt0488_01.row.records s
noncomputable abbrev hd.hook : Hook := kHook hd.heap_39 hd.ads hd.keys
theorem hd.opens : opening hd.prog = plainProg hd.prog.main.scope.names := by kernel_rfl
theorem hd.size : ∀ w : World, ((boot_heap w.params).isNs mainGlobals && (Array.mk [] : Array GenState).size == 0, (boot_heap w.params).objs.size, (boot_heap w.params).nsMap mainGlobals "__annotations__") = (true, 11, some (Value.ref 6)) := fun w => by kernel_rfl
theorem hd.run1 : ∀ (w : World) (os : OsState), PySem.W.Fast.tw14082659384304107361 PySem.W.Fast.tw14364793385576792824 hd.prog w 11 (some (Value.ref 6)) 1471 ⟨boot_heap w.params, Array.mk [], boot_drawn, boot_toks, os⟩ (topStub hd.prog) = some ⟨hd.fin w.params, Array.mk [], {}, 552, os⟩ := fun w os => by kernel_rfl
theorem hd.run : ∀ (w : World) (os : OsState), topRun treeTable hd.prog w 11 (some (Value.ref 6)) 1471 ⟨boot_heap w.params, Array.mk [], boot_drawn, boot_toks, os⟩ (topStub hd.prog) = some ⟨hd.fin w.params, Array.mk [], {}, 552, os⟩ := by
  rw [PySem.W.Fast.te14082659384304107361, PySem.W.Fast.te14364793385576792824]
  exact hd.run1
theorem hd.looks1 : ∀ w : World, (fun os : OsState => (staticsOk (importedModules hd.prog.main.body) (boot_heap w.params) (hd.fin w.params) && namesBound hd.prog (hd.fin w.params) && gensDone ⟨hd.fin w.params, Array.mk [], {}, 552, os⟩ && laidKept (boot_heap w.params) (hd.fin w.params))) = fun _ => true := fun w => by kernel_rfl
theorem hd.looks2 : ∀ w : World, (fun os : OsState => openSeen hd.view_39 hd.loose (importedModules hd.prog.main.body) hd.seen true ⟨hd.fin w.params, Array.mk [], {}, 552, os⟩) = fun _ => openGood hd.view_39 hd.loose := fun w => by kernel_rfl
theorem hd.looks3 : ∀ w : World, (fun os : OsState => hd.hook.obs ⟨hd.fin w.params, Array.mk [], {}, 552, os⟩) = fun _ => hd.hook.val w := fun w => by kernel_rfl
theorem hd.left : LeftO hd.prog hd.view_39 hd.loose hd.seen hd.hook.obs hd.hook.val 3028 :=
  LeftO.of_pieces (H₀ := boot_heap) (H₁ := hd.fin) (boot_open hd.opens rfl (fun _ => rfl)) hd.size hd.run rfl fun w => funext fun os =>
    Prod.ext (congrFun (hd.looks1 w) os) (Prod.ext (congrFun (hd.looks2 w) os) (congrFun (hd.looks3 w) os))
theorem hd.said1 : PySem.W.Fast.tw9446332074065402090 PySem.Challenge.rw_nt0488_01 = true := by kernel_rfl
theorem hd.said : PySem.Challenge.rw_nt0488_01.wellSaid = true := by
  rw [PySem.W.Fast.te9446332074065402090]
  exact hd.said1
theorem hd {d : DefRec} {kwd : List (Str × Expr)} (hdef : defOf hd.view_39 PySem.Challenge.rw_nt0488_01.row.name = some (d, kwd)) (hp : hd.prog.theDef PySem.Challenge.rw_nt0488_01.row.name = some (d.params, d.body, d.scope)) (hk : kwWritten? d.params.kwonlyargs d.params.kw_defaults = some kwd)
    (call : WalkO hd.view_39 hd.loose (XL hd.view_39 hd.lv) hd.hook.says PySem.Challenge.rw_nt0488_01.row.toRowW d kwd fun f vs => PySem.call f vs) : PySem.Challenge.rw_nt0488_01.Holds := by
  refine holds_law hd.said fun said => ?_
  exact holds_open (q := hd.view_39) (loose := hd.loose) (Xt := hd.seen) (XP := XL hd.view_39 hd.lv) (N := 3028) hd.left hd.hook.of hd.hook.keeps (fun s e => xl_of s (Bool.and_eq_true_iff.mp e).1) XL.keeps hdef hp hk
    (fun s e => recFacts_of (Bool.and_eq_true_iff.mp e).2) rfl said (by decide +kernel) ⟨rfl, rfl, rfl, rfl, rfl, by decide +kernel⟩ (by w_witness2) call
end Mine
namespace Mine
open PySem PySem.W PyProof.Rows PySem.Calls

abbrev PG : Program := PySem.Challenge.rw_nt0488_01.row.prog

theorem fillme : PySem.Challenge.rw_nt0488_01 = PySem.Challenge.rw_nt0488_01 ∧ hd.heap_39 = hd.heap_39 := by
  k_with_none
  w_top off
  k_fill
  exact ⟨rfl, rfl⟩
local macro_rules | `(tactic| walk_at $s:str) => `(tactic| k_extra $(Lean.Syntax.mkStrLit ("m " ++ s.getString)))

abbrev Led := List (Addr × Obj)

abbrev Ct (w : World) (f : Addr) (k : Nat) (vs : List Value) (news : Led) (R : Value → Led → Prop) : Prop :=
  ∀ (p : Program) (loose : List Str) (mean : ExcName → Option Value) (mg mb : Str → Option Value)
    (dp un : Nat) (gd : Option (List Code)) (cn : Str) (cs : Scope) (a : Addr) (ccd : Value) (cl : List (Str × Addr)) (outer : List Env) (A₀ : Around)
    (base h₀ : Heap) (L : Addr) (m : Str → Option Value) (s : Shared) (Q E : Value → Shared → Prop),
    Below A₀ base outer h₀ → Fr h₀ L s.heap m → (hd.heap_39 w.params).In h₀ → News h₀ L s.heap news → Top p loose mean mg mb h₀ → cs.kind = .function →
    dp + k < recursionLimit → un + 8 * k < cLine →
    (∀ r tl h' tk', Fr h₀ L h' m → News h₀ L h' (tl ++ news) → R r tl → Q r { s with heap := h', toks := tk' }) →
    wpAny (model PG w) (ktrTop dp un gd cn cs L a ccd cl outer) (call (.ref f) vs) Q E s

theorem ct_use {w : World} {f : Addr} {k : Nat} {vs : List Value} {news : Led} {R : Value → Led → Prop} {p : Program} {loose : List Str} {mean : ExcName → Option Value} {mg mb : Str → Option Value}
    {dp un : Nat} {gd : Option (List Code)} {cn : Str} {cs : Scope} {a : Addr} {ccd : Value} {cl : List (Str × Addr)} {outer : List Env} {A₀ : Around}
    {base h₀ : Heap} {L : Addr} {m : Str → Option Value} {s : Shared} {Q E : Value → Shared → Prop}
    (B : Below A₀ base outer h₀) (F : Fr h₀ L s.heap m) (X : (hd.heap_39 w.params).In h₀) (N : News h₀ L s.heap news) (T : Top p loose mean mg mb h₀) (hk : cs.kind = .function)
    (C : Ct w f k vs news R) (hdp : dp + k < recursionLimit) (hun : un + 8 * k < cLine)
    (ret : ∀ r tl h' tk', Fr h₀ L h' m → News h₀ L h' (tl ++ news) → R r tl → Q r { s with heap := h', toks := tk' }) :
    wpAny (model PG w) (ktrTop dp un gd cn cs L a ccd cl outer) (call (.ref f) vs) Q E s :=
  C _ _ _ _ _ _ _ _ _ _ _ _ _ _ _ _ _ _ _ _ _ _ B F X N T hk hdp hun ret

def digitV (o : Int) : Option Int :=
  if 48 ≤ o ∧ o ≤ 57 then some (o - 48) else if 65 ≤ o ∧ o ≤ 90 then some (o - 55) else if 97 ≤ o ∧ o ≤ 122 then some (o - 87) else none

def VOpt (r : Value) : Option Int → Prop
  | none => r = .none
  | some v => ∃ t, r = .int v t

theorem c_digit (w : World) (o : Int) (t : Tok) (news : Led) : Ct w 54 1 [.int o t] news (fun r tl => tl = [] ∧ VOpt r (digitV o)) := by
  unfold Ct
  intro p loose mean mg mb dp un gd cn cs a ccd cl outer A₀ base h₀ L m s Q E B F X N T hk hdp hun hret
  refine wpAny_call ?_
  k_dflt cell_enter
  k_steps
  all_goals (refine hret _ [] _ _ (by k_asm) (by k_asm) ⟨rfl, ?_⟩)
  all_goals (unfold digitV; (repeat' split) <;> first | exact rfl | exact ⟨_, rfl⟩ | (exfalso; omega))

theorem words_B1_1 : True := by
  k_with "m ct_sides" =>
    (
      (case k1 => k_asm); (case k2 => k_asm); (case k3 => k_asm); (case k4 => k_asm); (case k5 => k_asm); (case kK => first | exact rfl | assumption); (case kd => ktr_room); (case ku => ktr_units))
  k_with "m call ref" =>
    (
      k_here; (with_reducible show wpAny _ _ (call (Value.ref 54) [Value.int _ _]) _ _ _);
      k_dflt (refine' ct_use ?k1 ?k2 ?k3 ?k4 ?k5 ?kK (c_digit _ _ _ _) ?kd ?ku ?_; walk_at "ct_sides");
      (intro r9 tl9 h9 tk9 F9 N9 hR9; obtain ⟨e9, hv9⟩ := hR9; subst e9; replace N9 := N9; (try simp only [List.nil_append] at N9));
      (generalize hd9 : digitV _ = x9 at hv9; rcases x9 with _ | v9);
      (all_goals (first | (replace hv9 : _ = Value.none := hv9; subst hv9) | (obtain ⟨t9, e9⟩ := hv9; subst e9)));
      (all_goals ((try dsimp only); (try k_fold))))
  exact trivial
noncomputable def figGo (base : Int) : List Int → Int → Option Int
  | [], a => some a
  | o :: r, a => match digitV o with
    | none => none
    | some d => if d ≥ base then none else figGo base r (a * base + d)
noncomputable def figV (base : Int) (ks : List Int) : Option Int := if ks = [] then none else figGo base ks 0
theorem figGo_app (base : Int) : ∀ (pre post : List Int) (a : Int), figGo base (pre ++ post) a = (figGo base pre a).bind (figGo base post)
  | [], _, _ => rfl
  | o :: r, post, a => by
    simp only [List.cons_append, figGo]
    cases digitV o with
    | none => rfl
    | some d => dsimp only; split
                · rfl
                · exact figGo_app base r post _

theorem figGo_step {base : Int} {pre : List Int} {n a d : Int} (h : figGo base pre 0 = some a) (hd : digitV n = some d) (hl : d < base) : figGo base (pre ++ [n]) 0 = some (a * base + d) := by
  rw [figGo_app, h]
  show figGo base [n] a = _
  simp only [figGo, hd]
  rw [if_neg (by omega)]
theorem figV_none {base : Int} {ks pre post : List Int} {n a : Int} (e : ks = pre ++ n :: post) (h : figGo base pre 0 = some a) (hd : digitV n = none ∨ ∃ d, digitV n = some d ∧ d ≥ base) : figV base ks = none := by
  subst e
  unfold figV
  rw [if_neg (by simp), figGo_app, h]
  show figGo base (n :: post) a = _
  rcases hd with hd | ⟨d, hd, hl⟩
  · simp only [figGo, hd]
  · simp only [figGo, hd]
    rw [if_pos hl]

theorem c_figs (w : World) (b : Array UInt8) (ks : List Int) (hb : KBw.bInts b = ks) (hlen : ks.length ≤ 1000) (base : Int) (h0 : 0 ≤ base) (h1 : base ≤ 36) (t t' : Tok) (news : Led) :
    Ct w 96 2 [.bytes b t, .int base t'] news (fun r tl => tl = [] ∧ VOpt r (figV base ks)) := by
  unfold Ct
  intro p loose mean mg mb dp un gd cn cs a ccd cl outer A₀ bas h₀ L m s Q E B F X N T hk hdp hun hret
  refine wpAny_call ?_
  k_dflt cell_enter
  k_with "pyIter bytes" => k_state (fun pre found => figGo base pre 0 = some found) "found"
  k_with "state" => first | rfl | exact figGo_step (by assumption) (by assumption) (by omega)
  k_steps
  all_goals (refine hret _ [] _ _ (by k_asm) (by first | k_asm | exact fun p hp => (by assumption : News _ _ _ (news ++ _)) p (List.mem_append_left _ hp)) ⟨rfl, ?_⟩)
  all_goals first
    | (rw [figV_none (by assumption) (by assumption) (Or.inl (by assumption))]; exact rfl)
    | (rw [figV_none (by assumption) (by assumption) (Or.inr ⟨_, by assumption, by omega⟩)]; exact rfl)
    | (have e9 : ks = [] := List.eq_nil_of_length_eq_zero (by omega)
       rw [e9]; exact rfl)
    | (unfold figV; rw [if_neg (by intro e9; subst e9; simp at *)]; (rename figGo base ks 0 = some _ => e9); rw [e9]; exact ⟨_, rfl⟩)
end Mine
namespace Mine
open PySem PySem.W PyProof.Rows PySem.Calls

theorem fillme2 : PySem.Challenge.rw_nt0488_01 = PySem.Challenge.rw_nt0488_01 ∧ hd.heap_39 = hd.heap_39 := by
  k_with_none
  w_top off
  k_fill
  exact ⟨rfl, rfl⟩
abbrev bmP : List Value := [.ref 32, .type "Exception", .type "BaseException", .type "object"]
abbrev exObj (t : Addr) : Obj := { cls := .ref 45, data := .fields #[.ref t, .none, .none, .none, .bool false, .none] }

theorem at45 {w : World} {h : Heap} (X : (hd.heap_39 w.params).In h) : ∃ nm q bs hdct sn sub ab col dd k0 k1 k2 k3 k5, h.get? 45 = some (excClassObj nm q 45 44 bs bmP hdct sn sub ab col dd k0 k1 k2 k3 k5 "Exception.__new__") := by
  exact ⟨_, _, _, _, _, _, _, _, _, _, _, _, _, _, X 45 _ (by with_unfolding_all rfl)⟩

section
variable {prog : Program} {w : World} {A : Around} {R : Result → Shared → Prop} {E : Value → Shared → Prop} {h : Heap} {g : Array GenState} {d : Drawn} {t : Nat} {os : OsState}
variable {nm q : Str} {bs : List Value} {hdct : Bool} {sn : List Str} {sub : List Value} {ab : Bool} {col : Option Bool} {dd : Option Addr} {k0 k1 k2 k3 k5 : Option Value}

theorem ps_check_new {M : Model} {rest : List Value} {Q : Unit → Shared → Prop} (hC : h.get? 45 = some (excClassObj nm q 45 44 bs bmP hdct sn sub ab col dd k0 k1 k2 k3 k5 "Exception.__new__"))
    (hq : Q () ⟨h, g, d, t, os⟩) : wpAny M A (checkBuiltinCall "Exception.__new__" ⟨.ref 45 :: rest, []⟩) Q E ⟨h, g, d, t, os⟩ := by
  have F := PySem.F.excBase_Exception
  have hcont : (Value.ref 45 :: bmP).contains (.type "Exception") = true := by decide +kernel
  have hstar := F.noStar
  simp only [checkBuiltinCall, F.newKind, F.newSplit, F.newRow]
  repeat (first | refine wpAny_loadPart_at hC ?_ | (refine wpAny_isSubtype_exc hC ?_; rw [hcont]) | refine wpAny_staticBase_exc hC ?_ | refine wpAny_madeBy_exc hC ?_ | simp only [bne_self_eq_false, Bool.false_eq_true, if_false] | wp_step)
  exact hq

theorem ps_new {rest : List Value} (hC : h.get? 45 = some (excClassObj nm q 45 44 bs bmP hdct sn sub ab col dd k0 k1 k2 k3 k5 "Exception.__new__"))
    (hq : R (.ok (.ret (.ref (h.objs.size + 1)))) ⟨(h.push { cls := .type "tuple", data := .seq rest.toArray }).push (exObj h.objs.size), g, d, t, os⟩) (hrest : rest.length ≤ sizeLine) :
    codeAny (model prog w) A (.builtin "Exception.__new__" ⟨.ref 45 :: rest, []⟩) R ⟨h, g, d, t, os⟩ := by
  have F := PySem.F.excBase_Exception
  have hends := F.ends
  have hcB : (Value.ref 45 :: bmP).contains (.type "Exception") = true := by decide +kernel
  have hcA : (Value.ref 45 :: bmP).contains (.type "AttributeError") = false := by decide +kernel
  have hcN : (Value.ref 45 :: bmP).contains (.type "NameError") = false := by decide +kernel
  refine codeAny_builtinAt F.entry ?_
  unfold Builtin.«BaseException.__new__»
  refine PySem.wpAt_bind ?_
  show PySem.wpAt _ _ _ (stack >>= _) _ _ _
  refine PySem.wpAt_bind (PySem.wpAt_stack fun p below => PySem.wpAt_of_wpAny ?_)
  wp_walk
  refine PySem.wpAt_of_wpAny ?_
  rw [F.owner]
  repeat (first | with_reducible refine wpAny_madeHere_exc F.canon hC ?_ | with_reducible refine wpAny_loadPart_at hC ?_ | (with_reducible refine wpAny_isSubtype_exc hC ?_; first | rw [hcB] | rw [hcA] | rw [hcN]) | wp_step)
  show R _ _
  rw [Heap.size_push]
  exact hq
end

section
variable {prog : Program} {w : World} {A : Around} {E : Value → Shared → Prop} {h : Heap} {g : Array GenState} {d : Drawn} {t : Nat} {os : OsState}
theorem ps_type_call (X : (hd.heap_39 w.params).In h) {rest : List Value} {Q : Fin → Shared → Prop} (hrest : rest.length ≤ sizeLine)
    (hq : ∀ h₂, h₂ = (h.push { cls := .type "tuple", data := .seq rest.toArray }).push (exObj h.objs.size) →
      codeAny (model prog w) A (.call (.ref 29) ⟨.ref (h.objs.size + 1) :: rest, []⟩) (fun r s' => match r with | .ok (.ret v) => v = .none ∧ Q (.done (.ret (.ref (h.objs.size + 1)))) s' | .ok _ => False | .error e => E e s') ⟨h₂, g, d, t, os⟩) :
    wpAny (model prog w) A (Builtin.«type.__call__» ⟨.ref 45 :: rest, []⟩) Q E ⟨h, g, d, t, os⟩ := by
  have F := PySem.F.excBase_Exception
  obtain ⟨nm, q, bs, hdct, sn, sub, ab, col, dd, k0, k1, k2, k3, k5, hC⟩ := at45 X
  repeat (first | with_reducible refine wpAny_loadPart_at hC ?_ | with_reducible refine wpAny_madeBy_exc hC ?_ | wp_step)
  refine codeAny_call_builtin_code (Code.quiet_builtin _ F.quiet) (ps_check_new hC ?_)
  refine ps_new hC ?_ hrest
  show wpAny _ _ _ _ _ _
  have kp : ∀ b o, h.get? b = some o → ((h.push { cls := .type "tuple", data := .seq rest.toArray }).push (exObj h.objs.size)).get? b = some o := fun b o e => Heap.get?_push_of_some _ (Heap.get?_push_of_some _ e)
  have X₂ := X.keeps kp
  have hC₁ := kp _ _ hC
  have hget : ((h.push { cls := .type "tuple", data := .seq rest.toArray }).push (exObj h.objs.size)).get? (h.objs.size + 1) = some (exObj h.objs.size) := by heap_get
  have hcC : (Value.ref 45 :: bmP).contains (.ref 45) = true := by decide +kernel
  have hq' := hq _ rfl
  generalize ((h.push { cls := .type "tuple", data := .seq rest.toArray }).push (exObj h.objs.size)) = h₂ at *
  unfold isInstance
  repeat (first | with_reducible refine wpAny_loadPart_at hget ?_ | (with_reducible refine wpAny_isSubtype_exc hC₁ ?_; rw [hcC]) | wp_step)
  show wpAny _ _ (typeLookup (.ref 45) _) _ _ _
  refine (looks_findIn (M := model prog w) X₂ (t := .ref 45) (by k_is)).at ?_
  refine wpAny_holding (wpAny_bind ((bind_fn X₂ _ (by k_is)).at ?_))
  refine wpAny_bind (wpAny_call (codeAny_mono hq' fun r s' z => ?_))
  rcases r with e | f
  · exact z
  · cases f
    all_goals first | exact False.elim z | (obtain ⟨rfl, z⟩ := z; wp_walk; exact z)

theorem ps_call {s : Shared} {h₀ : Heap} {L : Addr} {m : Str → Option Value} {news : Led} {rest : List Value} {Q : Value → Shared → Prop} (F : Fr h₀ L s.heap m) (X₀ : (hd.heap_39 w.params).In h₀) (N : News h₀ L s.heap news) (hrest : rest.length ≤ sizeLine)
    (hq : ∀ t e h₂, Fr h₀ L h₂ m → News h₀ L h₂ ((e, exObj t) :: (t, { cls := .type "tuple", data := .seq rest.toArray }) :: news) → (∀ p ∈ news, p.1 < t) → t < e →
      codeAny (model prog w) (A.under (.builtin "type.__call__" ⟨.ref 45 :: rest, []⟩)) (.call (.ref 29) ⟨.ref e :: rest, []⟩) (InitBack e fun r s' => match r with | .ok (.ret v) => Q v s' | .ok _ => False | .error e => E e s') { s with heap := h₂ }) :
    wpAny (model prog w) A (call (.ref 45) rest) Q E s := by
  have X := X₀.keeps F.keep
  obtain ⟨h, g, d, t, os⟩ := s
  obtain ⟨nm, q, bs, hdct, sn, sub, ab, col, dd, k0, k1, k2, k3, k5, hC⟩ := at45 X
  have f1 := tc_lookup
  have f2 := tc_bind (.ref 45)
  have hT : (⟨h, g, d, t, os⟩ : Shared).TypeIs (.ref 45) "type" := ⟨_, hC, rfl⟩
  refine wpAny_call (codeAny_of_tree ?_)
  show wpAny _ _ (callAny (.ref 45) _) _ _ _
  repeat (any_goals (first | assumption | with_reducible refine wpAny_loadPart_at hC ?_ | wp_step))
  refine ⟨rfl, ?_⟩
  refine codeAny_call_builtin_at (Code.quiet_builtin _ (by decide +kernel)) entry_typeCall (wpAny_check_type_call_sub hC (ps_type_call X hrest fun h₂ e₂ => ?_))
  subst e₂
  have F₁ := F.push { cls := .type "tuple", data := .seq rest.toArray }
  have N₁ := N.push F { cls := .type "tuple", data := .seq rest.toArray }
  have hz := hq h.objs.size (h.objs.size + 1) _ (F₁.push (exObj h.objs.size)) (by have N₂ := N₁.push F₁ (exObj h.objs.size); rw [Heap.size_push] at N₂; exact N₂) (fun p hp => Heap.lt_size (N p hp).1) (Nat.lt_succ_self _)
  refine codeAny_mono hz fun r s' z => ?_
  rcases r with e | f
  · exact z
  · cases f
    all_goals first | exact False.elim z | (obtain ⟨rfl, z⟩ := z; exact ⟨rfl, z⟩)

abbrev exObjD (t dx : Addr) : Obj := { cls := .ref 45, dict := some dx, data := .fields #[.ref t, .none, .none, .none, .bool false, .none] }

theorem ps_refuse (self : Value) : refuseLoop self "__setattr__" (.ref 45 :: bmP) = pure () := by
  rw [refuseLoop_ref, refuseLoop_ref]; exact PySem.F.store_Exception.passes self

theorem ps_set {s : Shared} {h₀ : Heap} {L : Addr} {m : Str → Option Value} {news : Led} {e t' : Addr} {v : Value} {Q : Unit → Shared → Prop} (F : Fr h₀ L s.heap m) (X₀ : (hd.heap_39 w.params).In h₀) (N : News h₀ L s.heap ((e, exObj t') :: news)) (hne : ∀ p ∈ news, p.1 ≠ e)
    (hq : ∀ h₂ tk dx tkk, Fr h₀ L h₂ m → News h₀ L h₂ ((e, exObjD t' dx) :: (dx, dictOf [⟨PyData.keyHash w.params "told", .str "told" tkk, v⟩] 1) :: news) → (∀ p ∈ news, p.1 < dx) → e < dx → Q () { s with heap := h₂, toks := tk }) :
    wpAny (model prog w) A (setAttr (.ref e) "told" v) Q E s := by
  obtain ⟨h, g, d, tk, os⟩ := s
  change Fr h₀ L h m at F
  change News h₀ L h _ at N
  have X := X₀.keeps F.keep
  have hx := (N (e, exObj t') (.head _)).1
  have I : InstAt h e (exObj t') 45 none := ⟨hx, rfl, rfl, trivial⟩
  refine set_plain (s := ⟨h, g, d, tk, os⟩) X I (by k_is) ?_
  have SF := PySem.F.store_object
  have sub : Looks (model prog w) h (isInstance (.ref e) (.type "object")) true := I.type.andThen (looks_mroIn X (by k_is))
  refine codeAny_call_builtin SF.slot.plain SF.entry (@check_slot (model prog w) _ _ ⟨h, g, d, tk + 1, os⟩ "object.__setattr__" "object" "__setattr__" (.ref e) [.str "told" tk, v] [] _ SF.kind SF.split sub (SF.args (.ref e) (.str "told" tk) v) ?_)
  obtain ⟨nm, q, bs, hdct, sn, sb, ab, col, dd, k0, k1, k2, k3, k5, hC⟩ := at45 X
  rw [osa_eq, refuse_eq]
  refine wpAny_bind (wpAny_bind (I.type.at (wpAny_bind (wpAny_mroOf_exc hC ?_))))
  rw [ps_refuse]
  refine wpAny_pure (wpAny_bind (I.type.at (wpAny_bind ((looks_findIn X (t := .ref 45) (name := "told") (by k_is)).at (wpAny_bind (wpAny_pure ?_))))))
  dsimp only
  refine wpAny_bind (wpAny_pure (wpAny_bind (wpAny_bind (wpAny_loadPart hx (wpAny_bind ((looks_clsIn (C := 45) X (by with_unfolding_all rfl)).at ?_))))))
  have es : e < h.objs.size := Heap.lt_size hx
  have xs : e ≠ h.objs.size := Nat.ne_of_lt es
  have hx₁ : (h.push { cls := .type "dict", data := .dict #[] }).get? e = some (exObj t') := Heap.get?_push_of_some _ hx
  show wpAny _ _ (alloc _ >>= _) _ _ _
  refine wpAny_bind (wpAny_alloc' (wpAny_bind (wpAny_update' hx₁ ?_)))
  refine wpAny_pure (a := some h.objs.size) ?_
  have F₁ := F.push { cls := .type "dict", data := .dict #[] }
  have N₁ := N.push F { cls := .type "dict", data := .dict #[] }
  obtain ⟨F₂, N₂⟩ := news_upd (f := fun o => { o with dict := some h.objs.size }) (pre := [(h.objs.size, { cls := .type "dict", data := .dict #[] })]) (d := e) (o := exObj t') (o' := exObjD t' h.objs.size) (post := news) F₁ N₁ (by intro p hp; rw [List.mem_singleton.mp hp]; exact xs.symm) hne rfl rfl
  generalize ((h.push { cls := .type "dict", data := .dict #[] }).update e fun o => { o with dict := some h.objs.size }) = h₂ at *
  have D := (N₂ (h.objs.size, { cls := .type "dict", data := .dict #[] }) (.head _)).1
  refine wpAny_bind (wpAny_pure (wpAny_bind ?_))
  unfold nsSet
  refine wpAny_bind (wpAny_bind (wpAny_askSetting (wpAny_pure (wpAny_bind (wpAny_mkText (wpAny_bind (wpAny_loadPart D ?_)))))))
  obtain ⟨F₃, N₃⟩ := news_upd (f := Obj.putName "told" (PyData.keyHash w.params "told") (.str "told" (tk + 1)) v) (pre := []) (d := h.objs.size) (o := { cls := .type "dict", data := .dict #[] }) (o' := dictOf [⟨PyData.keyHash w.params "told", .str "told" (tk + 1), v⟩] 1) (post := (e, exObjD t' h.objs.size) :: news) F₂ N₂ (by intro p hp; cases hp)
    (by intro p hp; rcases List.mem_cons.mp hp with rfl | hp
        · exact xs
        · exact Nat.ne_of_lt (Heap.lt_size (N p (.tail _ hp)).1)) (by rw [show ({ cls := .type "dict", data := .dict #[] } : Obj) = dictOf [] 0 from rfl, putName_dict]; rfl) rfl
  have D' := (N₃ (h.objs.size, dictOf [⟨PyData.keyHash w.params "told", .str "told" (tk + 1), v⟩] 1) (.head _)).1
  dsimp only
  rw [show aRefKeyMayBeTheName "told" #[] = false from by decide +kernel]
  refine wpAny_updatePart D ?_
  refine wpAny_bind (wpAny_lookBehind D' (by exact pastItsLine_dict (by rw [List.size_toArray, sizeLine_eq, List.length_cons, List.length_nil]; omega)) ?_)
  exact wpAny_pure (hq _ _ _ _ F₃ (fun p hp => N₃ p (by
    rcases List.mem_cons.mp hp with rfl | hp
    · exact .tail _ (.head _)
    · rcases List.mem_cons.mp hp with rfl | hp
      · exact .head _
      · exact .tail _ (.tail _ hp))) (fun p hp => Heap.lt_size (N p (.tail _ hp)).1) es)

theorem ps_get {s : Shared} {e : Addr} {oe od : Obj} {v : Value} {expr : Bool} {Q : Value → Shared → Prop} (X : (hd.heap_39 w.params).In s.heap) (I : InstAt s.heap e oe 45 (some od)) (hl : lookIn "told" od = some (some v)) (hh : handedIn v = true)
    (hq : ∀ tk, Q v { s with toks := tk }) : wpAny (model prog w) A (getAttr (.ref e) "told" expr) Q E s := by
  have FB := PySem.F.attr_Exception
  obtain ⟨h, g, d, tk, os⟩ := s
  change (hd.heap_39 w.params).In h at X
  change InstAt h e oe 45 (some od) at I
  have f3 := FB.ga.bind (.ref e)
  have hx0 : (expr && onTheHeap (Value.builtin "BaseException.__getattribute__")) = false := by cases expr <;> rfl
  have L0 := I.type (M := model prog w)
  have L1 := looks_findIn (M := model prog w) X (t := .ref 45) (name := "__getattribute__") (r := some (.builtin "BaseException.__getattribute__")) (by k_is)
  have L2 := looks_findIn (M := model prog w) X (t := .ref 45) (name := "__getattr__") (r := none) (by k_is)
  have L3 := looks_find (M := model prog w) X I (findObj_own (K := hd.heap_39 w.params) (C := 45) (name := "told") (attr := none) (od := od) (v := v) (by k_is) (by k_is) (by k_is) hl)
  have sub : Looks (model prog w) h (isInstance (.ref e) (.type "BaseException")) true := I.type.andThen (looks_mroIn X (by k_is))
  unfold getAttr getAttrBy
  refine wpAny_bind (wpAny_mkText (wpAny_holding (wpAny_bind (L0.at (wpAny_bind (L1.at ?_))))))
  show wpAny _ _ (getAttrByItsOwn _ _ _ _ _ _) _ _ _
  unfold getAttrByItsOwn hookBefore
  refine wpAny_bind (L2.at ?_)
  refine wpAny_bind (wpAny_attempt (wpAny_holding ?_))
  unfold callGetattribute
  rw [hx0]
  rw [if_neg (by decide)]
  unfold boundAndCalled
  rw [f3]
  refine wpAny_bind (wpAny_pure (wpAny_call (codeAny_call_builtin FB.ga.plain PySem.F.entry_bexc_ga (@check_slot (model prog w) _ _ ⟨h, g, d, tk + 1, os⟩ "BaseException.__getattribute__" "BaseException" "__getattribute__" (.ref e) [.str "told" tk] [] _ (by decide +kernel) (by decide +kernel) sub (PySem.F.args_bexc_ga _ _) ?_))))
  show wpAny _ _ (Builtin.«object.__getattribute__» ⟨[.ref e, .str "told" tk], []⟩) _ _ _
  refine wpAny_bind (wpAny_pure (wpAny_bind (wpAny_pure (wpAny_bind (L0.at (wpAny_bind (L3.at ?_)))))))
  refine wpAny_pure ?_
  show wpAny _ _ (handedOut v) _ _ _
  rw [handedOut_of hh]
  exact wpAny_pure (hq _)
end

def PsRaised (w : World) (E : Value → Shared → Prop) (v : Value) (s₁ : Shared) : Prop := ∃ e t dx, v = .ref e ∧ (hd.heap_39 w.params).In s₁.heap ∧ s₁.heap.get? e = some (exObjD t dx) ∧ E (.ref e) s₁

theorem ps_raise {prog : Program} {w : World} {A : Around} {E : Value → Shared → Prop} {s : Shared} {env : Env} {x : Expr} {pos : Pos} {Q : Flow → Shared → Prop} (hh : A.handled = none)
    (h : wpAny (model prog w) A (eval x env) (PsRaised w E) E s) : wpAny (model prog w) A (exec (.Raise (some x) none pos) env) Q E s := by
  have hcB : (Value.ref 45 :: bmP).contains (.type "BaseException") = true := by decide +kernel
  rw [arm_exec_Raise]
  refine wpAny_bind (wpAny_standAt ?_)
  unfold raiseStmt
  refine wpAny_bind (wpAny_bind (wpAny_mono h (fun v s₁ h₁ => wpAny_bind (wpAny_standAt (wpAny_pure ?_))) fun _ _ x => x))
  obtain ⟨e, t, dx, rfl, X, he, hE⟩ := h₁
  obtain ⟨hp, g, d, tk, os⟩ := s₁
  obtain ⟨nm, q, bs, hdct, sn, sb, ab, col, dd, k0, k1, k2, k3, k5, hC⟩ := at45 X
  repeat (first | with_reducible refine wpAny_loadPart_at he ?_ | with_reducible refine wpAny_loadPart_at hC ?_ | (with_reducible refine wpAny_isSubtype_exc hC ?_; rw [hcB]) | wp_step)
  exact wpAny_raiseNew_none hh hE
end Mine
namespace Mine
open PySem PySem.W PyProof.Rows PySem.Calls

theorem fillme3 : PySem.Challenge.rw_nt0488_01 = PySem.Challenge.rw_nt0488_01 ∧ hd.heap_39 = hd.heap_39 := by
  k_with_none
  w_top off
  k_fill
  exact ⟨rfl, rfl⟩
/-- an object of the text's exception class, with its dict at dx -/
abbrev PsO (dx : Addr) (o : Obj) : Prop := o.cls = .ref 45 ∧ o.dict = some dx

/-- it bears a record of its way (the newest one marked by fl) -/
def TrD (h base : Heap) (e dx : Addr) (fl : Value) : Prop :=
  ∃ oe vs T oT ts, h.get? e = some oe ∧ PsO dx oe ∧ oe.data = .fields vs ∧ vs[1]? = some (.ref T) ∧ base.get? T = none ∧ T ≠ e ∧ h.get? T = some oT ∧ oT.data = .fields ts ∧ ts[3]? = some fl

theorem pso_map {dx : Addr} {o : Obj} (f : Array Value → Array Value) (h : PsO dx o) : PsO dx (o.mapFields f) := by
  obtain ⟨c, d, dt, sl⟩ := o
  cases dt <;> exact h

section
variable {M : Model} {A : Around} {E : Value → Shared → Prop} {s : Shared} {base : Heap} {env : Env} {outer : List Env} {L e dx : Addr} {Q : Unit → Shared → Prop}

/-- what one mark on the way leaves as it was -/
abbrev Way (base : Heap) (l : List Env) (e dx : Addr) (fl : Value) (h h' : Heap) : Prop :=
  base.StaysIn h' ∧ h'.FunFrames base l ∧ TrD h' base e dx fl ∧ h.UpToSlots h'

theorem way_entry {oe : Obj} {vs : Array Value} {head : Value} {hadNext : Bool} (hfr : A.frames = some (env :: outer)) (hl : s.heap.FunFrames base (env :: outer)) (hf : env.frame = some L)
    (he : s.heap.get? e = some oe) (hp : PsO dx oe) (hkb : base.StaysIn s.heap) (hen : base.get? e = none) (hd : oe.data = .fields vs) (hsz : 1 < vs.size)
    (h : ∀ h', Way base (env :: outer) e dx (rawInt L) s.heap h' → Q () { s with heap := h' }) :
    wpAny M A (do let a ← frameOf env; let pl ← entryPlaceOf L hadNext; let b ← EntryCells.newEntry head a .none (rawInt L) .none pl; setField (.ref e) 1 b) Q E s := by
  have hene : e ∉ (env :: outer).filterMap (·.frame) := fun hm => by
    obtain ⟨_, o, ho, hnf⟩ := hl.mem hm
    rw [he] at ho
    exact hnf vs (Option.some.inj ho ▸ hd)
  refine wpAny_bind (wpAny_frameOf_fun hfr hl hf fun h₁ hs₁ => wpAny_bind (wpAny_entryPlaceOf fun pl hpl => ?_))
  unfold EntryCells.newEntry newFields
  refine wpAny_bind (wpAny_newObj_type ?_ (hpl.sizeOk5 _ _ _ _ _))
  have he₁ : h₁.get? e = some oe := (hs₁.2.1 e hene).trans he
  have kb₁ : base.StaysIn h₁ := fun b o q => (hs₁.2.1 b fun hm => by rw [(hl.mem hm).1] at q; cases q).trans (hkb b o q)
  generalize hq : ({ cls := .type "traceback", dict := none, data := .fields ([head, .ref L, .none, rawInt L, .none] ++ (if pl.isEmpty then List.replicate 6 Value.none else pl)).toArray } : Obj) = tb
  have htd : ∃ ts, tb.data = .fields ts ∧ ts[3]? = some (rawInt L) := by
    subst hq
    refine ⟨_, rfl, ?_⟩
    first | (simp; done) | (rcases hpl with rfl | ⟨_, _, _, _, _, _, _, rfl⟩ <;> simp)
  have htf : tb.isFreed = false := by subst hq; rfl
  have he₂ : (h₁.push tb).get? e = some oe := Heap.get?_push_of_some _ he₁
  refine wpAny_setField he₂ hd hsz (h _ ?_)
  have lt : e < h₁.objs.size := Heap.lt_size he₁
  have hd₃ := Obj.data_mapFields hd (·.setIfInBounds 1 (Value.ref h₁.objs.size))
  have he₃ := Heap.get?_update_self (Obj.mapFields (·.setIfInBounds 1 (Value.ref h₁.objs.size))) he₂ (Obj.isFreed_of_fields hd₃)
  have hT₃ := (Heap.get?_update_other (h₁.push tb) (Obj.mapFields (·.setIfInBounds 1 (Value.ref h₁.objs.size))) (Nat.ne_of_lt lt)).trans (Heap.get?_push_size h₁ htf)
  have keep : ∀ b o, b ≠ e → h₁.get? b = some o → ((h₁.push tb).update e (Obj.mapFields (·.setIfInBounds 1 (Value.ref h₁.objs.size)))).get? b = some o := fun b o hb q => by
    rw [Heap.get?_update_other _ _ (Ne.symm hb)]
    exact Heap.get?_push_of_some _ q
  have other : ∀ b o, s.heap.get? b = some o → (∀ ws, o.data ≠ .fields ws) → b ≠ e := fun b o q hn z => by
    rw [z, he] at q
    exact hn vs (Option.some.inj q ▸ hd)
  obtain ⟨ts, ht1, ht2⟩ := htd
  refine ⟨fun b o q => keep b o (fun z => by rw [z, hen] at q; cases q) (kb₁ b o q), hl.of_keeps fun b o q hn => ?_, ⟨_, _, h₁.objs.size, _, ts, he₃, pso_map _ hp, hd₃, by simp [hsz], kb₁.fresh, Nat.ne_of_gt lt, hT₃, ht1, ht2⟩, fun b o q hn => ?_⟩
  · obtain ⟨sl, z⟩ := hs₁.2.2 b o q
    exact ⟨_, keep b _ (other b o q hn) z, rfl⟩
  · obtain ⟨sl, z⟩ := hs₁.2.2 b o q
    exact ⟨sl, keep b _ (other b o q hn) z⟩

theorem way_setnone {fl : Value} {l : List Env} (hkb : base.StaysIn s.heap) (hl : s.heap.FunFrames base l) (ht : TrD s.heap base e dx fl)
    (h : ∀ h', Way base l e dx .none s.heap h' → Q () { s with heap := h' }) : wpAny M A (setFlight (.ref e) none) Q E s := by
  obtain ⟨oe, vs, T, oT, ts, he, hp, hd, h1, hnT, hTe, hT, hdT, h3⟩ := ht
  have hsz : 3 < ts.size := (Array.getElem?_eq_some_iff.mp h3).1
  have other : ∀ b, b ≠ T → (s.heap.update T (Obj.mapFields (·.setIfInBounds 3 ((none : Option Addr).elim Value.none fun f => rawInt f)))).get? b = s.heap.get? b := fun b hb => Heap.get?_update_other _ _ (Ne.symm hb)
  have plain : ∀ b o, s.heap.get? b = some o → (∀ ws, o.data ≠ .fields ws) → b ≠ T := fun b o q hn z => by
    rw [z, hT] at q
    exact hn ts (Option.some.inj q ▸ hdT)
  unfold setFlight
  refine wpAny_bind (wpAny_field he hd h1 ?_)
  rw [if_pos (show (Value.ref T != Value.none) = true from by simp)]
  refine wpAny_setField hT hdT hsz (h _ ⟨fun b o q => (other b fun z => by rw [z, hnT] at q; cases q).trans (hkb b o q), hl.of_keeps fun b o q hn => ⟨o, (other b (plain b o q hn)).trans q, rfl⟩, ?_, fun b o q hn => ⟨o.slots, (other b (plain b o q hn)).trans q⟩⟩)
  exact ⟨oe, vs, T, _, _, (other e (Ne.symm hTe)).trans he, hp, hd, h1, hnT, hTe, Heap.get?_update_self _ hT (Obj.isFreed_of_fields (Obj.data_mapFields hdT _)), Obj.data_mapFields hdT _, by simp [hsz]⟩

theorem way_note_first {t : Addr} (hfr : A.frames = some (env :: outer)) (hl : s.heap.FunFrames base (env :: outer)) (hf : env.frame = some L)
    (he : s.heap.get? e = some (exObjD t dx)) (hkb : base.StaysIn s.heap) (hen : base.get? e = none)
    (h : ∀ h', Way base (env :: outer) e dx (rawInt L) s.heap h' → Q () { s with heap := h' }) : wpAny M A (noteFrame (.ref e) env) Q E s := by
  unfold noteFrame
  simp only [hf]
  refine wpAny_bind (wpAny_field he rfl (x := .none) rfl ?_)
  rw [if_neg (by decide)]
  exact way_entry hfr hl hf he ⟨rfl, rfl⟩ hkb hen rfl (by simp) h

theorem way_note_next (hfr : A.frames = some (env :: outer)) (hl : s.heap.FunFrames base (env :: outer)) (hf : env.frame = some L) (ht : TrD s.heap base e dx .none) (hkb : base.StaysIn s.heap) (hen : base.get? e = none)
    (h : ∀ h', Way base (env :: outer) e dx (rawInt L) s.heap h' → Q () { s with heap := h' }) : wpAny M A (noteFrame (.ref e) env) Q E s := by
  obtain ⟨oe, vs, T, oT, ts, he, hp, hd, h1, hnT, hTe, hT, hdT, h3⟩ := ht
  have other : ∀ b, b ≠ T → (s.heap.update T (Obj.mapFields (·.setIfInBounds 3 Value.none))).get? b = s.heap.get? b := fun b hb => Heap.get?_update_other _ _ (Ne.symm hb)
  have plain : ∀ b o, s.heap.get? b = some o → (∀ ws, o.data ≠ .fields ws) → b ≠ T := fun b o q hn z => by
    rw [z, hT] at q
    exact hn ts (Option.some.inj q ▸ hdT)
  unfold noteFrame
  simp only [hf]
  refine wpAny_bind (wpAny_field he hd h1 ?_)
  rw [if_pos (show (Value.ref T != Value.none) = true from by simp)]
  refine wpAny_bind (wpAny_field hT hdT h3 ?_)
  rw [if_neg (show ¬ ((Value.none == rawInt L) = true) from by simp [rawInt])]
  refine wpAny_bind (wpAny_setField hT hdT (Array.getElem?_eq_some_iff.mp h3).1 ?_)
  exact way_entry hfr (hl.of_keeps fun b o q hn => ⟨o, (other b (plain b o q hn)).trans q, rfl⟩) hf ((other e (Ne.symm hTe)).trans he) hp
    (fun b o q => (other b fun z => by rw [z, hnT] at q; cases q).trans (hkb b o q)) hen hd (Array.getElem?_eq_some_iff.mp h1).1
    fun h' ⟨x1, x2, x3, x4⟩ => h h' ⟨x1, x2, x3, fun b o q hn => x4 b o ((other b (plain b o q hn)).trans q) hn⟩

theorem way_trans {l : List Env} {f1 f2 : Value} {h₁ h₂ h₃ : Heap} (x : Way base l e dx f1 h₁ h₂) (y : Way base l e dx f2 h₂ h₃) : Way base l e dx f2 h₁ h₃ := ⟨y.1, y.2.1, y.2.2.1, x.2.2.2.trans y.2.2.2⟩

theorem way_leave_first {t : Addr} (hfr : A.frames = some (env :: outer)) (hl : s.heap.FunFrames base (env :: outer)) (hf : env.frame = some L)
    (he : s.heap.get? e = some (exObjD t dx)) (hkb : base.StaysIn s.heap) (hen : base.get? e = none)
    (h : ∀ h', Way base (env :: outer) e dx .none s.heap h' → Q () { s with heap := h' }) : wpAny M A (leaving env (.ref e)) Q E s := by
  unfold leaving
  exact wpAny_bind (way_note_first hfr hl hf he hkb hen fun h₁ x => way_setnone (s := { s with heap := h₁ }) x.1 x.2.1 x.2.2.1 fun h₂ y => h h₂ (way_trans x y))
theorem way_leave_next (hfr : A.frames = some (env :: outer)) (hl : s.heap.FunFrames base (env :: outer)) (hf : env.frame = some L) (ht : TrD s.heap base e dx .none) (hkb : base.StaysIn s.heap) (hen : base.get? e = none)
    (h : ∀ h', Way base (env :: outer) e dx .none s.heap h' → Q () { s with heap := h' }) : wpAny M A (leaving env (.ref e)) Q E s := by
  unfold leaving
  exact wpAny_bind (way_note_next hfr hl hf ht hkb hen fun h₁ x => way_setnone (s := { s with heap := h₁ }) x.1 x.2.1 x.2.2.1 fun h₂ y => h h₂ (way_trans x y))
end

/-- the exception e is on its way through the frames l; the ledger news stands -/
def RaisedD (base G : Heap) (l : List Env) (e dx : Addr) (news : Led) (h : Heap) : Prop :=
  ∃ B, base.StaysIn B ∧ (∀ b o, G.get? b = some o → b ∉ l.filterMap (·.frame) → B.get? b = some o) ∧ (∀ q ∈ news, B.get? q.1 = some q.2 ∧ G.get? q.1 = none ∧ base.get? q.1 = none) ∧ B.StaysIn h ∧ B.get? e = none ∧ h.FunFrames B l ∧ TrD h B e dx .none

theorem RaisedD.drop {base G : Heap} {l : List Env} {e dx : Addr} {news news' : Led} {h : Heap} (R : RaisedD base G l e dx news h) (k : ∀ q ∈ news', q ∈ news) : RaisedD base G l e dx news' h :=
  let ⟨B, b1, b0, b2, b3⟩ := R; ⟨B, b1, b0, fun q hq => b2 q (k q hq), b3⟩

section
variable {M : Model} {A : Around} {E : Value → Shared → Prop} {s' : Shared} {base g g₂ h : Heap} {outer : List Env} {L a e dx t : Addr} {m : Str → Option Value} {name : Str} {scope : Scope} {cd : Value} {Q : Unit → Shared → Prop} {news : Led}

theorem leave_D0 (K : Below A base outer g) (F : Fr g L s'.heap m) (N : News g L s'.heap ((e, exObjD t dx) :: news)) (hne : ∀ p ∈ news, p.1 ≠ e)
    (hQ : ∀ h', RaisedD base g outer e dx news h' → g.UpToSlots h' → Q () { s' with heap := h' }) (hk : scope.kind = .function) :
    wpAny M (A.deeper (envOf name scope L a cd)) (leaving (envOf name scope L a cd) (.ref e)) Q E s' := by
  have K' := K.push (name := name) (a := a) (cd := cd) F hk
  have he := (N _ (.head _)).1
  have hin : ∀ env ∈ (envOf name scope L a cd :: outer), ∀ b, env.frame = some b → b ∈ e :: (envOf name scope L a cd :: outer).filterMap (·.frame) := fun env he b hb => .tail _ (List.mem_filterMap.mpr ⟨env, he, hb⟩)
  have be : base.get? e = none := fresh_of_stays K.stays (N _ (.head _)).2.2
  have st : base.StaysIn (hideAll s'.heap (e :: (envOf name scope L a cd :: outer).filterMap (·.frame))) := fun b o q => hideAll_get _ (K'.stays b o q) fun hm => by
    rcases List.mem_cons.mp hm with z | hm
    · rw [z, be] at q; cases q
    · rw [(K'.frames.mem hm).1] at q; cases q
  have sg : ∀ b o, g.get? b = some o → b ∉ outer.filterMap (·.frame) → (hideAll s'.heap (e :: (envOf name scope L a cd :: outer).filterMap (·.frame))).get? b = some o := fun b o q nm => hideAll_get _ (F.keep b o q) fun hm => by
    rcases List.mem_cons.mp hm with z | hm
    · rw [z, (N _ (.head _)).2.2] at q; cases q
    · rcases kts_mem hm with z | z
      · rw [z, kts_self F] at q; cases q
      · exact nm z
  have hl : ∀ q ∈ news, (hideAll s'.heap (e :: (envOf name scope L a cd :: outer).filterMap (·.frame))).get? q.1 = some q.2 ∧ g.get? q.1 = none ∧ base.get? q.1 = none := fun q hq => by
    have Nq := N q (.tail _ hq)
    refine ⟨hideAll_get _ Nq.1 fun hm => ?_, Nq.2.2, fresh_of_stays K.stays Nq.2.2⟩
    rcases List.mem_cons.mp hm with z | hm
    · exact hne q hq z
    obtain ⟨env, hv, hf⟩ := List.mem_filterMap.mp hm
    rcases List.mem_cons.mp hv with rfl | hv
    · exact Nq.2.1 (Option.some.inj hf).symm
    · obtain ⟨o, ho, _⟩ := (K.frames.mem (List.mem_filterMap.mpr ⟨env, hv, hf⟩)).2
      rw [Nq.2.2] at ho; cases ho
  refine way_leave_first (base := hideAll s'.heap (e :: (envOf name scope L a cd :: outer).filterMap (·.frame))) K'.stack (funFrames_hide K'.frames hin) rfl he (fun b o q => of_hideAll _ q) (hideAll_none _ (.head _)) fun h' x => ?_
  obtain ⟨x1, ⟨_, _, x2⟩, x3, x4⟩ := x
  exact hQ h' ⟨_, st, sg, hl, x1, hideAll_none _ (.head _), x2, x3⟩ ((Heap.UpToSlots.of_keeps F.keep).trans x4)

theorem leave_D (K : Below A base outer g) (F : Fr g L g₂ m) (R : RaisedD base g₂ (envOf name scope L a cd :: outer) e dx news s'.heap) (hsm : g₂.UpToSlots s'.heap)
    (hQ : ∀ h', RaisedD base g outer e dx news h' → g.UpToSlots h' → Q () { s' with heap := h' }) :
    wpAny M (A.deeper (envOf name scope L a cd)) (leaving (envOf name scope L a cd) (.ref e)) Q E s' := by
  obtain ⟨B, hB, hBG, hl, b1, b2, b3, b4⟩ := R
  refine way_leave_next (Around.frames_deeper K.stack) b3 rfl b4 b1 b2 fun h' x => ?_
  obtain ⟨x1, ⟨_, _, x2⟩, x3, x4⟩ := x
  exact hQ h' ⟨B, hB, fun b o q nm => hBG b o (F.keep b o q) (fun hm => by
    rcases kts_mem hm with z | z
    · rw [z, kts_self F] at q; cases q
    · exact nm z), fun q hq => ⟨(hl q hq).1, kts_none F.keep (hl q hq).2.1, (hl q hq).2.2⟩, x1, b2, x2, x3⟩ ((Heap.UpToSlots.of_keeps F.keep).trans (hsm.trans x4))
end

section
variable {prog : Program} {w : World} {A₀ : Around} {E : Value → Shared → Prop} {s' : Shared} {base g G : Heap} {outer : List Env} {L a e dx : Addr} {m : Str → Option Value} {name : Str} {scope : Scope} {cd : Value}
  {n : Str} {b₀ : Stmt} {suite : List Stmt} {pos np : Pos} {rest : List ExceptHandler} {Q : Flow → Shared → Prop} {news : Led}
  {p : Program} {loose : List Str} {mean : ExcName → Option Value} {mg mb : Str → Option Value}

theorem caught_D (R : RaisedD base G (envOf name scope L a cd :: outer) e dx news s'.heap) (F : Fr g L G m) (K : Below A₀ base outer g) (hsm : G.UpToSlots s'.heap)
    (XB : (hd.heap_39 w.params).In base) (TB : Top p loose mean mg mb base)
    (k : ∀ h' g' oe vs tk, KtsTurn (outer.filterMap (·.frame)) g g' → Fr g' L h' (fun y => if y = n then some (.ref e) else m y) → News g' L h' ((e, oe) :: news) → PsO dx oe → oe.data = .fields vs → Below A₀ base outer g' → (hd.heap_39 w.params).In g' → Top p loose mean mg mb g' →
      wpAny (model prog w) ((A₀.deeper (envOf name scope L a cd)).mark (some (.ref e))) (execs (b₀ :: suite) (envOf name scope L a cd))
        (fun f s₄ => wpAny (model prog w) (A₀.deeper (envOf name scope L a cd)) (do bindName (envOf name scope L a cd) n .none; unbindBehindTheSuite (envOf name scope L a cd) n pos) (fun _ s₅ => Q f s₅) E s₄)
        (AsSuiteRaised (model prog w) ((A₀.deeper (envOf name scope L a cd)).mark (some (.ref e))) (envOf name scope L a cd) n pos (notedBy (model prog w) ((A₀.deeper (envOf name scope L a cd)).mark (some (.ref e))) (envOf name scope L a cd) (cameBackBy (model prog w) (A₀.deeper (envOf name scope L a cd)) (envOf name scope L a cd) E)))
        { s' with heap := h', toks := tk })
    (hk : scope.kind = .function := by rfl) (hlo : (envOf name scope L a cd).kindOf n = some .local := by rfl) (hx : (envOf name scope L a cd).kindOf "PsError" = some .globalImplicit := by rfl) :
    wpAny (model prog w) (A₀.deeper (envOf name scope L a cd)) (noteFrame (.ref e) (envOf name scope L a cd))
      (fun _ s₂ => wpAny (model prog w) (A₀.deeper (envOf name scope L a cd)) (setFlight (.ref e) none) (fun _ s₃ =>
        wpAny (model prog w) (A₀.deeper (envOf name scope L a cd)) (handleBy (.ref e) (envOf name scope L a cd) (.ExceptHandler (some (.Name "PsError" np)) (some n) (b₀ :: suite) pos :: rest)) Q E s₃) E s₂) E s' := by
  obtain ⟨B, hB, hBG, hl, b1, b2, b3, b4⟩ := R
  have hL : B.get? L = none := by
    obtain ⟨_, ⟨L', _, hf, hn', _⟩, _⟩ := b3
    obtain rfl : L = L' := Option.some.inj hf
    exact hn'
  refine way_note_next (Around.frames_deeper K.stack) b3 rfl b4 b1 b2 fun h₄ x₄ => ?_
  refine way_setnone (s := { s' with heap := h₄ }) x₄.1 x₄.2.1 x₄.2.2.1 fun h₅ x₅ => ?_
  have sm₅ := x₄.2.2.2.trans x₅.2.2.2
  obtain ⟨g₅, T₅, F₅, K₅⟩ := kts_ground K F hBG x₅.1 (hsm.trans sm₅)
  have X₅ : (hd.heap_39 w.params).In g₅ := XB.keeps K₅.stays
  have P₅ : TopRead p loose mg mb g₅ := topRead_of (TB.keeps K₅.stays)
  obtain ⟨oe, vs, _, _, _, he, hp, _⟩ := id x₅.2.2.1
  obtain ⟨nm, q, bs, hdct, sn, sb, ab, col, dd, k0, k1, k2, k3, k5, hC⟩ := at45 (X₅.keeps F₅.keep)
  refine wpAny_handleBy_cons (codeAny_handlers_test (name_K (s := { s' with heap := h₅ }) F₅ X₅ P₅ (by k_is) ?_ hk hx (by decide))) (by intro q; cases q)
  refine wpAny_excMatches_sub_self hC he hp.1 (by decide +kernel) (codeAny_handlers_suite_as ?_)
  refine way_setnone (s := { s' with heap := h₅ }) x₅.1 x₅.2.1 x₅.2.2.1 fun h₆ x₆ => ?_
  have sm₆ := (hsm.trans sm₅).trans x₆.2.2.2
  obtain ⟨g₆, T₆, F₆, K₆⟩ := kts_ground K F hBG x₆.1 sm₆
  obtain ⟨oe, vs, _, _, _, he, hp, hd, _⟩ := id x₆.2.2.1
  have ne₆ : g₆.get? e = none := T₆.none_ _ (kts_fresh F hBG b2 fun o ho m => by
    obtain ⟨_, o', ho', hd'⟩ := K.frames.mem m
    rw [ho] at ho'
    cases ho'
    obtain ⟨sl, hs⟩ := sm₆ _ _ (F.keep _ _ ho) hd'
    rw [he] at hs
    cases hs
    exact hd' _ hd)
  have N₆ : News g₆ L h₆ ((e, oe) :: news) := fun q hq => by
    rcases List.mem_cons.mp hq with rfl | hq
    · refine ⟨he, fun z => ?_, ne₆⟩
      obtain ⟨o, _, _, ho, hd', _⟩ := F₆.ns
      have z' : e = L := z
      rw [← z', he] at ho
      obtain rfl := Option.some.inj ho
      rw [hd] at hd'; cases hd'
    · exact ⟨x₆.1 _ _ (hl q hq).1, (fun z => by have := (hl q hq).1; rw [z, hL] at this; cases this), T₆.none_ _ (kts_none F.keep (hl q hq).2.1)⟩
  refine stN (s := { s' with heap := h₆ }) F₆ N₆ (fun h₇ F₇ N₇ => ?_) hk hlo
  exact k h₇ g₆ oe vs _ T₆ F₇ N₇ hp hd K₆ (XB.keeps K₆.stays) (TB.keeps K₆.stays)
end
end Mine
namespace Mine
open PySem PySem.W PyProof.Rows PySem.Calls
theorem fillme4 : PySem.Challenge.rw_nt0488_01 = PySem.Challenge.rw_nt0488_01 ∧ hd.heap_39 = hd.heap_39 := by
  k_with_none
  w_top off
  k_fill
  exact ⟨rfl, rfl⟩
local macro_rules | `(tactic| walk_at $s:str) => `(tactic| k_extra $(Lean.Syntax.mkStrLit ("m " ++ s.getString)))

abbrev limB : Array UInt8 := #[108, 105, 109, 105, 116, 99, 104, 101, 99, 107]
abbrev toldD (w : World) (tkk tb : Tok) : Obj := dictOf [⟨PyData.keyHash w.params "told", .str "told" tkk, .bytes limB tb⟩] 1

abbrev CtX (w : World) (f : Addr) (k : Nat) (vs : List Value) (news : Led) (R : Value → Led → Prop) (X : Prop) : Prop :=
  ∀ (p : Program) (loose : List Str) (mean : ExcName → Option Value) (mg mb : Str → Option Value)
    (dp un : Nat) (gd : Option (List Code)) (cn : Str) (cs : Scope) (a : Addr) (ccd : Value) (cl : List (Str × Addr)) (outer : List Env) (A₀ : Around)
    (bas h₀ : Heap) (L : Addr) (m : Str → Option Value) (s : Shared) (Q E : Value → Shared → Prop),
    Below A₀ bas outer h₀ → Fr h₀ L s.heap m → (hd.heap_39 w.params).In h₀ → News h₀ L s.heap news → Top p loose mean mg mb h₀ → cs.kind = .function →
    dp + k < recursionLimit → un + 8 * k < cLine →
    (∀ r tl h' tk', Fr h₀ L h' m → News h₀ L h' (tl ++ news) → R r tl → Q r { s with heap := h', toks := tk' }) →
    (X → ∀ e dx tkk tb h' tk' g₂, RaisedD bas g₂ (envX cn cs L a ccd cl :: outer) e dx ((dx, toldD w tkk tb) :: news) h' → Fr h₀ L g₂ m → g₂.UpToSlots h' → E (.ref e) { s with heap := h', toks := tk' }) →
    wpAny (model PG w) (ktrTop dp un gd cn cs L a ccd cl outer) (call (.ref f) vs) Q E s

theorem words_G1_1 : True := by
  k_with "m exec Raise some none" =>
    (k_here; refine ps_raise rfl ?_)
  exact trivial
theorem led_ne {l : Led} {d e : Nat} (h : ∀ q ∈ l, q.1 < d) (k : @LE.le Nat _ d e) : ∀ q ∈ l, q.1 ≠ e := fun q hq => Nat.ne_of_lt (Nat.lt_of_lt_of_le (h q hq) k)
theorem led_ne' {l : Led} {d e : Nat} (h : AllLt d l) (k : @LE.le Nat _ d e) : ∀ q ∈ l, q.1 ≠ e := by
  induction l with
  | nil => exact fun _ h => nomatch h
  | cons p r ih => exact List.forall_mem_cons.mpr ⟨Nat.ne_of_lt (Nat.lt_of_lt_of_le h.1 k), ih h.2⟩
theorem words_G1_2 : True := by
  k_with "m led ne" =>
    first
      | exact List.forall_mem_nil _
      | (refine' List.forall_mem_cons.mpr ⟨?a, ?b⟩; (case a => k_ne); (case b => walk_at "led ne"))
      | (refine' List.forall_mem_append.mpr ⟨?a, ?b⟩; (case a => walk_at "led ne"); (case b => walk_at "led ne"))
      | (refine led_ne (by assumption) ?_; omega)
      | (refine led_ne' (by assumption) ?_; omega)
  k_with "m enter init" =>
    (
      refine' code_def ?k1 ?k2 ?k3 ?k4 ?k5 ?kA ?kF ?kK ?k6 ?k7 ?k8 ?k9 ?kB ?_ ?c2 ?c3 ?c4 ?c5;
      (case kA => exact rfl); (case kF => exact rfl); (case kK => first | assumption | exact rfl); (case k1 => k_asm); (case k2 => k_asm); (case k3 => k_asm); (case k4 => k_asm); (case k5 => k_asm);
      (case k6 => k_is); (case k7 => k_is); (case k8 => ktr_room); (case k9 => first | exact BindsTo.of_eq rfl | exact binds_K (by k_in) rfl (by k_is) rfl rfl rfl);
      (case c5 => decide); (case kB => exact locs rfl); (case c2 => exact rfl); (case c3 => exact rfl); (case c4 => exact rfl); k_whole;
      (intro g' L' h' FG' F' N' B' X' T'); (try dsimp only); (try k_lift B'); (try k_fold))
  k_with "m call ref" =>
    (
      k_here; (with_reducible show wpAny _ _ (call (Value.ref 45) _) _ _ _);
      k_dflt (refine' ps_call ?k1 ?k2 ?k3 ?k4 ?_; (case k1 => k_asm); (case k2 => k_asm); (case k3 => k_asm); (case k4 => size_fits); k_whole);
      (intro t' e' h' F' N' l1 l2); (try k_lt l1); (try k_lt2 l2); (try k_sweep);
      k_dflt (walk_at "enter init"))
  k_with "m setAttr ref" =>
    (
      k_here; (with_reducible show wpAny _ _ (setAttr (Value.ref _) _ _) _ _ _);
      k_dflt (refine' ps_set ?k1 ?k2 ?k3 ?k4 ?_; (case k1 => k_asm); (case k2 => k_asm); (case k3 => k_asm); (case k4 => walk_at "led ne"); k_whole);
      (intro h' tk' d' tk9 F' N' l1 l2); (try k_lt l1); (try k_lt2 l2); (try k_sweep))
  exact trivial
theorem RaisedD.two {base G : Heap} {l : List Env} {e dx : Addr} {p x : Addr × Obj} {news : Led} {h : Heap} (R : RaisedD base G l e dx (p :: x :: news) h) : RaisedD base G l e dx (p :: news) h :=
  R.drop fun q hq => (List.mem_cons.mp hq).elim (fun z => z ▸ .head _) fun hq => .tail _ (.tail _ hq)
theorem words_G1_3 : True := by
  k_with "m PsRaised" =>
    (
      k_here;
      (refine' ⟨_, _, _, rfl, ?kx, ?kg, ?_⟩; (case kx => k_in); (case kg => exact News.get (by k_asm) (by k_mem)); k_whole))
  k_with "m leaving ref" =>
    (
      k_here;
      (k_dflt (first
        | (refine' leave_D0 ?k1 ?k2 ?k3 ?k4 ?_ ?k6; (case k1 => k_asm); (case k2 => k_asm); (case k3 => k_asm); (case k4 => walk_at "led ne"); (case k6 => exact rfl); k_whole)
        | (refine' leave_D ?k1 ?k2 ?k3 ?k4 ?_; (case k3 => assumption); (case k1 => assumption); (case k2 => k_asm); (case k4 => assumption); k_whole)));
      intro h' R' U'; (try dsimp only at R' U' ⊢))
  exact trivial
theorem c_checked (w : World) (n : Int) (t : Tok) (news : Led) : CtX w 75 3 [.int n t] news (fun r tl => n.natAbs ≤ 10 ^ 21 ∧ tl = [] ∧ ∃ t, r = .int n t) (¬ n.natAbs ≤ 10 ^ 21) := by
  unfold CtX
  intro p loose mean mg mb dp un gd cn cs a ccd cl outer A₀ bas h₀ L m s Q E B F X N T hk hdp hun hret hexc
  refine wpAny_call ?_
  k_dflt cell_enter
  k_steps
  all_goals first
    | (refine hret _ [] _ _ (by k_asm) (by k_asm) ⟨?_, rfl, _, rfl⟩; (repeat' split at *) <;> omega)
    | (refine' hexc ?kc _ _ _ _ _ _ _ (RaisedD.two (by assumption)) (by k_asm) (by assumption); ((repeat' split at *) <;> omega))
end Mine
namespace Mine
open PySem PySem.W PyProof.Rows PySem.Calls

/-! enumerate over bytes -/
theorem enb_new (b : Array UInt8) (t : Tok) :
    Meets (Builtin.«enumerate.__new__» ⟨[.type "enumerate", .bytes b t], []⟩) (fun _ R s =>
      R (.ok (.ret (.ref (s.heap.push { cls := .type "bytes_iterator", data := .fields #[.bytes b t, .int 0 0] }).objs.size)))
        { s with heap := (s.heap.push { cls := .type "bytes_iterator", data := .fields #[.bytes b t, .int 0 0] }).push { cls := .type "enumerate", data := .fields #[.none, .bool false, .ref s.heap.objs.size, rawInt 0, .none, .none] } }) :=
  .of_wp fun prog w A R s h => by
    obtain ⟨hp, g, d, tk, os⟩ := s
    have hsub := sub_enumerate
    wp_walk
    refine wpAny_stack_any fun st => wpAny_pure ?_
    split
    · rename_i c _ _ _ _ _
      cases (c == Value.type "enumerate")
      · wp_walk using KBw.pyIter_bytes
        exact ⟨_, rfl, h⟩
      · wp_walk using KBw.pyIter_bytes
        exact ⟨_, rfl, h⟩
    · wp_walk using KBw.pyIter_bytes
      exact ⟨_, rfl, h⟩

section
variable {prog : Program} {w : World} {A : Around} {E : Value → Shared → Prop} {s : Shared}

theorem enb_call {b : Array UInt8} {t : Tok} {Q : Value → Shared → Prop}
    (h : ∀ h', IsEnum h' (s.heap.objs.size + 1) s.heap.objs.size 0 .none → KBw.IsBytesIter h' s.heap.objs.size b t 0 → h'.objs.size = s.heap.objs.size + 2 →
      (∀ b o, s.heap.get? b = some o → h'.get? b = some o) → Q (.ref (s.heap.objs.size + 1)) { s with heap := h' }) :
    wpAny (model prog w) A (call (.type "enumerate") [.bytes b t]) Q E s := by
  refine callType_new PySem.F.called_enumerate (by decide) (PySem.F.typeCall_enumerate_1 _) (PySem.F.newCall_enumerate_1 _) (fun obj => PySem.F.args_object_init_2 obj _) PySem.F.entry_enumerate_new
    (enb_new b t) ?_
  have hz : (s.heap.push { cls := .type "bytes_iterator", data := .fields #[.bytes b t, .int 0 0] }).objs.size = s.heap.objs.size + 1 := Heap.size_push ..
  show _ ∧ _
  rw [hz]
  have he : IsEnum ((s.heap.push { cls := .type "bytes_iterator", data := .fields #[.bytes b t, .int 0 0] }).push
      { cls := .type "enumerate", data := .fields #[.none, .bool false, .ref s.heap.objs.size, rawInt 0, .none, .none] }) (s.heap.objs.size + 1) s.heap.objs.size 0 .none := by
    have := Heap.get?_push_size (s.heap.push { cls := .type "bytes_iterator", data := .fields #[.bytes b t, .int 0 0] })
      (o := { cls := .type "enumerate", data := .fields #[.none, .bool false, .ref s.heap.objs.size, rawInt 0, .none, .none] }) rfl
    rw [hz] at this; exact this
  exact ⟨⟨_, he, rfl⟩, h _ he ⟨_, Heap.get?_push_of_some _ (Heap.get?_push_size _ rfl), rfl, rfl⟩ (by rw [Heap.size_push, hz]) fun b o x => Heap.get?_push_of_some _ (Heap.get?_push_of_some _ x)⟩

theorem enb_nextOf {b : Array UInt8} {t : Tok} {it : Addr} {i : Nat} {c : UInt8} {Q : Value → Shared → Prop} (hit : KBw.IsBytesIter s.heap it b t i) (hx : b[i]? = some c)
    (hQ : ∀ h', KBw.IsBytesIter h' it b t (i + 1) → Heap.SameBut it s.heap h' → Q (.int (c.toNat : Int) s.toks) { s with heap := h', toks := s.toks + 1 }) : wpAny (model prog w) A (Builtin.SmallTypes.nextOf (.ref it)) Q E s := by
  obtain ⟨o, ho, hc, hd⟩ := id hit
  unfold Builtin.SmallTypes.nextOf
  refine wpAny_bind (wpAny_callSpecial?_slot (name := PySem.Str.ofString "__next__") (KBw.iter_typeIs hit) KBw.slot_next
    (wpAny_call_entry KBw.slot_next (KBw.iter_typeIs hit) KBw.entry_next ?_ (KBw.args_next _)))
  show wpAny _ _ (field (.ref it) 0 >>= _) _ _ s
  refine wpAny_bind (wpAny_field ho hd (x := .bytes b t) rfl ?_)
  show wpAny _ _ (if (Value.bytes b t == Value.none) = true then _ else _) _ _ s
  rw [if_neg (show ¬ ((Value.bytes b t == Value.none) = true) from Bool.false_ne_true)]
  show wpAny _ _ (field (.ref it) 1 >>= _) _ _ s
  refine wpAny_bind (wpAny_field ho hd (x := .int i 0) rfl ?_)
  refine wpAny_bind (wpAny_of_eq (a := b) rfl ?_)
  simp only [Int.toNat_natCast, hx]
  refine wpAny_bind (wpAny_setField ho hd (by simp) ?_)
  refine wpAny_bind (wpAny_mkInt (wpAny_pure ⟨_, rfl, wpAny_pure (hQ _ ?_ (Heap.SameBut.update ..))⟩))
  exact ⟨_, Heap.get?_update_self _ ho (Obj.isFreed_of_fields (Obj.data_mapFields hd _)), (Obj.cls_mapFields ..).trans hc, by
    rw [Obj.data_mapFields hd]; simp [rawInt]⟩

theorem enb_nextOf_end {b : Array UInt8} {t : Tok} {it : Addr} {i : Nat} {Q : Value → Shared → Prop} (hh : A.handled = none) (hit : KBw.IsBytesIter s.heap it b t i) (hx : b[i]? = none)
    (hE : ∀ h' e, Heap.ExtBut it s.heap h' → (∃ o, h'.get? e = some o ∧ o.cls = .type "StopIteration") → E (.ref e) { s with heap := h' }) :
    wpAny (model prog w) A (Builtin.SmallTypes.nextOf (.ref it)) Q E s := by
  obtain ⟨o, ho, hc, hd⟩ := id hit
  unfold Builtin.SmallTypes.nextOf
  refine wpAny_bind (wpAny_callSpecial?_slot (name := PySem.Str.ofString "__next__") (KBw.iter_typeIs hit) KBw.slot_next
    (wpAny_call_entry KBw.slot_next (KBw.iter_typeIs hit) KBw.entry_next ?_ (KBw.args_next _)))
  show wpAny _ _ (field (.ref it) 0 >>= _) _ _ s
  refine wpAny_bind (wpAny_field ho hd (x := .bytes b t) rfl ?_)
  show wpAny _ _ (if (Value.bytes b t == Value.none) = true then _ else _) _ _ s
  rw [if_neg (show ¬ ((Value.bytes b t == Value.none) = true) from Bool.false_ne_true)]
  show wpAny _ _ (field (.ref it) 1 >>= _) _ _ s
  refine wpAny_bind (wpAny_field ho hd (x := .int i 0) rfl ?_)
  refine wpAny_bind (wpAny_of_eq (a := b) rfl ?_)
  simp only [Int.toNat_natCast, hx]
  refine wpAny_bind (wpAny_rule (wpAny_bind (wpAny_setField ho hd (by simp) ?_)))
  show wpAny _ _ (newExc (.type "StopIteration") [] >>= _) _ _ _
  refine wpAny_bind ?_
  simp only [newExc, newTuple]
  refine wpAny_bind (wpAny_newObj_type ?_ (by size_fits))
  refine wpAny_bind (m := firstArgMember _ _) (wpAny_of_eq (a := Value.none) (by first | rfl | (simp only [firstArgMember]; rfl)) ?_)
  refine wpAny_newObj_type ?_ (by size_fits)
  simp only [raiseNew]
  refine wpAny_bind (wpAny_handled ?_)
  rw [show A.in1.handled = none from hh]
  refine wpAny_bind (wpAny_pure (wpAny_throw ?_))
  exact hE _ _ (((Heap.SameBut.update ..).extBut.push _).push _) ⟨_, Heap.get?_push_size _ rfl, rfl⟩
end
end Mine
namespace Mine
open PySem PySem.W PyProof.Rows PySem.Calls
open KBw (IsBytesIter)
section
variable {prog : Program} {w : World} {A : Around} {E : Value → Shared → Prop} {s : Shared}

theorem bit_at {h h' : Heap} {it : Addr} {b : Array UInt8} {t : Tok} {i : Nat} (x : IsBytesIter h it b t i) (k : ∀ o, h.get? it = some o → h'.get? it = some o) : IsBytesIter h' it b t i :=
  let ⟨o, ho, r⟩ := x; ⟨o, k o ho, r⟩

theorem enb_next {b : Array UInt8} {t : Tok} {c : UInt8} {e it : Addr} {i : Nat} {old : Value} {Q : Value → Shared → Prop}
    (he : IsEnum s.heap e it i old) (hit : IsBytesIter s.heap it b t i) (hx : b[i]? = some c) (hne : e ≠ it)
    (hQ : ∀ h', IsEnumOut h' e it ((i : Int) + 1) (.int (c.toNat : Int) s.toks) s.heap.objs.size → IsBytesIter h' it b t (i + 1) →
      h'.get? s.heap.objs.size = some { cls := .type "tuple", data := .seq #[.int i (s.toks + 1), .int (c.toNat : Int) s.toks] } → h'.objs.size = s.heap.objs.size + 1 →
      (∀ b o, b ≠ e → b ≠ it → s.heap.get? b = some o → h'.get? b = some o) → Q (.ref s.heap.objs.size) { s with heap := h', toks := s.toks + 1 + 1 }) :
    wpAny (model prog w) A (Builtin.«enumerate.__next__» ⟨[.ref e], []⟩) (fun fin s' => ∃ v, fin = .done (.ret v) ∧ Q v s') E s := by
  obtain ⟨hp, g, d, tk, os⟩ := s
  generalize hxv : (Value.int (c.toNat : Int) tk) = x at *
  show wpAny _ _ (field (.ref e) 2 >>= _) _ _ _
  refine wpAny_bind (wpAny_field he rfl (x := .ref it) rfl ?_)
  refine wpAny_bind (enb_nextOf hit hx fun h₁ hit₁ hs₁ => ?_)
  change Heap.SameBut it hp h₁ at hs₁
  have he₁ : IsEnum h₁ e it i old := (hs₁.2 e hne).trans he
  show wpAny _ _ (field (.ref e) 3 >>= _) _ _ ⟨h₁, g, d, tk + 1, os⟩
  refine wpAny_bind (wpAny_field he₁ rfl (x := rawInt i) rfl ?_)
  show wpAny _ _ (field (.ref e) 4 >>= _) _ _ ⟨h₁, g, d, tk + 1, os⟩
  refine wpAny_bind (wpAny_field he₁ rfl (x := .none) rfl ?_)
  show wpAny _ _ (mkInt i >>= _) _ _ ⟨h₁, g, d, tk + 1, os⟩
  refine wpAny_bind (wpAny_mkInt ?_)
  show wpAny _ _ (setField (.ref e) 3 (rawInt ((i : Int) + 1)) >>= _) _ _ ⟨h₁, g, d, tk + 1 + 1, os⟩
  refine wpAny_bind (wpAny_setField_rec he₁ (by simp) fun h₂ he₂ hs₂ => ?_)
  change Heap.SameBut e h₁ h₂ at hs₂
  change IsEnum h₂ e it ((i : Int) + 1) old at he₂
  show wpAny _ _ (setField (.ref e) 4 .none >>= _) _ _ ⟨h₂, g, d, tk + 1 + 1, os⟩
  refine wpAny_bind (wpAny_setField_rec he₂ (by simp) fun h₃ he₃ hs₃ => ?_)
  change Heap.SameBut e h₂ h₃ at hs₃
  change IsEnum h₃ e it ((i : Int) + 1) old at he₃
  show wpAny _ _ (newTuple [.int i (tk + 1), .int (c.toNat : Int) tk] >>= _) _ _ ⟨h₃, g, d, tk + 1 + 1, os⟩
  rw [hxv]
  refine wpAny_bind (wpAny_newTuple ?_)
  have hsz : h₃.objs.size = hp.objs.size := by rw [hs₃.1, hs₂.1, hs₁.1]
  have hel : e < hp.objs.size := Heap.lt_size he
  have he₄ : IsEnum (h₃.push { cls := .type "tuple", data := .seq #[.int i (tk + 1), x] }) e it ((i : Int) + 1) old := Heap.get?_push_of_some _ he₃
  have ht₄ : (h₃.push { cls := .type "tuple", data := .seq #[.int i (tk + 1), x] }).get? hp.objs.size = some { cls := .type "tuple", data := .seq #[.int i (tk + 1), x] } := by rw [← hsz]; exact Heap.get?_push_size _ rfl
  have hz₄ : (h₃.push { cls := .type "tuple", data := .seq #[.int i (tk + 1), x] }).objs.size = hp.objs.size + 1 := by rw [Heap.size_push, hsz]
  have hk₄ : ∀ b o, b ≠ e → b ≠ it → hp.get? b = some o → (h₃.push { cls := .type "tuple", data := .seq #[.int i (tk + 1), x] }).get? b = some o := fun b o hbe hbi hb => Heap.get?_push_of_some _ (hs₃.extBut b o hbe (hs₂.extBut b o hbe (hs₁.extBut b o hbi hb)))
  have hit₄ : IsBytesIter (h₃.push { cls := .type "tuple", data := .seq #[.int i (tk + 1), x] }) it b t (i + 1) := bit_at hit₁ fun o ho => Heap.get?_push_of_some _ (hs₃.extBut it o (Ne.symm hne) (hs₂.extBut it o (Ne.symm hne) ho))
  generalize h₃.push { cls := .type "tuple", data := .seq #[.int i (tk + 1), x] } = h₄ at *
  show wpAny _ _ (Builtin.SmallTypes.ownedTupleIsFree (.ref e) >>= _) _ _ ⟨h₄, g, d, tk + 1 + 1, os⟩
  rw [hsz]
  clear he₃ hs₃ he₂ hs₂ he₁ hs₁ hit₁ hsz
  refine wpAny_bind ?_
  · unfold Builtin.SmallTypes.ownedTupleIsFree
    refine wpAny_bind (wpAny_field he₄ rfl (x := .none) rfl (wpAny_pure ?_))
    simp only [if_true]
    refine wpAny_bind (wpAny_rule ?_)
    refine wpAny_bind (wpAny_field he₄ rfl (x := old) rfl ?_)
    refine wpAny_bind (wpAny_setField_rec he₄ (by simp) fun h₅ he₅ hs₅ => ?_)
    change Heap.SameBut e h₄ h₅ at hs₅
    change IsEnum h₅ e it ((i : Int) + 1) x at he₅
    show wpAny _ _ (Builtin.SmallTypes.ownedTupleHandOut (.ref e) (.ref hp.objs.size) >>= _) _ _ ⟨h₅, g, d, tk + 1 + 1, os⟩
    refine wpAny_bind ?_
    · unfold Builtin.SmallTypes.ownedTupleHandOut
      refine wpAny_bind (wpAny_setField_rec he₅ (by simp) fun h₆ he₆ hs₆ => ?_)
      change Heap.SameBut e h₅ h₆ at hs₆
      change IsEnumOut h₆ e it ((i : Int) + 1) x hp.objs.size at he₆
      refine wpAny_setField_rec he₆ (by simp) fun h₇ he₇ hs₇ => ?_
      change Heap.SameBut e h₆ h₇ at hs₇
      change IsEnumOut h₇ e it ((i : Int) + 1) x hp.objs.size at he₇
      have up : ∀ b o, b ≠ e → h₄.get? b = some o → h₇.get? b = some o := fun b o hbe q => hs₇.extBut b o hbe (hs₆.extBut b o hbe (hs₅.extBut b o hbe q))
      refine wpAny_bind (wpAny_letGo (wpAny_pure ⟨_, rfl, hQ h₇ he₇ (bit_at hit₄ fun o q => up it o (Ne.symm hne) q) (up _ _ (Nat.ne_of_gt hel) ht₄) (by rw [hs₇.1, hs₆.1, hs₅.1, hz₄]) fun b o hbe hbi q => up b o hbe (hk₄ b o hbe hbi q)⟩))

theorem enb_pyNext {b : Array UInt8} {t : Tok} {c : UInt8} {e it : Addr} {i : Nat} {old : Value} {Q : Option Value → Shared → Prop}
    (he : IsEnum s.heap e it i old) (hit : IsBytesIter s.heap it b t i) (hx : b[i]? = some c) (hne : e ≠ it)
    (hQ : ∀ h', IsEnumOut h' e it ((i : Int) + 1) (.int (c.toNat : Int) s.toks) s.heap.objs.size → IsBytesIter h' it b t (i + 1) →
      h'.get? s.heap.objs.size = some { cls := .type "tuple", data := .seq #[.int i (s.toks + 1), .int (c.toNat : Int) s.toks] } → h'.objs.size = s.heap.objs.size + 1 →
      (∀ b o, b ≠ e → b ≠ it → s.heap.get? b = some o → h'.get? b = some o) → Q (some (.ref s.heap.objs.size)) { s with heap := h', toks := s.toks + 1 + 1 }) :
    wpAny (model prog w) A (pyNext (.ref e)) Q E s := by
  have hT : s.TypeIs (.ref e) "enumerate" := ⟨_, he, rfl⟩
  unfold pyNext
  exact wpAny_bind (wpAny_attempt (wpAny_callSpecial?_slot (name := Str.ofString "__next__") hT PySem.F.slot_enumerate_next
    (wpAny_call_entry PySem.F.slot_enumerate_next hT PySem.F.entry_enumerate_next
      (enb_next he hit hx hne fun h' a b c d k => wpAny_pure (hQ h' a b c d k)) (PySem.F.args_enumerate_next_1 _))))

theorem enb_pyEnd {b : Array UInt8} {t : Tok} {e it : Addr} {i : Nat} {old : Value} {Q : Option Value → Shared → Prop} (hh : A.handled = none)
    (he : IsEnum s.heap e it i old) (hit : IsBytesIter s.heap it b t i) (hx : b[i]? = none)
    (hQ : ∀ h', Heap.ExtBut it s.heap h' → Q none { s with heap := h' }) : wpAny (model prog w) A (pyNext (.ref e)) Q E s := by
  have hT : s.TypeIs (.ref e) "enumerate" := ⟨_, he, rfl⟩
  unfold pyNext
  refine wpAny_bind (wpAny_attempt (wpAny_callSpecial?_slot (name := Str.ofString "__next__") hT PySem.F.slot_enumerate_next
    (wpAny_call_entry PySem.F.slot_enumerate_next hT PySem.F.entry_enumerate_next ?_ (PySem.F.args_enumerate_next_1 _))))
  show wpAny _ _ (field (.ref e) 2 >>= _) _ _ _
  refine wpAny_bind (wpAny_field he rfl (x := .ref it) rfl ?_)
  refine wpAny_bind (enb_nextOf_end hh hit hx fun h' x he' hx' => ?_)
  obtain ⟨o, ho, hc⟩ := hx'
  refine wpAny_bind (wpAny_isInstance (T := "StopIteration") (b := true) ⟨o, ho, hc⟩ isSubtype_stop ?_)
  exact wpAny_pure (hQ _ he')
end

theorem enb_walks {prog : Program} {w : World} {A : Around} (hh : A.handled = none) (e it : Addr) (hei : e ≠ it) (b : Array UInt8) (t : Tok) :
    WalksT prog w A e [e, it] [e, it] b.size
      (fun i vals => ∃ t c u, b[i]? = some c ∧ vals = #[.int i t, .int (c.toNat : Int) u])
      (fun i h => (∃ old, IsEnum h e it i old) ∧ IsBytesIter h it b t i)
      (fun i T h => (∃ x, IsEnumOut h e it ((i : Int) + 1) x T) ∧ IsBytesIter h it b t (i + 1) ∧ T ≠ e ∧ T ≠ it) where
  sub := fun _ h => h
  frame := fun i h h' hst hk => by
    obtain ⟨⟨old, he⟩, hit⟩ := hst
    exact ⟨⟨old, hk e (by simp) _ he⟩, bit_at hit fun o x => hk it (by simp) o x⟩
  item := fun i s Q E hi hst hQ => by
    obtain ⟨⟨old, he⟩, hit⟩ := hst
    have hx : b[i]? = some b[i] := Array.getElem?_eq_getElem hi
    refine enb_pyNext he hit hx hei fun h' ho hit' hT hsz hk => ?_
    have helt : e < s.heap.objs.size := Heap.lt_size he
    have hilt : it < s.heap.objs.size := by obtain ⟨_, x, _⟩ := hit; exact Heap.lt_size x
    exact hQ s.heap.objs.size _ h' _ ⟨_, _, _, hx, rfl⟩ (Nat.le_refl _) ⟨_, hT, rfl, _, rfl⟩
      ⟨⟨_, ho⟩, hit', Nat.ne_of_gt helt, Nat.ne_of_gt hilt⟩
      fun b o hb x => hk b o (fun e' => hb (by simp [e'])) (fun e' => hb (by simp [e'])) x
  go := fun elts k pos i T s Q E hm hQ => by
    obtain ⟨⟨x, ho⟩, hit, hTe, hTi⟩ := hm
    refine wpAny_letOwnedTupleGo_enum ho fun h' he' hs' => hQ h' ⟨⟨x, by simpa using he'⟩, bit_at hit fun o y => (hs'.2 it hei.symm).trans y⟩ fun b o hb y => ?_
    exact (hs'.2 b fun e' => hb (by simp [e'])).trans y
  apart := fun i T h hm hT => by
    obtain ⟨_, _, hTe, hTi⟩ := hm
    rcases List.mem_cons.mp hT with rfl | hT
    · exact hTe rfl
    · rw [List.mem_singleton.mp hT] at hTi; exact hTi rfl
  done := fun s Q E hst hQ => by
    obtain ⟨⟨old, he⟩, hit⟩ := hst
    exact enb_pyEnd hh he hit (Array.getElem?_eq_none (Nat.le_refl _)) fun h' hx => hQ h' s.toks fun b o hb y => hx b o (fun e' => hb (by simp [e'])) y
  self := fun i s Q E hst hQ => by
    obtain ⟨⟨old, he⟩, _⟩ := hst
    exact wpAny_pyIter_enum he hQ
end Mine
namespace Mine
open PySem PySem.W PyProof.Rows PySem.Calls

/-- a turn of a search ends: it gives back, or goes on with nothing changed -/
def SPost (Q : Flow → Shared → Prop) (h₀ : Heap) (L : Addr) (m : Str → Option Value) (led : Led) (P : Prop) (s : Shared) (f : Flow) (s₂ : Shared) : Prop := match f with
  | .ret v => Q (.ret v) s₂
  | .next => P ∧ ∃ h' tk', s₂ = { s with heap := h', toks := tk' } ∧ Fr h₀ L h' m ∧ News h₀ L h' led
  | _ => False

section
variable {prog : Program} {w : World} {A : Around} {E : Value → Shared → Prop} {s : Shared} {name : Str} {scope : Scope} {L a : Addr} {cd : Value} {h₀ : Heap} {m₀ : Str → Option Value} {news : Led} {Q : Flow → Shared → Prop}
  {xi xv : Str} {pi pv pos : Pos} {k : Nat} {body : List Stmt} {b : Array UInt8} {ks : List Int} {t : Tok}

theorem enb_search (P : List Int → Prop) (hb : KBw.bInts b = ks) (hh : A.handled = none) (F : Fr h₀ L s.heap m₀) (N : News h₀ L s.heap news)
    (hk : scope.kind = .function) (hxi : (envOf name scope L a cd).kindOf xi = some .local) (hxv : (envOf name scope L a cd).kindOf xv = some .local) (hp : P [])
    (turn : ∀ pre post n ti tn h tk own, ks = pre ++ n :: post → 0 ≤ n → n < 256 → P pre → (∀ p ∈ own, ∀ q ∈ news, q.1 < p.1) →
      Fr h₀ L h (fun y => if y = xv then some (.int n tn) else if y = xi then some (.int (pre.length : Int) ti) else m₀ y) → News h₀ L h (own ++ news) →
      wpAny (model prog w) A (execs body (envOf name scope L a cd)) (SPost Q h₀ L (fun y => if y = xv then some (.int n tn) else if y = xi then some (.int (pre.length : Int) ti) else m₀ y) (own ++ news) (P (pre ++ [n])) { s with heap := h, toks := tk }) E { s with heap := h, toks := tk })
    (done : ∀ (u : Str → Option Value) h tk, P ks → Fr h₀ L h (fun y => if y = xv ∨ y = xi then u y else m₀ y) → News h₀ L h news → Q .next { s with heap := h, toks := tk }) :
    wpAny (model prog w) A (call (.type "enumerate") [.bytes b t]) (fun xv' s₁ => wpAny (model prog w) A (pyIter xv') (fun it s₂ => TurnsAt prog w A h₀ (envOf name scope L a cd) (.Tuple [.Name xi pi, .Name xv pv] k pos) body Q E it s₂) E s₁) E s := by
  subst hb
  have hLs : L < s.heap.objs.size := F.ns.lt
  refine enb_call fun h' hE hI hsz hk' => ?_
  refine wpAny_pyIter_enum hE ?_
  have F₁ : Fr h₀ L h' m₀ := F.keeps hk'
  have N₁ : News h₀ L h' news := N.grown hk'
  refine ⟨s.heap.objs.size + 1, [s.heap.objs.size + 1, s.heap.objs.size], [s.heap.objs.size + 1, s.heap.objs.size], b.size, _, _, _, m₀, news,
    (fun i m' nx => nx = news ∧ P ((KBw.bInts b).take i) ∧ ∃ u : Str → Option Value, m' = fun y => if y = xv ∨ y = xi then u y else m₀ y), rfl,
    KTurns.ofWalksU (enb_walks hh (s.heap.objs.size + 1) s.heap.objs.size (Nat.succ_ne_self _) b t).toU, ?_, ?_, ?_, ⟨⟨.none, hE⟩, hI⟩, F₁, N₁, ⟨rfl, by simpa using hp, m₀, ?_⟩, ?_, ?_⟩
  · intro hI'
    replace hI' : L ∈ [s.heap.objs.size + 1, s.heap.objs.size] := hI'
    have hb' : L = s.heap.objs.size + 1 ∨ L = s.heap.objs.size := by simpa using hI'
    rcases hb' with e | e
    · exact ktu_ne 1 hLs e
    · exact Nat.ne_of_lt hLs e
  · intro b' hb
    have hb' : b' = s.heap.objs.size + 1 ∨ b' = s.heap.objs.size := by simpa using hb
    rcases hb' with rfl | rfl
    · exact ktu_new F (Nat.le_add_right _ _)
    · exact ktu_new F (Nat.le_refl _)
  · intro p hp hI'
    have hb' : p.1 = s.heap.objs.size + 1 ∨ p.1 = s.heap.objs.size := by simpa using hI'
    have hlp := Heap.lt_size (N p hp).1
    rcases hb' with e | e
    · exact ktu_ne 1 hlp e
    · exact Nat.ne_of_lt hlp e
  · funext y; split <;> rfl
  · rintro i v m₁ news₁ h₁ tk₁ own hi ⟨T, vals, rfl, ⟨ti, c, tn, hc, rfl⟩, hT⟩ ⟨rfl, hP, u, rfl⟩ ha hown hown' hown2 hst F₂ N₂
    have hn := KBw.ints_get hc
    have hr := KBw.ints_in (List.mem_of_getElem? hn)
    have hs : (KBw.bInts b).take (i + 1) = (KBw.bInts b).take i ++ [(c.toNat : Int)] := by simp [List.take_add_one, hn]
    have hil : ((KBw.bInts b).take i).length = i := by rw [List.length_take, KBw.ints_length]; omega
    have he : KBw.bInts b = (KBw.bInts b).take i ++ (c.toNat : Int) :: (KBw.bInts b).drop (i + 1) := by
      have ht := List.take_append_drop (i + 1) (KBw.bInts b)
      rw [hs, List.append_assoc] at ht
      exact ht.symm
    refine wpAny_assign_Tuple hh hT rfl rfl fun h₃ hx₃ => ?_
    change Heap.ExtBut h₁.objs.size h₁ h₃ at hx₃
    have k₃ : ∀ b o, h₁.get? b = some o → h₃.get? b = some o := fun b o q => hx₃ b o (Nat.ne_of_lt (Heap.lt_size q)) q
    show wpAny _ A (do holding [.int (c.toNat : Int) tn] (assign (.Name xi pi) (envOf name scope L a cd) (.int i ti)); do holding [] (assign (.Name xv pv) (envOf name scope L a cd) (.int (c.toNat : Int) tn)); pure ()) _ _ _
    refine wpAny_bind (wpAny_holding (wpAny_assign_Name (stN (s := { s with heap := h₃, toks := tk₁ }) (F₂.keeps k₃) (N₂.grown k₃) (fun h₄ F₄ N₄ => ?_) hk hxi)))
    refine wpAny_bind (wpAny_holding (wpAny_assign_Name (stN (s := { s with heap := h₄, toks := tk₁ + 1 }) F₄ N₄ (fun h₅ F₅ N₅ => wpAny_pure ?_) hk hxv)))
    have em : (fun y => if y = xv then some (Value.int (c.toNat : Int) tn) else (fun y => if y = xi then some (Value.int i ti) else (fun y => if y = xv ∨ y = xi then u y else m₀ y) y) y)
        = fun y => if y = xv then some (Value.int (c.toNat : Int) tn) else if y = xi then some (.int (((KBw.bInts b).take i).length : Int) ti) else m₀ y := by
      funext y
      rw [hil]
      by_cases h1 : y = xv
      · simp [h1]
      · by_cases h2 : y = xi <;> simp [h1, h2]
    rw [em] at F₅
    have hnew : ∀ p ∈ own, ∀ q ∈ news₁, q.1 < p.1 := fun p hp q hq => by
      have hb' : p.1 = s.heap.objs.size + 1 ∨ p.1 = s.heap.objs.size := by simpa using hown p hp
      have hlq : q.1 < s.heap.objs.size := Heap.lt_size (N q hq).1
      rcases hb' with e | e
      · rw [e]; exact Nat.lt_succ_of_lt hlq
      · rw [e]; exact hlq
    refine wpAny_mono (turn _ _ _ ti tn h₅ _ own he hr.1 hr.2 hP hnew F₅ N₅) (fun f s₂ hf => ?_) fun _ _ x => x
    cases f with
    | ret v => exact hf
    | next =>
      obtain ⟨hP', h₆, tk₆, rfl, F₆, N₆⟩ := hf
      refine ⟨rfl, h₆, tk₆, _, news₁, rfl, F₆, N₆, ha, rfl, by rw [hs]; exact hP', (fun y => if y = xv then some (.int (c.toNat : Int) tn) else some (.int (((KBw.bInts b).take i).length : Int) ti)), ?_⟩
      funext y
      by_cases h1 : y = xv
      · simp [h1]
      · by_cases h2 : y = xi <;> simp [h1, h2]
    | brk => exact hf.elim
    | cont => exact hf.elim
  · rintro h₂ tk₂ m₂ news₂ F₂ N₂ _ ⟨rfl, hP, u, rfl⟩
    exact done u h₂ tk₂ (by rw [← KBw.ints_length b, List.take_length] at hP; exact hP) F₂ N₂
end
end Mine
namespace Mine
open PySem PySem.W PyProof.Rows PySem.Calls
open KBw (bInts)

theorem list_ints (l l' : List UInt8) : (l == l') = decide (l.map (fun c => (c.toNat : Int)) = l'.map (fun c => (c.toNat : Int))) := by
  induction l generalizing l' with
  | nil => cases l' <;> simp
  | cons a r ih =>
    cases l' with
    | nil => simp
    | cons a' r' =>
      have e : (a == a') = decide ((a.toNat : Int) = (a'.toNat : Int)) := by
        by_cases h : a = a'
        · simp [h]
        · have : a.toNat ≠ a'.toNat := fun q => h (UInt8.toNat_inj.mp q)
          rw [beq_eq_false_iff_ne.mpr h]; symm; exact decide_eq_false (by omega)
      rw [List.cons_beq_cons, e, ih r']
      simp [List.map_cons]
theorem beq_ints (b c : Array UInt8) : (b.toList == c.toList) = decide (bInts b = bInts c) := list_ints _ _

section
variable {prog : Program} {w : World} {A : Around} {E : Value → Shared → Prop} {s : Shared} {b c : Array UInt8} {t u : Tok}

theorem eq_bytesI {Q : Value → Shared → Prop} {ks ls : List Int} (hb : bInts b = ks) (hc : bInts c = ls) (h : Q (.bool (decide (ks = ls))) s) : wpAny (model prog w) A (compareOp .Eq (.bytes b t) (.bytes c u)) Q E s := by
  subst hb hc
  refine eq_bytes ?_
  rw [beq_ints]; exact h

theorem contains_ints (b : Array UInt8) {n : Int} (h0 : 0 ≤ n) (h1 : n < 256) : b.contains n.toNat.toUInt8 = decide (n ∈ bInts b) := by
  have e : ((n.toNat.toUInt8).toNat : Int) = n := byte_back h0 h1
  rw [Bool.eq_iff_iff]
  simp only [Array.contains_iff_mem, decide_eq_true_eq]
  constructor
  · intro h
    exact List.mem_map.mpr ⟨_, Array.mem_toList_iff.mpr h, e⟩
  · intro h
    obtain ⟨a, ha, q⟩ := List.mem_map.mp h
    have : a = n.toNat.toUInt8 := UInt8.toNat_inj.mp (by omega)
    rw [← this]; exact Array.mem_toList_iff.mp ha

theorem gives_in_int {n : Int} (h0 : 0 ≤ n) (h1 : n < 256) : Gives (Builtin.«bytes.__contains__» ⟨[.bytes b t, .int n u], []⟩) (.val (.bool (decide (n ∈ bInts b)))) := by
  refine .of_wp fun M A E s Q hq => ?_
  rw [← contains_ints b h0 h1] at hq
  show wpAny M A (Builtin.Bytes.containsIn "bytes.__contains__" (.bytes b t) (.int n u) >>= fun r => _) _ E s
  refine wpAny_bind ?_
  unfold Builtin.Bytes.containsIn
  refine wpAny_bind (wpAny_attempt (wpAny_pure ?_))
  refine wpAny_bind (wpAny_of_eq KBy.buffer_eq ?_)
  dsimp only
  rw [if_neg (by simp; omega)]
  exact wpAny_pure (wpAny_pure ⟨_, rfl, hq⟩)

theorem in_int {n : Int} {Q : Value → Shared → Prop} (h0 : 0 ≤ n) (h1 : n < 256) (h : Q (.bool (decide (n ∈ bInts b))) s) : wpAny (model prog w) A (compareOp .In (.int n u) (.bytes b t)) Q E s :=
  in_gives (typeIs_bytes s b t) FB.slot_bytes_contains FB.entry_bytes_contains (FB.args_bytes_contains_2 _ _) (gives_in_int h0 h1) h

theorem eqGives_bytes (b c : Array UInt8) (t u : Tok) : MeetsSeq.EqGives (.bytes b t) (.bytes c u) (decide (bInts b = bInts c)) := by
  intro prog w A E s Q h
  unfold eqBool
  refine wpAny_holding ?_
  refine wpAny_ite_split (fun hab => ?_) (fun hab => ?_)
  · have e : b = c := by have := eq_of_beq hab; injection this
    subst e
    exact wpAny_bind (wpAny_rule (wpAny_pure (by simpa using h)))
  · rw [← beq_ints] at h
    exact wpAny_bind (richCompare_gives (typeIs_bytes s b t) (typeIs_bytes s c u) FB.slot_bytes_eq FB.entry_bytes_eq (FB.args_bytes_eq_2 _ _) (gives_bytes_eq b c t u) (by simp [Made.takes]) (wpAny_truthy_bool h))

theorem in_tupB {l : Addr} {x y : Array UInt8} {tx ty : Tok} {n : Nat} {Q : Value → Shared → Prop}
    (hl : s.heap.get? l = some { cls := .type "tuple", dict := none, data := .seq #[.bytes x tx, .bytes y ty] n, slots := #[] }) (h : Q (.bool (decide (bInts b = bInts x ∨ bInts b = bInts y))) s) :
    wpAny (model prog w) A (compareOp .In (.bytes b t) (.ref l)) Q E s := by
  refine SeqRoads2.in_tuple (fun v => match v with | .bytes z _ => decide (bInts z = bInts b) | _ => false) ?_ hl ?_
  · intro v hv
    have hv' : v = .bytes x tx ∨ v = .bytes y ty := by simpa using hv
    rcases hv' with rfl | rfl <;> exact eqGives_bytes _ _ _ _
  · have e : (#[Value.bytes x tx, Value.bytes y ty].any fun v => match v with | .bytes z _ => decide (bInts z = bInts b) | _ => false) = decide (bInts b = bInts x ∨ bInts b = bInts y) := by
      simp [eq_comm]
    rw [e]; exact h
end
end Mine
namespace Mine
open PySem PySem.W PyProof.Rows PySem.Calls
open KBw (bInts)

theorem meets_in_bytes (b c : Array UInt8) (t u : Tok) :
    Meets (Builtin.«bytes.__contains__» ⟨[.bytes b t, .bytes c u], []⟩) (fun A R s => A.handled = none ∧ ∀ h' tk, (∀ a o, s.heap.get? a = some o → h'.get? a = some o) → R (.ok (.ret (.bool (Builtin.Bytes.find? b c 0 b.size).isSome))) { s with heap := h', toks := tk }) :=
  .of_wp fun prog w A R s h => by
    obtain ⟨hh, h⟩ := h
    obtain ⟨hp, g, d, tk, os⟩ := s
    show wpAny _ _ (Builtin.Bytes.containsIn "bytes.__contains__" (.bytes b t) (.bytes c u) >>= fun r => _) _ _ _
    refine wpAny_bind ?_
    unfold Builtin.Bytes.containsIn
    refine wpAny_bind (wpAny_attempt ?_)
    unfold asIndex
    refine wpAny_bind (wpAny_of_eq (a := none) rfl ?_)
    have hno : typeLookup (.type "bytes") "__index__" = pure none := by rw [typeLookup_type, builtinLookup_eq_fast]; kernel_rfl
    have lenl : (toString "'" ++ toString ((Manifest.find? "bytes").elim "bytes" fun x => x.tpName) ++ toString "' object cannot be interpreted as an integer" : String) = "'bytes' object cannot be interpreted as an integer" := by decide +kernel
    wp_walk
    rw [lenl]
    refine wpAny_raiseErrorMade plainExc_TypeError (show A.in1.handled = none from hh) (fun h' tk' e hx => ?_)
    refine wpAny_bind (wpAny_of_eq KBy.buffer_eq ?_)
    dsimp only
    refine wpAny_bind (wpAny_of_eq KBy.buffer_eq ?_)
    dsimp only
    refine wpAny_bind (wpAny_rule (wpAny_pure (wpAny_pure ⟨_, rfl, ?_⟩)))
    exact h _ _ hx.keeps

theorem find_one (b : Array UInt8) (x : UInt8) : (Builtin.Bytes.find? b #[x] 0 b.size).isSome = decide ((x.toNat : Int) ∈ bInts b) := by
  unfold Builtin.Bytes.find?
  rw [Bool.eq_iff_iff]
  simp only [List.find?_isSome, decide_eq_true_eq, List.mem_map, List.mem_range, beq_iff_eq]
  constructor
  · rintro ⟨i, ⟨j, hj, rfl⟩, he⟩
    have hj' : j < b.size := by simp at hj; omega
    have e1 : b.extract (j + 0) (j + 0 + #[x].size) = #[b[j]] := by
      apply Array.ext
      · simp; omega
      · intro k h1 h2
        have : k = 0 := by simp at h2; omega
        subst this
        simp
    rw [e1] at he
    have : b[j] = x := by simpa using he
    exact List.mem_map.mpr ⟨b[j], Array.mem_toList_iff.mpr (Array.getElem_mem hj'), by rw [this]⟩
  · intro h
    obtain ⟨a, ha, q⟩ := List.mem_map.mp h
    have hax : a = x := UInt8.toNat_inj.mp (by omega)
    subst hax
    obtain ⟨j, hj, rfl⟩ := Array.mem_iff_getElem.mp (Array.mem_toList_iff.mp ha)
    refine ⟨j, ⟨j, by simp; omega, by simp⟩, ?_⟩
    apply Array.ext
    · simp; omega
    · intro k h1 h2
      have : k = 0 := by simp at h2; omega
      subst this
      simp

theorem in_bytes1 {prog : Program} {w : World} {A : Around} {E : Value → Shared → Prop} {s : Shared} {h₀ : Heap} {L : Addr} {m : Str → Option Value} {news : Led} {b : Array UInt8} {ks : List Int} {x : UInt8} {t u : Tok} {Q : Value → Shared → Prop} (F : Fr h₀ L s.heap m) (N : News h₀ L s.heap news) (hh : A.handled = none)
    (hb : bInts b = ks) (h : ∀ h' tk, Fr h₀ L h' m → News h₀ L h' news → Q (.bool (decide ((x.toNat : Int) ∈ ks))) { s with heap := h', toks := tk }) : wpAny (model prog w) A (compareOp .In (.bytes #[x] u) (.bytes b t)) Q E s := by
  subst hb
  refine SeqRoads2.in_meets (typeIs_bytes s b t) FB.slot_bytes_contains FB.entry_bytes_contains (FB.args_bytes_contains_2 _ _) (meets_in_bytes b #[x] t u) ⟨hh, fun h' tk k => ?_⟩
  rw [find_one]
  exact ⟨_, rfl, h h' tk (F.keeps k) (N.grown k)⟩
end Mine
namespace Mine
open PySem PySem.W PyProof.Rows PySem.Calls
open KBw (bInts)
theorem fillme5 : PySem.Challenge.rw_nt0488_01 = PySem.Challenge.rw_nt0488_01 ∧ hd.heap_39 = hd.heap_39 := by
  k_with_none
  w_top off
  k_fill
  exact ⟨rfl, rfl⟩
local macro_rules | `(tactic| walk_at $s:str) => `(tactic| k_extra $(Lean.Syntax.mkStrLit ("m " ++ s.getString)))
theorem words_G2_1 : True := by
  k_with "m exec Raise some none" =>
    (k_here; refine ps_raise rfl ?_)
  k_with "m led ne" =>
    first
      | exact List.forall_mem_nil _
      | (refine' List.forall_mem_cons.mpr ⟨?a, ?b⟩; (case a => k_ne); (case b => walk_at "led ne"))
      | (refine' List.forall_mem_append.mpr ⟨?a, ?b⟩; (case a => walk_at "led ne"); (case b => walk_at "led ne"))
      | (refine led_ne (by assumption) ?_; omega)
      | (refine led_ne' (by assumption) ?_; omega)
  k_with "m enter init" =>
    (
      refine' code_def ?k1 ?k2 ?k3 ?k4 ?k5 ?kA ?kF ?kK ?k6 ?k7 ?k8 ?k9 ?kB ?_ ?c2 ?c3 ?c4 ?c5;
      (case kA => exact rfl); (case kF => exact rfl); (case kK => first | assumption | exact rfl); (case k1 => k_asm); (case k2 => k_asm); (case k3 => k_asm); (case k4 => k_asm); (case k5 => k_asm);
      (case k6 => k_is); (case k7 => k_is); (case k8 => ktr_room); (case k9 => first | exact BindsTo.of_eq rfl | exact binds_K (by k_in) rfl (by k_is) rfl rfl rfl);
      (case c5 => decide); (case kB => exact locs rfl); (case c2 => exact rfl); (case c3 => exact rfl); (case c4 => exact rfl); k_whole;
      (intro g' L' h' FG' F' N' B' X' T'); (try dsimp only); (try k_lift B'); (try k_fold))
  k_with "m call ref" =>
    (
      k_here; (with_reducible show wpAny _ _ (call (Value.ref 45) _) _ _ _);
      k_dflt (refine' ps_call ?k1 ?k2 ?k3 ?k4 ?_; (case k1 => k_asm); (case k2 => k_asm); (case k3 => k_asm); (case k4 => size_fits); k_whole);
      (intro t' e' h' F' N' l1 l2); (try k_lt l1); (try k_lt2 l2); (try k_sweep);
      k_dflt (walk_at "enter init"))
  k_with "m setAttr ref" =>
    (
      k_here; (with_reducible show wpAny _ _ (setAttr (Value.ref _) _ _) _ _ _);
      k_dflt (refine' ps_set ?k1 ?k2 ?k3 ?k4 ?_; (case k1 => k_asm); (case k2 => k_asm); (case k3 => k_asm); (case k4 => walk_at "led ne"); k_whole);
      (intro h' tk' d' tk9 F' N' l1 l2); (try k_lt l1); (try k_lt2 l2); (try k_sweep))
  k_with "m PsRaised" =>
    (
      k_here;
      (refine' ⟨_, _, _, rfl, ?kx, ?kg, ?_⟩; (case kx => k_in); (case kg => exact News.get (by k_asm) (by k_mem)); k_whole))
  k_with "m leaving ref" =>
    (
      k_here;
      (k_dflt (first
        | (refine' leave_D0 ?k1 ?k2 ?k3 ?k4 ?_ ?k6; (case k1 => k_asm); (case k2 => k_asm); (case k3 => k_asm); (case k4 => walk_at "led ne"); (case k6 => exact rfl); k_whole)
        | (refine' leave_D ?k1 ?k2 ?k3 ?k4 ?_; (case k3 => assumption); (case k1 => assumption); (case k2 => k_asm); (case k4 => assumption); k_whole)));
      intro h' R' U'; (try dsimp only at R' U' ⊢))
  k_with "m ct_sides" =>
    (
      (case k1 => k_asm); (case k2 => k_asm); (case k3 => k_asm); (case k4 => k_asm); (case k5 => k_asm); (case kK => first | exact rfl | assumption); (case kd => ktr_room); (case ku => ktr_units))
  k_with "m drop led" =>
    first
      | k_asm
      | (refine cb_drop (by with_reducible assumption) ?_; intro p hp; first
          | exact .tail _ hp
          | exact .tail _ (.tail _ hp)
          | exact .tail _ (.tail _ (.tail _ hp))
          | exact .tail _ (.tail _ (.tail _ (.tail _ hp)))
          | exact .tail _ (.tail _ (.tail _ (.tail _ (.tail _ hp))))
          | exact List.mem_append_left _ hp
          | exact List.mem_append_right _ hp
          | (simp only [List.nil_append, List.cons_append, List.mem_append, List.mem_cons] at hp ⊢; grind))
  exact trivial
theorem int_ex {x y : Int} {t : Tok} (h : x = y) : ∃ t', Value.int x t = .int y t' := ⟨t, by rw [h]⟩
theorem ctx_use {w : World} {f : Addr} {k : Nat} {vs : List Value} {news : Led} {R : Value → Led → Prop} {X : Prop} {p : Program} {loose : List Str} {mean : ExcName → Option Value} {mg mb : Str → Option Value}
    {dp un : Nat} {gd : Option (List Code)} {cn : Str} {cs : Scope} {a : Addr} {ccd : Value} {cl : List (Str × Addr)} {outer : List Env} {A₀ : Around}
    {bas h₀ : Heap} {L : Addr} {m : Str → Option Value} {s : Shared} {Q E : Value → Shared → Prop}
    (B : Below A₀ bas outer h₀) (F : Fr h₀ L s.heap m) (X₀ : (hd.heap_39 w.params).In h₀) (N : News h₀ L s.heap news) (T : Top p loose mean mg mb h₀) (hk : cs.kind = .function)
    (C : CtX w f k vs news R X) (hdp : dp + k < recursionLimit) (hun : un + 8 * k < cLine)
    (ret : ∀ r tl h' tk', Fr h₀ L h' m → News h₀ L h' (tl ++ news) → R r tl → Q r { s with heap := h', toks := tk' })
    (exc : X → ∀ e dx tkk tb h' tk' g₂, RaisedD bas g₂ (envX cn cs L a ccd cl :: outer) e dx ((dx, toldD w tkk tb) :: news) h' → Fr h₀ L g₂ m → g₂.UpToSlots h' → E (.ref e) { s with heap := h', toks := tk' }) :
    wpAny (model PG w) (ktrTop dp un gd cn cs L a ccd cl outer) (call (.ref f) vs) Q E s :=
  C _ _ _ _ _ _ _ _ _ _ _ _ _ _ _ _ _ _ _ _ _ _ B F X₀ N T hk hdp hun ret exc

def chk (v : Int) : Option Int := if v.natAbs ≤ 10 ^ 21 then some v else none
def divV (n b : Int) : Int :=
  let f := (2 * (if n < 0 then -n else n) + (if b < 0 then -b else b)) / (2 * (if b < 0 then -b else b))
  if (n < 0 ↔ b < 0) then f else -f

theorem abs_ne {b : Int} (hb : b ≠ 0) : (2 * if b < 0 then -b else b) ≠ 0 := by split <;> omega
theorem abs_log {x b : Int} (hb : b.natAbs < 2 ^ 2000) : Builtin.divisionGoesByPylong x (2 * if b < 0 then -b else b) = false := by
  refine PyProof.noPylong_of_log2 ?_
  have e : (2 * if b < 0 then -b else b).natAbs = 2 * b.natAbs := by split <;> omega
  rw [e]
  by_cases h0 : 2 * b.natAbs = 0
  · rw [h0]; decide +kernel
  · refine Nat.lt_of_lt_of_le (show (2 * b.natAbs).log2 < 2001 from (Nat.log2_lt h0).mpr ?_) (by decide)
    have : (2 : Nat) ^ 2001 = 2 * 2 ^ 2000 := by rw [Nat.pow_succ]; omega
    rw [this]; omega
theorem words_G2_2 : True := by
  k_with "m binaryOp FloorDiv int int" =>
    (
      k_here; (refine PyProof.Rows.floordiv_int (abs_ne (by assumption)) ?_ (Or.inl (abs_log (by assumption)))))
  exact trivial
theorem abs_fdiv (n b : Int) : (2 * (if n < 0 then -n else n) + (if b < 0 then -b else b)).fdiv (2 * (if b < 0 then -b else b)) = (2 * (if n < 0 then -n else n) + (if b < 0 then -b else b)) / (2 * (if b < 0 then -b else b)) :=
  Int.fdiv_eq_ediv_of_nonneg _ (by split <;> omega)
theorem c_div (w : World) (n b : Int) (hb : b ≠ 0) (hbl : b.natAbs < 2 ^ 2000) (t t' : Tok) (news : Led) : Ct w 61 1 [.int n t, .int b t'] news (fun r tl => tl = [] ∧ ∃ t, r = .int (divV n b) t) := by
  unfold Ct
  intro p loose mean mg mb dp un gd cn cs a ccd cl outer A₀ bas h₀ L m s Q E B F X N T hk hdp hun hret
  refine wpAny_call ?_
  k_dflt cell_enter
  k_steps
  all_goals (refine hret _ [] _ _ (by k_asm) (by walk_at "drop led") ⟨rfl, int_ex ?_⟩)
  all_goals rw [abs_fdiv]
  · have e : (n < 0 ↔ b < 0) := by rename (_ == _) = true => q; simpa using q
    unfold divV; rw [if_pos e]
  · have e : ¬ (n < 0 ↔ b < 0) := by first | (rename ¬ ((_ == _) = true) => q; simpa using q) | (rename (_ == _) = false => q; simpa using q)
    unfold divV; rw [if_neg e]

theorem c_sword (w : World) (n : Int) (t : Tok) (news : Led) : Ct w 110 1 [.int n t] news (fun r tl => tl = [] ∧ ∃ t, r = .int (if n % 4294967296 ≤ 2147483647 then n % 4294967296 else n % 4294967296 - 4294967296) t) := by
  unfold Ct
  intro p loose mean mg mb dp un gd cn cs a ccd cl outer A₀ bas h₀ L m s Q E B F X N T hk hdp hun hret
  refine wpAny_call ?_
  k_dflt cell_enter
  k_steps
  all_goals (refine hret _ [] _ _ (by k_asm) (by walk_at "drop led") ⟨rfl, int_ex ?_⟩)
  all_goals (have e9 : n.fmod 4294967296 = n % 4294967296 := Int.fmod_eq_emod_of_nonneg _ (by decide))
  all_goals (simp only [e9] at *)
  all_goals (split <;> first | rfl | omega)
end Mine
namespace Mine
open PySem PySem.W PyProof.Rows PySem.Calls
open KBw (bInts)
theorem fillme6 : PySem.Challenge.rw_nt0488_01 = PySem.Challenge.rw_nt0488_01 ∧ hd.heap_39 = hd.heap_39 := by
  k_with_none
  w_top off
  k_fill
  exact ⟨rfl, rfl⟩
local macro_rules | `(tactic| walk_at $s:str) => `(tactic| k_extra $(Lean.Syntax.mkStrLit ("m " ++ s.getString)))
theorem words_G3_1 : True := by
  k_with "m exec Raise some none" =>
    (k_here; refine ps_raise rfl ?_)
  k_with "m led ne" =>
    first
      | exact List.forall_mem_nil _
      | (refine' List.forall_mem_cons.mpr ⟨?a, ?b⟩; (case a => k_ne); (case b => walk_at "led ne"))
      | (refine' List.forall_mem_append.mpr ⟨?a, ?b⟩; (case a => walk_at "led ne"); (case b => walk_at "led ne"))
      | (refine led_ne (by assumption) ?_; omega)
      | (refine led_ne' (by assumption) ?_; omega)
  k_with "m enter init" =>
    (
      refine' code_def ?k1 ?k2 ?k3 ?k4 ?k5 ?kA ?kF ?kK ?k6 ?k7 ?k8 ?k9 ?kB ?_ ?c2 ?c3 ?c4 ?c5;
      (case kA => exact rfl); (case kF => exact rfl); (case kK => first | assumption | exact rfl); (case k1 => k_asm); (case k2 => k_asm); (case k3 => k_asm); (case k4 => k_asm); (case k5 => k_asm);
      (case k6 => k_is); (case k7 => k_is); (case k8 => ktr_room); (case k9 => first | exact BindsTo.of_eq rfl | exact binds_K (by k_in) rfl (by k_is) rfl rfl rfl);
      (case c5 => decide); (case kB => exact locs rfl); (case c2 => exact rfl); (case c3 => exact rfl); (case c4 => exact rfl); k_whole;
      (intro g' L' h' FG' F' N' B' X' T'); (try dsimp only); (try k_lift B'); (try k_fold))
  k_with "m call ref" =>
    (
      k_here; (with_reducible show wpAny _ _ (call (Value.ref 45) _) _ _ _);
      k_dflt (refine' ps_call ?k1 ?k2 ?k3 ?k4 ?_; (case k1 => k_asm); (case k2 => k_asm); (case k3 => k_asm); (case k4 => size_fits); k_whole);
      (intro t' e' h' F' N' l1 l2); (try k_lt l1); (try k_lt2 l2); (try k_sweep);
      k_dflt (walk_at "enter init"))
  k_with "m setAttr ref" =>
    (
      k_here; (with_reducible show wpAny _ _ (setAttr (Value.ref _) _ _) _ _ _);
      k_dflt (refine' ps_set ?k1 ?k2 ?k3 ?k4 ?_; (case k1 => k_asm); (case k2 => k_asm); (case k3 => k_asm); (case k4 => walk_at "led ne"); k_whole);
      (intro h' tk' d' tk9 F' N' l1 l2); (try k_lt l1); (try k_lt2 l2); (try k_sweep))
  k_with "m PsRaised" =>
    (
      k_here;
      (refine' ⟨_, _, _, rfl, ?kx, ?kg, ?_⟩; (case kx => k_in); (case kg => exact News.get (by k_asm) (by k_mem)); k_whole))
  k_with "m leaving ref" =>
    (
      k_here;
      (k_dflt (first
        | (refine' leave_D0 ?k1 ?k2 ?k3 ?k4 ?_ ?k6; (case k1 => k_asm); (case k2 => k_asm); (case k3 => k_asm); (case k4 => walk_at "led ne"); (case k6 => exact rfl); k_whole)
        | (refine' leave_D ?k1 ?k2 ?k3 ?k4 ?_; (case k3 => assumption); (case k1 => assumption); (case k2 => k_asm); (case k4 => assumption); k_whole)));
      intro h' R' U'; (try dsimp only at R' U' ⊢))
  k_with "m ct_sides" =>
    (
      (case k1 => k_asm); (case k2 => k_asm); (case k3 => k_asm); (case k4 => k_asm); (case k5 => k_asm); (case kK => first | exact rfl | assumption); (case kd => ktr_room); (case ku => ktr_units))
  k_with "m drop led" =>
    first
      | k_asm
      | (refine cb_drop (by with_reducible assumption) ?_; intro p hp; first
          | exact .tail _ hp
          | exact .tail _ (.tail _ hp)
          | exact .tail _ (.tail _ (.tail _ hp))
          | exact .tail _ (.tail _ (.tail _ (.tail _ hp)))
          | exact .tail _ (.tail _ (.tail _ (.tail _ (.tail _ hp))))
          | exact List.mem_append_left _ hp
          | exact List.mem_append_right _ hp
          | (simp only [List.nil_append, List.cons_append, List.mem_append, List.mem_cons] at hp ⊢; grind))
  k_with "m call ref" =>
    (
      k_here; (with_reducible show wpAny _ _ (call (Value.ref 75) [Value.int _ _]) _ _ _);
      k_dflt (refine' ctx_use ?k1 ?k2 ?k3 ?k4 ?k5 ?kK (c_checked _ _ _ _) ?kd ?ku ?_ ?_; walk_at "ct_sides");
      (all_goals (first
        | (intro r9 tl9 h9 tk9 F9 N9 hR9; obtain ⟨hc9, e9, t9, e8⟩ := hR9; subst e9; subst e8; (try simp only [List.nil_append] at N9); (try dsimp only); (try k_fold))
        | (intro hx9 e9 dx9 tkk9 tb9 h9 tk9 g9 R9 F9 U9; (try dsimp only); (try k_fold)))))
  exact trivial
theorem pow10_ne (k : Nat) : (10 : Int) ^ k ≠ 0 := Int.ne_of_gt (Int.pow_pos (by decide))
theorem bits_lt {n : Int} (hn : n.natAbs < 10 ^ 100) : Builtin.Int.intBits n ≤ 333 := intBits_le_iff.mpr (Nat.lt_of_lt_of_le hn (by decide +kernel))
theorem pow10_lt {n e : Int} (hn : n.natAbs < 10 ^ 100) (h : ¬ (Builtin.Int.intBits n : Int) < -e) : ((10 : Int) ^ (-e).toNat).natAbs < 2 ^ 2000 := by
  have hb := bits_lt hn
  have h1 : (-e).toNat ≤ 333 := by omega
  rw [Int.natAbs_pow]
  refine Nat.lt_of_le_of_lt (Nat.pow_le_pow_right (by decide) h1) (by decide +kernel)
theorem mul10_ok {n e : Int} (hn : n.natAbs < 10 ^ 100) (h : ¬ 32 < e) : IntMulOk n (10 ^ e.toNat) := by
  refine IntMulOk.of_le (bits_lt hn) (n := 1000) (intBits_le_iff.mpr ?_) (by decide)
  rw [Int.natAbs_pow]
  exact Nat.lt_of_le_of_lt (Nat.pow_le_pow_right (by decide) (show e.toNat ≤ 32 by omega)) (by decide +kernel)
theorem pow10_ok {k : Int} (h : k ≤ 10000000) : (Builtin.Int.intBits 10 : Int) * k ≤ 2 ^ 27 := by
  rw [show Builtin.Int.intBits 10 = 4 from by decide +kernel]; omega
theorem words_G3_2 : True := by
  k_with "m binaryOp Mult int int" =>
    (
      k_here; (refine PyProof.Rows.mul_int ?_ (mul10_ok (by assumption) (by assumption))))
  k_with "m binaryOp Pow int int" =>
    (
      k_here; (refine PyProof.Rows.pow_int (by omega) (pow10_ok (by omega)) ?_))
  k_with "m call ref" =>
    (
      k_here; (with_reducible show wpAny _ _ (call (Value.ref 61) [Value.int _ _, Value.int _ _]) _ _ _);
      k_dflt (refine' ct_use ?k1 ?k2 ?k3 ?k4 ?k5 ?kK (c_div _ _ _ ?ka ?kb _ _ _) ?kd ?ku ?_; walk_at "ct_sides"; (case ka => exact pow10_ne _); (case kb => exact pow10_lt (by assumption) (by assumption)));
      (intro r9 tl9 h9 tk9 F9 N9 hR9; obtain ⟨e9, t9, e8⟩ := hR9; subst e9; subst e8; (try simp only [List.nil_append] at N9); (try dsimp only); (try k_fold)))
  exact trivial
def scaledV (n t : Int) : Option Int :=
  if n = 0 then some 0 else if 0 ≤ t then (if 32 < t then none else chk (n * 10 ^ t.toNat))
  else if (Builtin.Int.intBits n : Int) < -t then some 0 else chk (divV n (10 ^ (-t).toNat))

theorem c_scaled (w : World) (n e : Int) (hn : n.natAbs < 10 ^ 100) (he : e.natAbs < 10000000) (t t' : Tok) (news : Led) : CtX w 124 5 [.int n t, .int e t'] news (fun r tl => tl = [] ∧ ∃ v t, scaledV n e = some v ∧ r = .int v t) (scaledV n e = none) := by
  unfold CtX
  intro p loose mean mg mb dp un gd cn cs a ccd cl outer A₀ bas h₀ L m s Q E B F X N T hk hdp hun hret hexc
  refine wpAny_call ?_
  k_dflt cell_enter
  k_steps
  all_goals first
    | refine hret _ [] _ _ (by k_asm) (by walk_at "drop led") ⟨rfl, _, _, ?_, rfl⟩
    | refine' hexc ?_ _ _ _ _ _ _ _ (by assumption) (by k_asm) (by assumption)
    | refine' hexc ?_ _ _ _ _ _ _ _ (RaisedD.two (by assumption)) (by k_asm) (by assumption)
  all_goals (unfold scaledV; (try unfold chk); (repeat' split) <;> first | rfl | contradiction | omega | (exfalso; omega))
end Mine
namespace Mine
open PySem PySem.W PyProof.Rows PySem.Calls
open KBw (bInts)
theorem fillme7 : PySem.Challenge.rw_nt0488_01 = PySem.Challenge.rw_nt0488_01 ∧ hd.heap_39 = hd.heap_39 := by
  k_with_none
  w_top off
  k_fill
  exact ⟨rfl, rfl⟩
local macro_rules | `(tactic| walk_at $s:str) => `(tactic| k_extra $(Lean.Syntax.mkStrLit ("m " ++ s.getString)))
theorem words_G4_1 : True := by
  k_with "m exec Raise some none" =>
    (k_here; refine ps_raise rfl ?_)
  k_with "m led ne" =>
    first
      | exact List.forall_mem_nil _
      | (refine' List.forall_mem_cons.mpr ⟨?a, ?b⟩; (case a => k_ne); (case b => walk_at "led ne"))
      | (refine' List.forall_mem_append.mpr ⟨?a, ?b⟩; (case a => walk_at "led ne"); (case b => walk_at "led ne"))
      | (refine led_ne (by assumption) ?_; omega)
      | (refine led_ne' (by assumption) ?_; omega)
  k_with "m enter init" =>
    (
      refine' code_def ?k1 ?k2 ?k3 ?k4 ?k5 ?kA ?kF ?kK ?k6 ?k7 ?k8 ?k9 ?kB ?_ ?c2 ?c3 ?c4 ?c5;
      (case kA => exact rfl); (case kF => exact rfl); (case kK => first | assumption | exact rfl); (case k1 => k_asm); (case k2 => k_asm); (case k3 => k_asm); (case k4 => k_asm); (case k5 => k_asm);
      (case k6 => k_is); (case k7 => k_is); (case k8 => ktr_room); (case k9 => first | exact BindsTo.of_eq rfl | exact binds_K (by k_in) rfl (by k_is) rfl rfl rfl);
      (case c5 => decide); (case kB => exact locs rfl); (case c2 => exact rfl); (case c3 => exact rfl); (case c4 => exact rfl); k_whole;
      (intro g' L' h' FG' F' N' B' X' T'); (try dsimp only); (try k_lift B'); (try k_fold))
  k_with "m call ref" =>
    (
      k_here; (with_reducible show wpAny _ _ (call (Value.ref 45) _) _ _ _);
      k_dflt (refine' ps_call ?k1 ?k2 ?k3 ?k4 ?_; (case k1 => k_asm); (case k2 => k_asm); (case k3 => k_asm); (case k4 => size_fits); k_whole);
      (intro t' e' h' F' N' l1 l2); (try k_lt l1); (try k_lt2 l2); (try k_sweep);
      k_dflt (walk_at "enter init"))
  k_with "m setAttr ref" =>
    (
      k_here; (with_reducible show wpAny _ _ (setAttr (Value.ref _) _ _) _ _ _);
      k_dflt (refine' ps_set ?k1 ?k2 ?k3 ?k4 ?_; (case k1 => k_asm); (case k2 => k_asm); (case k3 => k_asm); (case k4 => walk_at "led ne"); k_whole);
      (intro h' tk' d' tk9 F' N' l1 l2); (try k_lt l1); (try k_lt2 l2); (try k_sweep))
  k_with "m PsRaised" =>
    (
      k_here;
      (refine' ⟨_, _, _, rfl, ?kx, ?kg, ?_⟩; (case kx => k_in); (case kg => exact News.get (by k_asm) (by k_mem)); k_whole))
  k_with "m leaving ref" =>
    (
      k_here;
      (k_dflt (first
        | (refine' leave_D0 ?k1 ?k2 ?k3 ?k4 ?_ ?k6; (case k1 => k_asm); (case k2 => k_asm); (case k3 => k_asm); (case k4 => walk_at "led ne"); (case k6 => exact rfl); k_whole)
        | (refine' leave_D ?k1 ?k2 ?k3 ?k4 ?_; (case k3 => assumption); (case k1 => assumption); (case k2 => k_asm); (case k4 => assumption); k_whole)));
      intro h' R' U'; (try dsimp only at R' U' ⊢))
  k_with "m ct_sides" =>
    (
      (case k1 => k_asm); (case k2 => k_asm); (case k3 => k_asm); (case k4 => k_asm); (case k5 => k_asm); (case kK => first | exact rfl | assumption); (case kd => ktr_room); (case ku => ktr_units))
  k_with "m drop led" =>
    first
      | k_asm
      | (refine cb_drop (by with_reducible assumption) ?_; intro p hp; first
          | exact .tail _ hp
          | exact .tail _ (.tail _ hp)
          | exact .tail _ (.tail _ (.tail _ hp))
          | exact .tail _ (.tail _ (.tail _ (.tail _ hp)))
          | exact .tail _ (.tail _ (.tail _ (.tail _ (.tail _ hp))))
          | exact List.mem_append_left _ hp
          | exact List.mem_append_right _ hp
          | (simp only [List.nil_append, List.cons_append, List.mem_append, List.mem_cons] at hp ⊢; grind))
  k_with "m call ref" =>
    (
      k_here; (first | (with_reducible show wpAny _ _ (call (Value.ref 68) _) _ _ _) | (with_reducible show wpAny _ _ (call (Value.ref 82) _) _ _ _));
      (refine wpAny_call ?_); k_dflt (walk_at "enter init"))
  k_with "m call ref" =>
    (
      k_here; (with_reducible show wpAny _ _ (call (Value.ref 54) [Value.int _ _]) _ _ _);
      k_dflt (refine' ct_use ?k1 ?k2 ?k3 ?k4 ?k5 ?kK (c_digit _ _ _ _) ?kd ?ku ?_; walk_at "ct_sides");
      (intro r9 tl9 h9 tk9 F9 N9 hR9; obtain ⟨e9, hv9⟩ := hR9; subst e9; (try simp only [List.nil_append] at N9));
      (generalize hd9 : digitV _ = x9 at hv9; rcases x9 with _ | v9);
      (all_goals (first | (replace hv9 : _ = Value.none := hv9; subst hv9) | (obtain ⟨t9, e9⟩ := hv9; subst e9)));
      (all_goals ((try dsimp only); (try k_fold))))
  k_with "m call ref" =>
    (
      k_here; (with_reducible show wpAny _ _ (call (Value.ref 75) [Value.int _ _]) _ _ _);
      k_dflt (refine' ctx_use ?k1 ?k2 ?k3 ?k4 ?k5 ?kK (c_checked _ _ _ _) ?kd ?ku ?_ ?_; walk_at "ct_sides");
      (all_goals (first
        | (intro r9 tl9 h9 tk9 F9 N9 hR9; obtain ⟨hc9, e9, t9, e8⟩ := hR9; subst e9; subst e8; (try simp only [List.nil_append] at N9); (try dsimp only); (try k_fold))
        | (intro hx9 e9 dx9 tkk9 tb9 h9 tk9 g9 R9 F9 U9; (try dsimp only); (try k_fold)))))
  exact trivial
inductive Res where
  | none | lim | int (n : Int) | real (n : Int)
abbrev tupO (x y : Value) : Obj := { cls := .type "tuple", data := .seq #[x, y] }
def ResIs (r : Value) (tl : Led) : Res → Prop
  | .none => tl = [] ∧ r = .none
  | .lim => False
  | .int n => ∃ a t t', tl = [(a, tupO (.str "integer" t) (.int n t'))] ∧ r = .ref a
  | .real n => ∃ a t t', tl = [(a, tupO (.str "real" t) (.int n t'))] ∧ r = .ref a
def realR : Option Int → Res
  | .none => .lim
  | .some v => .real v
def wholeV (n : Int) : Res := if -2147483648 ≤ n ∧ n ≤ 2147483647 then .int n else realR (chk (n * 1000000))

theorem whole_int {n : Int} (h1 : -2147483648 ≤ n) (h2 : n ≤ 2147483647) : wholeV n = .int n := if_pos ⟨h1, h2⟩
theorem whole_real {n : Int} (h : ¬ (-2147483648 ≤ n ∧ n ≤ 2147483647)) (hc : (n * 1000000).natAbs ≤ 10 ^ 21) : wholeV n = .real (n * 1000000) := by
  unfold wholeV chk; rw [if_neg h, if_pos hc]; rfl
theorem whole_lim {n : Int} (h : ¬ (-2147483648 ≤ n ∧ n ≤ 2147483647)) (hc : ¬ (n * 1000000).natAbs ≤ 10 ^ 21) : wholeV n = .lim := by
  unfold wholeV chk; rw [if_neg h, if_neg hc]; rfl
theorem c_whole (w : World) (n : Int) (t : Tok) (news : Led) : CtX w 89 7 [.int n t] news (fun r tl => ResIs r tl (wholeV n)) (wholeV n = .lim) := by
  unfold CtX
  intro p loose mean mg mb dp un gd cn cs a ccd cl outer A₀ bas h₀ L m s Q E B F X N T hk hdp hun hret hexc
  refine wpAny_call ?_
  k_dflt cell_enter
  k_steps
  all_goals first
    | refine' hexc ?_ _ _ _ _ _ _ _ (by assumption) (by k_asm) (by assumption)
    | refine' hret _ [_] _ _ (by k_asm) (by k_asm) ?_
  all_goals first
    | exact whole_lim (by omega) (by assumption)
    | (rw [whole_int (by assumption) (by assumption)]; exact ⟨_, _, _, rfl, rfl⟩)
    | (rw [whole_real (by omega) (by assumption)]; exact ⟨_, _, _, rfl, rfl⟩)
end Mine
namespace Mine
open PySem PySem.W PyProof.Rows PySem.Calls
open KBw (bInts)
theorem fillme8 : PySem.Challenge.rw_nt0488_01 = PySem.Challenge.rw_nt0488_01 ∧ hd.heap_39 = hd.heap_39 := by
  k_with_none
  w_top off
  k_fill
  exact ⟨rfl, rfl⟩
local macro_rules | `(tactic| walk_at $s:str) => `(tactic| k_extra $(Lean.Syntax.mkStrLit ("m " ++ s.getString)))
section
variable {prog : Program} {w : World} {A : Around} {E : Value → Shared → Prop} {s : Shared} {b c : Array UInt8} {t u : Tok}
theorem in_tupI {l : Addr} {x y : Array UInt8} {tx ty : Tok} {n : Nat} {ks xs ys : List Int} {Q : Value → Shared → Prop}
    (hl : s.heap.get? l = some { cls := .type "tuple", dict := none, data := .seq #[.bytes x tx, .bytes y ty] n, slots := #[] }) (hb : bInts b = ks) (hx : bInts x = xs) (hy : bInts y = ys) (h : Q (.bool (decide (ks = xs ∨ ks = ys))) s) :
    wpAny (model prog w) A (compareOp .In (.bytes b t) (.ref l)) Q E s := by
  subst hb hx hy
  exact in_tupB hl h
theorem in_intI {n : Int} {ks : List Int} {Q : Value → Shared → Prop} (h0 : 0 ≤ n) (h1 : n < 256) (hb : bInts b = ks) (h : Q (.bool (decide (n ∈ ks))) s) : wpAny (model prog w) A (compareOp .In (.int n u) (.bytes b t)) Q E s := by
  subst hb
  exact in_int h0 h1 h
end
theorem words_G5_1 : True := by
  k_with "m exec Raise some none" =>
    (k_here; refine ps_raise rfl ?_)
  k_with "m led ne" =>
    first
      | exact List.forall_mem_nil _
      | (refine' List.forall_mem_cons.mpr ⟨?a, ?b⟩; (case a => k_ne); (case b => walk_at "led ne"))
      | (refine' List.forall_mem_append.mpr ⟨?a, ?b⟩; (case a => walk_at "led ne"); (case b => walk_at "led ne"))
      | (refine led_ne (by assumption) ?_; omega)
      | (refine led_ne' (by assumption) ?_; omega)
  k_with "m enter init" =>
    (
      refine' code_def ?k1 ?k2 ?k3 ?k4 ?k5 ?kA ?kF ?kK ?k6 ?k7 ?k8 ?k9 ?kB ?_ ?c2 ?c3 ?c4 ?c5;
      (case kA => exact rfl); (case kF => exact rfl); (case kK => first | assumption | exact rfl); (case k1 => k_asm); (case k2 => k_asm); (case k3 => k_asm); (case k4 => k_asm); (case k5 => k_asm);
      (case k6 => k_is); (case k7 => k_is); (case k8 => ktr_room); (case k9 => first | exact BindsTo.of_eq rfl | exact binds_K (by k_in) rfl (by k_is) rfl rfl rfl);
      (case c5 => decide); (case kB => exact locs rfl); (case c2 => exact rfl); (case c3 => exact rfl); (case c4 => exact rfl); k_whole;
      (intro g' L' h' FG' F' N' B' X' T'); (try dsimp only); (try k_lift B'); (try k_fold))
  k_with "m call ref" =>
    (
      k_here; (with_reducible show wpAny _ _ (call (Value.ref 45) _) _ _ _);
      k_dflt (refine' ps_call ?k1 ?k2 ?k3 ?k4 ?_; (case k1 => k_asm); (case k2 => k_asm); (case k3 => k_asm); (case k4 => size_fits); k_whole);
      (intro t' e' h' F' N' l1 l2); (try k_lt l1); (try k_lt2 l2); (try k_sweep);
      k_dflt (walk_at "enter init"))
  k_with "m setAttr ref" =>
    (
      k_here; (with_reducible show wpAny _ _ (setAttr (Value.ref _) _ _) _ _ _);
      k_dflt (refine' ps_set ?k1 ?k2 ?k3 ?k4 ?_; (case k1 => k_asm); (case k2 => k_asm); (case k3 => k_asm); (case k4 => walk_at "led ne"); k_whole);
      (intro h' tk' d' tk9 F' N' l1 l2); (try k_lt l1); (try k_lt2 l2); (try k_sweep))
  k_with "m PsRaised" =>
    (
      k_here;
      (refine' ⟨_, _, _, rfl, ?kx, ?kg, ?_⟩; (case kx => k_in); (case kg => exact News.get (by k_asm) (by k_mem)); k_whole))
  k_with "m leaving ref" =>
    (
      k_here;
      (k_dflt (first
        | (refine' leave_D0 ?k1 ?k2 ?k3 ?k4 ?_ ?k6; (case k1 => k_asm); (case k2 => k_asm); (case k3 => k_asm); (case k4 => walk_at "led ne"); (case k6 => exact rfl); k_whole)
        | (refine' leave_D ?k1 ?k2 ?k3 ?k4 ?_; (case k3 => assumption); (case k1 => assumption); (case k2 => k_asm); (case k4 => assumption); k_whole)));
      intro h' R' U'; (try dsimp only at R' U' ⊢))
  k_with "m ct_sides" =>
    (
      (case k1 => k_asm); (case k2 => k_asm); (case k3 => k_asm); (case k4 => k_asm); (case k5 => k_asm); (case kK => first | exact rfl | assumption); (case kd => ktr_room); (case ku => ktr_units))
  k_with "m drop led" =>
    first
      | k_asm
      | (refine cb_drop (by with_reducible assumption) ?_; intro p hp; first
          | exact .tail _ hp
          | exact .tail _ (.tail _ hp)
          | exact .tail _ (.tail _ (.tail _ hp))
          | exact .tail _ (.tail _ (.tail _ (.tail _ hp)))
          | exact .tail _ (.tail _ (.tail _ (.tail _ (.tail _ hp))))
          | exact List.mem_append_left _ hp
          | exact List.mem_append_right _ hp
          | (simp only [List.nil_append, List.cons_append, List.mem_append, List.mem_cons] at hp ⊢; grind))
  k_with "m call ref" =>
    (
      k_here; (first | (with_reducible show wpAny _ _ (call (Value.ref 68) _) _ _ _) | (with_reducible show wpAny _ _ (call (Value.ref 82) _) _ _ _));
      (refine wpAny_call ?_); k_dflt (walk_at "enter init"))
  k_with "m call ref" =>
    (
      k_here; (with_reducible show wpAny _ _ (call (Value.ref 54) [Value.int _ _]) _ _ _);
      k_dflt (refine' ct_use ?k1 ?k2 ?k3 ?k4 ?k5 ?kK (c_digit _ _ _ _) ?kd ?ku ?_; walk_at "ct_sides");
      (intro r9 tl9 h9 tk9 F9 N9 hR9; obtain ⟨e9, hv9⟩ := hR9; subst e9; (try simp only [List.nil_append] at N9));
      (generalize hd9 : digitV _ = x9 at hv9; rcases x9 with _ | v9);
      (all_goals (first | (replace hv9 : _ = Value.none := hv9; subst hv9) | (obtain ⟨t9, e9⟩ := hv9; subst e9)));
      (all_goals ((try dsimp only); (try k_fold))))
  k_with "m call ref" =>
    (
      k_here; (with_reducible show wpAny _ _ (call (Value.ref 75) [Value.int _ _]) _ _ _);
      k_dflt (refine' ctx_use ?k1 ?k2 ?k3 ?k4 ?k5 ?kK (c_checked _ _ _ _) ?kd ?ku ?_ ?_; walk_at "ct_sides");
      (all_goals (first
        | (intro r9 tl9 h9 tk9 F9 N9 hR9; obtain ⟨hc9, e9, t9, e8⟩ := hR9; subst e9; subst e8; (try simp only [List.nil_append] at N9); (try dsimp only); (try k_fold))
        | (intro hx9 e9 dx9 tkk9 tb9 h9 tk9 g9 R9 F9 U9; (try dsimp only); (try k_fold)))))
  k_with "m b ints" =>
    first | kba_ints2 | exact rfl
  k_with "m compareOp In bytes ref" =>
    (
      k_here; (with_reducible show wpAny _ _ (compareOp CmpOp.In (Value.bytes _ _) (Value.ref _)) _ _ _);
      (refine' in_tupI ?k1 ?k2 ?k3 ?k4 ?_; (case k1 => exact News.get (by k_asm) (by k_mem)); (case k2 => walk_at "b ints"); (case k3 => exact rfl); (case k4 => exact rfl); k_whole))
  k_with "m compareOp Eq bytes bytes" =>
    (
      k_here; (refine' eq_bytesI ?k1 ?k2 ?_; (case k1 => walk_at "b ints"); (case k2 => walk_at "b ints"); k_whole))
  k_with "m compareOp In int bytes" =>
    (
      k_here; (refine' in_intI ?k0 ?k1 ?k2 ?_; (case k0 => omega); (case k1 => omega); (case k2 => walk_at "b ints"); k_whole))
  k_with "m call ref" =>
    (
      k_here; (with_reducible show wpAny _ _ (call (Value.ref 96) [Value.bytes _ _, Value.int _ _]) _ _ _);
      k_dflt (refine' ct_use ?k1 ?k2 ?k3 ?k4 ?k5 ?kK (c_figs _ _ _ ?ka ?kb _ ?kc ?ke _ _ _) ?kd ?ku ?_; (case ka => walk_at "b ints"); (case kb => kba_size); (case kc => omega); (case ke => omega); walk_at "ct_sides");
      (intro r9 tl9 h9 tk9 F9 N9 hR9; obtain ⟨e9, hv9⟩ := hR9; subst e9; (try simp only [List.nil_append] at N9));
      (generalize hd9 : figV _ _ = x9 at hv9; rcases x9 with _ | v9);
      (all_goals (first | (replace hv9 : _ = Value.none := hv9; subst hv9) | (obtain ⟨t9, e9⟩ := hv9; subst e9)));
      (all_goals ((try dsimp only); (try k_fold))))
  exact trivial
noncomputable def expV (ks : List Int) : Option Int :=
  match figV 10 (if ks.take 1 = [43] ∨ ks.take 1 = [45] then ks.drop 1 else ks) with
  | none => none
  | some f => some (if ks.take 1 = [45] then -(min f 1000000) else min f 1000000)

theorem take_clip (ks : List Int) (k : Nat) : List.take (min k ks.length) ks = ks.take k := by
  rcases Nat.le_total k ks.length with h | h
  · rw [Nat.min_eq_left h]
  · rw [Nat.min_eq_right h, List.take_length, List.take_of_length_le h]
theorem drop_clip (ks : List Int) (k : Nat) : List.take (ks.length - min k ks.length) (List.drop (min k ks.length) ks) = ks.drop k := by
  have e : List.drop (min k ks.length) ks = ks.drop k := by
    rcases Nat.le_total k ks.length with h | h
    · rw [Nat.min_eq_left h]
    · rw [Nat.min_eq_right h, List.drop_length, List.drop_of_length_le h]
  rw [e, List.take_of_length_le (by rw [List.length_drop]; omega)]
theorem expV_s {ks : List Int} {r : Option Int} (hs : ks.take 1 = [43] ∨ ks.take 1 = [45]) (h : figV 10 (ks.drop 1) = r) : expV ks = r.map (fun f => if ks.take 1 = [45] then -(min f 1000000) else min f 1000000) := by
  unfold expV; rw [if_pos hs, h]; cases r <;> rfl
theorem expV_u {ks : List Int} {r : Option Int} (hs : ¬ (ks.take 1 = [43] ∨ ks.take 1 = [45])) (h : figV 10 ks = r) : expV ks = r.map (fun f => if ks.take 1 = [45] then -(min f 1000000) else min f 1000000) := by
  unfold expV; rw [if_neg hs, h]; cases r <;> rfl
theorem min6 (v : Int) : (if (10 : Int) ^ Int.toNat 6 < v then (10 : Int) ^ Int.toNat 6 else v) = min v 1000000 := by
  rw [show (10 : Int) ^ Int.toNat 6 = 1000000 from by decide]; split <;> omega
theorem clip1 (n : Nat) : clipAt n 1 = min 1 n := KBc.clip_lit n 1
theorem clip0 (n : Nat) : clipAt n 0 = min 0 n := KBc.clip_lit n 0
theorem map45 : List.map (fun c : UInt8 => (c.toNat : Int)) [45] = [45] := rfl
theorem b43 : bInts #[43] = [43] := rfl
theorem b45 : bInts #[45] = [45] := rfl
theorem c_exp (w : World) (b : Array UInt8) (ks : List Int) (hb : bInts b = ks) (hlen : ks.length ≤ 1000) (t : Tok) (news : Led) : Ct w 117 4 [.bytes b t] news (fun r tl => tl = [] ∧ VOpt r (expV ks)) := by
  unfold Ct
  intro p loose mean mg mb dp un gd cn cs a ccd cl outer A₀ bas h₀ L m s Q E B F X N T hk hdp hun hret
  refine wpAny_call ?_
  k_dflt cell_enter
  k_steps
  all_goals (refine hret _ [] _ _ (by k_asm) (by walk_at "drop led") ⟨rfl, ?_⟩)
  all_goals (simp only [clip0, clip1, take_clip, drop_clip, min6, map45, b43, b45, List.drop_zero] at *)
  all_goals (first | rw [expV_s (by assumption) (by assumption)] | rw [expV_u (by assumption) (by assumption)])
  all_goals first
    | exact rfl
    | exact int_ex (by split <;> first | rfl | contradiction)
end Mine
namespace Mine
open PySem PySem.W PyProof.Rows PySem.Calls
open KBw (bInts)
theorem fillme9 : PySem.Challenge.rw_nt0488_01 = PySem.Challenge.rw_nt0488_01 ∧ hd.heap_39 = hd.heap_39 := by
  k_with_none
  w_top off
  k_fill
  exact ⟨rfl, rfl⟩
local macro_rules | `(tactic| walk_at $s:str) => `(tactic| k_extra $(Lean.Syntax.mkStrLit ("m " ++ s.getString)))
theorem led_top {h₀ h : Heap} {L : Addr} {x : Addr × Obj} {own news : Led} (N : News h₀ L h (x :: (own ++ news))) : News h₀ L h ([x] ++ news) :=
  fun p hp => N p ((List.mem_cons.mp hp).elim (fun e => e ▸ .head _) fun hp => .tail _ (List.mem_append_right _ hp))
theorem words_G6_1 : True := by
  k_with "m exec Raise some none" =>
    (k_here; refine ps_raise rfl ?_)
  k_with "m led ne" =>
    first
      | exact List.forall_mem_nil _
      | (refine' List.forall_mem_cons.mpr ⟨?a, ?b⟩; (case a => k_ne); (case b => walk_at "led ne"))
      | (refine' List.forall_mem_append.mpr ⟨?a, ?b⟩; (case a => walk_at "led ne"); (case b => walk_at "led ne"))
      | (refine led_ne (by assumption) ?_; omega)
      | (refine led_ne' (by assumption) ?_; omega)
  k_with "m enter init" =>
    (
      refine' code_def ?k1 ?k2 ?k3 ?k4 ?k5 ?kA ?kF ?kK ?k6 ?k7 ?k8 ?k9 ?kB ?_ ?c2 ?c3 ?c4 ?c5;
      (case kA => exact rfl); (case kF => exact rfl); (case kK => first | assumption | exact rfl); (case k1 => k_asm); (case k2 => k_asm); (case k3 => k_asm); (case k4 => k_asm); (case k5 => k_asm);
      (case k6 => k_is); (case k7 => k_is); (case k8 => ktr_room); (case k9 => first | exact BindsTo.of_eq rfl | exact binds_K (by k_in) rfl (by k_is) rfl rfl rfl);
      (case c5 => decide); (case kB => exact locs rfl); (case c2 => exact rfl); (case c3 => exact rfl); (case c4 => exact rfl); k_whole;
      (intro g' L' h' FG' F' N' B' X' T'); (try dsimp only); (try k_lift B'); (try k_fold))
  k_with "m call ref" =>
    (
      k_here; (with_reducible show wpAny _ _ (call (Value.ref 45) _) _ _ _);
      k_dflt (refine' ps_call ?k1 ?k2 ?k3 ?k4 ?_; (case k1 => k_asm); (case k2 => k_asm); (case k3 => k_asm); (case k4 => size_fits); k_whole);
      (intro t' e' h' F' N' l1 l2); (try k_lt l1); (try k_lt2 l2); (try k_sweep);
      k_dflt (walk_at "enter init"))
  k_with "m setAttr ref" =>
    (
      k_here; (with_reducible show wpAny _ _ (setAttr (Value.ref _) _ _) _ _ _);
      k_dflt (refine' ps_set ?k1 ?k2 ?k3 ?k4 ?_; (case k1 => k_asm); (case k2 => k_asm); (case k3 => k_asm); (case k4 => walk_at "led ne"); k_whole);
      (intro h' tk' d' tk9 F' N' l1 l2); (try k_lt l1); (try k_lt2 l2); (try k_sweep))
  k_with "m PsRaised" =>
    (
      k_here;
      (refine' ⟨_, _, _, rfl, ?kx, ?kg, ?_⟩; (case kx => k_in); (case kg => exact News.get (by k_asm) (by k_mem)); k_whole))
  k_with "m leaving ref" =>
    (
      k_here;
      (k_dflt (first
        | (refine' leave_D0 ?k1 ?k2 ?k3 ?k4 ?_ ?k6; (case k1 => k_asm); (case k2 => k_asm); (case k3 => k_asm); (case k4 => walk_at "led ne"); (case k6 => exact rfl); k_whole)
        | (refine' leave_D ?k1 ?k2 ?k3 ?k4 ?_; (case k3 => assumption); (case k1 => assumption); (case k2 => k_asm); (case k4 => assumption); k_whole)));
      intro h' R' U'; (try dsimp only at R' U' ⊢))
  k_with "m ct_sides" =>
    (
      (case k1 => k_asm); (case k2 => k_asm); (case k3 => k_asm); (case k4 => k_asm); (case k5 => k_asm); (case kK => first | exact rfl | assumption); (case kd => ktr_room); (case ku => ktr_units))
  k_with "m drop led" =>
    first
      | k_asm
      | (refine cb_drop (by with_reducible assumption) ?_; intro p hp; first
          | exact .tail _ hp
          | exact .tail _ (.tail _ hp)
          | exact .tail _ (.tail _ (.tail _ hp))
          | exact .tail _ (.tail _ (.tail _ (.tail _ hp)))
          | exact .tail _ (.tail _ (.tail _ (.tail _ (.tail _ hp))))
          | exact List.mem_append_left _ hp
          | exact List.mem_append_right _ hp
          | (simp only [List.nil_append, List.cons_append, List.mem_append, List.mem_cons] at hp ⊢; grind))
      | exact led_top (by assumption)
  k_with "m call ref" =>
    (
      k_here; (first | (with_reducible show wpAny _ _ (call (Value.ref 68) _) _ _ _) | (with_reducible show wpAny _ _ (call (Value.ref 82) _) _ _ _));
      (refine wpAny_call ?_); k_dflt (walk_at "enter init"))
  k_with "m call ref" =>
    (
      k_here; (with_reducible show wpAny _ _ (call (Value.ref 54) [Value.int _ _]) _ _ _);
      k_dflt (refine' ct_use ?k1 ?k2 ?k3 ?k4 ?k5 ?kK (c_digit _ _ _ _) ?kd ?ku ?_; walk_at "ct_sides");
      (intro r9 tl9 h9 tk9 F9 N9 hR9; obtain ⟨e9, hv9⟩ := hR9; subst e9; (try simp only [List.nil_append] at N9));
      (generalize hd9 : digitV _ = x9 at hv9; rcases x9 with _ | v9);
      (all_goals (first | (replace hv9 : _ = Value.none := hv9; subst hv9) | (obtain ⟨t9, e9⟩ := hv9; subst e9)));
      (all_goals ((try dsimp only); (try k_fold))))
  k_with "m call ref" =>
    (
      k_here; (with_reducible show wpAny _ _ (call (Value.ref 75) [Value.int _ _]) _ _ _);
      k_dflt (refine' ctx_use ?k1 ?k2 ?k3 ?k4 ?k5 ?kK (c_checked _ _ _ _) ?kd ?ku ?_ ?_; walk_at "ct_sides");
      (all_goals (first
        | (intro r9 tl9 h9 tk9 F9 N9 hR9; obtain ⟨hc9, e9, t9, e8⟩ := hR9; subst e9; subst e8; (try simp only [List.nil_append] at N9); (try dsimp only); (try k_fold))
        | (intro hx9 e9 dx9 tkk9 tb9 h9 tk9 g9 R9 F9 U9; (try dsimp only); (try k_fold)))))
  k_with "m b ints" =>
    first | kba_ints2 | exact rfl
  k_with "m compareOp In bytes ref" =>
    (
      k_here; (with_reducible show wpAny _ _ (compareOp CmpOp.In (Value.bytes _ _) (Value.ref _)) _ _ _);
      (refine' in_tupI ?k1 ?k2 ?k3 ?k4 ?_; (case k1 => exact News.get (by k_asm) (by k_mem)); (case k2 => walk_at "b ints"); (case k3 => exact rfl); (case k4 => exact rfl); k_whole))
  k_with "m compareOp Eq bytes bytes" =>
    (
      k_here; (refine' eq_bytesI ?k1 ?k2 ?_; (case k1 => walk_at "b ints"); (case k2 => walk_at "b ints"); k_whole))
  k_with "m compareOp In int bytes" =>
    (
      k_here; (refine' in_intI ?k0 ?k1 ?k2 ?_; (case k0 => omega); (case k1 => omega); (case k2 => walk_at "b ints"); k_whole))
  k_with "m call ref" =>
    (
      k_here; (with_reducible show wpAny _ _ (call (Value.ref 96) [Value.bytes _ _, Value.int _ _]) _ _ _);
      k_dflt (refine' ct_use ?k1 ?k2 ?k3 ?k4 ?k5 ?kK (c_figs _ _ _ ?ka ?kb _ ?kc ?ke _ _ _) ?kd ?ku ?_; (case ka => walk_at "b ints"); (case kb => kba_size); (case kc => omega); (case ke => omega); walk_at "ct_sides");
      (intro r9 tl9 h9 tk9 F9 N9 hR9; obtain ⟨e9, hv9⟩ := hR9; subst e9; (try simp only [List.nil_append] at N9));
      (generalize hd9 : figV _ _ = x9 at hv9; rcases x9 with _ | v9);
      (all_goals (first | (replace hv9 : _ = Value.none := hv9; subst hv9) | (obtain ⟨t9, e9⟩ := hv9; subst e9)));
      (all_goals ((try dsimp only); (try k_fold))))
  k_with "m exec For Tuple Call" =>
    (
      k_here; (with_reducible rename Fr _ _ _ _ => lF'); k_dflt (refine' For_turns lF' ?_ ?k1 ?k2; (case k1 => intro _; exact rfl); (case k2 => passes_own); k_whole))
  exact trivial
noncomputable def splitV (sg : List Int) : List Int → List Int × Option (List Int)
  | [] => ([], none)
  | o :: r => if o ∈ sg then ([], some r) else (o :: (splitV sg r).1, (splitV sg r).2)
theorem split_hit {sg : List Int} : ∀ {pre post : List Int} {n : Int}, (∀ v ∈ pre, v ∉ sg) → n ∈ sg → splitV sg (pre ++ n :: post) = (pre, some post)
  | [], post, n, _, h => by show (if n ∈ sg then _ else _) = _; rw [if_pos h]
  | o :: r, post, n, hp, h => by
    show (if o ∈ sg then _ else (o :: (splitV sg (r ++ n :: post)).1, (splitV sg (r ++ n :: post)).2)) = _
    rw [if_neg (hp o (.head _)), split_hit (fun v hv => hp v (.tail _ hv)) h]
theorem split_miss {sg : List Int} : ∀ {ks : List Int}, (∀ v ∈ ks, v ∉ sg) → splitV sg ks = (ks, none)
  | [], _ => rfl
  | o :: r, hp => by
    show (if o ∈ sg then _ else _) = _
    rw [if_neg (hp o (.head _)), split_miss (fun v hv => hp v (.tail _ hv))]
def SplitIs (r : Value) (tl : Led) (x : List Int × Option (List Int)) : Prop :=
  ∃ a y ty, bInts y = x.1 ∧ r = .ref a ∧ match x.2 with
    | none => tl = [(a, tupO (.bytes y ty) .none)]
    | some l => ∃ z tz, bInts z = l ∧ tl = [(a, tupO (.bytes y ty) (.bytes z tz))]

theorem clip_nat (n k : Nat) : clipAt n (k : Int) = min k n := clipAt_nat n k
theorem clip_succ (n k : Nat) : clipAt n ((k : Int) + 1) = min (k + 1) n := clipAt_nat n (k + 1)
theorem split_some {y z : Array UInt8} {ty tz : Tok} {a : Addr} {x : List Int × Option (List Int)} {l : List Int} (h1 : bInts y = x.1) (h2 : x.2 = some l) (h3 : bInts z = l) : SplitIs (.ref a) [(a, tupO (.bytes y ty) (.bytes z tz))] x :=
  ⟨a, y, ty, h1, rfl, by rw [h2]; exact ⟨z, tz, h3, rfl⟩⟩
theorem split_none {y : Array UInt8} {ty : Tok} {a : Addr} {x : List Int × Option (List Int)} (h1 : bInts y = x.1) (h2 : x.2 = none) : SplitIs (.ref a) [(a, tupO (.bytes y ty) .none)] x :=
  ⟨a, y, ty, h1, rfl, by rw [h2]⟩
theorem c_split (w : World) (b c : Array UInt8) (ks sg : List Int) (hb : bInts b = ks) (hc : bInts c = sg) (hlen : ks.length ≤ 1000) (t u : Tok) (news : Led) : Ct w 131 3 [.bytes b t, .bytes c u] news (fun r tl => SplitIs r tl (splitV sg ks) ∧ ∀ p ∈ news, ∀ q ∈ tl, p.1 < q.1) := by
  unfold Ct
  intro p loose mean mg mb dp un gd cn cs a ccd cl outer A₀ bas h₀ L m s Q E B F X N T hk hdp hun hret
  refine wpAny_call ?_
  k_dflt cell_enter
  k_steps
  k_dflt (refine' enb_search (fun pre => ∀ v ∈ pre, v ∉ sg) hb ?kh ?kF ?kN ?k1 ?k2 ?k3 ?k4 ?_ ?_)
  case kh => exact rfl
  case kF => k_asm
  case kN => k_asm
  case k1 => exact rfl
  case k2 => exact rfl
  case k3 => exact rfl
  case k4 => exact fun _ h => nomatch h
  all_goals (first
    | (intro pre post n ti tn h9 tk9 own e9 hlo hhi hP hown F9 N9)
    | (intro u9 h9 tk9 hP F9 N9))
  all_goals (try k_fold)
  k_steps
  all_goals (try dsimp only [SPost])
  k_steps
  all_goals first
    | assumption
    | (rename _ ∈ pre ++ [n] => hv
       rcases List.mem_append.mp hv with hv | hv
       · exact hP _ hv
       · rw [List.mem_singleton.mp hv]; assumption)
    | refine hret _ [_] _ _ (by k_asm) (by walk_at "drop led") ⟨?_, ?_⟩
  all_goals (simp only [clip_nat, clip_succ, take_clip, drop_clip] at *)
  all_goals (first
    | (intro p hp q hq; rw [List.mem_singleton.mp hq]; first | exact (by assumption : ∀ p ∈ news, p.1 < _) p hp | exact (by assumption : ∀ p ∈ own ++ news, p.1 < _) p (List.mem_append_right _ hp))
    | exact split_none (by rw [split_miss (by assumption)]; exact hb) (by rw [split_miss (by assumption)])
    | (subst e9; exact split_some (by rw [split_hit (by assumption) (by assumption)]; simp_all) (by rw [split_hit (by assumption) (by assumption)]) (by simp_all)))
end Mine
namespace Mine
open PySem PySem.W PyProof.Rows PySem.Calls
open KBw (bInts)
theorem fillme10 : PySem.Challenge.rw_nt0488_01 = PySem.Challenge.rw_nt0488_01 ∧ hd.heap_39 = hd.heap_39 := by
  k_with_none
  w_top off
  k_fill
  exact ⟨rfl, rfl⟩
local macro_rules | `(tactic| walk_at $s:str) => `(tactic| k_extra $(Lean.Syntax.mkStrLit ("m " ++ s.getString)))
theorem words_G7_1 : True := by
  k_with "m exec Raise some none" =>
    (k_here; refine ps_raise rfl ?_)
  k_with "m led ne" =>
    first
      | exact List.forall_mem_nil _
      | (refine' List.forall_mem_cons.mpr ⟨?a, ?b⟩; (case a => k_ne); (case b => walk_at "led ne"))
      | (refine' List.forall_mem_append.mpr ⟨?a, ?b⟩; (case a => walk_at "led ne"); (case b => walk_at "led ne"))
      | (refine led_ne (by assumption) ?_; omega)
      | (refine led_ne' (by assumption) ?_; omega)
  k_with "m enter init" =>
    (
      refine' code_def ?k1 ?k2 ?k3 ?k4 ?k5 ?kA ?kF ?kK ?k6 ?k7 ?k8 ?k9 ?kB ?_ ?c2 ?c3 ?c4 ?c5;
      (case kA => exact rfl); (case kF => exact rfl); (case kK => first | assumption | exact rfl); (case k1 => k_asm); (case k2 => k_asm); (case k3 => k_asm); (case k4 => k_asm); (case k5 => k_asm);
      (case k6 => k_is); (case k7 => k_is); (case k8 => ktr_room); (case k9 => first | exact BindsTo.of_eq rfl | exact binds_K (by k_in) rfl (by k_is) rfl rfl rfl);
      (case c5 => decide); (case kB => exact locs rfl); (case c2 => exact rfl); (case c3 => exact rfl); (case c4 => exact rfl); k_whole;
      (intro g' L' h' FG' F' N' B' X' T'); (try dsimp only); (try k_lift B'); (try k_fold))
  k_with "m call ref" =>
    (
      k_here; (with_reducible show wpAny _ _ (call (Value.ref 45) _) _ _ _);
      k_dflt (refine' ps_call ?k1 ?k2 ?k3 ?k4 ?_; (case k1 => k_asm); (case k2 => k_asm); (case k3 => k_asm); (case k4 => size_fits); k_whole);
      (intro t' e' h' F' N' l1 l2); (try k_lt l1); (try k_lt2 l2); (try k_sweep);
      k_dflt (walk_at "enter init"))
  k_with "m setAttr ref" =>
    (
      k_here; (with_reducible show wpAny _ _ (setAttr (Value.ref _) _ _) _ _ _);
      k_dflt (refine' ps_set ?k1 ?k2 ?k3 ?k4 ?_; (case k1 => k_asm); (case k2 => k_asm); (case k3 => k_asm); (case k4 => walk_at "led ne"); k_whole);
      (intro h' tk' d' tk9 F' N' l1 l2); (try k_lt l1); (try k_lt2 l2); (try k_sweep))
  k_with "m PsRaised" =>
    (
      k_here;
      (refine' ⟨_, _, _, rfl, ?kx, ?kg, ?_⟩; (case kx => k_in); (case kg => exact News.get (by k_asm) (by k_mem)); k_whole))
  k_with "m leaving ref" =>
    (
      k_here;
      (k_dflt (first
        | (refine' leave_D0 ?k1 ?k2 ?k3 ?k4 ?_ ?k6; (case k1 => k_asm); (case k2 => k_asm); (case k3 => k_asm); (case k4 => walk_at "led ne"); (case k6 => exact rfl); k_whole)
        | (refine' leave_D ?k1 ?k2 ?k3 ?k4 ?_; (case k3 => assumption); (case k1 => assumption); (case k2 => k_asm); (case k4 => assumption); k_whole)));
      intro h' R' U'; (try dsimp only at R' U' ⊢))
  k_with "m ct_sides" =>
    (
      (case k1 => k_asm); (case k2 => k_asm); (case k3 => k_asm); (case k4 => k_asm); (case k5 => k_asm); (case kK => first | exact rfl | assumption); (case kd => ktr_room); (case ku => ktr_units))
  k_with "m drop led" =>
    first
      | k_asm
      | (refine cb_drop (by with_reducible assumption) ?_; intro p hp; first
          | exact .tail _ hp
          | exact .tail _ (.tail _ hp)
          | exact .tail _ (.tail _ (.tail _ hp))
          | exact .tail _ (.tail _ (.tail _ (.tail _ hp)))
          | exact .tail _ (.tail _ (.tail _ (.tail _ (.tail _ hp))))
          | exact List.mem_append_left _ hp
          | exact List.mem_append_right _ hp
          | (simp only [List.nil_append, List.cons_append, List.mem_append, List.mem_cons] at hp ⊢; grind))
      | exact led_top (by assumption)
  k_with "m call ref" =>
    (
      k_here; (first | (with_reducible show wpAny _ _ (call (Value.ref 68) _) _ _ _) | (with_reducible show wpAny _ _ (call (Value.ref 82) _) _ _ _));
      (refine wpAny_call ?_); k_dflt (walk_at "enter init"))
  k_with "m call ref" =>
    (
      k_here; (with_reducible show wpAny _ _ (call (Value.ref 54) [Value.int _ _]) _ _ _);
      k_dflt (refine' ct_use ?k1 ?k2 ?k3 ?k4 ?k5 ?kK (c_digit _ _ _ _) ?kd ?ku ?_; walk_at "ct_sides");
      (intro r9 tl9 h9 tk9 F9 N9 hR9; obtain ⟨e9, hv9⟩ := hR9; subst e9; (try simp only [List.nil_append] at N9));
      (generalize hd9 : digitV _ = x9 at hv9; rcases x9 with _ | v9);
      (all_goals (first | (replace hv9 : _ = Value.none := hv9; subst hv9) | (obtain ⟨t9, e9⟩ := hv9; subst e9)));
      (all_goals ((try dsimp only); (try k_fold))))
  k_with "m call ref" =>
    (
      k_here; (with_reducible show wpAny _ _ (call (Value.ref 75) [Value.int _ _]) _ _ _);
      k_dflt (refine' ctx_use ?k1 ?k2 ?k3 ?k4 ?k5 ?kK (c_checked _ _ _ _) ?kd ?ku ?_ ?_; walk_at "ct_sides");
      (all_goals (first
        | (intro r9 tl9 h9 tk9 F9 N9 hR9; obtain ⟨hc9, e9, t9, e8⟩ := hR9; subst e9; subst e8; (try simp only [List.nil_append] at N9); (try dsimp only); (try k_fold))
        | (intro hx9 e9 dx9 tkk9 tb9 h9 tk9 g9 R9 F9 U9; (try dsimp only); (try k_fold)))))
  k_with "m b ints" =>
    first | kba_ints2 | exact rfl
  k_with "m compareOp In bytes ref" =>
    (
      k_here; (with_reducible show wpAny _ _ (compareOp CmpOp.In (Value.bytes _ _) (Value.ref _)) _ _ _);
      (refine' in_tupI ?k1 ?k2 ?k3 ?k4 ?_; (case k1 => exact News.get (by k_asm) (by k_mem)); (case k2 => walk_at "b ints"); (case k3 => exact rfl); (case k4 => exact rfl); k_whole))
  k_with "m compareOp Eq bytes bytes" =>
    (
      k_here; (refine' eq_bytesI ?k1 ?k2 ?_; (case k1 => walk_at "b ints"); (case k2 => walk_at "b ints"); k_whole))
  k_with "m compareOp In int bytes" =>
    (
      k_here; (refine' in_intI ?k0 ?k1 ?k2 ?_; (case k0 => omega); (case k1 => omega); (case k2 => walk_at "b ints"); k_whole))
  k_with "m call ref" =>
    (
      k_here; (with_reducible show wpAny _ _ (call (Value.ref 96) [Value.bytes _ _, Value.int _ _]) _ _ _);
      k_dflt (refine' ct_use ?k1 ?k2 ?k3 ?k4 ?k5 ?kK (c_figs _ _ _ ?ka ?kb _ ?kc ?ke _ _ _) ?kd ?ku ?_; (case ka => walk_at "b ints"); (case kb => kba_size); (case kc => omega); (case ke => omega); walk_at "ct_sides");
      (intro r9 tl9 h9 tk9 F9 N9 hR9; obtain ⟨e9, hv9⟩ := hR9; subst e9; (try simp only [List.nil_append] at N9));
      (generalize hd9 : figV _ _ = x9 at hv9; rcases x9 with _ | v9);
      (all_goals (first | (replace hv9 : _ = Value.none := hv9; subst hv9) | (obtain ⟨t9, e9⟩ := hv9; subst e9)));
      (all_goals ((try dsimp only); (try k_fold))))
  k_with "m exec For Tuple Call" =>
    (
      k_here; (with_reducible rename Fr _ _ _ _ => lF'); k_dflt (refine' For_turns lF' ?_ ?k1 ?k2; (case k1 => intro _; exact rfl); (case k2 => passes_own); k_whole))
  k_with "m call ref" =>
    (
      k_here; (with_reducible show wpAny _ _ (call (Value.ref 110) [Value.int _ _]) _ _ _);
      k_dflt (refine' ct_use ?k1 ?k2 ?k3 ?k4 ?k5 ?kK (c_sword _ _ _ _) ?kd ?ku ?_; walk_at "ct_sides");
      (intro r9 tl9 h9 tk9 F9 N9 hR9; obtain ⟨e9, t9, e8⟩ := hR9; subst e9; subst e8; (try simp only [List.nil_append] at N9); (try dsimp only); (try k_fold)))
  exact trivial
def swordV (n : Int) : Int := if n % 4294967296 ≤ 2147483647 then n % 4294967296 else n % 4294967296 - 4294967296
noncomputable def radixV (ks : List Int) (at' : Nat) : Res :=
  match figV 10 (ks.take at') with
  | .none => .none
  | .some base => if 2 < at' ∨ ¬ (2 ≤ base ∧ base ≤ 36) then .none else
    match figV base (ks.drop (at' + 1)) with
    | .none => .none
    | .some f => if 4294967296 ≤ f then .lim else .int (swordV f)

section
variable {ks : List Int} {a : Nat} {v f : Int}
theorem radix_n1 (h : figV 10 (ks.take a) = none) : radixV ks a = .none := by unfold radixV; rw [h]
theorem radix_n2 (h : figV 10 (ks.take a) = some v) (hc : 2 < (a : Int) ∨ ¬ 2 ≤ v ∨ ¬ v ≤ 36) : radixV ks a = .none := by
  unfold radixV; rw [h]; dsimp only; rw [if_pos (by omega)]
theorem radix_n3 (h : figV 10 (ks.take a) = some v) (h2 : ¬ 2 < (a : Int)) (h3 : 2 ≤ v) (h4 : v ≤ 36) (h5 : figV v (ks.drop (a + 1)) = none) : radixV ks a = .none := by
  unfold radixV; rw [h]; dsimp only; rw [if_neg (by omega), h5]
theorem radix_l (h : figV 10 (ks.take a) = some v) (h2 : ¬ 2 < (a : Int)) (h3 : 2 ≤ v) (h4 : v ≤ 36) (h5 : figV v (ks.drop (a + 1)) = some f) (h6 : 4294967296 ≤ f) : radixV ks a = .lim := by
  unfold radixV; rw [h]; dsimp only; rw [if_neg (by omega), h5]; dsimp only; rw [if_pos h6]
theorem radix_i (h : figV 10 (ks.take a) = some v) (h2 : ¬ 2 < (a : Int)) (h3 : 2 ≤ v) (h4 : v ≤ 36) (h5 : figV v (ks.drop (a + 1)) = some f) (h6 : ¬ 4294967296 ≤ f) : radixV ks a = .int (swordV f) := by
  unfold radixV; rw [h]; dsimp only; rw [if_neg (by omega), h5]; dsimp only; rw [if_neg h6]
end
theorem c_radix (w : World) (b : Array UInt8) (ks : List Int) (hb : bInts b = ks) (hlen : ks.length ≤ 1000) (at' : Nat) (hat : at' < ks.length) (t u : Tok) (news : Led) : CtX w 103 5 [.bytes b t, .int (at' : Int) u] news (fun r tl => ResIs r tl (radixV ks at')) (radixV ks at' = .lim) := by
  unfold CtX
  intro p loose mean mg mb dp un gd cn cs a ccd cl outer A₀ bas h₀ L m s Q E B F X N T hk hdp hun hret hexc
  refine wpAny_call ?_
  k_dflt cell_enter
  k_steps
  all_goals (simp only [clip_nat, clip_succ, clip0, clip1, take_clip, drop_clip] at *)
  all_goals first
    | refine' hexc (radix_l (by assumption) (by assumption) (by assumption) (by assumption) (by assumption) (by first | assumption | omega)) _ _ _ _ _ _ _ (RaisedD.two (by assumption)) (by k_asm) (by assumption)
    | (refine hret _ [] _ _ (by k_asm) (by k_asm) ?_
       first
         | (rw [radix_n1 (by assumption)]; exact ⟨rfl, rfl⟩)
         | (rw [radix_n2 (by assumption) (by omega)]; exact ⟨rfl, rfl⟩)
         | (rw [radix_n3 (by assumption) (by assumption) (by assumption) (by assumption) (by assumption)]; exact ⟨rfl, rfl⟩))
    | (refine hret _ [_] _ _ (by k_asm) (by k_asm) ?_
       rw [radix_i (by assumption) (by assumption) (by assumption) (by assumption) (by assumption) (by first | assumption | omega)]; exact ⟨_, _, _, rfl, rfl⟩)
end Mine
namespace Mine
open PySem PySem.W PyProof.Rows PySem.Calls
open KBw (bInts)
theorem fillme11 : PySem.Challenge.rw_nt0488_01 = PySem.Challenge.rw_nt0488_01 ∧ hd.heap_39 = hd.heap_39 := by
  k_with_none
  w_top off
  k_fill
  exact ⟨rfl, rfl⟩
local macro_rules | `(tactic| walk_at $s:str) => `(tactic| k_extra $(Lean.Syntax.mkStrLit ("m " ++ s.getString)))
theorem led_one {news : Led} {a : Addr} {o : Obj} (h : ∀ p ∈ news, ∀ q ∈ [(a, o)], p.1 < q.1) : ∀ p ∈ news, p.1 < a := fun p hp => h p hp _ (.head _)
theorem split_len0 {sg : List Int} : ∀ {ks l : List Int}, splitV sg ks = (l, none) → l.length = ks.length
  | [], l, h => by cases h; rfl
  | o :: r, l, h => by
    have h' : (if o ∈ sg then ([], some r) else (o :: (splitV sg r).1, (splitV sg r).2)) = (l, none) := h
    split at h'
    · cases h'
    · obtain ⟨e1, e2⟩ := Prod.mk.inj h'
      rw [← e1, List.length_cons, List.length_cons, split_len0 (ks := r) (l := (splitV sg r).1) (by rw [← e2])]
theorem split_len1 {sg : List Int} : ∀ {ks l l' : List Int}, splitV sg ks = (l, some l') → l.length + l'.length + 1 = ks.length
  | [], l, l', h => by cases h
  | o :: r, l, l', h => by
    have h' : (if o ∈ sg then ([], some r) else (o :: (splitV sg r).1, (splitV sg r).2)) = (l, some l') := h
    split at h'
    · obtain ⟨e1, e2⟩ := Prod.mk.inj h'
      cases e2; rw [← e1]; simp
    · obtain ⟨e1, e2⟩ := Prod.mk.inj h'
      have := split_len1 (ks := r) (l := (splitV sg r).1) (l' := l') (by rw [← e2])
      rw [← e1, List.length_cons, List.length_cons]; omega
theorem digit_range {o d : Int} (h : digitV o = some d) : 0 ≤ d := by
  unfold digitV at h
  split at h
  · cases h; omega
  · split at h
    · cases h; omega
    · split at h
      · cases h; omega
      · cases h
theorem figGo_bound : ∀ {ks : List Int} {a v : Int}, 0 ≤ a → figGo 10 ks a = some v → 0 ≤ v ∧ v < (a + 1) * 10 ^ ks.length
  | [], a, v, h0, h => by cases h; simp; omega
  | o :: r, a, v, h0, h => by
    unfold figGo at h
    cases hd : digitV o with
    | none => rw [hd] at h; cases h
    | some d =>
      rw [hd] at h
      dsimp only at h
      split at h
      · cases h
      · rename_i hlt
        have hd0 := digit_range hd
        obtain ⟨h1, h2⟩ := figGo_bound (ks := r) (a := a * 10 + d) (v := v) (by omega) h
        refine ⟨h1, Int.lt_of_lt_of_le h2 ?_⟩
        rw [List.length_cons, Int.pow_succ, Int.mul_comm (10 ^ r.length) 10, ← Int.mul_assoc]
        exact Int.mul_le_mul_of_nonneg_right (by omega) (Int.le_of_lt (Int.pow_pos (by decide)))
theorem figV_bound {ks : List Int} {v : Int} (h : figV 10 ks = some v) : 0 ≤ v ∧ v < 10 ^ ks.length := by
  unfold figV at h
  split at h
  · cases h
  · have := figGo_bound (Int.le_refl 0) h
    simpa using this
theorem figV_abs {ks : List Int} {v : Int} (h : figV 10 ks = some v) (hl : ks.length ≤ 99) : v.natAbs < 10 ^ 100 := by
  obtain ⟨h1, h2⟩ := figV_bound h
  have h3 : (10 : Int) ^ ks.length ≤ 10 ^ 99 := by
    have : (10 : Nat) ^ ks.length ≤ 10 ^ 99 := Nat.pow_le_pow_right (by decide) hl
    exact_mod_cast this
  have h4 : (10 : Int) ^ 99 < 10 ^ 100 := by decide +kernel
  have h5 : ((10 ^ 100 : Nat) : Int) = 10 ^ 100 := by decide +kernel
  have h6 : (v.natAbs : Int) = v := Int.natAbs_of_nonneg h1
  have h7 : (v.natAbs : Int) < ((10 ^ 100 : Nat) : Int) := by rw [h6, h5]; exact Int.lt_trans (Int.lt_of_lt_of_le h2 h3) h4
  exact Int.ofNat_lt.mp h7
theorem figV_absN {ks : List Int} {v : Int} (h : figV 10 ks = some v) (hl : ks.length ≤ 99) : (-v).natAbs < 10 ^ 100 := by rw [Int.natAbs_neg]; exact figV_abs h hl
theorem expV_abs {ks : List Int} {v : Int} (h : expV ks = some v) : -1000000 ≤ v ∧ v ≤ 1000000 := by
  unfold expV at h
  split at h
  · cases h
  · rename_i f hf
    have := (figV_bound hf).1
    cases h
    split <;> omega
theorem words_G8_1 : True := by
  k_with "m exec Raise some none" =>
    (k_here; refine ps_raise rfl ?_)
  k_with "m led ne" =>
    first
      | exact List.forall_mem_nil _
      | (refine' List.forall_mem_cons.mpr ⟨?a, ?b⟩; (case a => k_ne); (case b => walk_at "led ne"))
      | (refine' List.forall_mem_append.mpr ⟨?a, ?b⟩; (case a => walk_at "led ne"); (case b => walk_at "led ne"))
      | (refine led_ne (by assumption) ?_; omega)
      | (refine led_ne' (by assumption) ?_; omega)
  k_with "m enter init" =>
    (
      refine' code_def ?k1 ?k2 ?k3 ?k4 ?k5 ?kA ?kF ?kK ?k6 ?k7 ?k8 ?k9 ?kB ?_ ?c2 ?c3 ?c4 ?c5;
      (case kA => exact rfl); (case kF => exact rfl); (case kK => first | assumption | exact rfl); (case k1 => k_asm); (case k2 => k_asm); (case k3 => k_asm); (case k4 => k_asm); (case k5 => k_asm);
      (case k6 => k_is); (case k7 => k_is); (case k8 => ktr_room); (case k9 => first | exact BindsTo.of_eq rfl | exact binds_K (by k_in) rfl (by k_is) rfl rfl rfl);
      (case c5 => decide); (case kB => exact locs rfl); (case c2 => exact rfl); (case c3 => exact rfl); (case c4 => exact rfl); k_whole;
      (intro g' L' h' FG' F' N' B' X' T'); (try dsimp only); (try k_lift B'); (try k_fold))
  k_with "m call ref" =>
    (
      k_here; (with_reducible show wpAny _ _ (call (Value.ref 45) _) _ _ _);
      k_dflt (refine' ps_call ?k1 ?k2 ?k3 ?k4 ?_; (case k1 => k_asm); (case k2 => k_asm); (case k3 => k_asm); (case k4 => size_fits); k_whole);
      (intro t' e' h' F' N' l1 l2); (try k_lt l1); (try k_lt2 l2); (try k_sweep);
      k_dflt (walk_at "enter init"))
  k_with "m setAttr ref" =>
    (
      k_here; (with_reducible show wpAny _ _ (setAttr (Value.ref _) _ _) _ _ _);
      k_dflt (refine' ps_set ?k1 ?k2 ?k3 ?k4 ?_; (case k1 => k_asm); (case k2 => k_asm); (case k3 => k_asm); (case k4 => walk_at "led ne"); k_whole);
      (intro h' tk' d' tk9 F' N' l1 l2); (try k_lt l1); (try k_lt2 l2); (try k_sweep))
  k_with "m PsRaised" =>
    (
      k_here;
      (refine' ⟨_, _, _, rfl, ?kx, ?kg, ?_⟩; (case kx => k_in); (case kg => exact News.get (by k_asm) (by k_mem)); k_whole))
  k_with "m leaving ref" =>
    (
      k_here;
      (k_dflt (first
        | (refine' leave_D0 ?k1 ?k2 ?k3 ?k4 ?_ ?k6; (case k1 => k_asm); (case k2 => k_asm); (case k3 => k_asm); (case k4 => walk_at "led ne"); (case k6 => exact rfl); k_whole)
        | (refine' leave_D ?k1 ?k2 ?k3 ?k4 ?_; (case k3 => assumption); (case k1 => assumption); (case k2 => k_asm); (case k4 => assumption); k_whole)));
      intro h' R' U'; (try dsimp only at R' U' ⊢))
  k_with "m ct_sides" =>
    (
      (case k1 => k_asm); (case k2 => k_asm); (case k3 => k_asm); (case k4 => k_asm); (case k5 => k_asm); (case kK => first | exact rfl | assumption); (case kd => ktr_room); (case ku => ktr_units))
  k_with "m drop led" =>
    first
      | k_asm
      | (refine cb_drop (by with_reducible assumption) ?_; intro p hp; first
          | exact .tail _ hp
          | exact .tail _ (.tail _ hp)
          | exact .tail _ (.tail _ (.tail _ hp))
          | exact .tail _ (.tail _ (.tail _ (.tail _ hp)))
          | exact .tail _ (.tail _ (.tail _ (.tail _ (.tail _ hp))))
          | exact List.mem_append_left _ hp
          | exact List.mem_append_right _ hp
          | (simp only [List.nil_append, List.cons_append, List.mem_append, List.mem_cons] at hp ⊢; grind))
      | exact led_top (by assumption)
  k_with "m call ref" =>
    (
      k_here; (first | (with_reducible show wpAny _ _ (call (Value.ref 68) _) _ _ _) | (with_reducible show wpAny _ _ (call (Value.ref 82) _) _ _ _));
      (refine wpAny_call ?_); k_dflt (walk_at "enter init"))
  k_with "m call ref" =>
    (
      k_here; (with_reducible show wpAny _ _ (call (Value.ref 54) [Value.int _ _]) _ _ _);
      k_dflt (refine' ct_use ?k1 ?k2 ?k3 ?k4 ?k5 ?kK (c_digit _ _ _ _) ?kd ?ku ?_; walk_at "ct_sides");
      (intro r9 tl9 h9 tk9 F9 N9 hR9; obtain ⟨e9, hv9⟩ := hR9; subst e9; (try simp only [List.nil_append] at N9));
      (generalize hd9 : digitV _ = x9 at hv9; rcases x9 with _ | v9);
      (all_goals (first | (replace hv9 : _ = Value.none := hv9; subst hv9) | (obtain ⟨t9, e9⟩ := hv9; subst e9)));
      (all_goals ((try dsimp only); (try k_fold))))
  k_with "m call ref" =>
    (
      k_here; (with_reducible show wpAny _ _ (call (Value.ref 75) [Value.int _ _]) _ _ _);
      k_dflt (refine' ctx_use ?k1 ?k2 ?k3 ?k4 ?k5 ?kK (c_checked _ _ _ _) ?kd ?ku ?_ ?_; walk_at "ct_sides");
      (all_goals (first
        | (intro r9 tl9 h9 tk9 F9 N9 hR9; obtain ⟨hc9, e9, t9, e8⟩ := hR9; subst e9; subst e8; (try simp only [List.nil_append] at N9); (try dsimp only); (try k_fold))
        | (intro hx9 e9 dx9 tkk9 tb9 h9 tk9 g9 R9 F9 U9; (try dsimp only); (try k_fold)))))
  k_with "m b ints" =>
    first | kba_ints2 | exact rfl
  k_with "m compareOp In bytes ref" =>
    (
      k_here; (with_reducible show wpAny _ _ (compareOp CmpOp.In (Value.bytes _ _) (Value.ref _)) _ _ _);
      (refine' in_tupI ?k1 ?k2 ?k3 ?k4 ?_; (case k1 => exact News.get (by k_asm) (by k_mem)); (case k2 => walk_at "b ints"); (case k3 => exact rfl); (case k4 => exact rfl); k_whole))
  k_with "m compareOp Eq bytes bytes" =>
    (
      k_here; (refine' eq_bytesI ?k1 ?k2 ?_; (case k1 => walk_at "b ints"); (case k2 => walk_at "b ints"); k_whole))
  k_with "m compareOp In int bytes" =>
    (
      k_here; (refine' in_intI ?k0 ?k1 ?k2 ?_; (case k0 => omega); (case k1 => omega); (case k2 => walk_at "b ints"); k_whole))
  k_with "m call ref" =>
    (
      k_here; (with_reducible show wpAny _ _ (call (Value.ref 96) [Value.bytes _ _, Value.int _ _]) _ _ _);
      k_dflt (refine' ct_use ?k1 ?k2 ?k3 ?k4 ?k5 ?kK (c_figs _ _ _ ?ka ?kb _ ?kc ?ke _ _ _) ?kd ?ku ?_; (case ka => walk_at "b ints"); (case kb => kba_size); (case kc => omega); (case ke => omega); walk_at "ct_sides");
      (intro r9 tl9 h9 tk9 F9 N9 hR9; obtain ⟨e9, hv9⟩ := hR9; subst e9; (try simp only [List.nil_append] at N9));
      (generalize hd9 : figV _ _ = x9 at hv9; rcases x9 with _ | v9);
      (all_goals (first | (replace hv9 : _ = Value.none := hv9; subst hv9) | (obtain ⟨t9, e9⟩ := hv9; subst e9)));
      (all_goals ((try dsimp only); (try k_fold))))
  k_with "m exec For Tuple Call" =>
    (
      k_here; (with_reducible rename Fr _ _ _ _ => lF'); k_dflt (refine' For_turns lF' ?_ ?k1 ?k2; (case k1 => intro _; exact rfl); (case k2 => passes_own); k_whole))
  k_with "m call ref" =>
    (
      k_here; (with_reducible show wpAny _ _ (call (Value.ref 110) [Value.int _ _]) _ _ _);
      k_dflt (refine' ct_use ?k1 ?k2 ?k3 ?k4 ?k5 ?kK (c_sword _ _ _ _) ?kd ?ku ?_; walk_at "ct_sides");
      (intro r9 tl9 h9 tk9 F9 N9 hR9; obtain ⟨e9, t9, e8⟩ := hR9; subst e9; subst e8; (try simp only [List.nil_append] at N9); (try dsimp only); (try k_fold)))
  k_with "m after split" =>
    (
      (intro r9 tl9 h9 tk9 F9 N9 hR9; obtain ⟨⟨a9, y9, ty9, hy9, e9, hs9⟩, hf9⟩ := hR9; subst e9);
      (generalize hx9 : splitV _ _ = x9 at hy9 hs9; rcases x9 with ⟨l9, _ | m9⟩);
      (all_goals (dsimp only at hy9 hs9));
      (all_goals (first | (obtain ⟨z9, tz9, hz9, e9⟩ := hs9; subst e9; have hl9 := split_len1 hx9) | (subst hs9; have hl9 := split_len0 hx9)));
      (all_goals (replace hf9 := led_one hf9; (try k_lt hf9); simp only [List.cons_append, List.nil_append] at N9; (try dsimp only); (try k_fold))))
  k_with "m call ref" =>
    (
      k_here; (with_reducible show wpAny _ _ (call (Value.ref 131) [Value.bytes _ _, Value.bytes _ _]) _ _ _);
      k_dflt (first
        | (refine' ct_use ?k1 ?k2 ?k3 ?k4 ?k5 ?kK (c_split _ _ _ _ [101, 69] ?ka ?kb ?kc _ _ _) ?kd ?ku ?_; (case kb => exact rfl); (case ka => walk_at "b ints"); (case kc => kba_size); walk_at "ct_sides")
        | (refine' ct_use ?k1 ?k2 ?k3 ?k4 ?k5 ?kK (c_split _ _ _ _ [46] ?ka ?kb ?kc _ _ _) ?kd ?ku ?_; (case kb => exact rfl); (case ka => walk_at "b ints"); (case kc => kba_size); walk_at "ct_sides"));
      walk_at "after split")
  k_with "m call ref" =>
    (
      k_here; (with_reducible show wpAny _ _ (call (Value.ref 117) [Value.bytes _ _]) _ _ _);
      k_dflt (refine' ct_use ?k1 ?k2 ?k3 ?k4 ?k5 ?kK (c_exp _ _ _ ?ka ?kb _ _) ?kd ?ku ?_; (case ka => walk_at "b ints"); (case kb => kba_size); walk_at "ct_sides");
      (intro r9 tl9 h9 tk9 F9 N9 hR9; obtain ⟨e9, hv9⟩ := hR9; subst e9; (try simp only [List.nil_append] at N9));
      (generalize hd9 : expV _ = x9 at hv9; rcases x9 with _ | v9);
      (all_goals (try have hb9 := expV_abs hd9));
      (all_goals (first | (replace hv9 : _ = Value.none := hv9; subst hv9) | (obtain ⟨t9, e9⟩ := hv9; subst e9)));
      (all_goals ((try dsimp only); (try k_fold))))
  k_with "m call ref" =>
    (
      k_here; (with_reducible show wpAny _ _ (call (Value.ref 124) [Value.int _ _, Value.int _ _]) _ _ _);
      k_dflt (refine' ctx_use ?k1 ?k2 ?k3 ?k4 ?k5 ?kK (c_scaled _ _ _ ?ka ?kb _ _ _) ?kd ?ku ?_ ?_; (case ka => first | exact figV_abs (by assumption) (by kba_size) | exact figV_absN (by assumption) (by kba_size)); (case kb => ((try simp only [List.length_map, List.length_nil, List.size_toArray]); omega)); walk_at "ct_sides");
      (all_goals (first
        | (intro r9 tl9 h9 tk9 F9 N9 hR9; obtain ⟨e9, v9, t9, hc9, e8⟩ := hR9; subst e9; subst e8; (try simp only [List.nil_append] at N9); (try dsimp only); (try k_fold))
        | (intro hx9 e9 dx9 tkk9 tb9 h9 tk9 g9 R9 F9 U9; (try dsimp only); (try k_fold)))))
  exact trivial
noncomputable def realV (ks : List Int) (below : Bool) : Res :=
  match splitV [101, 69] ks with
  | (f, x) => match splitV [46] f with
    | (wh, r) =>
      if x = .none ∧ r = .none then .none else
      match (match x with | .none => some 0 | .some e => expV e), figV 10 (wh ++ r.getD []) with
      | .some t, .some n => realR (scaledV (if below then -n else n) (t - (r.getD []).length + 6))
      | _, _ => .none

def realFin (T N : Option Int) (below : Bool) (k : Nat) : Res := match T, N with
  | .some t, .some n => realR (scaledV (if below then -n else n) (t - (k : Int) + 6))
  | _, _ => .none
section
variable {ks f wh m e : List Int} {T N : Option Int} {below : Bool}
theorem real0 (h1 : splitV [101, 69] ks = (f, none)) (h2 : splitV [46] f = (wh, none)) : realV ks below = .none := by
  unfold realV; rw [h1]; dsimp only; rw [h2]; rfl
theorem realA (h1 : splitV [101, 69] ks = (f, none)) (h2 : splitV [46] f = (wh, some m)) (hn : figV 10 (wh ++ m) = N) : realV ks below = realFin (some 0) N below m.length := by
  unfold realV; rw [h1]; dsimp only; rw [h2]; dsimp only; rw [if_neg (by simp)]
  simp only [Option.getD_some, hn]; cases N <;> rfl
theorem realB (h1 : splitV [101, 69] ks = (f, some e)) (h2 : splitV [46] f = (wh, none)) (ht : expV e = T) (hn : figV 10 (wh ++ []) = N) : realV ks below = realFin T N below 0 := by
  unfold realV; rw [h1]; dsimp only; rw [h2]; dsimp only; rw [if_neg (by simp)]
  simp only [Option.getD_none, ht, hn]; cases T <;> cases N <;> rfl
theorem realC (h1 : splitV [101, 69] ks = (f, some e)) (h2 : splitV [46] f = (wh, some m)) (ht : expV e = T) (hn : figV 10 (wh ++ m) = N) : realV ks below = realFin T N below m.length := by
  unfold realV; rw [h1]; dsimp only; rw [h2]; dsimp only; rw [if_neg (by simp)]
  simp only [Option.getD_some, ht, hn]; cases T <;> cases N <;> rfl
theorem fin_t {t n : Int} {k : Nat} {o : Option Int} (hb : below = true) (hc : scaledV (-n) (t - (k : Int) + 6) = o) : realFin (some t) (some n) below k = realR o := by subst hb; rw [← hc]; rfl
theorem fin_f {t n : Int} {k : Nat} {o : Option Int} (hb : below = false) (hc : scaledV n (t - (k : Int) + 6) = o) : realFin (some t) (some n) below k = realR o := by subst hb; rw [← hc]; rfl
end
theorem RaisedD.three {base G : Heap} {l : List Env} {e dx : Addr} {p x y : Addr × Obj} {news : Led} {h : Heap} (R : RaisedD base G l e dx (p :: x :: y :: news) h) : RaisedD base G l e dx (p :: news) h :=
  R.drop fun q hq => (List.mem_cons.mp hq).elim (fun z => z ▸ .head _) fun hq => .tail _ (.tail _ (.tail _ hq))
theorem led_top2 {h₀ h : Heap} {L : Addr} {p x y : Addr × Obj} {news : Led} (N : News h₀ L h (p :: x :: y :: news)) : News h₀ L h ([p] ++ news) :=
  fun q hq => N q ((List.mem_cons.mp hq).elim (fun e => e ▸ .head _) fun hq => .tail _ (.tail _ (.tail _ hq)))
theorem c_real (w : World) (b : Array UInt8) (ks : List Int) (hb : bInts b = ks) (hlen : ks.length ≤ 99) (below : Bool) (t : Tok) (news : Led) : CtX w 138 8 [.bytes b t, .bool below] news (fun r tl => ResIs r tl (realV ks below)) (realV ks below = .lim) := by
  unfold CtX
  intro p loose mean mg mb dp un gd cn cs a ccd cl outer A₀ bas h₀ L m s Q E B F X N T hk hdp hun hret hexc
  refine wpAny_call ?_
  k_dflt cell_enter
  k_steps
  all_goals first
    | (refine' hexc ?_ _ _ _ _ _ _ _ (RaisedD.three (by assumption)) (by k_asm) (by assumption)
       first
         | rw [realA (by assumption) (by assumption) (by assumption)]
         | rw [realB (by assumption) (by assumption) (by assumption) (by assumption)]
         | rw [realC (by assumption) (by assumption) (by assumption) (by assumption)]
       first
         | (rw [fin_t (by assumption) (by assumption)]; rfl)
         | (rw [fin_f (by assumption) (by assumption)]; rfl))
    | (refine hret _ [] _ _ (by k_asm) (by walk_at "drop led") ?_
       first
         | (rw [real0 (by assumption) (by assumption)]; exact ⟨rfl, rfl⟩)
         | (rw [realA (by assumption) (by assumption) (by assumption)]; exact ⟨rfl, rfl⟩)
         | (rw [realB (by assumption) (by assumption) (by assumption) (by assumption)]; exact ⟨rfl, rfl⟩)
         | (rw [realC (by assumption) (by assumption) (by assumption) (by assumption)]; exact ⟨rfl, rfl⟩))
    | (refine hret _ [_] _ _ (by k_asm) (led_top2 (by assumption)) ?_
       first
         | rw [realA (by assumption) (by assumption) (by assumption)]
         | rw [realB (by assumption) (by assumption) (by assumption) (by assumption)]
         | rw [realC (by assumption) (by assumption) (by assumption) (by assumption)]
       first
         | (rw [fin_t (by assumption) (by assumption)]; exact ⟨_, _, _, rfl, rfl⟩)
         | (rw [fin_f (by assumption) (by assumption)]; exact ⟨_, _, _, rfl, rfl⟩))
end Mine
namespace Mine
open PySem PySem.W PyProof.Rows PySem.Calls
open KBw (bInts)
theorem fillme12 : PySem.Challenge.rw_nt0488_01 = PySem.Challenge.rw_nt0488_01 ∧ hd.heap_39 = hd.heap_39 := by
  k_with_none
  w_top off
  k_fill
  exact ⟨rfl, rfl⟩
local macro_rules | `(tactic| walk_at $s:str) => `(tactic| k_extra $(Lean.Syntax.mkStrLit ("m " ++ s.getString)))
theorem words_G9_1 : True := by
  k_with "m exec Raise some none" =>
    (k_here; refine ps_raise rfl ?_)
  k_with "m led ne" =>
    first
      | exact List.forall_mem_nil _
      | (refine' List.forall_mem_cons.mpr ⟨?a, ?b⟩; (case a => k_ne); (case b => walk_at "led ne"))
      | (refine' List.forall_mem_append.mpr ⟨?a, ?b⟩; (case a => walk_at "led ne"); (case b => walk_at "led ne"))
      | (refine led_ne (by assumption) ?_; omega)
      | (refine led_ne' (by assumption) ?_; omega)
  k_with "m enter init" =>
    (
      refine' code_def ?k1 ?k2 ?k3 ?k4 ?k5 ?kA ?kF ?kK ?k6 ?k7 ?k8 ?k9 ?kB ?_ ?c2 ?c3 ?c4 ?c5;
      (case kA => exact rfl); (case kF => exact rfl); (case kK => first | assumption | exact rfl); (case k1 => k_asm); (case k2 => k_asm); (case k3 => k_asm); (case k4 => k_asm); (case k5 => k_asm);
      (case k6 => k_is); (case k7 => k_is); (case k8 => ktr_room); (case k9 => first | exact BindsTo.of_eq rfl | exact binds_K (by k_in) rfl (by k_is) rfl rfl rfl);
      (case c5 => decide); (case kB => exact locs rfl); (case c2 => exact rfl); (case c3 => exact rfl); (case c4 => exact rfl); k_whole;
      (intro g' L' h' FG' F' N' B' X' T'); (try dsimp only); (try k_lift B'); (try k_fold))
  k_with "m call ref" =>
    (
      k_here; (with_reducible show wpAny _ _ (call (Value.ref 45) _) _ _ _);
      k_dflt (refine' ps_call ?k1 ?k2 ?k3 ?k4 ?_; (case k1 => k_asm); (case k2 => k_asm); (case k3 => k_asm); (case k4 => size_fits); k_whole);
      (intro t' e' h' F' N' l1 l2); (try k_lt l1); (try k_lt2 l2); (try k_sweep);
      k_dflt (walk_at "enter init"))
  k_with "m setAttr ref" =>
    (
      k_here; (with_reducible show wpAny _ _ (setAttr (Value.ref _) _ _) _ _ _);
      k_dflt (refine' ps_set ?k1 ?k2 ?k3 ?k4 ?_; (case k1 => k_asm); (case k2 => k_asm); (case k3 => k_asm); (case k4 => walk_at "led ne"); k_whole);
      (intro h' tk' d' tk9 F' N' l1 l2); (try k_lt l1); (try k_lt2 l2); (try k_sweep))
  k_with "m PsRaised" =>
    (
      k_here;
      (refine' ⟨_, _, _, rfl, ?kx, ?kg, ?_⟩; (case kx => k_in); (case kg => exact News.get (by k_asm) (by k_mem)); k_whole))
  k_with "m leaving ref" =>
    (
      k_here;
      (k_dflt (first
        | (refine' leave_D0 ?k1 ?k2 ?k3 ?k4 ?_ ?k6; (case k1 => k_asm); (case k2 => k_asm); (case k3 => k_asm); (case k4 => walk_at "led ne"); (case k6 => exact rfl); k_whole)
        | (refine' leave_D ?k1 ?k2 ?k3 ?k4 ?_; (case k3 => assumption); (case k1 => assumption); (case k2 => k_asm); (case k4 => assumption); k_whole)));
      intro h' R' U'; (try dsimp only at R' U' ⊢))
  k_with "m ct_sides" =>
    (
      (case k1 => k_asm); (case k2 => k_asm); (case k3 => k_asm); (case k4 => k_asm); (case k5 => k_asm); (case kK => first | exact rfl | assumption); (case kd => ktr_room); (case ku => ktr_units))
  k_with "m drop led" =>
    first
      | k_asm
      | (refine cb_drop (by with_reducible assumption) ?_; intro p hp; first
          | exact .tail _ hp
          | exact .tail _ (.tail _ hp)
          | exact .tail _ (.tail _ (.tail _ hp))
          | exact .tail _ (.tail _ (.tail _ (.tail _ hp)))
          | exact .tail _ (.tail _ (.tail _ (.tail _ (.tail _ hp))))
          | exact List.mem_append_left _ hp
          | exact List.mem_append_right _ hp
          | (simp only [List.nil_append, List.cons_append, List.mem_append, List.mem_cons] at hp ⊢; grind))
      | exact led_top (by assumption)
  k_with "m call ref" =>
    (
      k_here; (first | (with_reducible show wpAny _ _ (call (Value.ref 68) _) _ _ _) | (with_reducible show wpAny _ _ (call (Value.ref 82) _) _ _ _));
      (refine wpAny_call ?_); k_dflt (walk_at "enter init"))
  k_with "m call ref" =>
    (
      k_here; (with_reducible show wpAny _ _ (call (Value.ref 54) [Value.int _ _]) _ _ _);
      k_dflt (refine' ct_use ?k1 ?k2 ?k3 ?k4 ?k5 ?kK (c_digit _ _ _ _) ?kd ?ku ?_; walk_at "ct_sides");
      (intro r9 tl9 h9 tk9 F9 N9 hR9; obtain ⟨e9, hv9⟩ := hR9; subst e9; (try simp only [List.nil_append] at N9));
      (generalize hd9 : digitV _ = x9 at hv9; rcases x9 with _ | v9);
      (all_goals (first | (replace hv9 : _ = Value.none := hv9; subst hv9) | (obtain ⟨t9, e9⟩ := hv9; subst e9)));
      (all_goals ((try dsimp only); (try k_fold))))
  k_with "m call ref" =>
    (
      k_here; (with_reducible show wpAny _ _ (call (Value.ref 75) [Value.int _ _]) _ _ _);
      k_dflt (refine' ctx_use ?k1 ?k2 ?k3 ?k4 ?k5 ?kK (c_checked _ _ _ _) ?kd ?ku ?_ ?_; walk_at "ct_sides");
      (all_goals (first
        | (intro r9 tl9 h9 tk9 F9 N9 hR9; obtain ⟨hc9, e9, t9, e8⟩ := hR9; subst e9; subst e8; (try simp only [List.nil_append] at N9); (try dsimp only); (try k_fold))
        | (intro hx9 e9 dx9 tkk9 tb9 h9 tk9 g9 R9 F9 U9; (try dsimp only); (try k_fold)))))
  k_with "m b ints" =>
    first | kba_ints2 | exact rfl
  k_with "m compareOp In bytes ref" =>
    (
      k_here; (with_reducible show wpAny _ _ (compareOp CmpOp.In (Value.bytes _ _) (Value.ref _)) _ _ _);
      (refine' in_tupI ?k1 ?k2 ?k3 ?k4 ?_; (case k1 => exact News.get (by k_asm) (by k_mem)); (case k2 => walk_at "b ints"); (case k3 => exact rfl); (case k4 => exact rfl); k_whole))
  k_with "m compareOp Eq bytes bytes" =>
    (
      k_here; (refine' eq_bytesI ?k1 ?k2 ?_; (case k1 => walk_at "b ints"); (case k2 => walk_at "b ints"); k_whole))
  k_with "m compareOp In int bytes" =>
    (
      k_here; (refine' in_intI ?k0 ?k1 ?k2 ?_; (case k0 => omega); (case k1 => omega); (case k2 => walk_at "b ints"); k_whole))
  k_with "m call ref" =>
    (
      k_here; (with_reducible show wpAny _ _ (call (Value.ref 96) [Value.bytes _ _, Value.int _ _]) _ _ _);
      k_dflt (refine' ct_use ?k1 ?k2 ?k3 ?k4 ?k5 ?kK (c_figs _ _ _ ?ka ?kb _ ?kc ?ke _ _ _) ?kd ?ku ?_; (case ka => walk_at "b ints"); (case kb => kba_size); (case kc => omega); (case ke => omega); walk_at "ct_sides");
      (intro r9 tl9 h9 tk9 F9 N9 hR9; obtain ⟨e9, hv9⟩ := hR9; subst e9; (try simp only [List.nil_append] at N9));
      (generalize hd9 : figV _ _ = x9 at hv9; rcases x9 with _ | v9);
      (all_goals (first | (replace hv9 : _ = Value.none := hv9; subst hv9) | (obtain ⟨t9, e9⟩ := hv9; subst e9)));
      (all_goals ((try dsimp only); (try k_fold))))
  k_with "m exec For Tuple Call" =>
    (
      k_here; (with_reducible rename Fr _ _ _ _ => lF'); k_dflt (refine' For_turns lF' ?_ ?k1 ?k2; (case k1 => intro _; exact rfl); (case k2 => passes_own); k_whole))
  k_with "m call ref" =>
    (
      k_here; (with_reducible show wpAny _ _ (call (Value.ref 110) [Value.int _ _]) _ _ _);
      k_dflt (refine' ct_use ?k1 ?k2 ?k3 ?k4 ?k5 ?kK (c_sword _ _ _ _) ?kd ?ku ?_; walk_at "ct_sides");
      (intro r9 tl9 h9 tk9 F9 N9 hR9; obtain ⟨e9, t9, e8⟩ := hR9; subst e9; subst e8; (try simp only [List.nil_append] at N9); (try dsimp only); (try k_fold)))
  k_with "m after split" =>
    (
      (intro r9 tl9 h9 tk9 F9 N9 hR9; obtain ⟨⟨a9, y9, ty9, hy9, e9, hs9⟩, hf9⟩ := hR9; subst e9);
      (generalize hx9 : splitV _ _ = x9 at hy9 hs9; rcases x9 with ⟨l9, _ | m9⟩);
      (all_goals (dsimp only at hy9 hs9));
      (all_goals (first | (obtain ⟨z9, tz9, hz9, e9⟩ := hs9; subst e9; have hl9 := split_len1 hx9) | (subst hs9; have hl9 := split_len0 hx9)));
      (all_goals (replace hf9 := led_one hf9; (try k_lt hf9); simp only [List.cons_append, List.nil_append] at N9; (try dsimp only); (try k_fold))))
  k_with "m call ref" =>
    (
      k_here; (with_reducible show wpAny _ _ (call (Value.ref 131) [Value.bytes _ _, Value.bytes _ _]) _ _ _);
      k_dflt (first
        | (refine' ct_use ?k1 ?k2 ?k3 ?k4 ?k5 ?kK (c_split _ _ _ _ [101, 69] ?ka ?kb ?kc _ _ _) ?kd ?ku ?_; (case kb => exact rfl); (case ka => walk_at "b ints"); (case kc => kba_size); walk_at "ct_sides")
        | (refine' ct_use ?k1 ?k2 ?k3 ?k4 ?k5 ?kK (c_split _ _ _ _ [46] ?ka ?kb ?kc _ _ _) ?kd ?ku ?_; (case kb => exact rfl); (case ka => walk_at "b ints"); (case kc => kba_size); walk_at "ct_sides"));
      walk_at "after split")
  k_with "m call ref" =>
    (
      k_here; (with_reducible show wpAny _ _ (call (Value.ref 117) [Value.bytes _ _]) _ _ _);
      k_dflt (refine' ct_use ?k1 ?k2 ?k3 ?k4 ?k5 ?kK (c_exp _ _ _ ?ka ?kb _ _) ?kd ?ku ?_; (case ka => walk_at "b ints"); (case kb => kba_size); walk_at "ct_sides");
      (intro r9 tl9 h9 tk9 F9 N9 hR9; obtain ⟨e9, hv9⟩ := hR9; subst e9; (try simp only [List.nil_append] at N9));
      (generalize hd9 : expV _ = x9 at hv9; rcases x9 with _ | v9);
      (all_goals (try have hb9 := expV_abs hd9));
      (all_goals (first | (replace hv9 : _ = Value.none := hv9; subst hv9) | (obtain ⟨t9, e9⟩ := hv9; subst e9)));
      (all_goals ((try dsimp only); (try k_fold))))
  k_with "m call ref" =>
    (
      k_here; (with_reducible show wpAny _ _ (call (Value.ref 124) [Value.int _ _, Value.int _ _]) _ _ _);
      k_dflt (refine' ctx_use ?k1 ?k2 ?k3 ?k4 ?k5 ?kK (c_scaled _ _ _ ?ka ?kb _ _ _) ?kd ?ku ?_ ?_; (case ka => first | exact figV_abs (by assumption) (by kba_size) | exact figV_absN (by assumption) (by kba_size)); (case kb => ((try simp only [List.length_map, List.length_nil, List.size_toArray]); omega)); walk_at "ct_sides");
      (all_goals (first
        | (intro r9 tl9 h9 tk9 F9 N9 hR9; obtain ⟨e9, v9, t9, hc9, e8⟩ := hR9; subst e9; subst e8; (try simp only [List.nil_append] at N9); (try dsimp only); (try k_fold))
        | (intro hx9 e9 dx9 tkk9 tb9 h9 tk9 g9 R9 F9 U9; (try dsimp only); (try k_fold)))))
  k_with "m after res" =>
    (all_goals (first
        | (intro r9 tl9 h9 tk9 F9 N9 hR9; (try dsimp only); (try k_fold))
        | (intro hx9 e9 dx9 tkk9 tb9 h9 tk9 g9 R9 F9 U9; (try dsimp only); (try k_fold))))
  k_with "m call ref" =>
    (
      k_here; (with_reducible show wpAny _ _ (call (Value.ref 103) [Value.bytes _ _, Value.int _ _]) _ _ _);
      k_dflt (refine' ctx_use ?k1 ?k2 ?k3 ?k4 ?k5 ?kK (c_radix _ _ _ ?ka ?kb _ ?kc _ _ _) ?kd ?ku ?_ ?_; (case ka => walk_at "b ints"); (case kb => kba_size); (case kc => kba_size); walk_at "ct_sides");
      walk_at "after res")
  k_with "m call ref" =>
    (
      k_here; (with_reducible show wpAny _ _ (call (Value.ref 89) [Value.int _ _]) _ _ _);
      k_dflt (refine' ctx_use ?k1 ?k2 ?k3 ?k4 ?k5 ?kK (c_whole _ _ _ _) ?kd ?ku ?_ ?_; walk_at "ct_sides");
      walk_at "after res")
  k_with "m call ref" =>
    (
      k_here; (with_reducible show wpAny _ _ (call (Value.ref 138) [Value.bytes _ _, Value.bool _]) _ _ _);
      k_dflt (refine' ctx_use ?k1 ?k2 ?k3 ?k4 ?k5 ?kK (c_real _ _ _ ?ka ?kb _ _ _) ?kd ?ku ?_ ?_; (case ka => walk_at "b ints"); (case kb => kba_size); walk_at "ct_sides");
      walk_at "after res")
  exact trivial
def restV (ks : List Int) : List Int := if ks.take 1 = [43] ∨ ks.take 1 = [45] then ks.drop 1 else ks
noncomputable def numV (ks : List Int) : Res :=
  match splitV [35] ks with
  | (pre, .some _) => radixV ks pre.length
  | (_, .none) => match figV 10 (restV ks) with
    | .some n => wholeV (if ks.take 1 = [45] then -n else n)
    | .none => realV (restV ks) (decide (ks.take 1 = [45]))

section
variable {ks pre post : List Int} {n : Int}
theorem num_radix (e : ks = pre ++ n :: post) (hP : ∀ v ∈ pre, v ∉ [(35 : Int)]) (hn : n = 35) : numV ks = radixV ks pre.length := by
  have h : splitV [35] ks = (pre, some post) := by rw [e]; exact split_hit hP (by simp [hn])
  unfold numV; rw [h]
theorem num_plain (hP : ∀ v ∈ ks, v ∉ [(35 : Int)]) : numV ks = match figV 10 (restV ks) with
    | .some n => wholeV (if ks.take 1 = [45] then -n else n)
    | .none => realV (restV ks) (decide (ks.take 1 = [45])) := by
  unfold numV; rw [split_miss hP]
theorem num_sr (hP : ∀ v ∈ ks, v ∉ [(35 : Int)]) (hs : ks.take 1 = [43] ∨ ks.take 1 = [45]) (hf : figV 10 (ks.drop 1) = none) : numV ks = realV (ks.drop 1) (decide (ks.take 1 = [45])) := by
  rw [num_plain hP]; unfold restV; rw [if_pos hs, hf]
theorem num_ur (hP : ∀ v ∈ ks, v ∉ [(35 : Int)]) (hs : ¬ (ks.take 1 = [43] ∨ ks.take 1 = [45])) (hf : figV 10 ks = none) : numV ks = realV ks (decide (ks.take 1 = [45])) := by
  rw [num_plain hP]; unfold restV; rw [if_neg hs, hf]
theorem num_sn (hP : ∀ v ∈ ks, v ∉ [(35 : Int)]) (hs : ks.take 1 = [43] ∨ ks.take 1 = [45]) (hf : figV 10 (ks.drop 1) = some n) (hb : ks.take 1 = [45]) : numV ks = wholeV (-n) := by
  rw [num_plain hP]; unfold restV; rw [if_pos hs, hf]; dsimp only; rw [if_pos hb]
theorem num_sp (hP : ∀ v ∈ ks, v ∉ [(35 : Int)]) (hs : ks.take 1 = [43] ∨ ks.take 1 = [45]) (hf : figV 10 (ks.drop 1) = some n) (hb : ¬ ks.take 1 = [45]) : numV ks = wholeV n := by
  rw [num_plain hP]; unfold restV; rw [if_pos hs, hf]; dsimp only; rw [if_neg hb]
theorem num_un (hP : ∀ v ∈ ks, v ∉ [(35 : Int)]) (hs : ¬ (ks.take 1 = [43] ∨ ks.take 1 = [45])) (hf : figV 10 ks = some n) (hb : ks.take 1 = [45]) : numV ks = wholeV (-n) := absurd (.inr hb) hs
theorem num_up (hP : ∀ v ∈ ks, v ∉ [(35 : Int)]) (hs : ¬ (ks.take 1 = [43] ∨ ks.take 1 = [45])) (hf : figV 10 ks = some n) (hb : ¬ ks.take 1 = [45]) : numV ks = wholeV n := by
  rw [num_plain hP]; unfold restV; rw [if_neg hs, hf]; dsimp only; rw [if_neg hb]
end
theorem led_mid {h₀ h : Heap} {L : Addr} {tl own news : Led} (N : News h₀ L h (tl ++ (own ++ news))) : News h₀ L h (tl ++ news) :=
  fun p hp => N p ((List.mem_append.mp hp).elim (List.mem_append_left _) fun hp => List.mem_append_right _ (List.mem_append_right _ hp))
theorem led_mid1 {h₀ h : Heap} {L : Addr} {tl news : Led} {x : Addr × Obj} (N : News h₀ L h (tl ++ x :: news)) : News h₀ L h (tl ++ news) :=
  fun p hp => N p ((List.mem_append.mp hp).elim (List.mem_append_left _) fun hp => List.mem_append_right _ (.tail _ hp))
theorem RaisedD.own {base G : Heap} {l : List Env} {e dx : Addr} {p : Addr × Obj} {own news : Led} {h : Heap} (R : RaisedD base G l e dx (p :: (own ++ news)) h) : RaisedD base G l e dx (p :: news) h :=
  R.drop fun q hq => (List.mem_cons.mp hq).elim (fun z => z ▸ .head _) fun hq => .tail _ (List.mem_append_right _ hq)
theorem c_num (w : World) (b : Array UInt8) (ks : List Int) (hb : bInts b = ks) (hlen : ks.length ≤ 99) (t : Tok) (news : Led) : CtX w 145 10 [.bytes b t] news (fun r tl => ResIs r tl (numV ks)) (numV ks = .lim) := by
  unfold CtX
  intro p loose mean mg mb dp un gd cn cs a ccd cl outer A₀ bas h₀ L m s Q E B F X N T hk hdp hun hret hexc
  refine wpAny_call ?_
  k_dflt cell_enter
  k_steps
  k_dflt (refine' enb_search (fun pre => ∀ v ∈ pre, v ∉ [(35 : Int)]) hb ?kh ?kF ?kN ?k1 ?k2 ?k3 ?k4 ?_ ?_)
  case kh => exact rfl
  case kF => k_asm
  case kN => k_asm
  case k1 => exact rfl
  case k2 => exact rfl
  case k3 => exact rfl
  case k4 => exact fun _ h => nomatch h
  all_goals (first
    | (intro pre post n ti tn h9 tk9 own e9 hlo hhi hP hown F9 N9; have hln := congrArg List.length e9; rw [List.length_append, List.length_cons] at hln)
    | (intro u9 h9 tk9 hP F9 N9))
  all_goals (try k_fold)
  k_steps
  all_goals (try dsimp only [SPost])
  k_steps
  all_goals (simp only [clip0, clip1, take_clip, drop_clip, map45, b43, b45, List.drop_zero] at *)
  all_goals first
    | assumption
    | (rename _ ∈ pre ++ [n] => hv
       rcases List.mem_append.mp hv with hv | hv
       · exact hP _ hv
       · rw [List.mem_singleton.mp hv]; simpa using ‹n ≠ 35›)
    | (refine' hexc ?_ _ _ _ _ _ _ _ (RaisedD.own (by assumption)) (by k_asm) (by assumption)
       rw [num_radix e9 hP (by assumption)]; assumption)
    | (refine' hexc ?_ _ _ _ _ _ _ _ (RaisedD.two (by assumption)) (by k_asm) (by assumption)
       first
         | (rw [num_sr hP (by assumption) (by assumption)]; assumption)
         | (rw [num_ur hP (by assumption) (by assumption)]; assumption)
         | (rw [num_sn hP (by assumption) (by assumption) (by assumption)]; assumption)
         | (rw [num_sp hP (by assumption) (by assumption) (by assumption)]; assumption)
         | (rw [num_un hP (by assumption) (by assumption) (by assumption)]; assumption)
         | (rw [num_up hP (by assumption) (by assumption) (by assumption)]; assumption))
    | (refine hret _ _ _ _ (by k_asm) (led_mid (by assumption)) ?_
       rw [num_radix e9 hP (by assumption)]; assumption)
    | (refine hret _ _ _ _ (by k_asm) (led_mid1 (by assumption)) ?_
       first
         | (rw [num_sr hP (by assumption) (by assumption)]; assumption)
         | (rw [num_ur hP (by assumption) (by assumption)]; assumption)
         | (rw [num_sn hP (by assumption) (by assumption) (by assumption)]; assumption)
         | (rw [num_sp hP (by assumption) (by assumption) (by assumption)]; assumption)
         | (rw [num_un hP (by assumption) (by assumption) (by assumption)]; assumption)
         | (rw [num_up hP (by assumption) (by assumption) (by assumption)]; assumption))
end Mine
namespace Mine
open PySem PySem.W PyProof.Rows PySem.Calls
open KBw (bInts)
theorem fillme13 : PySem.Challenge.rw_nt0488_01 = PySem.Challenge.rw_nt0488_01 ∧ hd.heap_39 = hd.heap_39 := by
  k_with_none
  w_top off
  k_fill
  exact ⟨rfl, rfl⟩
local macro_rules | `(tactic| walk_at $s:str) => `(tactic| k_extra $(Lean.Syntax.mkStrLit ("m " ++ s.getString)))
theorem words_T1_1 : True := by
  k_with "m exec Raise some none" =>
    (k_here; refine ps_raise rfl ?_)
  k_with "m led ne" =>
    first
      | exact List.forall_mem_nil _
      | (refine' List.forall_mem_cons.mpr ⟨?a, ?b⟩; (case a => k_ne); (case b => walk_at "led ne"))
      | (refine' List.forall_mem_append.mpr ⟨?a, ?b⟩; (case a => walk_at "led ne"); (case b => walk_at "led ne"))
      | (refine led_ne (by assumption) ?_; omega)
      | (refine led_ne' (by assumption) ?_; omega)
  k_with "m enter init" =>
    (
      refine' code_def ?k1 ?k2 ?k3 ?k4 ?k5 ?kA ?kF ?kK ?k6 ?k7 ?k8 ?k9 ?kB ?_ ?c2 ?c3 ?c4 ?c5;
      (case kA => exact rfl); (case kF => exact rfl); (case kK => first | assumption | exact rfl); (case k1 => k_asm); (case k2 => k_asm); (case k3 => k_asm); (case k4 => k_asm); (case k5 => k_asm);
      (case k6 => k_is); (case k7 => k_is); (case k8 => ktr_room); (case k9 => first | exact BindsTo.of_eq rfl | exact binds_K (by k_in) rfl (by k_is) rfl rfl rfl);
      (case c5 => decide); (case kB => exact locs rfl); (case c2 => exact rfl); (case c3 => exact rfl); (case c4 => exact rfl); k_whole;
      (intro g' L' h' FG' F' N' B' X' T'); (try dsimp only); (try k_lift B'); (try k_fold))
  k_with "m call ref" =>
    (
      k_here; (with_reducible show wpAny _ _ (call (Value.ref 45) _) _ _ _);
      k_dflt (refine' ps_call ?k1 ?k2 ?k3 ?k4 ?_; (case k1 => k_asm); (case k2 => k_asm); (case k3 => k_asm); (case k4 => size_fits); k_whole);
      (intro t' e' h' F' N' l1 l2); (try k_lt l1); (try k_lt2 l2); (try k_sweep);
      k_dflt (walk_at "enter init"))
  k_with "m setAttr ref" =>
    (
      k_here; (with_reducible show wpAny _ _ (setAttr (Value.ref _) _ _) _ _ _);
      k_dflt (refine' ps_set ?k1 ?k2 ?k3 ?k4 ?_; (case k1 => k_asm); (case k2 => k_asm); (case k3 => k_asm); (case k4 => walk_at "led ne"); k_whole);
      (intro h' tk' d' tk9 F' N' l1 l2); (try k_lt l1); (try k_lt2 l2); (try k_sweep))
  k_with "m PsRaised" =>
    (
      k_here;
      (refine' ⟨_, _, _, rfl, ?kx, ?kg, ?_⟩; (case kx => k_in); (case kg => exact News.get (by k_asm) (by k_mem)); k_whole))
  k_with "m leaving ref" =>
    (
      k_here;
      (k_dflt (first
        | (refine' leave_D0 ?k1 ?k2 ?k3 ?k4 ?_ ?k6; (case k1 => k_asm); (case k2 => k_asm); (case k3 => k_asm); (case k4 => walk_at "led ne"); (case k6 => exact rfl); k_whole)
        | (refine' leave_D ?k1 ?k2 ?k3 ?k4 ?_; (case k3 => assumption); (case k1 => assumption); (case k2 => k_asm); (case k4 => assumption); k_whole)));
      intro h' R' U'; (try dsimp only at R' U' ⊢))
  k_with "m ct_sides" =>
    (
      (case k1 => k_asm); (case k2 => k_asm); (case k3 => k_asm); (case k4 => k_asm); (case k5 => k_asm); (case kK => first | exact rfl | assumption); (case kd => ktr_room); (case ku => ktr_units))
  k_with "m drop led" =>
    first
      | k_asm
      | (refine cb_drop (by with_reducible assumption) ?_; intro p hp; first
          | exact .tail _ hp
          | exact .tail _ (.tail _ hp)
          | exact .tail _ (.tail _ (.tail _ hp))
          | exact .tail _ (.tail _ (.tail _ (.tail _ hp)))
          | exact .tail _ (.tail _ (.tail _ (.tail _ (.tail _ hp))))
          | exact List.mem_append_left _ hp
          | exact List.mem_append_right _ hp
          | (simp only [List.nil_append, List.cons_append, List.mem_append, List.mem_cons] at hp ⊢; grind))
      | exact led_top (by assumption)
  k_with "m call ref" =>
    (
      k_here; (first | (with_reducible show wpAny _ _ (call (Value.ref 68) _) _ _ _) | (with_reducible show wpAny _ _ (call (Value.ref 82) _) _ _ _));
      (refine wpAny_call ?_); k_dflt (walk_at "enter init"))
  k_with "m call ref" =>
    (
      k_here; (with_reducible show wpAny _ _ (call (Value.ref 54) [Value.int _ _]) _ _ _);
      k_dflt (refine' ct_use ?k1 ?k2 ?k3 ?k4 ?k5 ?kK (c_digit _ _ _ _) ?kd ?ku ?_; walk_at "ct_sides");
      (intro r9 tl9 h9 tk9 F9 N9 hR9; obtain ⟨e9, hv9⟩ := hR9; subst e9; (try simp only [List.nil_append] at N9));
      (generalize hd9 : digitV _ = x9 at hv9; rcases x9 with _ | v9);
      (all_goals (first | (replace hv9 : _ = Value.none := hv9; subst hv9) | (obtain ⟨t9, e9⟩ := hv9; subst e9)));
      (all_goals ((try dsimp only); (try k_fold))))
  k_with "m call ref" =>
    (
      k_here; (with_reducible show wpAny _ _ (call (Value.ref 75) [Value.int _ _]) _ _ _);
      k_dflt (refine' ctx_use ?k1 ?k2 ?k3 ?k4 ?k5 ?kK (c_checked _ _ _ _) ?kd ?ku ?_ ?_; walk_at "ct_sides");
      (all_goals (first
        | (intro r9 tl9 h9 tk9 F9 N9 hR9; obtain ⟨hc9, e9, t9, e8⟩ := hR9; subst e9; subst e8; (try simp only [List.nil_append] at N9); (try dsimp only); (try k_fold))
        | (intro hx9 e9 dx9 tkk9 tb9 h9 tk9 g9 R9 F9 U9; (try dsimp only); (try k_fold)))))
  k_with "m b ints" =>
    first | kba_ints2 | exact rfl
  k_with "m compareOp In bytes ref" =>
    (
      k_here; (with_reducible show wpAny _ _ (compareOp CmpOp.In (Value.bytes _ _) (Value.ref _)) _ _ _);
      (refine' in_tupI ?k1 ?k2 ?k3 ?k4 ?_; (case k1 => exact News.get (by k_asm) (by k_mem)); (case k2 => walk_at "b ints"); (case k3 => exact rfl); (case k4 => exact rfl); k_whole))
  k_with "m compareOp Eq bytes bytes" =>
    (
      k_here; (refine' eq_bytesI ?k1 ?k2 ?_; (case k1 => walk_at "b ints"); (case k2 => walk_at "b ints"); k_whole))
  k_with "m compareOp In int bytes" =>
    (
      k_here; (refine' in_intI ?k0 ?k1 ?k2 ?_; (case k0 => omega); (case k1 => omega); (case k2 => walk_at "b ints"); k_whole))
  k_with "m call ref" =>
    (
      k_here; (with_reducible show wpAny _ _ (call (Value.ref 96) [Value.bytes _ _, Value.int _ _]) _ _ _);
      k_dflt (refine' ct_use ?k1 ?k2 ?k3 ?k4 ?k5 ?kK (c_figs _ _ _ ?ka ?kb _ ?kc ?ke _ _ _) ?kd ?ku ?_; (case ka => walk_at "b ints"); (case kb => kba_size); (case kc => omega); (case ke => omega); walk_at "ct_sides");
      (intro r9 tl9 h9 tk9 F9 N9 hR9; obtain ⟨e9, hv9⟩ := hR9; subst e9; (try simp only [List.nil_append] at N9));
      (generalize hd9 : figV _ _ = x9 at hv9; rcases x9 with _ | v9);
      (all_goals (first | (replace hv9 : _ = Value.none := hv9; subst hv9) | (obtain ⟨t9, e9⟩ := hv9; subst e9)));
      (all_goals ((try dsimp only); (try k_fold))))
  k_with "m exec For Tuple Call" =>
    (
      k_here; (with_reducible rename Fr _ _ _ _ => lF'); k_dflt (refine' For_turns lF' ?_ ?k1 ?k2; (case k1 => intro _; exact rfl); (case k2 => passes_own); k_whole))
  k_with "m call ref" =>
    (
      k_here; (with_reducible show wpAny _ _ (call (Value.ref 110) [Value.int _ _]) _ _ _);
      k_dflt (refine' ct_use ?k1 ?k2 ?k3 ?k4 ?k5 ?kK (c_sword _ _ _ _) ?kd ?ku ?_; walk_at "ct_sides");
      (intro r9 tl9 h9 tk9 F9 N9 hR9; obtain ⟨e9, t9, e8⟩ := hR9; subst e9; subst e8; (try simp only [List.nil_append] at N9); (try dsimp only); (try k_fold)))
  k_with "m after split" =>
    (
      (intro r9 tl9 h9 tk9 F9 N9 hR9; obtain ⟨⟨a9, y9, ty9, hy9, e9, hs9⟩, hf9⟩ := hR9; subst e9);
      (generalize hx9 : splitV _ _ = x9 at hy9 hs9; rcases x9 with ⟨l9, _ | m9⟩);
      (all_goals (dsimp only at hy9 hs9));
      (all_goals (first | (obtain ⟨z9, tz9, hz9, e9⟩ := hs9; subst e9; have hl9 := split_len1 hx9) | (subst hs9; have hl9 := split_len0 hx9)));
      (all_goals (replace hf9 := led_one hf9; (try k_lt hf9); simp only [List.cons_append, List.nil_append] at N9; (try dsimp only); (try k_fold))))
  k_with "m call ref" =>
    (
      k_here; (with_reducible show wpAny _ _ (call (Value.ref 131) [Value.bytes _ _, Value.bytes _ _]) _ _ _);
      k_dflt (first
        | (refine' ct_use ?k1 ?k2 ?k3 ?k4 ?k5 ?kK (c_split _ _ _ _ [101, 69] ?ka ?kb ?kc _ _ _) ?kd ?ku ?_; (case kb => exact rfl); (case ka => walk_at "b ints"); (case kc => kba_size); walk_at "ct_sides")
        | (refine' ct_use ?k1 ?k2 ?k3 ?k4 ?k5 ?kK (c_split _ _ _ _ [46] ?ka ?kb ?kc _ _ _) ?kd ?ku ?_; (case kb => exact rfl); (case ka => walk_at "b ints"); (case kc => kba_size); walk_at "ct_sides"));
      walk_at "after split")
  k_with "m call ref" =>
    (
      k_here; (with_reducible show wpAny _ _ (call (Value.ref 117) [Value.bytes _ _]) _ _ _);
      k_dflt (refine' ct_use ?k1 ?k2 ?k3 ?k4 ?k5 ?kK (c_exp _ _ _ ?ka ?kb _ _) ?kd ?ku ?_; (case ka => walk_at "b ints"); (case kb => kba_size); walk_at "ct_sides");
      (intro r9 tl9 h9 tk9 F9 N9 hR9; obtain ⟨e9, hv9⟩ := hR9; subst e9; (try simp only [List.nil_append] at N9));
      (generalize hd9 : expV _ = x9 at hv9; rcases x9 with _ | v9);
      (all_goals (try have hb9 := expV_abs hd9));
      (all_goals (first | (replace hv9 : _ = Value.none := hv9; subst hv9) | (obtain ⟨t9, e9⟩ := hv9; subst e9)));
      (all_goals ((try dsimp only); (try k_fold))))
  k_with "m call ref" =>
    (
      k_here; (with_reducible show wpAny _ _ (call (Value.ref 124) [Value.int _ _, Value.int _ _]) _ _ _);
      k_dflt (refine' ctx_use ?k1 ?k2 ?k3 ?k4 ?k5 ?kK (c_scaled _ _ _ ?ka ?kb _ _ _) ?kd ?ku ?_ ?_; (case ka => first | exact figV_abs (by assumption) (by kba_size) | exact figV_absN (by assumption) (by kba_size)); (case kb => ((try simp only [List.length_map, List.length_nil, List.size_toArray]); omega)); walk_at "ct_sides");
      (all_goals (first
        | (intro r9 tl9 h9 tk9 F9 N9 hR9; obtain ⟨e9, v9, t9, hc9, e8⟩ := hR9; subst e9; subst e8; (try simp only [List.nil_append] at N9); (try dsimp only); (try k_fold))
        | (intro hx9 e9 dx9 tkk9 tb9 h9 tk9 g9 R9 F9 U9; (try dsimp only); (try k_fold)))))
  k_with "m after res" =>
    (all_goals (first
        | (intro r9 tl9 h9 tk9 F9 N9 hR9; (try dsimp only); (try k_fold))
        | (intro hx9 e9 dx9 tkk9 tb9 h9 tk9 g9 R9 F9 U9; (try dsimp only); (try k_fold))))
  k_with "m call ref" =>
    (
      k_here; (with_reducible show wpAny _ _ (call (Value.ref 103) [Value.bytes _ _, Value.int _ _]) _ _ _);
      k_dflt (refine' ctx_use ?k1 ?k2 ?k3 ?k4 ?k5 ?kK (c_radix _ _ _ ?ka ?kb _ ?kc _ _ _) ?kd ?ku ?_ ?_; (case ka => walk_at "b ints"); (case kb => kba_size); (case kc => kba_size); walk_at "ct_sides");
      walk_at "after res")
  k_with "m call ref" =>
    (
      k_here; (with_reducible show wpAny _ _ (call (Value.ref 89) [Value.int _ _]) _ _ _);
      k_dflt (refine' ctx_use ?k1 ?k2 ?k3 ?k4 ?k5 ?kK (c_whole _ _ _ _) ?kd ?ku ?_ ?_; walk_at "ct_sides");
      walk_at "after res")
  k_with "m call ref" =>
    (
      k_here; (with_reducible show wpAny _ _ (call (Value.ref 138) [Value.bytes _ _, Value.bool _]) _ _ _);
      k_dflt (refine' ctx_use ?k1 ?k2 ?k3 ?k4 ?k5 ?kK (c_real _ _ _ ?ka ?kb _ _ _) ?kd ?ku ?_ ?_; (case ka => walk_at "b ints"); (case kb => kba_size); walk_at "ct_sides");
      walk_at "after res")
  k_with "m call ref" =>
    (
      k_here; (with_reducible show wpAny _ _ (call (Value.ref 145) [Value.bytes _ _]) _ _ _);
      k_dflt (refine' ctx_use ?k1 ?k2 ?k3 ?k4 ?k5 ?kK (c_num _ _ _ ?ka ?kb _ _) ?kd ?ku ?_ ?_; (case ka => walk_at "b ints"); (case kb => kba_size); walk_at "ct_sides");
      rotate_left;
      (intro hx9 e9 dx9 tkk9 tb9 h9 tk9 g9 R9 F9 U9; (try dsimp only); (try k_fold));
      rotate_left;
      (intro r9 tl9 h9 tk9 F9 N9 hR9; generalize hx9 : numV _ = x9 at hR9; rcases x9 with _ | _ | n9 | n9);
      (all_goals (k_dflt (first | exact False.elim hR9 | (obtain ⟨e9, e8⟩ := hR9; subst e9; subst e8) | (obtain ⟨a9, t9, t8, e9, e8⟩ := hR9; subst e9; subst e8) | skip)));
      (all_goals ((try simp only [List.nil_append, List.cons_append] at N9); (try dsimp only); (try k_fold))))
  exact trivial
def ToldIs (r : Value) (tl : Led) : Res → Prop
  | .none => tl = [] ∧ r = .none
  | .lim => tl = [] ∧ ∃ t, r = .str "limitcheck" t
  | .int n => ∃ a t t', tl = [(a, tupO (.str "integer" t) (.int n t'))] ∧ r = .ref a
  | .real n => ∃ a t t', tl = [(a, tupO (.str "real" t) (.int n t'))] ∧ r = .ref a

abbrev CtL (w : World) (f : Addr) (k : Nat) (vs : List Value) (news : Led) (R : Value → Led → Prop) : Prop :=
  ∀ (p : Program) (loose : List Str) (mean : ExcName → Option Value) (mg mb : Str → Option Value)
    (dp un : Nat) (gd : Option (List Code)) (cn : Str) (cs : Scope) (a : Addr) (ccd : Value) (A₀ : Around)
    (base h₀ : Heap) (L : Addr) (m : Str → Option Value) (s : Shared) (Q E : Value → Shared → Prop),
    Below A₀ base [] h₀ → Fr h₀ L s.heap m → (hd.heap_39 w.params).In h₀ → News h₀ L s.heap news → Top p loose mean mg mb h₀ → (hd.heap_39 w.params).In base → Top p loose mean mg mb base → cs.kind = .function →
    dp + k < recursionLimit → un + 8 * k < cLine →
    (∀ r tl h' tk', Fr h₀ L h' m → News h₀ L h' (tl ++ news) → R r tl → Q r { s with heap := h', toks := tk' }) →
    wpAny (model PG w) (ktrTop dp un gd cn cs L a ccd [] []) (call (.ref f) vs) Q E s

theorem inst_told {g h : Heap} {L e dx : Addr} {oe : Obj} {vs : Array Value} {tkk tb : Tok} {news : Led} {w : World} (N : News g L h ((e, oe) :: (dx, toldD w tkk tb) :: news)) (P : PsO dx oe) (D : oe.data = .fields vs) : InstAt h e oe 45 (some (toldD w tkk tb)) := by
  refine ⟨(N _ (.head _)).1, P.1, ?_, ?_⟩
  · unfold notCls; rw [D]
  · rw [P.2]; exact (N _ (.tail _ (.head _))).1
theorem News.two {g h : Heap} {L : Addr} {p q : Addr × Obj} {news : Led} (N : PyProof.Rows.News g L h (p :: q :: news)) : PyProof.Rows.News g L h news :=
  fun r hr => N r (.tail _ (.tail _ hr))
theorem look_told (w : World) (tkk tb : Tok) : lookIn "told" (toldD w tkk tb) = some (some (.bytes limB tb)) := by
  rw [lookIn_dict]; rfl

theorem c_told (w : World) (b : Array UInt8) (ks : List Int) (hb : bInts b = ks) (hlen : ks.length ≤ 99) (t : Tok) (news : Led) : CtL w 217 11 [.bytes b t] news (fun r tl => ToldIs r tl (numV ks)) := by
  unfold CtL
  intro p loose mean mg mb dp un gd cn cs a ccd A₀ bas h₀ L m s Q E B F X N T XB TB hk hdp hun hret
  refine wpAny_call ?_
  k_dflt (refine' code_defS0 ?k1 ?k2 ?k3 ?k4 ?k5 ?kA ?k6 ?k7 ?k8 ?k9 ?kB ?_ ?cK ?c2 ?c3 ?c4 ?c5)
  case kA => exact rfl
  case k2 => k_asm
  case k1 => k_asm
  case k3 => k_asm
  case k4 => k_asm
  case k5 => k_asm
  case k6 => k_is
  case k7 => k_is
  case k8 => ktr_room
  case k9 => first | exact BindsTo.of_eq rfl | exact binds_K (by k_in) rfl (by k_is) rfl rfl rfl
  case kB => exact locs rfl
  case cK => exact hk
  case c2 => exact rfl
  case c3 => exact rfl
  case c4 => exact rfl
  case c5 => decide
  k_whole
  intro g' L' h' FG' F' N' B' X' T' D'
  dsimp only
  k_lift B'
  k_fold
  k_steps
  rotate_left 0
  all_goals (try (
    rename numV ks = _ => hx
    simp only [hx] at hret
    first
    | exact hret _ [] _ _ (by k_asm) (by k_asm) ⟨rfl, rfl⟩
    | exact hret _ [_] _ _ (by k_asm) (by k_asm) ⟨_, _, _, rfl, rfl⟩))
  (refine' caught_D ?kR ?kF ?kK ?kS ?kX ?kT ?_ ?c1 ?c2 ?c3)
  (case kR => assumption)
  (case kF => assumption)
  (case kK => assumption)
  (case kS => assumption)
  (case kX => assumption)
  (case kT => assumption)
  (case c1 => exact rfl)
  (case c2 => exact rfl)
  (case c3 => exact rfl)
  intro h₂ g₂ oe vs tk₂ T₂ F₂ N₂ P₂ D₂ K₂ X₂ TT₂
  k_fold
  k_steps
  k_dflt (refine ps_get (by k_in) (inst_told (by k_asm) P₂ D₂) (look_told _ _ _) rfl fun tk₃ => ?_)
  k_whole
  k_fold
  k_steps
  rename numV ks = _ => hx
  simp only [hx] at hret
  exact hret _ [] _ _ (by k_asm) (News.two (by assumption)) ⟨rfl, _, rfl⟩
end Mine
namespace Mine
open PySem PySem.W PyProof.Rows PySem.Calls
open KBw (bInts)

/-- cut at every x -/
noncomputable def splitAll (x : Int) : List Int → List (List Int)
  | [] => [[]]
  | o :: r => if o = x then [] :: splitAll x r else match splitAll x r with
    | l :: ls => (o :: l) :: ls
    | [] => [[o]]
noncomputable def posOf (x : Int) : List Int → Nat → List Nat
  | [], _ => []
  | o :: r, k => if o = x then k :: posOf x r (k + 1) else posOf x r (k + 1)
noncomputable def betw (ks : List Int) : Nat → List Nat → List (List Int)
  | last, [] => [ks.drop last]
  | last, p :: ps => (ks.take p).drop last :: betw ks (p + 1) ps
def glue (c : List Int) : List (List Int) → List (List Int)
  | [] => [c]
  | l :: ls => (c ++ l) :: ls
theorem splitAll_ne (x : Int) : ∀ l, splitAll x l ≠ []
  | [], h => by cases h
  | o :: r, h => by
    unfold splitAll at h
    split at h
    · cases h
    · split at h <;> cases h
theorem splitAll_cons {x o : Int} {r : List Int} (h : o ≠ x) : splitAll x (o :: r) = glue [o] (splitAll x r) := by
  show (if o = x then _ else _) = _
  rw [if_neg h]
  cases splitAll x r <;> rfl
theorem betw_posOf (x : Int) : ∀ (l pre : List Int) (last : Nat), last ≤ pre.length →
    betw (pre ++ l) last (posOf x l pre.length) = glue (pre.drop last) (splitAll x l)
  | [], pre, last, h => by simp [posOf, betw, splitAll, glue]
  | o :: r, pre, last, h => by
    have e : pre ++ o :: r = (pre ++ [o]) ++ r := by simp
    unfold posOf
    by_cases ho : o = x
    · rw [if_pos ho]
      have ih := betw_posOf x r (pre ++ [o]) (pre.length + 1) (by simp)
      rw [← e, List.length_append, List.length_singleton] at ih
      show ((pre ++ o :: r).take pre.length).drop last :: betw (pre ++ o :: r) (pre.length + 1) (posOf x r (pre.length + 1)) = _
      rw [ih]
      show _ = glue (pre.drop last) (if o = x then [] :: splitAll x r else _)
      rw [if_pos ho]
      have e1 : (pre ++ o :: r).take pre.length = pre := by simp
      have e2 : (pre ++ [o]).drop (pre.length + 1) = [] := by simp
      rw [e1, e2]
      show _ = (pre.drop last ++ []) :: splitAll x r
      rw [List.append_nil]
      congr 1
      cases h9 : splitAll x r with
      | nil => exact absurd h9 (splitAll_ne x r)
      | cons a b => rfl
    · rw [if_neg ho]
      have ih := betw_posOf x r (pre ++ [o]) last (by simp; omega)
      rw [← e, List.length_append, List.length_singleton] at ih
      rw [ih, splitAll_cons ho]
      have e2 : (pre ++ [o]).drop last = pre.drop last ++ [o] := by rw [List.drop_append_of_le_length h]
      rw [e2]
      cases h9 : splitAll x r with
      | nil => exact absurd h9 (splitAll_ne x r)
      | cons a b => simp [glue]
theorem betw_all (x : Int) (ks : List Int) : betw ks 0 (posOf x ks 0) = splitAll x ks := by
  have := betw_posOf x ks [] 0 (Nat.le_refl _)
  simp only [List.nil_append, List.length_nil, List.drop_nil] at this
  rw [this]
  cases h : splitAll x ks with
  | nil => exact absurd h (splitAll_ne x ks)
  | cons a b => rfl

theorem ints_extract (b : Array UInt8) (i j : Nat) : bInts (b.extract i j) = ((bInts b).take j).drop i := by
  simp [bInts, List.map_drop, List.map_take, Array.toList_extract, List.extract_eq_drop_take, List.drop_take]
def betwStep (b : Array UInt8) (x : Array (Array UInt8) × Nat) (p : Nat) : Array (Array UInt8) × Nat := (x.1.push (b.extract x.2 p), p + 1)
theorem between_ints (b : Array UInt8) (places : List Nat) : (Builtin.Bytes.between b 1 places).map bInts = betw (bInts b) 0 places := by
  have key : ∀ (ps : List Nat) (x : Array (Array UInt8) × Nat),
      (((ps.foldl (betwStep b) x).1.push (b.extract (ps.foldl (betwStep b) x).2 b.size)).toList).map bInts = x.1.toList.map bInts ++ betw (bInts b) x.2 ps := by
    intro ps
    induction ps with
    | nil =>
      intro x
      have e : (bInts b).take b.size = bInts b := by rw [← KBw.ints_length b, List.take_length]
      simp [betw, ints_extract, e]
    | cons p r ih =>
      intro x
      rw [List.foldl_cons, ih (betwStep b x p)]
      simp [betw, ints_extract, betwStep]
  have e : Builtin.Bytes.between b 1 places = ((places.foldl (betwStep b) (#[], 0)).1.push (b.extract (places.foldl (betwStep b) (#[], 0)).2 b.size)).toList := rfl
  rw [e, key places (#[], 0)]
  rfl

theorem occ_range (b : Array UInt8) (x : UInt8) : ∀ n, n ≤ b.size →
    ∃ last, ((List.range n).map (· + 0)).foldl (fun (acc : List Nat × Nat) (i : Nat) => if i ≥ acc.2 && b.extract i (i + 1) == #[x] then (i :: acc.1, i + 1) else acc) ([], 0) = ((posOf x.toNat ((bInts b).take n) 0).reverse, last) ∧ last ≤ n
  | 0, _ => ⟨0, by simp [posOf], Nat.le_refl _⟩
  | n + 1, h => by
    obtain ⟨last, e, hl⟩ := occ_range b x n (Nat.le_of_succ_le h)
    have hn : n < b.size := h
    have hget : (bInts b)[n]? = some (b[n].toNat : Int) := KBw.ints_get (by simp [hn])
    have htake : (bInts b).take (n + 1) = (bInts b).take n ++ [(b[n].toNat : Int)] := by simp [List.take_add_one, hget]
    have hlen : ((bInts b).take n).length = n := by rw [List.length_take, KBw.ints_length]; omega
    have papp : ∀ (l l' : List Int) (k : Nat), posOf x.toNat (l ++ l') k = posOf x.toNat l k ++ posOf x.toNat l' (k + l.length) := by
      intro l
      induction l with
      | nil => intro l' k; simp [posOf]
      | cons a r ih =>
        intro l' k
        simp only [List.cons_append, posOf, ih, List.length_cons]
        have : k + 1 + r.length = k + (r.length + 1) := by omega
        split <;> simp [this]
    have ex : b.extract n (n + 1) = #[b[n]] := by
      apply Array.ext
      · simp; omega
      · intro k h1 h2
        have : k = 0 := by simp at h2; omega
        subst this; simp
    rw [List.range_succ, List.map_append, List.foldl_append, e, htake, papp, hlen, Nat.zero_add]
    simp only [List.map_cons, List.map_nil, List.foldl_cons, List.foldl_nil, Nat.add_zero, ex]
    by_cases hx : b[n] = x
    · have : ((n ≥ last) && (#[b[n]] == #[x])) = true := by simp [hx, hl]
      simp only [this, if_true]
      exact ⟨n + 1, by simp [posOf, hx], Nat.le_refl _⟩
    · have hx' : (b[n].toNat : Int) ≠ (x.toNat : Int) := fun q => hx (UInt8.toNat_inj.mp (by omega))
      have : ((n ≥ last) && (#[b[n]] == #[x])) = false := by simp [hx]
      simp only [this]
      exact ⟨last, by simp [posOf, hx'], by omega⟩
theorem occ_one (b : Array UInt8) (x : UInt8) : Builtin.Bytes.occurrences b #[x] 0 b.size = posOf x.toNat (bInts b) 0 := by
  obtain ⟨last, e, _⟩ := occ_range b x b.size (Nat.le_refl _)
  have e2 : (bInts b).take b.size = bInts b := by rw [← KBw.ints_length b, List.take_length]
  rw [e2] at e
  unfold Builtin.Bytes.occurrences
  show (((List.range (b.size + 1 - (0 + 1))).map (· + 0)).foldl (fun (acc : List Nat × Nat) (i : Nat) => if i ≥ acc.2 && b.extract i (i + 1) == #[x] then (i :: acc.1, i + 1) else acc) ([], 0)).1.reverse = _
  rw [show b.size + 1 - (0 + 1) = b.size from by omega, e, List.reverse_reverse]
theorem joined_ints (sep : Array UInt8) : ∀ (parts : List (Array UInt8)), bInts (Builtin.Bytes.joined sep parts) = List.flatten ((parts.map bInts).intersperse (bInts sep)) := by
  intro parts
  have key : ∀ (ps : List (Array UInt8)) (k : Nat) (out : Array UInt8), bInts ((ps.zipIdx (k + 1)).foldl (fun out (p, i) => (if i > 0 then out ++ sep else out) ++ p) out) = bInts out ++ (ps.map fun p => bInts sep ++ bInts p).flatten := by
    intro ps
    induction ps with
    | nil => intro k out; simp
    | cons p r ih =>
      intro k out
      rw [List.zipIdx_cons, List.foldl_cons]
      simp only [Nat.succ_pos, gt_iff_lt, if_true]
      rw [ih (k + 1), KBw.ints_app (KBw.ints_app rfl rfl) rfl]
      simp
  unfold Builtin.Bytes.joined
  cases parts with
  | nil => rfl
  | cons p r =>
    rw [List.zipIdx_cons, List.foldl_cons]
    simp only [gt_iff_lt, Nat.lt_irrefl, if_false]
    rw [key r 0, KBw.ints_app rfl rfl]
    have inter : ∀ (l : List (Array UInt8)) (a : List Int), (List.intersperse (bInts sep) (a :: l.map bInts)).flatten = a ++ (l.map fun p => bInts sep ++ bInts p).flatten := by
      intro l
      induction l with
      | nil => intro a; simp
      | cons q qs ih => intro a; rw [List.map_cons, List.intersperse_cons₂]; simp [ih]
    rw [List.map_cons, inter]
    simp [bInts]
end Mine
namespace Mine
open PySem PySem.W PyProof.Rows PySem.Calls
open KBw (bInts)

theorem slot_bsplit : Slot "bytes" "split" "bytes.split" :=
  .of (owner := "bytes") (n := "split") (by rw [typeLookup_type, builtinLookup_eq_fast]; kernel_rfl) (by decide +kernel) (by decide +kernel) (by decide +kernel)
    (by first | exact .inl (by decide +kernel) | exact .inr (by decide +kernel)) (by rw [isSubtype_type]; kernel_rfl)
theorem type_bsplit : typeOf (.builtin "bytes.split") = pure (.type "method_descriptor") := by show builtinType _ = _; rw [builtinType_eq_fast]; kernel_rfl
theorem entry_bsplit : entryFor table "bytes.split" = some Builtin.«bytes.split» := entryFor_of_tree (by kernel_rfl)
theorem args_bsplit_2 (a b : Value) : argsOk "bytes.split" ⟨[a, b], []⟩ := by unfold argsOk; kernel_rfl
theorem args_bsplit_3 (a b c : Value) : argsOk "bytes.split" ⟨[a, b, c], []⟩ := by unfold argsOk; kernel_rfl
theorem slot_brep : Slot "bytes" "replace" "bytes.replace" :=
  .of (owner := "bytes") (n := "replace") (by rw [typeLookup_type, builtinLookup_eq_fast]; kernel_rfl) (by decide +kernel) (by decide +kernel) (by decide +kernel)
    (by first | exact .inl (by decide +kernel) | exact .inr (by decide +kernel)) (by rw [isSubtype_type]; kernel_rfl)
theorem type_brep : typeOf (.builtin "bytes.replace") = pure (.type "method_descriptor") := by show builtinType _ = _; rw [builtinType_eq_fast]; kernel_rfl
theorem entry_brep : entryFor table "bytes.replace" = some Builtin.«bytes.replace» := entryFor_of_tree (by kernel_rfl)
theorem args_brep_3 (a b c : Value) : argsOk "bytes.replace" ⟨[a, b, c], []⟩ := by unfold argsOk; kernel_rfl
theorem slot_bjoin : Slot "bytes" "join" "bytes.join" :=
  .of (owner := "bytes") (n := "join") (by rw [typeLookup_type, builtinLookup_eq_fast]; kernel_rfl) (by decide +kernel) (by decide +kernel) (by decide +kernel)
    (by first | exact .inl (by decide +kernel) | exact .inr (by decide +kernel)) (by rw [isSubtype_type]; kernel_rfl)
theorem type_bjoin : typeOf (.builtin "bytes.join") = pure (.type "method_descriptor") := by show builtinType _ = _; rw [builtinType_eq_fast]; kernel_rfl
theorem entry_bjoin : entryFor table "bytes.join" = some Builtin.«bytes.join» := entryFor_of_tree (by kernel_rfl)
theorem args_bjoin_2 (a b : Value) : argsOk "bytes.join" ⟨[a, b], []⟩ := by unfold argsOk; kernel_rfl

theorem rep_self (b : Array UInt8) (t : Tok) : Builtin.Bytes.Kind.same .bytes (.bytes b t) = pure (.bytes b t) := by kernel_rfl
theorem bind_split2 (c : Value) : Builtin.Bytes.bindOptional "bytes.split" "split" ["sep", "maxsplit"] [c] [] = pure [some c, none] := by kernel_rfl
theorem bind_split3 (c d : Value) : Builtin.Bytes.bindOptional "bytes.split" "split" ["sep", "maxsplit"] [c, d] [] = pure [some c, some d] := by kernel_rfl

theorem posOf_len (x : Int) : ∀ (l : List Int) (k : Nat), (posOf x l k).length ≤ l.length
  | [], _ => Nat.le_refl _
  | o :: r, k => by
    have := posOf_len x r (k + 1)
    unfold posOf; split <;> simp <;> omega
theorem posOf_nil {x : Int} : ∀ {l : List Int} {k : Nat}, posOf x l k = [] → x ∉ l
  | [], _, _, h => nomatch h
  | o :: r, k, h, hm => by
    unfold posOf at h
    split at h
    · cases h
    · rename_i ho
      rcases List.mem_cons.mp hm with e | e
      · exact ho e.symm
      · exact posOf_nil h e
def repV (x y : Int) (l : List Int) : List Int := l.map fun v => if v = x then y else v
theorem rep_flat (x y : Int) : ∀ l : List Int, ((splitAll x l).intersperse [y]).flatten = repV x y l
  | [] => rfl
  | o :: r => by
    have ih := rep_flat x y r
    by_cases h : o = x
    · show ((if o = x then [] :: splitAll x r else _).intersperse [y]).flatten = _
      rw [if_pos h]
      cases h9 : splitAll x r with
      | nil => exact absurd h9 (splitAll_ne x r)
      | cons a b =>
        rw [h9] at ih
        rw [List.intersperse_cons₂]
        simp only [List.flatten_cons, List.nil_append, ih]
        simp [repV, h]
    · rw [splitAll_cons h]
      cases h9 : splitAll x r with
      | nil => exact absurd h9 (splitAll_ne x r)
      | cons a b =>
        rw [h9] at ih
        have e : ∀ (c : List Int) (q : List (List Int)), (List.intersperse [y] ((c ++ a) :: q)).flatten = c ++ (List.intersperse [y] (a :: q)).flatten := by
          intro c q
          cases q with
          | nil => simp
          | cons u v => rw [List.intersperse_cons₂, List.intersperse_cons₂]; simp
        show (List.intersperse [y] (([o] ++ a) :: b)).flatten = _
        rw [e, ih]
        simp [repV, h]
theorem rep_id {x y : Int} {l : List Int} (h : x ∉ l) : repV x y l = l := by
  unfold repV
  have : ∀ v ∈ l, (if v = x then y else v) = v := fun v hv => if_neg fun (q : v = x) => h (by rw [← q]; exact hv)
  exact (List.map_congr_left this).trans (List.map_id _)

theorem tooLong_no {n : Nat} (h : n ≤ 100000) : Builtin.Bytes.tooLong n = false := KBy.tooLong_not (Nat.le_trans h (by decide))
theorem new_bytes {M : Model} {A : Around} {E : Value → Shared → Prop} {s : Shared} {c : Array UInt8} {Q : Value → Shared → Prop} (hz : c.size ≤ 100000) (h : Q (.bytes c s.toks) { s with toks := s.toks + 1 }) : wpAny M A (Builtin.Bytes.Kind.new .bytes c) Q E s := by
  show wpAny M A (mkBytes c) Q E s
  unfold mkBytes
  rw [if_neg (Nat.not_lt.mpr (by rw [sizeLine_eq]; omega))]
  exact wpAny_bind (wpAny_fresh (wpAny_pure h))
theorem repV_len (x y : Int) (l : List Int) : (repV x y l).length = l.length := by simp [repV]

theorem meets_rep (b : Array UInt8) (t u v : Tok) (x y : UInt8) (hz : b.size ≤ 1000) :
    Meets (Builtin.«bytes.replace» ⟨[.bytes b t, .bytes #[x] u, .bytes #[y] v], []⟩) (fun _ R s => ∀ c t' k, bInts c = repV x.toNat y.toNat (bInts b) → R (.ok (.ret (.bytes c t'))) { s with toks := k }) := by
  refine .of_wp fun prog w A R s h => ?_
  show wpAny _ _ (Builtin.Bytes.bytesLike "bytes.replace" (.bytes #[x] u) >>= fun r => _) _ _ s
  refine wpAny_bind (wpAny_of_eq KBd.like_eq ?_)
  refine wpAny_bind (wpAny_of_eq KBd.like_eq ?_)
  refine wpAny_bind (wpAny_pure ?_)
  refine wpAny_bind (wpAny_of_eq KBd.like_eq ?_)
  refine wpAny_bind (wpAny_of_eq KBd.like_eq ?_)
  refine wpAny_bind (wpAny_pure ?_)
  dsimp only
  rw [occ_one]
  generalize hp : posOf (x.toNat : Int) (bInts b) 0 = ps
  have hm1 : ((-1 : Int) < 0) = True := eq_true (by decide)
  have hx1 : (#[x] : Array UInt8).isEmpty = false := rfl
  simp only [hm1, hx1, if_true, Bool.false_and, Bool.or_false, Bool.false_eq_true, if_false]
  have hl := posOf_len (x.toNat : Int) (bInts b) 0
  rw [hp, KBw.ints_length] at hl
  cases ps with
  | nil =>
    rw [if_pos (show ([] : List Nat).isEmpty = true from rfl)]
    refine wpAny_bind (wpAny_rule (wpAny_bind (wpAny_of_eq (rep_self b t) ?_)))
    exact wpAny_pure ⟨_, rfl, h b t s.toks (rep_id (posOf_nil hp)).symm⟩
  | cons p r =>
    rw [if_neg (by simp), tooLong_no (by show b.size + (p :: r).length * 1 ≤ _; omega)]
    have hj : bInts (Builtin.Bytes.joined #[y] (Builtin.Bytes.between b 1 (p :: r))) = repV x.toNat y.toNat (bInts b) := by
      rw [joined_ints, between_ints, ← hp, betw_all]; exact rep_flat _ _ _
    simp only [Bool.false_eq_true, if_false]
    refine wpAny_bind (new_bytes ?_ (wpAny_pure ⟨_, rfl, h _ _ _ hj⟩))
    show (Builtin.Bytes.joined #[y] (Builtin.Bytes.between b 1 (p :: r))).size ≤ _
    rw [← KBw.ints_length, hj, repV_len, KBw.ints_length]; omega

inductive BytesAre : List Value → List (List Int) → Prop
  | nil : BytesAre [] []
  | cons {y : Array UInt8} {t : Tok} {p : List Int} {vs : List Value} {ps : List (List Int)} : bInts y = p → BytesAre vs ps → BytesAre (.bytes y t :: vs) (p :: ps)
theorem BytesAre.length : ∀ {vs : List Value} {ps : List (List Int)}, BytesAre vs ps → vs.length = ps.length
  | _, _, .nil => rfl
  | _, _, .cons _ h => by rw [List.length_cons, List.length_cons, h.length]

theorem new_all {M : Model} {A : Around} {E : Value → Shared → Prop} {Q : List Value → Shared → Prop} : ∀ {l : List (Array UInt8)} {s : Shared}, (∀ c ∈ l, c.size ≤ 100000) → (∀ vs k, BytesAre vs (l.map bInts) → Q vs { s with toks := k }) → wpAny M A (l.mapM (Builtin.Bytes.Kind.new .bytes)) Q E s
  | [], s, _, h => wpAny_pure (h [] s.toks .nil)
  | c :: r, s, hz, h => by
    rw [List.mapM_cons]
    refine wpAny_bind (new_bytes (hz c (.head _)) (wpAny_bind (new_all (fun d hd => hz d (.tail _ hd)) fun vs k hv => wpAny_pure (h (.bytes c s.toks :: vs) k (.cons rfl hv)))))

theorem piece_len (b : Array UInt8) (ps : List Nat) : ∀ c ∈ Builtin.Bytes.between b 1 ps, c.size ≤ b.size := by
  intro c hc
  have h1 : bInts c ∈ (Builtin.Bytes.between b 1 ps).map bInts := List.mem_map_of_mem hc
  rw [between_ints] at h1
  have key : ∀ (ps : List Nat) (last : Nat) (q : List Int), q ∈ betw (bInts b) last ps → q.length ≤ b.size := by
    intro ps
    induction ps with
    | nil => intro last q hq; rw [List.mem_singleton.mp hq, List.length_drop, KBw.ints_length]; omega
    | cons p r ih =>
      intro last q hq
      rcases List.mem_cons.mp hq with rfl | hq
      · rw [List.length_drop, List.length_take, KBw.ints_length]; omega
      · exact ih _ q hq
  have := key ps 0 _ h1
  rw [KBw.ints_length] at this; exact this

theorem meets_split (b : Array UInt8) (t u : Tok) (x : UInt8) (hz : b.size ≤ 1000) :
    Meets (Builtin.«bytes.split» ⟨[.bytes b t, .bytes #[x] u], []⟩) (fun _ R s => ∀ vs k, BytesAre vs (splitAll x.toNat (bInts b)) → vs.length ≤ 2000 → R (.ok (.ret (.ref s.heap.objs.size))) { s with heap := s.heap.push { cls := .type "list", data := .seq vs.toArray }, toks := k }) := by
  refine .of_wp fun prog w A R s h => ?_
  show wpAny _ _ (Builtin.Bytes.bindOptional "bytes.split" "split" ["sep", "maxsplit"] [.bytes #[x] u] [] >>= fun r => _) _ _ s
  rw [bind_split2]
  refine wpAny_bind (wpAny_pure ?_)
  dsimp only
  refine wpAny_bind (wpAny_pure (wpAny_bind (wpAny_pure (wpAny_bind (wpAny_of_eq KBd.like_eq ?_)))))
  rw [occ_one]
  generalize hp : posOf (x.toNat : Int) (bInts b) 0 = ps
  have hm1 : ((-1 : Int) < 0) = True := eq_true (by decide)
  have hx1 : (#[x] : Array UInt8).isEmpty = false := rfl
  have hl := posOf_len (x.toNat : Int) (bInts b) 0
  rw [hp, KBw.ints_length] at hl
  have ht : List.take (b.size + 1) ps = ps := List.take_of_length_le (by omega)
  simp only [hm1, hx1, if_true, Bool.false_eq_true, if_false, ht]
  have hall : (Builtin.Bytes.between b 1 ps).map bInts = splitAll x.toNat (bInts b) := by rw [between_ints, ← hp, betw_all]
  cases ps with
  | nil =>
    rw [if_pos (show ([] : List Nat).isEmpty = true from rfl)]
    refine wpAny_bind (wpAny_rule (wpAny_bind (wpAny_of_eq (rep_self b t) (wpAny_bind (wpAny_newObj_type ?_ (by show (1 : Nat) ≤ sizeLine; rw [sizeLine_eq]; decide))))))
    refine wpAny_pure ⟨_, rfl, h [.bytes b t] s.toks ?_ (by simp)⟩
    rw [← hall]
    refine .cons ?_ .nil
    show bInts b = bInts (b.extract 0 b.size)
    rw [ints_extract, ← KBw.ints_length, List.take_length, List.drop_zero]
  | cons p r =>
    rw [if_neg (by simp)]
    refine wpAny_bind (new_all (fun c hc => Nat.le_trans (piece_len b _ c hc) (by omega)) fun vs k hv => ?_)
    have hlen : vs.length ≤ 2000 := by
      rw [hv.length, List.length_map]
      have e := congrArg List.length (between_ints b (p :: r))
      rw [List.length_map] at e
      have : ∀ (ps : List Nat) (l : List Int) (last : Nat), (betw l last ps).length = ps.length + 1 := by
        intro ps; induction ps with
        | nil => intro l last; rfl
        | cons a b ih => intro l last; show (betw l (a + 1) b).length + 1 = _; rw [ih]; rfl
      rw [this] at e
      show (Builtin.Bytes.between b 1 (p :: r)).length ≤ 2000
      omega
    refine wpAny_bind (wpAny_newObj_type ?_ (by show vs.toArray.size ≤ sizeLine; rw [List.size_toArray, sizeLine_eq]; omega))
    exact wpAny_pure ⟨_, rfl, h vs k (by rw [← hall]; exact hv) hlen⟩

theorem posOf_first {x : Int} : ∀ {l : List Int} {k : Nat}, x ∈ l → ∃ i r, posOf x l k = (k + i) :: r ∧ ∃ pre post, l = pre ++ x :: post ∧ pre.length = i ∧ x ∉ pre
  | o :: r, k, h => by
    unfold posOf
    by_cases ho : o = x
    · rw [if_pos ho]
      exact ⟨0, _, rfl, [], r, by rw [ho]; rfl, rfl, fun h => nomatch h⟩
    · rw [if_neg ho]
      obtain ⟨i, rr, e, pre, post, e2, e3, e4⟩ := posOf_first (k := k + 1) ((List.mem_cons.mp h).resolve_left fun q => ho q.symm)
      refine ⟨i + 1, rr, by rw [e]; congr 1; omega, o :: pre, post, by rw [e2]; rfl, by rw [List.length_cons, e3], fun hm => ?_⟩
      rcases List.mem_cons.mp hm with q | q
      · exact ho q.symm
      · exact e4 q

theorem meets_split1 (b : Array UInt8) (t u v : Tok) (x : UInt8) (hz : b.size ≤ 1000) (hm : (x.toNat : Int) ∈ bInts b) :
    Meets (Builtin.«bytes.split» ⟨[.bytes b t, .bytes #[x] u, .int 1 v], []⟩) (fun _ R s => ∀ y z ty tz k pre post, bInts b = pre ++ (x.toNat : Int) :: post → (x.toNat : Int) ∉ pre → bInts y = pre → bInts z = post → R (.ok (.ret (.ref s.heap.objs.size))) { s with heap := s.heap.push { cls := .type "list", data := .seq #[.bytes y ty, .bytes z tz] }, toks := k }) := by
  refine .of_wp fun prog w A R s h => ?_
  show wpAny _ _ (Builtin.Bytes.bindOptional "bytes.split" "split" ["sep", "maxsplit"] [.bytes #[x] u, .int 1 v] [] >>= fun r => _) _ _ s
  rw [bind_split3]
  refine wpAny_bind (wpAny_pure ?_)
  dsimp only
  have hcount : Builtin.Bytes.countArg "bytes.split" (.int 1 v) = pure 1 := by kernel_rfl
  refine wpAny_bind (wpAny_of_eq hcount (wpAny_bind (wpAny_pure (wpAny_bind (wpAny_of_eq KBd.like_eq ?_)))))
  rw [occ_one]
  obtain ⟨i, r, e, pre, post, e2, e3, e4⟩ := posOf_first (k := 0) hm
  rw [e]
  have hm1 : ((1 : Int) < 0) = False := eq_false (by decide)
  have hx1 : (#[x] : Array UInt8).isEmpty = false := rfl
  have ht : List.take (Int.toNat 1) ((0 + i) :: r) = [i] := by rw [Nat.zero_add]; rfl
  simp only [hm1, hx1, Bool.false_eq_true, if_false, ht]
  rw [if_neg (by simp)]
  refine wpAny_bind (new_all (fun c hc => Nat.le_trans (piece_len b _ c hc) (by omega)) fun vs k hv => ?_)
  have hv' : BytesAre vs [pre, post] := by
    have e5 : (Builtin.Bytes.between b 1 [i]).map bInts = [pre, post] := by
      rw [between_ints]
      show [((bInts b).take i).drop 0, (bInts b).drop (i + 1)] = _
      rw [e2, ← e3]; simp
    rw [← e5]; exact hv
  cases hv' with
  | cons h1 h2 => cases h2 with
    | cons h3 h4 => cases h4 with
      | nil =>
        refine wpAny_bind (wpAny_newObj_type ?_ (by show (2 : Nat) ≤ sizeLine; rw [sizeLine_eq]; decide))
        exact wpAny_pure ⟨_, rfl, h _ _ _ _ k pre post e2 e4 h1 h3⟩
end Mine
namespace Mine
open PySem PySem.W PyProof.Rows PySem.Calls
open KBw (bInts)

theorem take_buf (b : Array UInt8) (t : Tok) (id : String) : Builtin.Bytes.takeBufferQuiet? id (.bytes b t) 0 = pure (some (b, none)) := by
  unfold Builtin.Bytes.takeBufferQuiet? Builtin.Bytes.takeBuffer?
  kernel_rfl
theorem bytes_are_at : ∀ {vs : List Value} {ps : List (List Int)}, BytesAre vs ps → ∀ i, i < vs.length → ∃ y t, vs[i]? = some (.bytes y t) ∧ ps[i]? = some (bInts y)
  | _, _, .cons (y := y) (t := t) e h, 0, _ => ⟨y, t, rfl, by rw [← e]; rfl⟩
  | _, _, .cons e h, i + 1, hi => bytes_are_at h i (by simpa using hi)

theorem flat_inter : ∀ (l : List (List Int)), (l.intersperse []).flatten = l.flatten
  | [] => rfl
  | [a] => rfl
  | a :: b :: r => by rw [List.intersperse_cons_cons, List.flatten_cons, List.flatten_cons, flat_inter (b :: r)]; rfl
theorem fold_len : ∀ (l : List (Array UInt8)) (k : Nat), List.foldl (fun x1 x2 => x1 + Array.size x2) k l = k + ((l.map bInts).flatten).length
  | [], k => by simp
  | a :: r, k => by rw [List.foldl_cons, fold_len r, ← KBw.ints_length a]; simp; omega
theorem let_all {M : Model} {A : Around} {E : Value → Shared → Prop} {s : Shared} {Q : Unit → Shared → Prop} (keep : List Value) : ∀ (l : List (Value × Option Value)), (∀ p ∈ l, p.2 = none ∧ ∃ y ty, p.1 = Value.bytes y ty) → Q () s → wpAny M A (Builtin.Bytes.joinLetGo l keep) Q E s
  | [], _, h => wpAny_pure h
  | (x, w) :: r, ht, h => by
    obtain ⟨e, _⟩ := ht _ (.head _)
    dsimp only at e
    subst e
    unfold Builtin.Bytes.joinLetGo
    refine wpAny_bind ?_
    show wpAny _ _ (letGo [x] _) _ _ _
    refine wpAny_bind (wpAny_holding (wpAny_point (wpAny_pure ?_)))
    exact let_all keep r (fun p hp => ht p (.tail _ hp)) h

theorem meets_join (t : Tok) (a : Addr) (o : Obj) (vs : List Value) (parts : List (List Int)) (hv : BytesAre vs parts) (n : Nat) (ho : o.cls = .type "list") (hd : o.data = .seq vs.toArray n) (hn : parts ≠ []) (hz : parts.flatten.length ≤ 1000) :
    Meets (Builtin.«bytes.join» ⟨[.bytes #[] t, .ref a], []⟩) (fun _ R s => s.heap.get? a = some o ∧ ∀ c t' k, bInts c = parts.flatten → R (.ok (.ret (.bytes c t'))) { s with toks := k }) := by
  refine .of_wp fun prog w A R s hS => ?_
  obtain ⟨hg, h⟩ := hS
  unfold Builtin.«bytes.join» Builtin.Bytes.joinM
  refine wpAny_bind (wpAny_pure ?_)
  dsimp only
  refine wpAny_bind ?_
  show wpAny _ _ (Builtin.Bytes.joinItems (.ref a)) _ _ _
  unfold Builtin.Bytes.joinItems
  refine wpAny_bind (wpAny_typeOf ⟨_, hg, ho⟩ ?_)
  refine wpAny_pure ?_
  refine wpAny_bind (wpAny_seqItems hg hd ?_)
  dsimp only
  rw [if_pos (show (Builtin.Bytes.Kind.bytes == Builtin.Bytes.Kind.bytes) = true from rfl)]
  by_cases h1 : ∃ x, vs = [x]
  · obtain ⟨x, rfl⟩ := h1
    cases hv with
    | cons e1 e2 => cases e2 with
      | nil =>
        refine wpAny_bind (wpAny_typeOf (T := "bytes") (typeIs_bytes _ _ _) ?_)
        rw [if_pos (show (Value.type "bytes" == Value.type "bytes") = true by decide)]
        refine wpAny_bind (wpAny_rule ?_)
        exact wpAny_pure ⟨_, rfl, h _ _ s.toks (by rw [e1]; simp)⟩
  · obtain ⟨x, y, r, hvs⟩ : ∃ x y r, vs = x :: y :: r := by
      cases hv with
      | nil => exact absurd rfl hn
      | cons e1 e2 => cases e2 with
        | nil => exact absurd ⟨_, rfl⟩ h1
        | cons e3 e4 => exact ⟨_, _, _, rfl⟩
    subst hvs
    refine wpAny_bind ?_
    generalize hvs : x :: y :: r = vs at *
    obtain ⟨items, hI, hsz⟩ : ∃ items, vs.toArray = items ∧ items.size = vs.length := ⟨_, rfl, by simp⟩
    rw [hI] at hd
    rw [hI]
    rw [Std.Legacy.Range.forIn_eq_forIn_range']
    refine wpAny_forIn_list _ (fun rest st s' => ∃ k, rest = List.range' k (vs.length - k) ∧ k ≤ vs.length ∧ s' = s ∧ st.1.toList.map bInts = parts.take k ∧ ∀ p ∈ st.2, p.2 = none ∧ ∃ y ty, p.1 = Value.bytes y ty) _ ?_ ?_ _ _ ?_
    · rintro i rest ⟨acc, taken⟩ s' ⟨k, hr, hk, rfl, ha, ht⟩
      have hlt : k < vs.length := by
        rcases Nat.lt_or_ge k vs.length with g | g
        · exact g
        · rw [Nat.sub_eq_zero_of_le g] at hr; cases hr
      obtain ⟨y, ty, hy, hp⟩ := bytes_are_at hv k hlt
      have hr2 : List.range' k (vs.length - k) = k :: List.range' (k + 1) (vs.length - (k + 1)) := by
        rw [show vs.length - k = (vs.length - (k + 1)) + 1 by omega, List.range'_succ]
      rw [hr2] at hr
      injection hr with e1 e2
      subst e1 e2
      dsimp only at ha ht ⊢
      refine wpAny_bind (wpAny_seqItems hg hd ?_)
      dsimp only
      have hany : (taken.any fun x => x.1.onHeap) = false := by
        rw [List.any_eq_false]
        intro p hp2
        obtain ⟨_, y2, ty2, e⟩ := ht p hp2
        rw [e]; simp [Value.onHeap]
      have hkb : (Builtin.Bytes.Kind.bytes == Builtin.Bytes.Kind.bytearray) = false := rfl
      have hget : items.getD i Value.none = .bytes y ty := by subst hI; simp [Array.getD, hlt]; simpa [List.getElem?_eq_getElem hlt] using hy
      simp only [hany, hkb, Bool.or_false, Bool.false_eq_true, if_false, hget]
      refine wpAny_bind (wpAny_holding (wpAny_of_eq (take_buf _ _ _) ?_))
      dsimp only
      refine wpAny_bind (wpAny_seqItems hg hd ?_)
      dsimp only
      rw [if_neg (by simp)]
      refine wpAny_pure ?_
      dsimp only
      refine ⟨i + 1, rfl, hlt, rfl, ?_, ?_⟩
      · rw [Array.toList_push, List.map_append, ha, List.take_add_one, hp]; rfl
      · intro p hp2
        rcases List.mem_append.mp hp2 with g | g
        · exact ht p g
        · rw [List.mem_singleton.mp g]; exact ⟨rfl, y, ty, rfl⟩
    · rintro ⟨acc, taken⟩ s' ⟨k, hr, hk, rfl, ha, ht⟩
      have hk2 : k = vs.length := by
        rcases Nat.lt_or_ge k vs.length with g | g
        · rw [show vs.length - k = (vs.length - (k + 1)) + 1 by omega, List.range'_succ] at hr; cases hr
        · exact Nat.le_antisymm hk g
      rw [hk2, hv.length, List.take_length] at ha
      dsimp only at ha ht ⊢
      refine wpAny_bind (wpAny_pure ?_)
      have hfl : bInts (Builtin.Bytes.joined #[] acc.toList) = parts.flatten := by
        rw [joined_ints, ha]
        show ((parts.intersperse []).flatten) = _
        exact flat_inter parts
      have hsum : Array.foldl (fun x1 x2 => x1 + x2.size) ((#[] : Array UInt8).size * (acc.size - 1)) acc = parts.flatten.length := by
        rw [← ha, ← Array.foldl_toList]
        show List.foldl _ (0 * (acc.size - 1)) acc.toList = _
        rw [Nat.zero_mul, fold_len]; simp
      rw [hsum, tooLong_no (by omega)]
      simp only [Bool.false_eq_true, if_false]
      refine wpAny_bind (new_bytes (by rw [← KBw.ints_length, hfl]; omega) ?_)
      refine wpAny_bind (wpAny_holding (wpAny_point ?_))
      refine wpAny_bind (let_all _ _ ht ?_)
      exact wpAny_pure ⟨_, rfl, h _ _ _ hfl⟩
    · refine ⟨0, ?_, Nat.zero_le _, rfl, rfl, fun p hp => nomatch hp⟩
      simp [Std.Legacy.Range.size, hsz]
end Mine
namespace Mine
open PySem PySem.W PyProof.Rows PySem.Calls
open KBw (bInts)

theorem splitAll_bound (x : Int) : ∀ l : List Int, (splitAll x l).flatten.length + (splitAll x l).length = l.length + 1
  | [] => rfl
  | o :: r => by
    have ih := splitAll_bound x r
    by_cases h : o = x
    · unfold splitAll; rw [if_pos h]; simp only [List.flatten_cons, List.length_append, List.length_nil, List.length_cons]; omega
    · rw [splitAll_cons h]
      cases hs : splitAll x r with
      | nil => exact absurd hs (splitAll_ne x r)
      | cons a b =>
        rw [hs] at ih
        simp only [glue, List.flatten_cons, List.length_append, List.length_nil, List.length_cons] at ih ⊢; omega

inductive SplitCase (vs : List Value) (ps : List (List Int)) (n : Nat) : Prop
  | one (y : Array UInt8) (t : Tok) (p : List Int) : vs = [.bytes y t] → bInts y = p → ps = [p] → p.length ≤ n → SplitCase vs ps n
  | two (y : Array UInt8) (t : Tok) (p : List Int) (z : Array UInt8) (u : Tok) (q : List Int) : vs = [.bytes y t, .bytes z u] → bInts y = p → bInts z = q → ps = [p, q] → p.length + q.length + 1 ≤ n → SplitCase vs ps n
  | more : BytesAre vs ps → vs.length = ps.length → 3 ≤ vs.length → 3 ≤ ps.length → vs.length ≤ 2000 → ps.flatten.length ≤ n → SplitCase vs ps n

theorem split_case {vs : List Value} {x : Int} {ks : List Int} (hv : BytesAre vs (splitAll x ks)) (hl : vs.length ≤ 2000) : SplitCase vs (splitAll x ks) ks.length := by
  have hb := splitAll_bound x ks
  generalize splitAll x ks = ps at *
  match vs, ps, hv with
  | _, _, .nil => simp at hb
  | _, _, .cons (y := y) (t := t) e .nil =>
    refine .one y t _ rfl e rfl ?_
    simp only [List.flatten_cons, List.flatten_nil, List.append_nil, List.length_cons, List.length_nil] at hb; omega
  | _, _, .cons (y := y) (t := t) e (.cons (y := z) (t := u) e2 .nil) =>
    refine .two y t _ z u _ rfl e e2 rfl ?_
    simp only [List.flatten_cons, List.flatten_nil, List.append_nil, List.length_cons, List.length_append, List.length_nil] at hb; omega
  | _, _, .cons e (.cons e2 (.cons e3 r)) =>
    have hr := r.length
    refine .more (.cons e (.cons e2 (.cons e3 r))) ?_ ?_ ?_ hl (by simp only [List.length_cons] at hb; omega)
    · simp only [List.length_cons]; omega
    · simp only [List.length_cons]; omega
    · simp only [List.length_cons]; omega

section
variable {prog : Program} {w : World} {A : Around} {E : Value → Shared → Prop} {s : Shared} {h₀ : Heap} {L : Addr} {m : PySem.Str → Option Value} {news : Led} {b : Array UInt8} {t u v : Tok} {ks : List Int}
theorem m_split {M : Model} {b : Array UInt8} {pl : Sem Bool} {Q : Value × List Value → Shared → Prop} (h : Q (.builtin "bytes.split", [.bytes b t]) s) : wpAny M A (getMethod (.bytes b t) "split" pl) Q E s := by
  with_reducible exact KBd.method_of (.bytes b t) (typeIs_bytes _ _ _) slot_bsplit type_bsplit KBd.noRef h
theorem m_rep {M : Model} {b : Array UInt8} {pl : Sem Bool} {Q : Value × List Value → Shared → Prop} (h : Q (.builtin "bytes.replace", [.bytes b t]) s) : wpAny M A (getMethod (.bytes b t) "replace" pl) Q E s := by
  with_reducible exact KBd.method_of (.bytes b t) (typeIs_bytes _ _ _) slot_brep type_brep KBd.noRef h
theorem m_join {M : Model} {b : Array UInt8} {pl : Sem Bool} {Q : Value × List Value → Shared → Prop} (h : Q (.builtin "bytes.join", [.bytes b t]) s) : wpAny M A (getMethod (.bytes b t) "join" pl) Q E s := by
  with_reducible exact KBd.method_of (.bytes b t) (typeIs_bytes _ _ _) slot_bjoin type_bjoin KBd.noRef h

theorem k_split {x : UInt8} {Q : Value → Shared → Prop} (F : Fr h₀ L s.heap m) (N : News h₀ L s.heap news) (hb : bInts b = ks) (hz : ks.length ≤ 1000)
    (h : ∀ a vs h' tk, SplitCase vs (splitAll x.toNat ks) ks.length → Fr h₀ L h' m → News h₀ L h' ((a, listOf vs.toArray 0) :: news) → (∀ p ∈ news, p.1 < a) → Q (.ref a) { s with heap := h', toks := tk }) :
    wpAny (model prog w) A (call (.builtin "bytes.split") [.bytes b t, .bytes #[x] u]) Q E s := by
  subst hb
  refine call_meets slot_bsplit (typeIs_bytes _ _ _) entry_bsplit (args_bsplit_2 _ _) (meets_split b t u x (by rw [← KBw.ints_length]; exact hz)) fun vs k hv hl => ?_
  exact h _ vs _ _ (split_case hv hl) (F.push _) (News.push F N _) fun p hp => Heap.lt_size (N p hp).1
theorem k_split1 {x : UInt8} {Q : Value → Shared → Prop} (F : Fr h₀ L s.heap m) (N : News h₀ L s.heap news) (hb : bInts b = ks) (hz : ks.length ≤ 1000) (hm : (x.toNat : Int) ∈ ks)
    (h : ∀ a y z ty tz h' tk pre post, ks = pre ++ (x.toNat : Int) :: post → pre.length + post.length + 1 = ks.length → (x.toNat : Int) ∉ pre → bInts y = pre → bInts z = post → Fr h₀ L h' m → News h₀ L h' ((a, listOf #[.bytes y ty, .bytes z tz] 0) :: news) → (∀ p ∈ news, p.1 < a) → Q (.ref a) { s with heap := h', toks := tk }) :
    wpAny (model prog w) A (call (.builtin "bytes.split") [.bytes b t, .bytes #[x] u, .int 1 v]) Q E s := by
  subst hb
  refine call_meets slot_bsplit (typeIs_bytes _ _ _) entry_bsplit (args_bsplit_3 _ _ _) (meets_split1 b t u v x (by rw [← KBw.ints_length]; exact hz) hm) fun y z ty tz k pre post e1 e2 e3 e4 => ?_
  exact h _ y z ty tz _ _ pre post e1 (by rw [e1]; simp only [List.length_append, List.length_cons]; omega) e2 e3 e4 (F.push _) (News.push F N _) fun p hp => Heap.lt_size (N p hp).1
theorem k_rep {x y : UInt8} {Q : Value → Shared → Prop} (hb : bInts b = ks) (hz : ks.length ≤ 1000)
    (h : ∀ c t' k, bInts c = repV x.toNat y.toNat ks → (repV x.toNat y.toNat ks).length = ks.length → Q (.bytes c t') { s with toks := k }) :
    wpAny (model prog w) A (call (.builtin "bytes.replace") [.bytes b t, .bytes #[x] u, .bytes #[y] v]) Q E s := by
  subst hb
  exact call_meets slot_brep (typeIs_bytes _ _ _) entry_brep (args_brep_3 _ _ _) (meets_rep b t u v x y (by rw [← KBw.ints_length]; exact hz)) fun c t' k e => h c t' k e (repV_len _ _ _)
theorem k_join {a : Addr} {vs : List Value} {n : Nat} {parts : List (List Int)} {Q : Value → Shared → Prop} (N : News h₀ L s.heap news) (hm : (a, listOf vs.toArray n) ∈ news) (hv : BytesAre vs parts) (hn : parts ≠ []) (hz : parts.flatten.length ≤ 1000)
    (h : ∀ c t' k, bInts c = parts.flatten → Q (.bytes c t') { s with toks := k }) :
    wpAny (model prog w) A (call (.builtin "bytes.join") [.bytes #[] t, .ref a]) Q E s := by
  exact call_meets slot_bjoin (typeIs_bytes _ _ _) entry_bjoin (args_bjoin_2 _ _) (meets_join t a _ vs parts hv n rfl rfl hn hz) ⟨(N _ hm).1, h⟩
theorem k_lenL {a : Addr} {vs : List Value} {n : Nat} {Q : Value → Shared → Prop} (N : News h₀ L s.heap news) (hm : (a, listOf vs.toArray n) ∈ news) (hz : vs.length ≤ 2000)
    (h : ∀ k t, Q (.int (vs.length : Int) t) { s with toks := k }) :
    wpAny (model prog w) A (call (.builtin "len") [.ref a]) Q E s :=
  len_list (PySem.IsL.isList (n := n) (N _ hm).1) (by rw [List.size_toArray]; omega) (by simpa using h _ _)
end
end Mine
namespace Mine
open PySem PySem.W PyProof.Rows PySem.Calls
open KBw (bInts)
theorem fillme14 : PySem.Challenge.rw_nt0488_01 = PySem.Challenge.rw_nt0488_01 ∧ hd.heap_39 = hd.heap_39 := by
  k_with_none
  w_top off
  k_fill
  exact ⟨rfl, rfl⟩
local macro_rules | `(tactic| walk_at $s:str) => `(tactic| k_extra $(Lean.Syntax.mkStrLit ("m " ++ s.getString)))
theorem words_U1_1 : True := by
  k_with "m led ne" =>
    first
      | exact List.forall_mem_nil _
      | (refine' List.forall_mem_cons.mpr ⟨?a, ?b⟩; (case a => k_ne); (case b => walk_at "led ne"))
      | (refine' List.forall_mem_append.mpr ⟨?a, ?b⟩; (case a => walk_at "led ne"); (case b => walk_at "led ne"))
      | (refine led_ne (by assumption) ?_; omega)
      | (refine led_ne' (by assumption) ?_; omega)
  k_with "m ct_sides" =>
    (
      (case k1 => k_asm); (case k2 => k_asm); (case k3 => k_asm); (case k4 => k_asm); (case k5 => k_asm); (case kK => first | exact rfl | assumption); (case kd => ktr_room); (case ku => ktr_units))
  k_with "m drop led" =>
    first
      | k_asm
      | (refine cb_drop (by with_reducible assumption) ?_; intro p hp; first
          | exact .tail _ hp
          | exact .tail _ (.tail _ hp)
          | exact .tail _ (.tail _ (.tail _ hp))
          | exact .tail _ (.tail _ (.tail _ (.tail _ hp)))
          | exact .tail _ (.tail _ (.tail _ (.tail _ (.tail _ hp))))
          | exact List.mem_append_left _ hp
          | exact List.mem_append_right _ hp
          | (simp only [List.nil_append, List.cons_append, List.mem_append, List.mem_cons] at hp ⊢; grind))
      | exact led_top (by assumption)
  k_with "m b ints" =>
    first | kba_ints2 | exact rfl
  k_with "m compareOp In bytes ref" =>
    (
      k_here; (with_reducible show wpAny _ _ (compareOp CmpOp.In (Value.bytes _ _) (Value.ref _)) _ _ _);
      (refine' in_tupI ?k1 ?k2 ?k3 ?k4 ?_; (case k1 => exact News.get (by k_asm) (by k_mem)); (case k2 => walk_at "b ints"); (case k3 => exact rfl); (case k4 => exact rfl); k_whole))
  k_with "m compareOp Eq bytes bytes" =>
    (
      k_here; (refine' eq_bytesI ?k1 ?k2 ?_; (case k1 => walk_at "b ints"); (case k2 => walk_at "b ints"); k_whole))
  k_with "m compareOp In int bytes" =>
    (
      k_here; (refine' in_intI ?k0 ?k1 ?k2 ?_; (case k0 => omega); (case k1 => omega); (case k2 => walk_at "b ints"); k_whole))
  exact trivial
def SrcBT (prog : Program) (w : World) (A : Around) (h₀ : Heap) (L : Addr) (m : Str → Option Value) (env : Env) (ct elt : Expr) (x : Str) (scope : Scope) (cl : List (Str × Addr)) (Fin : Shared → List Value → List (Addr × Obj) → Prop) (xv : Value) (s₁ : Shared) : Prop :=
  ∃ b t news, xv = .bytes b t ∧ A.handled = none ∧ Fr h₀ L s₁.heap m ∧ News h₀ L s₁.heap news ∧ b.size ≤ 1000 ∧
    ∀ s₂ : Shared, (∃ h, s₂ = { s₁ with heap := h }) → LCt.CompRestT prog w A h₀ L m env ct elt x scope cl s₂ (fun _ => True) (fun i v => ∃ c u, b[i]? = some c ∧ v = .int ((c : UInt8).toNat : Int) u) (Fin s₂) b.size 0 [] news
section
variable {prog : Program} {w : World} {A : Around} {E : Value → Shared → Prop} {s : Shared} {h₀ : Heap} {L : Addr} {m : Str → Option Value} {env : Env}
theorem ListComp_BT {ct elt iter : Expr} {x : Str} {px : Pos} {scope : Scope} {cl : List (Str × Addr)} {pos : Pos} {Q : Value → Shared → Prop} (F₀ : Fr h₀ L s.heap m)
    (hclos : closureFor scope env = pure cl) (hcell : ∀ y ∈ scope.names, y.2 ≠ .cell) (hkind : scope.kind = .function)
    (hnames : ∀ y ∈ scope.names, y.2 = .local → scope.names.lookup y.1 = some .local) (hx : scope.names.lookup x = some .local)
    (h : wpAny (model prog w) A (eval iter env) (SrcBT prog w A h₀ L m env ct elt x scope cl (fun s₂ => LCg.FinE h₀ L m s₂ Q)) E s)
    (hs : ∀ x, foldedSetIterable iter env x = pure x := by intro _; rfl) :
    wpAny (model prog w) A (eval (.ListComp elt [⟨.Name x px, iter, [ct], 0⟩] scope pos) env) Q E s := by
  rw [eval_ListComp]
  refine wpAny_comprehension_free (use := none) rfl hs hclos hkind hnames (wpAny_mono h (fun xv s₁ h₁ => ?_) fun _ _ e => e)
  obtain ⟨b, t, news, rfl, hh, F, N, hsz, R⟩ := h₁
  refine KBw.pyIter_bytes ?_
  refine LCt.block_T (KBw.walks hh s₁.heap.objs.size b t) (by rw [sizeLine_eq]; omega) (fun i h st => by obtain ⟨o, e, _⟩ := st; exact ⟨o, e⟩)
    (fun i h h' o nw st e1 e2 _ _ _ => by obtain ⟨o', e, r⟩ := st; have : o = o' := by rw [e] at e1; injection e1 with e1; exact e1.symm
                                          subst this; exact ⟨o, e2, r⟩)
    hcell hkind hx ⟨_, Heap.get?_push_size _ rfl, rfl, rfl⟩ (fun b hb => ?_)
    (F.keeps fun _ _ e => Heap.get?_push_of_some _ e) (N.grown fun _ _ e => Heap.get?_push_of_some _ e) (Nat.ne_of_lt F.ns.lt) (next_is_new F) (fun p hp => Nat.ne_of_lt (Heap.lt_size (N p hp).1)) trivial (R _ ⟨_, rfl⟩) ?_
  · rw [List.mem_singleton.mp hb]
    show s₁.heap.objs.size < (s₁.heap.push _).objs.size
    rw [Heap.size_push]; exact Nat.lt_succ_self _
  · intro D C h tk m' ys news' F' N' o1 hn hC₀ hD₀ hCL hDL hCD offC fin
    refine ⟨m', hn, fun h'' hs'' => fin D h'' tk (F'.change hs'' hCL hC₀) (fun p hp => ?_) o1⟩
    refine ⟨hs''.extBut _ _ ?_ (N' p hp).1, (N' p hp).2⟩
    rcases List.mem_cons.mp hp with rfl | hp
    · exact Ne.symm hCD
    · exact offC p hp
theorem SrcBT.intro {ct elt : Expr} {x : Str} {scope : Scope} {cl : List (Str × Addr)} {Fin : Shared → List Value → List (Addr × Obj) → Prop} {b : Array UInt8} {t : Tok} {ks : List Int} {news : List (Addr × Obj)} (G : List Int → Int → List Int)
    (hb : bInts b = ks) (hz : ks.length ≤ 1000) (hh : A.handled = none) (F : Fr h₀ L s.heap m) (N : News h₀ L s.heap news)
    (turn : ∀ (g : Heap) k t I oI C oC D m₂ ys l h tk (E' : Value → Shared → Prop), k ∈ ks → IntsAre ys l → LCg.NsObj oC m₂ → m₂ x = some (.int k t) → Fr h₀ L h m → News h₀ L h ((I, oI) :: (C, oC) :: (D, LCg.lst ys) :: news) → LCg.Off3 I C D news → ((@Ne Nat I C) ∧ (@Ne Nat I D) ∧ (@Ne Nat C D)) → KPfMark →
      wpAny (model prog w) A (isTrue ct (compEnvC scope cl C env) (eval ct (compEnvC scope cl C env))) (fun b s' => if b = true then wpAny (model prog w) A (eval elt (compEnvC scope cl C env)) (LCg.CompEnd h₀ L m { s with heap := h, toks := tk } I oI C oC D (LCg.lst ys) (fun _ => True) (fun y news' => KCiEl news l (G l k) y news')) E' s'
        else LCg.CompEnd h₀ L m { s with heap := h, toks := tk } I oI C oC D (LCg.lst ys) (fun _ => True) (fun _ news' => KCiNo news l (G l k) news') Value.none s') E' { s with heap := h, toks := tk })
    (fin : ∀ (g : Heap), KPfDone (∀ ys, IntsAre ys (ks.foldl G []) → ys.length ≤ b.size → Fin { s with heap := g } ys news)) (hg : KPfGrows G) : SrcBT prog w A h₀ L m env ct elt x scope cl Fin (.bytes b t) s := by
  refine ⟨b, t, news, rfl, hh, F, N, by rw [← KBw.ints_length, hb]; exact hz, fun s₂ ⟨g, e⟩ => ?_⟩
  subst e
  refine kci_rest (ks := ks) G (by rw [← hb, KBw.ints_length]) (fun i v _ hv => ?_) (turn g) (fin g) hg
  obtain ⟨c, u, h1, rfl⟩ := hv
  exact ⟨_, u, by rw [← hb]; exact KBw.ints_get h1, rfl⟩
end
def nonDig (l : List Int) (k : Int) : List Int := if 48 ≤ k ∧ k ≤ 57 then l else l ++ [k]
theorem words_U1_2 : True := by
  k_with "m eval ListComp" =>
    (k_here; k_dflt (refine ListComp_BT (iter := Expr.Name "octets" _) (F₀ := by k_asm) (by with_unfolding_all rfl) (by decide) (by rfl) (by decide) (by rfl) ?_))
  k_with "m SrcBT" =>
    (k_here; k_dflt (
      (refine' SrcBT.intro (fun l k => if 48 ≤ k ∧ k ≤ 57 then l else l ++ [k]) ?k1 ?k2 ?k3 ?k4 ?k5 (fun g' k' t' I' oI' C' oC' D' m' ys' l' h' tk' E' hk' hI' hC' hx' F' N' off' ne' => ?_) ?_ ?_);
      (case k1 => walk_at "b ints"); (case k2 => kba_size); (case k3 => rfl); (case k4 => k_asm); (case k5 => k_asm);
      (all_goals (try (simp only [LCg.Off3, and_true] at off'))); (all_goals (try ((show KPfMark → _); intro hMark'))); kcf_last))
  k_with "m CompEnd" =>
    (k_dflt (refine LCg.CompEnd.intro (by assumption) (by assumption) _ (fun _ hp => hp) (by assumption) trivial ?_))
  exact trivial
theorem News.drop2 {g h : Heap} {L : Addr} {p q : Addr × Obj} {news : Led} (N : PyProof.Rows.News g L h (p :: q :: news)) : PyProof.Rows.News g L h news :=
  fun r hr => N r (.tail _ (.tail _ hr))
theorem words_U1_3 : True := by
  k_with "m compareOp NotEq ref ref" =>
    (k_here; (with_reducible show wpAny _ _ (compareOp CmpOp.NotEq (Value.ref _) (Value.ref _)) _ _ _); k_dflt (refine ke_ne_ints (by is_list) (by is_list) (by l_ints) (by l_ints) (by ke_room) ?_; (rename PyProof.Rows.News _ _ _ ((_, W.listOf #[] 0) :: (_, LCg.lst _) :: _) => hN9; replace hN9 := News.drop2 hN9)); ke_norm)
  k_with "m pyIter bytes" =>
    (focus (k_extra "pyIter bytes"))
  exact trivial
theorem sieve_mem : ∀ (ks l : List Int), ks.foldl (fun l k => if 48 ≤ k ∧ k ≤ 57 then l else l ++ [k]) l = [] → l = [] ∧ ∀ k ∈ ks, 48 ≤ k ∧ k ≤ 57
  | [], l, h => ⟨h, fun _ hm => nomatch hm⟩
  | a :: r, l, h => by
    rw [List.foldl_cons] at h
    obtain ⟨h1, h2⟩ := sieve_mem r _ h
    by_cases ha : 48 ≤ a ∧ a ≤ 57
    · rw [if_pos ha] at h1
      exact ⟨h1, fun k hk => by rcases List.mem_cons.mp hk with rfl | hk
                                · exact ha
                                · exact h2 k hk⟩
    · rw [if_neg ha] at h1
      exact absurd h1 (by simp)
theorem sieve_all : ∀ (ks : List Int), (∀ k ∈ ks, 48 ≤ k ∧ k ≤ 57) → ks.foldl (fun l k => if 48 ≤ k ∧ k ≤ 57 then l else l ++ [k]) [] = []
  | [], _ => rfl
  | a :: r, h => by
    rw [List.foldl_cons, if_pos (h a (.head _))]
    exact sieve_all r fun k hk => h k (.tail _ hk)
theorem figGo10 : ∀ (ks : List Int) (a : Int), (¬ ∀ k ∈ ks, 48 ≤ k ∧ k ≤ 57) → figGo 10 ks a = none
  | [], a, h => absurd (fun _ hm => nomatch hm) h
  | o :: r, a, h => by
    unfold figGo
    by_cases ho : 48 ≤ o ∧ o ≤ 57
    · have hd : digitV o = some (o - 48) := by unfold digitV; rw [if_pos ho]
      rw [hd]; dsimp only
      rw [if_neg (by omega)]
      refine figGo10 r _ fun h2 => h fun k hk => ?_
      rcases List.mem_cons.mp hk with rfl | hk
      · exact ho
      · exact h2 k hk
    · unfold digitV
      rw [if_neg ho]
      by_cases h3 : 65 ≤ o ∧ o ≤ 90
      · rw [if_pos h3]; dsimp only; rw [if_pos (by omega)]
      · rw [if_neg h3]
        by_cases h4 : 97 ≤ o ∧ o ≤ 122
        · rw [if_pos h4]; dsimp only; rw [if_pos (by omega)]
        · rw [if_neg h4]
theorem figV_sieve {ks : List Int} (h : decide (ks.foldl (fun l k => if 48 ≤ k ∧ k ≤ 57 then l else l ++ [k]) [] = []) = false) : figV 10 ks = none := by
  have h := of_decide_eq_false h
  unfold figV
  split
  · rfl
  · exact figGo10 ks 0 fun h2 => h (sieve_all ks h2)
theorem figGo_nil10 {a : Int} : figGo 10 [] a = some a := rfl
theorem lfig_step {ks pre : List Int} {n a : Int} (h0 : decide (ks.foldl (fun l k => if 48 ≤ k ∧ k ≤ 57 then l else l ++ [k]) [] = []) = true) {post : List Int} (e : ks = pre ++ n :: post) (h : figGo 10 pre 0 = some a) : figGo 10 (pre ++ [n]) 0 = some (10 * a + n - 48) := by
  have h1 := (sieve_mem ks [] (of_decide_eq_true h0)).2 n (by rw [e]; simp)
  have hd : digitV n = some (n - 48) := by unfold digitV; rw [if_pos h1]
  rw [figGo_step h hd (by omega)]
  congr 1; omega
theorem c_lfig (w : World) (b : Array UInt8) (ks : List Int) (hb : bInts b = ks) (hlen : ks.length ≤ 99) (t : Tok) (news : Led) :
    Ct w 189 10 [.bytes b t] news (fun r tl => tl = [] ∧ VOpt r (figV 10 ks)) := by
  unfold Ct
  intro p loose mean mg mb dp un gd cn cs a ccd cl outer A₀ bas h₀ L m s Q E B F X N T hk hdp hun hret
  refine wpAny_call ?_
  k_dflt cell_enter
  k_with "pyIter bytes" => k_state (fun pre found => figGo 10 pre 0 = some found) "found"
  k_with "state" => first | exact figGo_nil10 | exact lfig_step (by assumption) (by assumption) (by assumption)
  k_steps
  all_goals (refine hret _ [] _ _ (by k_asm) (by first | k_asm | exact fun p hp => (by assumption : News _ _ _ (news ++ _)) p (List.mem_append_left _ hp)) ⟨rfl, ?_⟩)
  all_goals first
    | (rw [figV_sieve (by assumption)]; exact rfl)
    | (rename ks = _ => e9; rw [e9]; exact rfl)
    | (unfold figV; rw [if_neg (by assumption)]; (rename figGo 10 ks 0 = some _ => e9); rw [e9]; exact ⟨_, rfl⟩)
end Mine
namespace Mine
open PySem PySem.W PyProof.Rows PySem.Calls
open KBw (bInts)
theorem fillme15 : PySem.Challenge.rw_nt0488_01 = PySem.Challenge.rw_nt0488_01 ∧ hd.heap_39 = hd.heap_39 := by
  k_with_none
  w_top off
  k_fill
  exact ⟨rfl, rfl⟩
local macro_rules | `(tactic| walk_at $s:str) => `(tactic| k_extra $(Lean.Syntax.mkStrLit ("m " ++ s.getString)))
theorem words_U2_1 : True := by
  k_with "m led ne" =>
    first
      | exact List.forall_mem_nil _
      | (refine' List.forall_mem_cons.mpr ⟨?a, ?b⟩; (case a => k_ne); (case b => walk_at "led ne"))
      | (refine' List.forall_mem_append.mpr ⟨?a, ?b⟩; (case a => walk_at "led ne"); (case b => walk_at "led ne"))
      | (refine led_ne (by assumption) ?_; omega)
      | (refine led_ne' (by assumption) ?_; omega)
  k_with "m ct_sides" =>
    (
      (case k1 => k_asm); (case k2 => k_asm); (case k3 => k_asm); (case k4 => k_asm); (case k5 => k_asm); (case kK => first | exact rfl | assumption); (case kd => ktr_room); (case ku => ktr_units))
  k_with "m drop led" =>
    first
      | k_asm
      | (refine cb_drop (by with_reducible assumption) ?_; intro p hp; first
          | exact .tail _ hp
          | exact .tail _ (.tail _ hp)
          | exact .tail _ (.tail _ (.tail _ hp))
          | exact .tail _ (.tail _ (.tail _ (.tail _ hp)))
          | exact .tail _ (.tail _ (.tail _ (.tail _ (.tail _ hp))))
          | exact List.mem_append_left _ hp
          | exact List.mem_append_right _ hp
          | (simp only [List.nil_append, List.cons_append, List.mem_append, List.mem_cons] at hp ⊢; grind))
      | exact led_top (by assumption)
  k_with "m b ints" =>
    first | kba_ints2 | exact rfl
  k_with "m compareOp In bytes ref" =>
    (
      k_here; (with_reducible show wpAny _ _ (compareOp CmpOp.In (Value.bytes _ _) (Value.ref _)) _ _ _);
      (refine' in_tupI ?k1 ?k2 ?k3 ?k4 ?_; (case k1 => exact News.get (by k_asm) (by k_mem)); (case k2 => walk_at "b ints"); (case k3 => exact rfl); (case k4 => exact rfl); k_whole))
  k_with "m compareOp Eq bytes bytes" =>
    (
      k_here; (refine' eq_bytesI ?k1 ?k2 ?_; (case k1 => walk_at "b ints"); (case k2 => walk_at "b ints"); k_whole))
  k_with "m compareOp In int bytes" =>
    (
      k_here; (refine' in_intI ?k0 ?k1 ?k2 ?_; (case k0 => omega); (case k1 => omega); (case k2 => walk_at "b ints"); k_whole))
  exact trivial
def tensV (n e s : Int) : Res :=
  if n = 0 ∨ e + 6 < -100 then .real 0 else if 60 < e + 6 then .lim else
  if 10 ^ 21 < (if 0 ≤ e + 6 then n * 10 ^ (e + 6).toNat else (2 * n + 10 ^ (0 - (e + 6)).toNat) / (2 * 10 ^ (0 - (e + 6)).toNat)) then .lim
  else .real (s * (if 0 ≤ e + 6 then n * 10 ^ (e + 6).toNat else (2 * n + 10 ^ (0 - (e + 6)).toNat) / (2 * 10 ^ (0 - (e + 6)).toNat)))
theorem mul60_ok {n e : Int} (hn : n.natAbs < 10 ^ 100) (h : ¬ 60 < e) : IntMulOk n (10 ^ e.toNat) := by
  refine IntMulOk.of_le (bits_lt hn) (n := 1000) (intBits_le_iff.mpr ?_) (by decide)
  rw [Int.natAbs_pow]
  exact Nat.lt_of_le_of_lt (Nat.pow_le_pow_right (by decide) (show e.toNat ≤ 60 by omega)) (by decide +kernel)
theorem two_pow_ne (k : Nat) : (2 : Int) * 10 ^ k ≠ 0 := by have := pow10_ne k; omega
theorem two_pow_log {x e : Int} (h : ¬ e + 6 < -100) : Builtin.divisionGoesByPylong x ((2 : Int) * 10 ^ (0 - (e + 6)).toNat) = false := by
  refine PyProof.noPylong_of_log2 ?_
  have h0 : ((2 : Int) * 10 ^ (0 - (e + 6)).toNat).natAbs ≠ 0 := fun q => two_pow_ne _ (Int.natAbs_eq_zero.mp q)
  refine Nat.lt_of_lt_of_le (show ((2 : Int) * 10 ^ (0 - (e + 6)).toNat).natAbs.log2 < 2000 from (Nat.log2_lt h0).mpr ?_) (by decide)
  rw [Int.natAbs_mul, Int.natAbs_pow]
  have h1 : (0 - (e + 6)).toNat ≤ 100 := by omega
  have h2 : (Int.natAbs 10) ^ (0 - (e + 6)).toNat ≤ 10 ^ 100 := Nat.pow_le_pow_right (by decide) h1
  have h3 : 2 * 10 ^ 100 < 2 ^ 2000 := by decide +kernel
  exact Nat.lt_of_le_of_lt (Nat.mul_le_mul_left 2 h2) h3
theorem half_fdiv {n : Int} {k : Nat} : (2 * n + 10 ^ k).fdiv (2 * 10 ^ k) = (2 * n + 10 ^ k) / (2 * 10 ^ k) :=
  Int.fdiv_eq_ediv_of_nonneg _ (Int.mul_nonneg (by decide) (Int.le_of_lt (Int.pow_pos (by decide))))
theorem bits_g {g : Int} (h : g.natAbs ≤ 1) : Builtin.Int.intBits g ≤ 64 := intBits_le_64 (by omega) (by omega)
section
variable {n e g : Int}
theorem tens_0 (h : n = 0) : tensV n e g = .real 0 := by unfold tensV; rw [if_pos (.inl h)]
theorem tens_1 (h : e + 6 < -100) : tensV n e g = .real 0 := by unfold tensV; rw [if_pos (.inr h)]
theorem tens_2 (h0 : n ≠ 0) (h : ¬ e + 6 < -100) (h2 : 60 < e + 6) : tensV n e g = .lim := by unfold tensV; rw [if_neg (by omega), if_pos h2]
theorem tens_3 (h0 : n ≠ 0) (h : ¬ e + 6 < -100) (h2 : ¬ 60 < e + 6) (h3 : 0 ≤ e + 6) (h4 : 10 ^ Int.toNat 21 < n * 10 ^ (e + 6).toNat) : tensV n e g = .lim := by
  unfold tensV; rw [if_neg (by omega), if_neg h2, if_pos h3]; exact if_pos h4
theorem tens_4 (h0 : n ≠ 0) (h : ¬ e + 6 < -100) (h2 : ¬ 60 < e + 6) (h3 : 0 ≤ e + 6) (h4 : ¬ 10 ^ Int.toNat 21 < n * 10 ^ (e + 6).toNat) : tensV n e g = .real (g * (n * 10 ^ (e + 6).toNat)) := by
  unfold tensV; rw [if_neg (by omega), if_neg h2, if_pos h3]; exact if_neg h4
theorem tens_5 (h0 : n ≠ 0) (h : ¬ e + 6 < -100) (h2 : ¬ 60 < e + 6) (h3 : ¬ 0 ≤ e + 6) (h4 : 10 ^ Int.toNat 21 < (2 * n + 10 ^ (0 - (e + 6)).toNat) / (2 * 10 ^ (0 - (e + 6)).toNat)) : tensV n e g = .lim := by
  unfold tensV; rw [if_neg (by omega), if_neg h2, if_neg h3]; exact if_pos h4
theorem tens_6 (h0 : n ≠ 0) (h : ¬ e + 6 < -100) (h2 : ¬ 60 < e + 6) (h3 : ¬ 0 ≤ e + 6) (h4 : ¬ 10 ^ Int.toNat 21 < (2 * n + 10 ^ (0 - (e + 6)).toNat) / (2 * 10 ^ (0 - (e + 6)).toNat)) : tensV n e g = .real (g * ((2 * n + 10 ^ (0 - (e + 6)).toNat) / (2 * 10 ^ (0 - (e + 6)).toNat))) := by
  unfold tensV; rw [if_neg (by omega), if_neg h2, if_neg h3]; exact if_neg h4
end
theorem words_U2_2 : True := by
  k_with "m binaryOp Pow int int" =>
    (
      k_here; (refine PyProof.Rows.pow_int (by omega) (pow10_ok (by omega)) ?_); (try dsimp only))
  k_with "m binaryOp FloorDiv int int" =>
    (
      k_here; (refine PyProof.Rows.floordiv_int (two_pow_ne _) ?_ (Or.inl (two_pow_log (by assumption)))); (try rw [half_fdiv]))
  k_with "m binaryOp Mult int int" =>
    (
      k_here; (first
        | (with_reducible show wpAny _ _ (binaryOp Operator.Mult (Value.int 2 _) _) _ _ _); (refine PyProof.Rows.mul_int ?_ (IntMulOk.of_left (by decide +kernel)))
        | refine PyProof.Rows.mul_int ?_ (mul60_ok (by assumption) (by assumption))
        | refine PyProof.Rows.mul_int ?_ (IntMulOk.of_left (bits_g (by assumption)))); (try dsimp only))
  exact trivial
theorem c_tens (w : World) (n e g : Int) (hn : n.natAbs < 10 ^ 100) (hs : g.natAbs ≤ 1) (t t' t'' : Tok) (news : Led) : Ct w 203 1 [.int n t, .int e t', .int g t''] news (fun r tl => ToldIs r tl (tensV n e g)) := by
  unfold Ct
  intro p loose mean mg mb dp un gd cn cs a ccd cl outer A₀ bas h₀ L m s Q E B F X N T hk hdp hun hret
  refine wpAny_call ?_
  k_dflt cell_enter
  k_steps
  all_goals first
    | (refine hret _ [] _ _ (by k_asm) (by k_asm) ?_
       first
         | (rw [tens_2 (by assumption) (by assumption) (by assumption)]; exact ⟨rfl, _, rfl⟩)
         | (rw [tens_3 (by assumption) (by assumption) (by assumption) (by assumption) (by assumption)]; exact ⟨rfl, _, rfl⟩)
         | (rw [tens_5 (by assumption) (by assumption) (by assumption) (by assumption) (by assumption)]; exact ⟨rfl, _, rfl⟩))
    | (refine hret _ [_] _ _ (by k_asm) (by k_asm) ?_
       first
         | (rw [tens_0 (by assumption)]; exact ⟨_, _, _, rfl, rfl⟩)
         | (rw [tens_1 (by assumption)]; exact ⟨_, _, _, rfl, rfl⟩)
         | (rw [tens_4 (by assumption) (by assumption) (by assumption) (by assumption) (by assumption)]; exact ⟨_, _, _, rfl, rfl⟩)
         | (rw [tens_6 (by assumption) (by assumption) (by assumption) (by assumption) (by assumption)]; exact ⟨_, _, _, rfl, rfl⟩))
end Mine
namespace Mine
open PySem PySem.W PyProof.Rows PySem.Calls
open KBw (bInts)
theorem fillme16 : PySem.Challenge.rw_nt0488_01 = PySem.Challenge.rw_nt0488_01 ∧ hd.heap_39 = hd.heap_39 := by
  k_with_none
  w_top off
  k_fill
  exact ⟨rfl, rfl⟩
local macro_rules | `(tactic| walk_at $s:str) => `(tactic| k_extra $(Lean.Syntax.mkStrLit ("m " ++ s.getString)))
theorem words_U3_1 : True := by
  k_with "m led ne" =>
    first
      | exact List.forall_mem_nil _
      | (refine' List.forall_mem_cons.mpr ⟨?a, ?b⟩; (case a => k_ne); (case b => walk_at "led ne"))
      | (refine' List.forall_mem_append.mpr ⟨?a, ?b⟩; (case a => walk_at "led ne"); (case b => walk_at "led ne"))
      | (refine led_ne (by assumption) ?_; omega)
      | (refine led_ne' (by assumption) ?_; omega)
  k_with "m ct_sides" =>
    (
      (case k1 => k_asm); (case k2 => k_asm); (case k3 => k_asm); (case k4 => k_asm); (case k5 => k_asm); (case kK => first | exact rfl | assumption); (case kd => ktr_room); (case ku => ktr_units))
  k_with "m drop led" =>
    first
      | k_asm
      | (refine cb_drop (by with_reducible assumption) ?_; intro p hp; first
          | exact .tail _ hp
          | exact .tail _ (.tail _ hp)
          | exact .tail _ (.tail _ (.tail _ hp))
          | exact .tail _ (.tail _ (.tail _ (.tail _ hp)))
          | exact .tail _ (.tail _ (.tail _ (.tail _ (.tail _ hp))))
          | exact List.mem_append_left _ hp
          | exact List.mem_append_right _ hp
          | (simp only [List.nil_append, List.cons_append, List.mem_append, List.mem_cons] at hp ⊢; grind))
      | exact led_top (by assumption)
  k_with "m b ints" =>
    first | kba_ints2 | exact rfl
  k_with "m compareOp In bytes ref" =>
    (
      k_here; (with_reducible show wpAny _ _ (compareOp CmpOp.In (Value.bytes _ _) (Value.ref _)) _ _ _);
      (refine' in_tupI ?k1 ?k2 ?k3 ?k4 ?_; (case k1 => exact News.get (by k_asm) (by k_mem)); (case k2 => walk_at "b ints"); (case k3 => exact rfl); (case k4 => exact rfl); k_whole))
  k_with "m compareOp Eq bytes bytes" =>
    (
      k_here; (refine' eq_bytesI ?k1 ?k2 ?_; (case k1 => walk_at "b ints"); (case k2 => walk_at "b ints"); k_whole))
  k_with "m compareOp In int bytes" =>
    (
      k_here; (refine' in_intI ?k0 ?k1 ?k2 ?_; (case k0 => omega); (case k1 => omega); (case k2 => walk_at "b ints"); k_whole))
  k_with "m getMethod bytes" =>
    (k_here; (with_reducible (first | refine m_split ?_ | refine m_rep ?_ | refine m_join ?_)))
  k_with "m call builtin:bytes.split" =>
    (
      k_here; (with_reducible show wpAny _ _ (call (Value.builtin "bytes.split") [Value.bytes _ _, Value.bytes _ _, Value.int 1 _]) _ _ _);
      k_dflt (refine' k_split1 ?k1 ?k2 ?k3 ?k4 ?k5 ?_; (case k1 => k_asm); (case k2 => k_asm); (case k3 => walk_at "b ints"); (case k4 => kba_size); (case k5 => assumption); k_whole);
      (intro a9 y9 z9 ty9 tz9 h9 tk9 pre9 post9 e9 hl9 hn9 hy9 hz9 F9 N9 l9); (try k_lt l9); (try dsimp only); (try k_fold))
  k_with "m call ref" =>
    (
      k_here; (with_reducible show wpAny _ _ (call (Value.ref 189) [Value.bytes _ _]) _ _ _);
      k_dflt (refine' ct_use ?k1 ?k2 ?k3 ?k4 ?k5 ?kK (c_lfig _ _ _ ?ka ?kb _ _) ?kd ?ku ?_; (case ka => walk_at "b ints"); (case kb => kba_size); walk_at "ct_sides");
      (intro r9 tl9 h9 tk9 F9 N9 hR9; obtain ⟨e9, hv9⟩ := hR9; subst e9; (try simp only [List.nil_append] at N9));
      (generalize hd9 : figV _ _ = x9 at hv9; rcases x9 with _ | vb);
      (all_goals (first | (replace hv9 : _ = Value.none := hv9; subst hv9) | (obtain ⟨t9, e9⟩ := hv9; subst e9)));
      (all_goals ((try dsimp only); (try k_fold))))
  k_with "m pyIter bytes" =>
    (focus (k_extra "pyIter bytes"))
  exact trivial
theorem pl_ok {n d base : Int} (_ : base ≤ 36) (h0 : 0 ≤ d) (h1 : d < base) (h : (n ≤ 57 ∧ d = n - 48) ∨ (65 ≤ n ∧ n ≤ 90 ∧ d = n - 55) ∨ (97 ≤ n ∧ d = n - 87)) : digitV n = some d := by
  unfold digitV
  rcases h with ⟨h, e⟩ | ⟨h, h', e⟩ | ⟨h, e⟩
  · rw [if_pos (by omega), e]
  · rw [if_neg (by omega), if_pos (by omega), e]
  · rw [if_neg (by omega), if_neg (by omega), if_pos (by omega), e]
theorem pl_step {base : Int} {pre : List Int} {n a d : Int} (h : figGo base pre 0 = some a) (hb : base ≤ 36) (h0 : 0 ≤ d) (h1 : d < base) (hc : (n ≤ 57 ∧ d = n - 48) ∨ (65 ≤ n ∧ n ≤ 90 ∧ d = n - 55) ∨ (97 ≤ n ∧ d = n - 87)) : figGo base (pre ++ [n]) 0 = some (base * a + d) := by
  rw [figGo_step h (pl_ok hb h0 h1 hc) h1, Int.mul_comm]
theorem pl_bad {n base : Int} (hb : base ≤ 36) (h : (n ≤ 57 → ¬ (0 ≤ n - 48 ∧ n - 48 < base)) ∧ (65 ≤ n ∧ n ≤ 90 → ¬ (n - 55 < base)) ∧ (97 ≤ n → ¬ (n - 87 < base))) : digitV n = none ∨ ∃ d, digitV n = some d ∧ d ≥ base := by
  unfold digitV
  split
  · exact .inr ⟨_, rfl, by omega⟩
  · split
    · exact .inr ⟨_, rfl, by omega⟩
    · split
      · exact .inr ⟨_, rfl, by omega⟩
      · exact .inl rfl
theorem digit_nn {n d : Int} (h : digitV n = some d) : 0 ≤ d := by
  unfold digitV at h
  split at h
  · injection h with h; omega
  · split at h
    · injection h with h; omega
    · split at h
      · injection h with h; omega
      · cases h
theorem figGo_nn {base : Int} (hb : 0 ≤ base) : ∀ {ks : List Int} {a f : Int}, 0 ≤ a → figGo base ks a = some f → 0 ≤ f
  | [], a, f, h0, h => by unfold figGo at h; injection h with h; omega
  | o :: r, a, f, h0, h => by
    unfold figGo at h
    cases hd : digitV o with
    | none => rw [hd] at h; cases h
    | some d =>
      rw [hd] at h; dsimp only at h
      split at h
      · cases h
      · have h1 := digit_nn hd
        have h2 := Int.mul_nonneg h0 hb
        exact figGo_nn hb (by omega) h
noncomputable def rdx (pre post : List Int) : Res :=
  match figV 10 pre with
  | .none => .none
  | .some base => if 2 < pre.length ∨ ¬ (2 ≤ base ∧ base ≤ 36) then .none else
    match figV base post with
    | .none => .none
    | .some f => if 4294967296 ≤ f then .lim else .int (swordV f)
theorem rb_eq {ks pre post : List Int} (e : ks = pre ++ ((UInt8.toNat 35 : Nat) : Int) :: post) (hn : ¬ ((UInt8.toNat 35 : Nat) : Int) ∈ pre) : radixV ks (splitV [35] ks).1.length = rdx pre post := by
  have h : splitV [35] ks = (pre, some post) := by rw [e]; exact split_hit (fun v hv hm => hn (by rw [List.mem_singleton.mp hm] at hv; exact hv)) (by simp)
  rw [h]
  unfold radixV rdx
  have h1 : ks.take pre.length = pre := by rw [e]; simp
  have h2 : ks.drop (pre.length + 1) = post := by rw [e]; simp
  dsimp only
  rw [h1, h2]
  all_goals
    cases figV 10 pre with
    | none => rfl
    | some v =>
      dsimp only
      split
      · rfl
      · cases figV v post <;> rfl
section
variable {pre post kp kq : List Int} {v f n a : Int}
theorem rb_0 (hd : figV 10 pre = none) : rdx pre post = .none := by unfold rdx; rw [hd]
theorem rb_1 (hd : figV 10 pre = some v) (h : 2 < (pre.length : Int) ∨ ¬ 2 ≤ v ∨ ¬ v ≤ 36) : rdx pre post = .none := by
  unfold rdx; rw [hd]; dsimp only; rw [if_pos (by omega)]
theorem rb_n (hd : figV 10 pre = some v) (h : figV v post = none) : rdx pre post = .none := by
  unfold rdx; rw [hd]; dsimp only; rw [h]; split <;> rfl
theorem rb_2 (hd : figV 10 pre = some v) (e : post = List.map (fun c => ((UInt8.toNat c : Nat) : Int)) []) : rdx pre post = .none :=
  rb_n hd (by unfold figV; exact if_pos e)
theorem rb_3 (hd : figV 10 pre = some v) (hb : v ≤ 36) (e : post = kp ++ n :: kq) (hi : figGo v kp 0 = some a) (h : (n ≤ 57 → ¬ (0 ≤ n - 48 ∧ n - 48 < v)) ∧ (65 ≤ n ∧ n ≤ 90 → ¬ (n - 55 < v)) ∧ (97 ≤ n → ¬ (n - 87 < v))) : rdx pre post = .none :=
  rb_n hd (figV_none e hi (pl_bad hb h))
theorem rb_v (hd : figV 10 pre = some v) (h1 : ¬ 2 < (pre.length : Int)) (h2 : 2 ≤ v) (h3 : v ≤ 36) (h4 : ¬ post = List.map (fun c => ((UInt8.toNat c : Nat) : Int)) []) (hi : figGo v post 0 = some f) : rdx pre post = if 4294967296 ≤ f then .lim else .int (swordV f) := by
  unfold rdx; rw [hd]; dsimp only
  rw [if_neg (by omega)]
  have : figV v post = some f := by unfold figV; rw [if_neg (show ¬ post = [] from h4), hi]
  rw [this]
theorem rb_4 (hd : figV 10 pre = some v) (h1 : ¬ 2 < (pre.length : Int)) (h2 : 2 ≤ v) (h3 : v ≤ 36) (h4 : ¬ post = List.map (fun c => ((UInt8.toNat c : Nat) : Int)) []) (hi : figGo v post 0 = some f) (h : 2 ^ Int.toNat 32 ≤ f) : rdx pre post = .lim := by
  rw [rb_v hd h1 h2 h3 h4 hi]; exact if_pos h
theorem rb_5 (hd : figV 10 pre = some v) (h1 : ¬ 2 < (pre.length : Int)) (h2 : 2 ≤ v) (h3 : v ≤ 36) (h4 : ¬ post = List.map (fun c => ((UInt8.toNat c : Nat) : Int)) []) (hi : figGo v post 0 = some f) (h : ¬ 2 ^ Int.toNat 32 ≤ f) (h5 : 2 ^ Int.toNat 31 ≤ f) : rdx pre post = .int (f - 2 ^ Int.toNat 32) := by
  have e1 : (2 : Int) ^ Int.toNat 32 = 4294967296 := by decide
  have e2 : (2 : Int) ^ Int.toNat 31 = 2147483648 := by decide
  rw [e1] at h ⊢
  rw [e2] at h5
  rw [rb_v hd h1 h2 h3 h4 hi, if_neg h]
  unfold swordV
  rw [if_neg (by omega)]
  congr 1; omega
theorem rb_6 (hd : figV 10 pre = some v) (h1 : ¬ 2 < (pre.length : Int)) (h2 : 2 ≤ v) (h3 : v ≤ 36) (h4 : ¬ post = List.map (fun c => ((UInt8.toNat c : Nat) : Int)) []) (hi : figGo v post 0 = some f) (h : ¬ 2 ^ Int.toNat 32 ≤ f) (h5 : ¬ 2 ^ Int.toNat 31 ≤ f) : rdx pre post = .int f := by
  have e1 : (2 : Int) ^ Int.toNat 32 = 4294967296 := by decide
  have e2 : (2 : Int) ^ Int.toNat 31 = 2147483648 := by decide
  rw [e1] at h
  rw [e2] at h5
  have h0 := figGo_nn (by omega) (by omega) hi
  rw [rb_v hd h1 h2 h3 h4 hi, if_neg h]
  unfold swordV
  rw [if_pos (by omega)]
  congr 1; omega
end
theorem c_base (w : World) (b : Array UInt8) (ks : List Int) (hb : bInts b = ks) (hlen : ks.length ≤ 99) (hm : ((35 : UInt8).toNat : Int) ∈ ks) (t : Tok) (news : Led) :
    Ct w 196 11 [.bytes b t] news (fun r tl => ToldIs r tl (radixV ks (splitV [35] ks).1.length)) := by
  unfold Ct
  intro p loose mean mg mb dp un gd cn cs a ccd cl outer A₀ bas h₀ L m s Q E B F X N T hk hdp hun hret
  refine wpAny_call ?_
  k_dflt cell_enter
  k_with "pyIter bytes" => k_state (fun pre found => figGo vb pre 0 = some found) "found"
  k_with "state" => first | exact rfl | exact pl_step (by assumption) (by assumption) (by omega) (by omega) (by omega)
  k_steps
  all_goals (rw [rb_eq (by assumption) (by assumption)] at hret)
  all_goals first
    | (refine hret _ [] _ _ (by k_asm) (by walk_at "drop led") ?_
       first
         | (rw [rb_0 (by assumption)]; exact ⟨rfl, rfl⟩)
         | (rw [rb_1 (by assumption) (by omega)]; exact ⟨rfl, rfl⟩)
         | (rw [rb_2 (by assumption) (by assumption)]; exact ⟨rfl, rfl⟩)
         | (rw [rb_3 (by assumption) (by assumption) (by assumption) (by assumption) (by omega)]; exact ⟨rfl, rfl⟩)
         | (rw [rb_4 (by assumption) (by assumption) (by assumption) (by assumption) (by assumption) (by assumption) (by assumption)]; exact ⟨rfl, _, rfl⟩))
    | (refine hret _ [_] _ _ (by k_asm) (led_top2 (by assumption)) ?_
       first
         | (rw [rb_5 (by assumption) (by assumption) (by assumption) (by assumption) (by assumption) (by assumption) (by assumption) (by assumption)]; exact ⟨_, _, _, rfl, rfl⟩)
         | (rw [rb_6 (by assumption) (by assumption) (by assumption) (by assumption) (by assumption) (by assumption) (by assumption) (by assumption)]; exact ⟨_, _, _, rfl, rfl⟩))
end Mine
namespace Mine
open PySem PySem.W PyProof.Rows PySem.Calls
open KBw (bInts)
theorem fillme17 : PySem.Challenge.rw_nt0488_01 = PySem.Challenge.rw_nt0488_01 ∧ hd.heap_39 = hd.heap_39 := by
  k_with_none
  w_top off
  k_fill
  exact ⟨rfl, rfl⟩
local macro_rules | `(tactic| walk_at $s:str) => `(tactic| k_extra $(Lean.Syntax.mkStrLit ("m " ++ s.getString)))
theorem words_U4_1 : True := by
  k_with "m led ne" =>
    first
      | exact List.forall_mem_nil _
      | (refine' List.forall_mem_cons.mpr ⟨?a, ?b⟩; (case a => k_ne); (case b => walk_at "led ne"))
      | (refine' List.forall_mem_append.mpr ⟨?a, ?b⟩; (case a => walk_at "led ne"); (case b => walk_at "led ne"))
      | (refine led_ne (by assumption) ?_; omega)
      | (refine led_ne' (by assumption) ?_; omega)
  k_with "m ct_sides" =>
    (
      (case k1 => k_asm); (case k2 => k_asm); (case k3 => k_asm); (case k4 => k_asm); (case k5 => k_asm); (case kK => first | exact rfl | assumption); (case kd => ktr_room); (case ku => ktr_units))
  k_with "m drop led" =>
    first
      | k_asm
      | (refine cb_drop (by with_reducible assumption) ?_; intro p hp; first
          | exact .tail _ hp
          | exact .tail _ (.tail _ hp)
          | exact .tail _ (.tail _ (.tail _ hp))
          | exact .tail _ (.tail _ (.tail _ (.tail _ hp)))
          | exact .tail _ (.tail _ (.tail _ (.tail _ (.tail _ hp))))
          | exact List.mem_append_left _ hp
          | exact List.mem_append_right _ hp
          | (simp only [List.nil_append, List.cons_append, List.mem_append, List.mem_cons] at hp ⊢; grind))
      | exact led_top (by assumption)
  k_with "m b ints" =>
    first | kba_ints2 | exact rfl
  k_with "m compareOp In bytes ref" =>
    (
      k_here; (with_reducible show wpAny _ _ (compareOp CmpOp.In (Value.bytes _ _) (Value.ref _)) _ _ _);
      (refine' in_tupI ?k1 ?k2 ?k3 ?k4 ?_; (case k1 => exact News.get (by k_asm) (by k_mem)); (case k2 => walk_at "b ints"); (case k3 => exact rfl); (case k4 => exact rfl); k_whole))
  k_with "m compareOp Eq bytes bytes" =>
    (
      k_here; (refine' eq_bytesI ?k1 ?k2 ?_; (case k1 => walk_at "b ints"); (case k2 => walk_at "b ints"); k_whole))
  k_with "m compareOp In int bytes" =>
    (
      k_here; (refine' in_intI ?k0 ?k1 ?k2 ?_; (case k0 => omega); (case k1 => omega); (case k2 => walk_at "b ints"); k_whole))
  k_with "m getMethod bytes" =>
    (k_here; (with_reducible (first | refine m_split ?_ | refine m_rep ?_ | refine m_join ?_)))
  exact trivial
section
variable {prog : Program} {w : World} {A : Around} {E : Value → Shared → Prop} {s : Shared} {h₀ : Heap} {L a : Addr} {m : PySem.Str → Option Value} {news : Led} {b : Array UInt8} {t u v : Tok} {ks p q : List Int}
theorem cutI {T : Sem Value} {Q : Value → Shared → Prop} (x : Int) (_ : Fr h₀ L s.heap m) (_ : News h₀ L s.heap news)
    (h1 : ∀ P : Value → Shared → Prop, (∀ y t h' tk, y = x → Fr h₀ L h' m → News h₀ L h' news → P (.int y t) { s with heap := h', toks := tk }) → wpAny (model prog w) A T P E s)
    (h2 : ∀ t h' tk, Fr h₀ L h' m → News h₀ L h' news → Q (.int x t) { s with heap := h', toks := tk }) : wpAny (model prog w) A T Q E s := h1 Q fun _ t h' tk e F N => e ▸ h2 t h' tk F N
theorem cutB {T : Sem Value} {Q : Value → Shared → Prop} (ks : List Int) (_ : Fr h₀ L s.heap m) (_ : News h₀ L s.heap news)
    (h1 : ∀ P : Value → Shared → Prop, (∀ b t h' tk, bInts b = ks → Fr h₀ L h' m → News h₀ L h' news → P (.bytes b t) { s with heap := h', toks := tk }) → wpAny (model prog w) A T P E s)
    (h2 : ∀ b t h' tk, bInts b = ks → Fr h₀ L h' m → News h₀ L h' news → Q (.bytes b t) { s with heap := h', toks := tk }) : wpAny (model prog w) A T Q E s := h1 Q h2
theorem k_join1 {y : Array UInt8} {ty : Tok} {n : Nat} {Q : Value → Shared → Prop} (N : News h₀ L s.heap news) (hm : (a, listOf #[.bytes y ty] n) ∈ news) (hy : bInts y = p) (hz : p.length ≤ 1000)
    (h : ∀ c t' k, bInts c = p → Q (.bytes c t') { s with toks := k }) : wpAny (model prog w) A (call (.builtin "bytes.join") [.bytes #[] t, .ref a]) Q E s :=
  k_join (vs := [.bytes y ty]) (parts := [p]) N hm (.cons hy .nil) (by simp) (by simpa using hz) fun c t' k e => h c t' k (by simpa using e)
theorem k_join2 {y z : Array UInt8} {ty tz : Tok} {n : Nat} {Q : Value → Shared → Prop} (N : News h₀ L s.heap news) (hm : (a, listOf #[.bytes y ty, .bytes z tz] n) ∈ news) (hy : bInts y = p) (hz' : bInts z = q) (hz : p.length + q.length ≤ 1000)
    (h : ∀ c t' k, bInts c = p ++ q → Q (.bytes c t') { s with toks := k }) : wpAny (model prog w) A (call (.builtin "bytes.join") [.bytes #[] t, .ref a]) Q E s :=
  k_join (vs := [.bytes y ty, .bytes z tz]) (parts := [p, q]) N hm (.cons hy (.cons hz' .nil)) (by simp) (by simpa using hz) fun c t' k e => h c t' k (by simpa using e)
end
theorem k_item {value slice : Expr} {its : Array Value} {r : List Value} {n : Nat} {k : Int} {x : Value} {prog : Program} {w : World} {A : Around} {E : Value → Shared → Prop} {s : Shared} {h₀ : Heap} {L a : Addr} {news : Led} {u : Tok} {Q : Value → Shared → Prop} (N : News h₀ L s.heap news) (hm : (a, listOf its n) ∈ news) (h0 : 0 ≤ k) (h1 : k < 2 ^ 63) (hx : its.toList.drop k.toNat = x :: r) (h : Q x s)
    (hs : ∀ u, subscripted slice false (.ref a) (.int k u) = operate [.ref a, .int k u] (getItem (.ref a) (.int k u)) := by intro _; with_unfolding_all rfl) (hg : ∀ r, letTemporaryGo value (.ref a) r = pure () := by intro _; with_unfolding_all rfl) :
    wpAny (model prog w) A (subscriptTail value slice (.ref a) (.int k u)) Q E s :=
  item_list (PySem.IsL.isList (n := n) (N _ hm).1) h0 h1 (by rw [← Array.getElem?_toList, ← List.head?_drop, hx]; rfl) h (hs u) hg
def sgV (ks : List Int) : Int := if ks.take 1 = [45] then -1 else 1
theorem sgV_abs (ks : List Int) : (sgV ks).natAbs ≤ 1 := by unfold sgV; split <;> decide
theorem sgV_n {ks : List Int} (h : ks.take 1 = [45]) : sgV ks = -1 := if_pos h
theorem sgV_p {ks : List Int} (h : ¬ ks.take 1 = [45]) : sgV ks = 1 := if_neg h
theorem rest_s {ks : List Int} (h : ks.take 1 = [43] ∨ ks.take 1 = [45]) : restV ks = ks.drop 1 := if_pos h
theorem rest_u {ks : List Int} (h : ¬ (ks.take 1 = [43] ∨ ks.take 1 = [45])) : restV ks = ks := if_neg h
theorem rest_len (ks : List Int) : (restV ks).length ≤ ks.length := by
  unfold restV; split
  · rw [List.length_drop]; omega
  · exact Nat.le_refl _
noncomputable def tensX (x : List Int) : Option Int := (figV 10 (restV x)).map fun v => if x.take 1 = [45] then 0 - v else v
def tailLen : List (List Int) → Nat
  | [_, q] => q.length
  | _ => 0
noncomputable def dueB (g : Int) (ss : List (List Int)) (t : Int) (one : Bool) : Res :=
  match figV 10 ss.flatten with
  | .none => .none
  | .some n => if 2 < ss.length then .none else if one = true ∧ ss.length = 1 ∧ -2147483648 ≤ g * n ∧ g * n < 2147483648 then .int (g * n) else tensV n (t - tailLen ss) g
noncomputable def dueP (g : Int) : List (List Int) → Res
  | [p] => dueB g (splitAll 46 p) 0 true
  | [p, x] => match tensX x with
    | .none => .none
    | .some t => dueB g (splitAll 46 p) t false
  | _ => .none
noncomputable def dueV (ks : List Int) : Res := if (35 : Int) ∈ ks then radixV ks (splitV [35] ks).1.length else dueP (sgV ks) (splitAll 101 (repV 69 101 (restV ks)))

theorem words_U4_2 : True := by
  k_with "m compareOp In bytes bytes" =>
    (
      k_here; k_dflt (refine' in_bytes1 ?k1 ?k2 ?k3 ?k4 ?_; (case k1 => k_asm); (case k2 => k_asm); (case k3 => exact rfl); (case k4 => walk_at "b ints"); k_whole);
      intro h9 tk9 F9 N9; (try dsimp only); (try k_fold))
  exact trivial
theorem take1 {ks : List Int} {x : UInt8} (h : List.take (clipAt ks.length 1) ks = List.map (fun c => ((UInt8.toNat c : Nat) : Int)) [x]) : ks.take 1 = [((UInt8.toNat x : Nat) : Int)] := by
  rw [clip1, take_clip] at h; exact h
theorem take1n {ks : List Int} {x : UInt8} (h : ¬ List.take (clipAt ks.length 1) ks = List.map (fun c => ((UInt8.toNat c : Nat) : Int)) [x]) : ¬ ks.take 1 = [((UInt8.toNat x : Nat) : Int)] := by
  rw [clip1, take_clip] at h; exact h
theorem rest_s9 {ks : List Int} {c : Array UInt8} (h : List.take (clipAt ks.length 1) ks = bInts #[43] ∨ List.take (clipAt ks.length 1) ks = bInts #[45]) (e : bInts c = List.take (ks.length - clipAt ks.length 1) (List.drop (clipAt ks.length 1) ks)) : bInts c = restV ks := by
  rw [clip1, take_clip] at h
  rw [clip1, drop_clip] at e
  rw [e, rest_s h]
theorem rest_u9 {ks : List Int} {c : Array UInt8} (h : ¬ (List.take (clipAt ks.length 1) ks = bInts #[43] ∨ List.take (clipAt ks.length 1) ks = bInts #[45])) (e : bInts c = ks) : bInts c = restV ks := by
  rw [clip1, take_clip] at h
  rw [e, rest_u h]
section
variable {prog : Program} {w : World} {A : Around} {E : Value → Shared → Prop} {s : Shared} {h₀ : Heap} {L a : Addr} {m : PySem.Str → Option Value} {news : Led} {b : Array UInt8} {t u v : Tok} {ks p q : List Int}
theorem k_repE {Q : Value → Shared → Prop} (hb : bInts b = ks) (hz : ks.length ≤ 1000)
    (h : ∀ c t' k, bInts c = repV 69 101 ks → (repV 69 101 ks).length = ks.length → Q (.bytes c t') { s with toks := k }) :
    wpAny (model prog w) A (call (.builtin "bytes.replace") [.bytes b t, .bytes #[69] u, .bytes #[101] v]) Q E s := k_rep hb hz h
theorem k_splitE {Q : Value → Shared → Prop} (F : Fr h₀ L s.heap m) (N : News h₀ L s.heap news) (hb : bInts b = ks) (hz : ks.length ≤ 1000)
    (h : ∀ a vs h' tk, SplitCase vs (splitAll 101 ks) ks.length → Fr h₀ L h' m → News h₀ L h' ((a, listOf vs.toArray 0) :: news) → (∀ p ∈ news, p.1 < a) → Q (.ref a) { s with heap := h', toks := tk }) :
    wpAny (model prog w) A (call (.builtin "bytes.split") [.bytes b t, .bytes #[101] u]) Q E s := k_split F N hb hz h
theorem k_splitD {Q : Value → Shared → Prop} (F : Fr h₀ L s.heap m) (N : News h₀ L s.heap news) (hb : bInts b = ks) (hz : ks.length ≤ 1000)
    (h : ∀ a vs h' tk, SplitCase vs (splitAll 46 ks) ks.length → Fr h₀ L h' m → News h₀ L h' ((a, listOf vs.toArray 0) :: news) → (∀ p ∈ news, p.1 < a) → Q (.ref a) { s with heap := h', toks := tk }) :
    wpAny (model prog w) A (call (.builtin "bytes.split") [.bytes b t, .bytes #[46] u]) Q E s := k_split F N hb hz h
end
theorem tensX_n {x : List Int} (h : figV 10 (restV x) = none) : tensX x = none := by unfold tensX; rw [h]; rfl
theorem tensX_s {x : List Int} {v : Int} (h : figV 10 (restV x) = some v) : tensX x = some (if x.take 1 = [45] then 0 - v else v) := by unfold tensX; rw [h]; rfl
theorem low_t {x : List Int} {v : Int} (h : decide (List.take (clipAt x.length 1) x = List.map (fun c => ((UInt8.toNat c : Nat) : Int)) [45]) = true) : 0 - v = (if x.take 1 = [45] then 0 - v else v) := by
  rw [if_pos (show x.take 1 = [45] from take1 (of_decide_eq_true h))]
theorem low_f {x : List Int} {v : Int} (h : decide (List.take (clipAt x.length 1) x = List.map (fun c => ((UInt8.toNat c : Nat) : Int)) [45]) = false) : v = (if x.take 1 = [45] then 0 - v else v) := by
  rw [if_neg (show ¬ x.take 1 = [45] from take1n (of_decide_eq_false h))]
theorem low_t' {x : List Int} {v : Int} (h : List.take (clipAt x.length 1) x = List.map (fun c => ((UInt8.toNat c : Nat) : Int)) [45]) : 0 - v = (if x.take 1 = [45] then 0 - v else v) := by
  rw [if_pos (show x.take 1 = [45] from take1 h)]
theorem low_f' {x : List Int} {v : Int} (h : ¬ List.take (clipAt x.length 1) x = List.map (fun c => ((UInt8.toNat c : Nat) : Int)) [45]) : v = (if x.take 1 = [45] then 0 - v else v) := by
  rw [if_neg (show ¬ x.take 1 = [45] from take1n h)]
theorem words_U4_3 : True := by
  k_with "m call builtin:bytes.replace" =>
    (
      k_here; k_dflt (refine' k_repE ?k3 ?k4 ?_; (case k3 => walk_at "b ints"); (case k4 => kba_size); k_whole);
      intro c9 t9 tk9 hc9 hl9; (try dsimp only); (try k_fold))
  k_with "m call builtin:bytes.split" =>
    (
      k_here; (with_reducible show wpAny _ _ (call (Value.builtin "bytes.split") [Value.bytes _ _, Value.bytes #[101] _]) _ _ _);
      k_dflt (refine' k_splitE ?k1 ?k2 ?k3 ?k4 ?_; (case k1 => k_asm); (case k2 => k_asm); (case k3 => walk_at "b ints"); (case k4 => kba_size); k_whole);
      (intro a9 vsa h9 tk9 hc9 F9 N9 l9); (try k_lt l9);
      (rcases hc9 with ⟨ya, ta, pa, e9, hya, hsa, hla⟩ | ⟨ya, ta, pa, yb, tb, pb, e9, hya, hyb, hsa, hla⟩ | ⟨hva, hna, h3a, h3b, h3c, h3d⟩);
      (all_goals (try subst e9)); (all_goals ((try dsimp only); (try k_fold))))
  k_with "m call builtin:bytes.split" =>
    (
      k_here; (with_reducible show wpAny _ _ (call (Value.builtin "bytes.split") [Value.bytes _ _, Value.bytes #[46] _]) _ _ _);
      k_dflt (refine' k_splitD ?k1 ?k2 ?k3 ?k4 ?_; (case k1 => k_asm); (case k2 => k_asm); (case k3 => walk_at "b ints"); (case k4 => kba_size); k_whole);
      (intro a9 vsc h9 tk9 hc9 F9 N9 l9); (try k_lt l9);
      (rcases hc9 with ⟨yc, tc, pc, e9, hyc, hsc, hlc⟩ | ⟨yc, tc, pc, yd, td, pd, e9, hyc, hyd, hsc, hlc⟩ | ⟨hvc, hnc, h3a, h3b, h3c, h3d⟩);
      (all_goals (try subst e9)); (all_goals ((try dsimp only); (try k_fold))))
  k_with "m call builtin:bytes.join" =>
    (
      k_here; (first
        | (k_dflt (refine' k_join1 ?k1 ?k2 ?k3 ?k4 ?_; (case k1 => k_asm); (case k2 => k_mem); (case k3 => assumption); (case k4 => kba_size); k_whole))
        | (k_dflt (refine' k_join2 ?k1 ?k2 ?k3 ?k5 ?k4 ?_; (case k1 => k_asm); (case k2 => k_mem); (case k3 => assumption); (case k5 => assumption); (case k4 => kba_size); k_whole))
        | (k_dflt (refine' k_join ?k1 ?k2 ?k3 ?k5 ?k4 ?_; (case k1 => k_asm); (case k3 => assumption); (case k2 => k_mem); (case k5 => exact splitAll_ne _ _); (case k4 => omega); k_whole)));
      intro c9 t9 tk9 hc9; (try dsimp only); (try k_fold))
  k_with "m call builtin:len" =>
    (
      k_here; (with_reducible show wpAny _ _ (call (Value.builtin "len") [Value.ref _]) _ _ _);
      k_dflt (refine' k_lenL ?k1 ?k2 ?k3 ?_; (case k1 => k_asm); (case k3 => assumption); (case k2 => k_mem); k_whole); intro _ _; (try dsimp only); (try k_fold))
  exact trivial
inductive IfMark : Prop | mk
theorem words_U4_4 : True := by
  k_with "m eval IfExp" =>
    (
      (fail_if_success (have : IfMark := by assumption));
      k_here; (with_reducible show wpAny _ _ (eval (Expr.IfExp (Expr.Compare (Expr.Subscript (Expr.Name _ _) _ _) [CmpOp.Eq] _ _) _ _ _) _) _ _ _);
      k_dflt (refine' cutI (sgV ks) ?k1 ?k2 ?h1 ?_; (case k1 => k_asm); (case k2 => k_asm));
      (case h1 =>
        intro P hP
        have hIf := IfMark.mk
        k_dflt k_steps
        all_goals first
          | exact hP _ _ _ _ (sgV_n (take1 (by assumption))).symm (by k_asm) (by walk_at "drop led")
          | exact hP _ _ _ _ (sgV_p (take1n (by assumption))).symm (by k_asm) (by walk_at "drop led"));
      k_whole;
      (intro t9 h9 tk9 F9 N9; have hg9 := sgV_abs ks))
  k_with "m eval IfExp" =>
    (
      (fail_if_success (have : IfMark := by assumption));
      k_here; (with_reducible show wpAny _ _ (eval (Expr.IfExp (Expr.Compare (Expr.Subscript (Expr.Name _ _) _ _) [CmpOp.In] _ _) _ _ _) _) _ _ _);
      k_dflt (refine' cutB (restV ks) ?k1 ?k2 ?h1 ?_; (case k1 => k_asm); (case k2 => k_asm));
      (case h1 =>
        intro P hP
        have hIf := IfMark.mk
        k_dflt k_steps
        all_goals first
          | exact hP _ _ _ _ (rest_s9 (by assumption) (by assumption)) (by k_asm) (by walk_at "drop led")
          | exact hP _ _ _ _ (rest_u9 (by assumption) (by assumption)) (by k_asm) (by walk_at "drop led"));
      k_whole;
      (intro b9 t9 h9 tk9 hb9 F9 N9; have hr9 := rest_len ks))
  k_with "m call ref" =>
    (
      k_here; (with_reducible show wpAny _ _ (call (Value.ref 196) [Value.bytes _ _]) _ _ _);
      k_dflt (refine' ct_use ?k1 ?k2 ?k3 ?k4 ?k5 ?kK (c_base _ _ _ ?ka ?kb ?kc _ _) ?kd ?ku ?_; (case ka => walk_at "b ints"); (case kb => kba_size); (case kc => assumption); walk_at "ct_sides");
      (intro r9 tl9 h9 tk9 F9 N9 hR9; (try dsimp only); (try k_fold)))
  k_with "m call ref" =>
    (
      k_here; (with_reducible show wpAny _ _ (call (Value.ref 203) [Value.int _ _, Value.int _ _, Value.int _ _]) _ _ _);
      k_dflt (refine' ct_use ?k1 ?k2 ?k3 ?k4 ?k5 ?kK (c_tens _ _ _ _ ?ka ?kb _ _ _ _) ?kd ?ku ?_; (case ka => exact figV_abs (by assumption) (by kba_size)); (case kb => assumption); walk_at "ct_sides");
      (intro r9 tl9 h9 tk9 F9 N9 hR9; (try dsimp only); (try k_fold)))
  k_with "m eval IfExp" =>
    (
      (fail_if_success (have : IfMark := by assumption));
      k_here; (with_reducible show wpAny _ _ (eval (Expr.IfExp (Expr.Compare (Expr.Subscript (Expr.Subscript _ _ _) _ _) [CmpOp.In] _ _) _ _ _) _) _ _ _);
      k_dflt (refine' cutB (restV pb) ?k1 ?k2 ?h1 ?_; (case k1 => k_asm); (case k2 => k_asm));
      (case h1 =>
        intro P hP
        have hIf := IfMark.mk
        k_dflt k_steps
        all_goals first
          | exact hP _ _ _ _ (rest_s9 (by assumption) (by assumption)) (by k_asm) (by walk_at "drop led")
          | exact hP _ _ _ _ (rest_u9 (by assumption) (by assumption)) (by k_asm) (by walk_at "drop led"));
      k_whole;
      (intro b9 t9 h9 tk9 hb9 F9 N9; have hr9 := rest_len pb))
  k_with "m eval IfExp" =>
    (
      (fail_if_success (have : IfMark := by assumption));
      k_here; (with_reducible show wpAny _ _ (eval (Expr.IfExp (Expr.Name _ _) _ _ _) _) _ _ _);
      k_dflt (refine' cutI (if pb.take 1 = [45] then 0 - vf else vf) ?k1 ?k2 ?h1 ?_; (case k1 => k_asm); (case k2 => k_asm));
      (case h1 =>
        intro P hP
        have hIf := IfMark.mk
        k_dflt k_steps
        all_goals first
          | exact hP _ _ _ _ (low_t (by assumption)) (by k_asm) (by walk_at "drop led")
          | exact hP _ _ _ _ (low_t' (by assumption)) (by k_asm) (by walk_at "drop led")
          | exact hP _ _ _ _ (low_f' (by assumption)) (by k_asm) (by walk_at "drop led")
          | exact hP _ _ _ _ (low_f (by assumption)) (by k_asm) (by walk_at "drop led"));
      k_whole;
      (have htx := tensX_s hd9); (generalize (if pb.take 1 = [45] then 0 - vf else vf) = tx at htx ⊢);
      (intro t9 h9 tk9 F9 N9))
  k_with "m call ref" =>
    (
      k_here; (with_reducible show wpAny _ _ (call (Value.ref 189) [Value.bytes _ _]) _ _ _);
      k_dflt (refine' ct_use ?k1 ?k2 ?k3 ?k4 ?k5 ?kK (c_lfig _ _ _ ?ka ?kb _ _) ?kd ?ku ?_; (case ka => walk_at "b ints"); (case kb => kba_size); walk_at "ct_sides");
      (intro r9 tl9 h9 tk9 F9 N9 hR9; obtain ⟨e9, hv9⟩ := hR9; subst e9; (try simp only [List.nil_append] at N9));
      (generalize hd9 : figV _ _ = x9 at hv9; rcases x9 with _ | vf);
      (all_goals (first | (replace hv9 : _ = Value.none := hv9; subst hv9) | (obtain ⟨t9, e9⟩ := hv9; subst e9)));
      (all_goals ((try dsimp only); (try k_fold))))
  k_with "m subscriptTail Name Constant ref int" =>
    (
      k_here; (try dsimp only); (with_reducible show wpAny _ _ (subscriptTail _ _ (Value.ref _) (Value.int _ _)) _ _ _);
      k_dflt (refine' k_item ?k1 ?k2 ?k3 ?k4 ?k5 ?_; (case k1 => k_asm); (case k2 => k_mem); (case k3 => decide); (case k4 => decide); (case k5 => exact rfl); k_whole))
  k_with "m binaryOp Mult int int" =>
    (
      k_here; (refine PyProof.Rows.mul_int ?_ (IntMulOk.of_left (bits_g (by assumption)))); (try dsimp only))
  exact trivial
section
variable {ks pa pb pc pd : List Int} {ss : List (List Int)} {v t g : Int} {one : Bool}
theorem due_hash (h : ((UInt8.toNat 35 : Nat) : Int) ∈ ks) : dueV ks = radixV ks (splitV [35] ks).1.length := if_pos h
theorem due_one (h : ¬ ((UInt8.toNat 35 : Nat) : Int) ∈ ks) (hs : splitAll 101 (repV 69 101 (restV ks)) = [pa]) : dueV ks = dueB (sgV ks) (splitAll 46 pa) 0 true := by
  unfold dueV; rw [if_neg (show ¬ (35 : Int) ∈ ks from h), hs]; rfl
theorem due_two (h : ¬ ((UInt8.toNat 35 : Nat) : Int) ∈ ks) (hs : splitAll 101 (repV 69 101 (restV ks)) = [pa, pb]) (hx : tensX pb = some t) : dueV ks = dueB (sgV ks) (splitAll 46 pa) t false := by
  unfold dueV; rw [if_neg (show ¬ (35 : Int) ∈ ks from h), hs]; unfold dueP; dsimp only; rw [hx]
theorem due_twoN (h : ¬ ((UInt8.toNat 35 : Nat) : Int) ∈ ks) (hs : splitAll 101 (repV 69 101 (restV ks)) = [pa, pb]) (hx : figV 10 (restV pb) = none) : dueV ks = .none := by
  unfold dueV; rw [if_neg (show ¬ (35 : Int) ∈ ks from h), hs]; unfold dueP; dsimp only; rw [tensX_n hx]
theorem due_more (h : ¬ ((UInt8.toNat 35 : Nat) : Int) ∈ ks) (hs : 3 ≤ (splitAll 101 (repV 69 101 (restV ks))).length) : dueV ks = .none := by
  unfold dueV; rw [if_neg (show ¬ (35 : Int) ∈ ks from h)]
  match hl : splitAll 101 (repV 69 101 (restV ks)), hs with
  | [], hs => simp at hs
  | [_], hs => simp at hs
  | [_, _], hs => simp at hs
  | _ :: _ :: _ :: _, _ => rfl
theorem B_n (h : figV 10 ss.flatten = none) : dueB g ss t one = .none := by unfold dueB; rw [h]
theorem B1_n (hs : splitAll 46 pa = [pc]) (h : figV 10 pc = none) : dueB g (splitAll 46 pa) t one = .none := by rw [hs]; exact B_n (by simpa using h)
theorem B2_n (hs : splitAll 46 pa = [pc, pd]) (h : figV 10 (pc ++ pd) = none) : dueB g (splitAll 46 pa) t one = .none := by rw [hs]; exact B_n (by simpa using h)
theorem Bm (hs : 3 ≤ (splitAll 46 pa).length) : dueB g (splitAll 46 pa) t one = .none := by
  unfold dueB
  cases figV 10 (splitAll 46 pa).flatten with
  | none => rfl
  | some v => dsimp only; rw [if_pos (by omega)]
theorem B2_s (hs : splitAll 46 pa = [pc, pd]) (h : figV 10 (pc ++ pd) = some v) : dueB g (splitAll 46 pa) t one = tensV v (t - (pd.length : Int)) g := by
  rw [hs]; unfold dueB
  rw [show [pc, pd].flatten = pc ++ pd by simp, h]
  dsimp only
  rw [if_neg (by simp), if_neg (by simp)]; rfl
theorem B1_s (hs : splitAll 46 pa = [pc]) (h : figV 10 pc = some v) : dueB g (splitAll 46 pa) t false = tensV v (t - 0) g := by
  rw [hs]; unfold dueB
  rw [show [pc].flatten = pc by simp, h]
  dsimp only
  rw [if_neg (by simp), if_neg (by simp)]; rfl
theorem B1_i (hs : splitAll 46 pa = [pc]) (h : figV 10 pc = some v) (h1 : -2 ^ Int.toNat 31 ≤ g * v) (h2 : g * v < 2 ^ Int.toNat 31) : dueB g (splitAll 46 pa) t true = .int (g * v) := by
  rw [hs]; unfold dueB
  rw [show [pc].flatten = pc by simp, h]
  dsimp only
  rw [if_neg (by simp), if_pos ⟨rfl, rfl, h1, h2⟩]
theorem B1_t (hs : splitAll 46 pa = [pc]) (h : figV 10 pc = some v) (h1 : ¬ -2 ^ Int.toNat 31 ≤ g * v ∨ ¬ g * v < 2 ^ Int.toNat 31) : dueB g (splitAll 46 pa) t true = tensV v (t - 0) g := by
  rw [hs]; unfold dueB
  rw [show [pc].flatten = pc by simp, h]
  dsimp only
  rw [if_neg (by simp), if_neg (fun q => h1.elim (fun z => z q.2.2.1) (fun z => z q.2.2.2))]; rfl
end
theorem led_mid2 {h₀ h : Heap} {L : Addr} {tl news : Led} {x y : Addr × Obj} (N : News h₀ L h (tl ++ x :: y :: news)) : News h₀ L h (tl ++ news) :=
  fun p hp => N p ((List.mem_append.mp hp).elim (List.mem_append_left _) fun hp => List.mem_append_right _ (.tail _ (.tail _ hp)))
theorem c_due (w : World) (b : Array UInt8) (ks : List Int) (hb : bInts b = ks) (hlen : ks.length ≤ 99) (t : Tok) (news : Led) : Ct w 210 12 [.bytes b t] news (fun r tl => ToldIs r tl (dueV ks)) := by
  unfold Ct
  intro p loose mean mg mb dp un gd cn cs a ccd cl outer A₀ bas h₀ L m s Q E B F X N T hk hdp hun hret
  refine wpAny_call ?_
  k_dflt cell_enter
  k_steps
  all_goals first
    | (refine hret _ _ _ _ (by k_asm) (by assumption) ?_
       rw [due_hash (by assumption)]; assumption)
    | (refine hret _ [] _ _ (by k_asm) (by walk_at "drop led") ?_
       first
         | (rw [due_more (by assumption) (by assumption)]; exact ⟨rfl, rfl⟩)
         | (rw [due_twoN (by assumption) (by assumption) (by assumption)]; exact ⟨rfl, rfl⟩)
         | (rw [due_one (by assumption) (by assumption), B1_n (by assumption) (by assumption)]; exact ⟨rfl, rfl⟩)
         | (rw [due_one (by assumption) (by assumption), B2_n (by assumption) (by assumption)]; exact ⟨rfl, rfl⟩)
         | (rw [due_one (by assumption) (by assumption), Bm (by assumption)]; exact ⟨rfl, rfl⟩)
         | (rw [due_two (by assumption) (by assumption) (by assumption), B1_n (by assumption) (by assumption)]; exact ⟨rfl, rfl⟩)
         | (rw [due_two (by assumption) (by assumption) (by assumption), B2_n (by assumption) (by assumption)]; exact ⟨rfl, rfl⟩)
         | (rw [due_two (by assumption) (by assumption) (by assumption), Bm (by assumption)]; exact ⟨rfl, rfl⟩))
    | (refine hret _ [_] _ _ (by k_asm) (led_top2 (by assumption)) ?_
       rw [due_one (by assumption) (by assumption), B1_i (by assumption) (by assumption) (by assumption) (by assumption)]; exact ⟨_, _, _, rfl, rfl⟩)
    | (refine hret _ _ _ _ (by k_asm) (led_mid2 (by assumption)) ?_
       first
         | (rw [due_one (by assumption) (by assumption), B1_t (by assumption) (by assumption) (Or.inl (by assumption))]; assumption)
         | (rw [due_one (by assumption) (by assumption), B1_t (by assumption) (by assumption) (Or.inr (by assumption))]; assumption)
         | (rw [due_one (by assumption) (by assumption), B2_s (by assumption) (by assumption)]; assumption)
         | (rw [due_two (by assumption) (by assumption) (by assumption), B1_s (by assumption) (by assumption)]; assumption)
         | (rw [due_two (by assumption) (by assumption) (by assumption), B2_s (by assumption) (by assumption)]; assumption))
end Mine
namespace Mine
open PySem PySem.W PyProof.Rows PySem.Calls
open KBw (bInts)
theorem fillme18 : PySem.Challenge.rw_nt0488_01 = PySem.Challenge.rw_nt0488_01 ∧ hd.heap_39 = hd.heap_39 := by
  k_with_none
  w_top off
  k_fill
  exact ⟨rfl, rfl⟩
local macro_rules | `(tactic| walk_at $s:str) => `(tactic| k_extra $(Lean.Syntax.mkStrLit ("m " ++ s.getString)))
theorem words_U5_1 : True := by
  k_with "m led ne" =>
    first
      | exact List.forall_mem_nil _
      | (refine' List.forall_mem_cons.mpr ⟨?a, ?b⟩; (case a => k_ne); (case b => walk_at "led ne"))
      | (refine' List.forall_mem_append.mpr ⟨?a, ?b⟩; (case a => walk_at "led ne"); (case b => walk_at "led ne"))
      | (refine led_ne (by assumption) ?_; omega)
      | (refine led_ne' (by assumption) ?_; omega)
  k_with "m ct_sides" =>
    (
      (case k1 => k_asm); (case k2 => k_asm); (case k3 => k_asm); (case k4 => k_asm); (case k5 => k_asm); (case kK => first | exact rfl | assumption); (case kd => ktr_room); (case ku => ktr_units))
  k_with "m drop led" =>
    first
      | k_asm
      | (refine cb_drop (by with_reducible assumption) ?_; intro p hp; first
          | exact .tail _ hp
          | exact .tail _ (.tail _ hp)
          | exact .tail _ (.tail _ (.tail _ hp))
          | exact .tail _ (.tail _ (.tail _ (.tail _ hp)))
          | exact .tail _ (.tail _ (.tail _ (.tail _ (.tail _ hp))))
          | exact List.mem_append_left _ hp
          | exact List.mem_append_right _ hp
          | (simp only [List.nil_append, List.cons_append, List.mem_append, List.mem_cons] at hp ⊢; grind))
      | exact led_top (by assumption)
  k_with "m b ints" =>
    first | kba_ints2 | exact rfl
  k_with "m compareOp In bytes ref" =>
    (
      k_here; (with_reducible show wpAny _ _ (compareOp CmpOp.In (Value.bytes _ _) (Value.ref _)) _ _ _);
      (refine' in_tupI ?k1 ?k2 ?k3 ?k4 ?_; (case k1 => exact News.get (by k_asm) (by k_mem)); (case k2 => walk_at "b ints"); (case k3 => exact rfl); (case k4 => exact rfl); k_whole))
  k_with "m compareOp Eq bytes bytes" =>
    (
      k_here; (refine' eq_bytesI ?k1 ?k2 ?_; (case k1 => walk_at "b ints"); (case k2 => walk_at "b ints"); k_whole))
  k_with "m compareOp In int bytes" =>
    (
      k_here; (refine' in_intI ?k0 ?k1 ?k2 ?_; (case k0 => omega); (case k1 => omega); (case k2 => walk_at "b ints"); k_whole))
  exact trivial
abbrev DkIs (w : World) (o : Obj) (C : Addr) (mx : Int) (tm : Tok) : Prop := Obj.IsDictOf (PySem.strKind PG w) o [(Str.ofString "cells", Value.ref C), (Str.ofString "mixed", Value.int mx tm)]
structure DkOk (vs : List Value) (ns : List Int) (mx : Int) : Prop where
  fI : IntsAre vs ns
  fL : vs.length ≤ 40
  fLo : 0 ≤ mx
  fHi : mx < 2147483647
abbrev CtK (w : World) (f : Addr) (k : Nat) (as : Addr → List Value) (news : Led) (R : Value → Led → Prop) : Prop :=
  ∀ (p : Program) (loose : List Str) (mean : ExcName → Option Value) (mg mb : Str → Option Value)
    (dp un : Nat) (gd : Option (List Code)) (cn : Str) (cs : Scope) (a : Addr) (ccd : Value) (cl : List (Str × Addr)) (outer : List Env) (A₀ : Around)
    (base h₀ : Heap) (L : Addr) (m : Str → Option Value) (s : Shared) (Q E : Value → Shared → Prop)
    (D C : Addr) (o : Obj) (tm : Tok) (nn : Nat) (vs : List Value) (ns : List Int) (mx : Int),
    DkOk vs ns mx → DkIs w o C mx tm → (D == sysModules) = false → (@Ne Nat D C) → (∀ q ∈ news, q.1 ≠ C) → (∀ q ∈ news, q.1 ≠ D) →
    Below A₀ base outer h₀ → Fr h₀ L s.heap m → (hd.heap_39 w.params).In h₀ → News h₀ L s.heap ((D, o) :: (C, listOf vs.toArray nn) :: news) → Top p loose mean mg mb h₀ → cs.kind = .function →
    dp + k < recursionLimit → un + 8 * k < cLine →
    (∀ r tl h' tk' o' tm' nn' vs' ns' mx', DkOk vs' ns' mx' → DkIs w o' C mx' tm' → Fr h₀ L h' m → News h₀ L h' (tl ++ (D, o') :: (C, listOf vs'.toArray nn') :: news) → R r tl → Q r { s with heap := h', toks := tk' }) →
    wpAny (model PG w) (ktrTop dp un gd cn cs L a ccd cl outer) (call (.ref f) (as D)) Q E s
local macro_rules | `(tactic| k_all) => `(tactic| assumption)
theorem words_U5_2 : True := by
  k_with "m subscriptTail Name Constant ref str" =>
    (
      k_here; k_dflt (refine' kda_item (knd := PySem.strKind _ _) ?k1 ?k2 ?k3 (strKind_is _ _ _ _) ?k4 ?_; (case k1 => k_asm); (case k2 => k_mem); (case k3 => assumption); (case k4 => rfl); k_whole); (try dsimp only))
  k_with "m setItem ref str" =>
    (
      k_here; k_dflt (refine' kda_set (knd := PySem.strKind _ _) ?k1 ?k2 ?k3 ?k4 (strKind_is _ _ _ _) ?k5 ?_; (case k1 => k_asm); (case k2 => k_asm); (case k3 => k_updF); (case k4 => assumption); (case k5 => exact Nat.le_of_ble_eq_true rfl); k_whole); (intro h' o' F' N' hd'; (try dsimp only at N'); (replace hd' : Obj.IsDictOf (PySem.strKind _ _) _ [(Str.ofString "cells", _), (Str.ofString "mixed", Value.int _ _)] := hd'); (try k_sweep)))
  k_with "m compareOp NotEq ref ref" =>
    (
      k_here; (with_reducible show wpAny _ _ (compareOp CmpOp.NotEq (Value.ref _) (Value.ref _)) _ _ _);
      k_dflt (refine' ke_ne_ints ?k1 ?k2 ?k3 ?k4 ?k5 ?_; (case k1 => exact News.isList (by k_asm) (by k_mem)); (case k2 => exact News.isList (by k_asm) (by k_mem)); (case k3 => first | assumption | exact IntsAre.nil); (case k4 => exact IntsAre.nil); (case k5 => ke_room); k_whole); ke_norm)
  exact trivial
theorem fmod_eq (a : Int) {b : Int} (h : 0 ≤ b) : a.fmod b = a % b := Int.fmod_eq_emod_of_nonneg _ h
theorem News.drop1 {g h : Heap} {L : Addr} {p : Addr × Obj} {news : Led} (N : PyProof.Rows.News g L h (p :: news)) : PyProof.Rows.News g L h news :=
  fun r hr => N r (.tail _ hr)
theorem c_draw (w : World) (many : Int) (h1 : 1 ≤ many) (h2 : many ≤ 10000000000000000) (t : Tok) (news : Led) : CtK w 158 10 (fun D => [.ref D, .int many t]) news (fun r tl => tl = [] ∧ ∃ v t', r = .int v t' ∧ 0 ≤ v ∧ v < many) := by
  unfold CtK
  intro p loose mean mg mb dp un gd cn cs a ccd cl outer A₀ bas h₀ L m s Q E D C o tm nn vs ns mx ok hDk lo hDC hnC hnD B F X N T hk hdp hun hret
  obtain ⟨hI, hlen, hlo, hhi⟩ := ok
  have hlen2 := hI.length
  have hm0 : many ≠ 0 := by omega
  by_cases hne : ns = []
  · subst hne
    cases hI
    refine wpAny_call ?_
    k_dflt cell_enter
    k_steps
    refine hret _ [] _ _ _ _ _ [] [] _ ?_ (by assumption) (by k_asm) (News.drop1 (by assumption)) ⟨rfl, _, _, rfl, ?_, ?_⟩
    · exact ⟨.nil, by simp, by rw [fmod_eq _ (by decide)]; omega, by rw [fmod_eq _ (by decide)]; omega⟩
    · rw [fmod_eq _ (by omega)]; exact Int.emod_nonneg _ hm0
    · rw [fmod_eq _ (by omega)]; exact Int.emod_lt_of_pos _ (by omega)
  · have hpos : 0 < vs.length := by
      rw [hI.length]; exact List.length_pos_iff.mpr hne
    refine wpAny_call ?_
    k_dflt cell_enter
    k_steps
    refine hret _ [] _ _ _ _ _ vs.dropLast ns.dropLast _ ?_ hDk (by k_asm) (News.drop1 (by assumption)) ⟨rfl, _, _, rfl, ?_, ?_⟩
    · exact ⟨by assumption, by rw [List.length_dropLast]; omega, hlo, hhi⟩
    · rw [fmod_eq _ (by omega)]; exact Int.emod_nonneg _ hm0
    · rw [fmod_eq _ (by omega)]; exact Int.emod_lt_of_pos _ (by omega)
end Mine
namespace Mine
open PySem PySem.W PyProof.Rows PySem.Calls
open KBw (bInts)
theorem fillme19 : PySem.Challenge.rw_nt0488_01 = PySem.Challenge.rw_nt0488_01 ∧ hd.heap_39 = hd.heap_39 := by
  k_with_none
  w_top off
  k_fill
  exact ⟨rfl, rfl⟩
local macro_rules | `(tactic| walk_at $s:str) => `(tactic| k_extra $(Lean.Syntax.mkStrLit ("m " ++ s.getString)))
theorem words_U6_1 : True := by
  k_with "m led ne" =>
    first
      | exact List.forall_mem_nil _
      | (refine' List.forall_mem_cons.mpr ⟨?a, ?b⟩; (case a => k_ne); (case b => walk_at "led ne"))
      | (refine' List.forall_mem_append.mpr ⟨?a, ?b⟩; (case a => walk_at "led ne"); (case b => walk_at "led ne"))
      | (refine led_ne (by assumption) ?_; omega)
      | (refine led_ne' (by assumption) ?_; omega)
  k_with "m ct_sides" =>
    (
      (case k1 => k_asm); (case k2 => k_asm); (case k3 => k_asm); (case k4 => k_asm); (case k5 => k_asm); (case kK => first | exact rfl | assumption); (case kd => ktr_room); (case ku => ktr_units))
  k_with "m drop led" =>
    first
      | k_asm
      | (refine cb_drop (by with_reducible assumption) ?_; intro p hp; first
          | exact .tail _ hp
          | exact .tail _ (.tail _ hp)
          | exact .tail _ (.tail _ (.tail _ hp))
          | exact .tail _ (.tail _ (.tail _ (.tail _ hp)))
          | exact .tail _ (.tail _ (.tail _ (.tail _ (.tail _ hp))))
          | exact List.mem_append_left _ hp
          | exact List.mem_append_right _ hp
          | (simp only [List.nil_append, List.cons_append, List.mem_append, List.mem_cons] at hp ⊢; grind))
      | exact led_top (by assumption)
  k_with "m b ints" =>
    first | kba_ints2 | exact rfl
  k_with "m compareOp In bytes ref" =>
    (
      k_here; (with_reducible show wpAny _ _ (compareOp CmpOp.In (Value.bytes _ _) (Value.ref _)) _ _ _);
      (refine' in_tupI ?k1 ?k2 ?k3 ?k4 ?_; (case k1 => exact News.get (by k_asm) (by k_mem)); (case k2 => walk_at "b ints"); (case k3 => exact rfl); (case k4 => exact rfl); k_whole))
  k_with "m compareOp Eq bytes bytes" =>
    (
      k_here; (refine' eq_bytesI ?k1 ?k2 ?_; (case k1 => walk_at "b ints"); (case k2 => walk_at "b ints"); k_whole))
  k_with "m compareOp In int bytes" =>
    (
      k_here; (refine' in_intI ?k0 ?k1 ?k2 ?_; (case k0 => omega); (case k1 => omega); (case k2 => walk_at "b ints"); k_whole))
  exact trivial
section
variable {prog : Program} {w : World} {A : Around} {E : Value → Shared → Prop} {s : Shared} {h₀ : Heap} {L : Addr} {m : Str → Option Value} {env : Env}
theorem iter_strS {x : Str} {t : Tok} {Q : Value → Shared → Prop}
    (hQ : ∀ (o : Obj) (St : Nat → Heap → Prop), (∀ A' : Around, A'.handled = none → Walks prog w A' s.heap.objs.size [s.heap.objs.size] [s.heap.objs.size] x.cps.size (SignAt x) St) → St 0 (s.heap.push o) →
      (∀ i h, St i h → ∃ o, h.get? s.heap.objs.size = some o) → (∀ i h h' o, St i h → h.get? s.heap.objs.size = some o → h'.get? s.heap.objs.size = some o → St i h') →
      Q (.ref s.heap.objs.size) { s with heap := s.heap.push o }) : wpAny (model prog w) A (pyIter (.str x t)) Q E s := by
  cases ha : x.cps.all (· < 128)
  · exact wpAny_pyIter_wide ha (hQ _ _ (fun A' hA => Walks.strWide hA _ x t) ⟨_, Heap.get?_push_size _ rfl, rfl, rfl⟩ (fun i h st => let ⟨o, e, _⟩ := st; ⟨o, e⟩) (fun i h h' o st e1 e2 => by
      obtain ⟨o', e, r⟩ := st
      have : o = o' := by rw [e] at e1; injection e1 with e1; exact e1.symm
      subst this; exact ⟨o, e2, r⟩))
  · exact wpAny_pyIter_ascii ha (hQ _ _ (fun A' hA => Walks.strAscii hA _ x t) ⟨_, Heap.get?_push_size _ rfl, rfl, rfl⟩ (fun i h st => let ⟨o, e, _⟩ := st; ⟨o, e⟩) (fun i h h' o st e1 e2 => by
      obtain ⟨o', e, r⟩ := st
      have : o = o' := by rw [e] at e1; injection e1 with e1; exact e1.symm
      subst this; exact ⟨o, e2, r⟩))
def SrcST (prog : Program) (w : World) (A : Around) (h₀ : Heap) (L : Addr) (m : Str → Option Value) (env : Env) (elt : Expr) (x : Str) (scope : Scope) (cl : List (Str × Addr)) (Fin : Shared → List Value → List (Addr × Obj) → Prop) (xv : Value) (s₁ : Shared) : Prop :=
  ∃ b t news, xv = .str b t ∧ A.handled = none ∧ Fr h₀ L s₁.heap m ∧ News h₀ L s₁.heap news ∧ b.cps.size ≤ 1000 ∧
    ∀ s₂ : Shared, (∃ h, s₂ = { s₁ with heap := h }) → LCg.CompRest prog w A h₀ L m env elt x scope cl s₂ (fun _ => True) (SignAt b) (Fin s₂) b.cps.size 0 [] news
theorem ListComp_ST {elt iter : Expr} {x : Str} {px : Pos} {scope : Scope} {cl : List (Str × Addr)} {pos : Pos} {Q : Value → Shared → Prop} (F₀ : Fr h₀ L s.heap m)
    (hclos : closureFor scope env = pure cl) (hcell : ∀ y ∈ scope.names, y.2 ≠ .cell) (hkind : scope.kind = .function)
    (hnames : ∀ y ∈ scope.names, y.2 = .local → scope.names.lookup y.1 = some .local) (hx : scope.names.lookup x = some .local)
    (h : wpAny (model prog w) A (eval iter env) (SrcST prog w A h₀ L m env elt x scope cl (fun s₂ => LCg.FinE h₀ L m s₂ Q)) E s)
    (hs : ∀ x, foldedSetIterable iter env x = pure x := by intro _; rfl) :
    wpAny (model prog w) A (eval (.ListComp elt [⟨.Name x px, iter, [], 0⟩] scope pos) env) Q E s := by
  rw [eval_ListComp]
  refine wpAny_comprehension_free (use := none) rfl hs hclos hkind hnames (wpAny_mono h (fun xv s₁ h₁ => ?_) fun _ _ e => e)
  obtain ⟨b, t, news, rfl, hh, F, N, hsz, R⟩ := h₁
  refine iter_strS fun o St hW hst hIo hSt => ?_
  refine LCg.block_U (hW _ hh) (by rw [sizeLine_eq]; omega) hIo (fun i h h' o nw st e1 e2 _ _ _ => hSt i h h' o st e1 e2)
    hcell hkind hx hst (fun b hb => ?_)
    (F.keeps fun _ _ e => Heap.get?_push_of_some _ e) (N.grown fun _ _ e => Heap.get?_push_of_some _ e) (Nat.ne_of_lt F.ns.lt) (next_is_new F) (fun p hp => Nat.ne_of_lt (Heap.lt_size (N p hp).1)) trivial (R _ ⟨_, rfl⟩) ?_
  · rw [List.mem_singleton.mp hb]
    show s₁.heap.objs.size < (s₁.heap.push _).objs.size
    rw [Heap.size_push]; exact Nat.lt_succ_self _
  · intro D C h tk m' ys news' F' N' o1 hn hC₀ hD₀ hCL hDL hCD offC fin
    refine ⟨m', hn, fun h'' hs'' => fin D h'' tk (F'.change hs'' hCL hC₀) (fun p hp => ?_) o1⟩
    refine ⟨hs''.extBut _ _ ?_ (N' p hp).1, (N' p hp).2⟩
    rcases List.mem_cons.mp hp with rfl | hp
    · exact Ne.symm hCD
    · exact offC p hp
def OrdEl (news : Led) (k : Nat) (y : Value) (news' : Led) : Prop := news' = news ∧ ∃ t : Tok, y = .int (k : Int) t
def cInts (b : Str) : List Int := b.cps.toList.map fun k : Nat => (k : Int)
theorem SrcST.intro {elt : Expr} {x : Str} {scope : Scope} {cl : List (Str × Addr)} {Fin : Shared → List Value → List (Addr × Obj) → Prop} {b : Str} {t : Tok} {news : Led}
    (hz : b.cps.size ≤ 1000) (hh : A.handled = none) (F : Fr h₀ L s.heap m) (N : News h₀ L s.heap news)
    (turn : ∀ (g : Heap) k t I oI C oC D m₂ ys h tk (E' : Value → Shared → Prop), LCg.NsObj oC m₂ → m₂ x = some (.str ⟨#[k]⟩ t) → Fr h₀ L h m → News h₀ L h ((I, oI) :: (C, oC) :: (D, LCg.lst ys) :: news) → LCg.Off3 I C D news → ((@Ne Nat I C) ∧ (@Ne Nat I D) ∧ (@Ne Nat C D)) →
      wpAny (model prog w) A (eval elt (compEnvC scope cl C env)) (LCg.CompEnd h₀ L m { s with heap := h, toks := tk } I oI C oC D (LCg.lst ys) (fun _ => True) (fun y news' => OrdEl news k y news')) E' { s with heap := h, toks := tk })
    (fin : ∀ (g : Heap) ys, IntsAre ys (cInts b) → Fin { s with heap := g } ys news) : SrcST prog w A h₀ L m env elt x scope cl Fin (.str b t) s := by
  refine ⟨b, t, news, rfl, hh, F, N, hz, fun s₂ ⟨g, e⟩ => ?_⟩
  subst e
  have key : ∀ (j i : Nat) (ys : List Value), i + j = b.cps.size → IntsAre ys ((cInts b).take i) → LCg.CompRest prog w A h₀ L m env elt x scope cl { s with heap := g } (fun _ => True) (SignAt b) (Fin { s with heap := g }) j i ys news := by
    intro j
    induction j with
    | zero =>
      intro i ys hi hy
      have e : i = (cInts b).length := by unfold cInts; rw [List.length_map, Array.length_toList]; omega
      subst e
      rw [List.take_length] at hy
      exact LCg.CompRest.zero (fin g ys hy)
    | succ j ih =>
      intro i ys hi hy
      refine LCg.CompRest.succ ?_
      intro v I oI C oC D m₂ h tk E' hv hC hx F N off ne
      obtain ⟨k, t, hk, hv'⟩ := hv
      rw [hv'] at hx
      refine wpAny_mono (turn g k t I oI C oC D m₂ ys h tk E' hC hx F N off ne) (fun y s₂ hq => ?_) fun _ _ e => e
      obtain ⟨h', tk', nw, e, F', N', off', hS, hn, t', hy'⟩ := hq
      rw [hn] at N' off'
      refine ⟨h', tk', news, e, F', N', off', trivial, ?_⟩
      rw [hy']
      refine ih (i + 1) _ (by omega) ?_
      have hk' : (cInts b)[i]? = some (k : Int) := by unfold cInts; rw [List.getElem?_map, Array.getElem?_toList, hk]; rfl
      rw [List.take_add_one, hk']
      simpa using IntsAre.append hy (.cons (k : Int) t' .nil)
  exact key b.cps.size 0 [] (by omega) (by simp only [List.take_zero]; exact .nil)
end
theorem num_len {n : Int} (h0 : 0 ≤ n) (h1 : n < 10000000000000000) : (Str.ofString (toString n)).cps.size ≤ 16 := toString_length_le h0 (k := 16) (by decide) h1
theorem num_codes {n : Int} (h0 : 0 ≤ n) (h1 : n < 10000000000000000) : KBa.In (cInts (Str.ofString (toString n))) ∧ (cInts (Str.ofString (toString n))).length ≤ 16 := by
  obtain ⟨k, rfl⟩ := Int.eq_ofNat_of_zero_le h0
  have e : (Str.ofString (toString ((k : Nat) : Int))).cps.toList = (Nat.toDigits 10 k).map Char.toNat := PySem.W.KIN.signs_num k
  unfold cInts
  rw [e]
  refine ⟨?_, ?_⟩
  · intro v hv
    obtain ⟨c, hc, rfl⟩ := List.mem_map.mp hv
    obtain ⟨ch, hch, rfl⟩ := List.mem_map.mp hc
    have r := PyProof.Rows.digit_range (Nat.isDigit_of_mem_toDigits (by decide) (by decide) hch)
    omega
  · rw [List.length_map, ← e, Array.length_toList]
    exact num_len h0 h1
theorem num_size {n : Int} (h0 : 0 ≤ n) (h1 : n < 10000000000000000) : (Str.ofString (toString n)).cps.size ≤ 1000 := Nat.le_trans (num_len h0 h1) (by decide)
theorem words_U6_2 : True := by
  k_with "m eval ListComp" =>
    (k_here; k_dflt (refine ListComp_ST (F₀ := by k_asm) (by with_unfolding_all rfl) (by decide) (by rfl) (by decide) (by rfl) ?_))
  k_with "m SrcST" =>
    (k_here; k_dflt (
      (refine' SrcST.intro ?k2 ?k3 ?k4 ?k5 (fun g' k' t' I' oI' C' oC' D' m' ys' h' tk' E' hC' hx' F' N' off' ne' => ?_) ?_);
      (case k2 => exact num_size (by assumption) (by assumption)); (case k3 => rfl); (case k4 => k_asm); (case k5 => k_asm);
      (all_goals (try (simp only [LCg.Off3, and_true] at off')))))
  k_with "m CompEnd" =>
    (k_dflt (refine LCg.CompEnd.intro (by assumption) (by assumption) _ (fun _ hp => hp) (by assumption) trivial ?_); exact ⟨rfl, _, rfl⟩)
  k_with "m call type:bytes" =>
    (
      k_here; (with_reducible show wpAny _ _ (call (Value.type "bytes") [Value.ref _]) _ _ _);
      k_dflt (refine' KBa.make_K ?k1 ?k2 ?k3 ?k4 ?k5 ?k6 ?k7 ?_; (case k1 => k_asm); (case k2 => k_asm); (case k3 => rfl); (case k4 => exact News.isList (by k_asm) (by k_mem)); (case k5 => assumption); (case k6 => exact (num_codes (by assumption) (by assumption)).1); (case k7 => exact Nat.le_trans (num_codes (by assumption) (by assumption)).2 (by decide)); k_whole);
      intro h9 t9 tk9 F9 N9 i9; (try dsimp only); (try k_fold))
  exact trivial
theorem c_octets (w : World) (n : Int) (h0 : 0 ≤ n) (h1 : n < 10000000000000000) (t : Tok) (news : Led) : Ct w 163 10 [.int n t] news (fun r tl => tl = [] ∧ ∃ b t', r = .bytes b t' ∧ (bInts b).length ≤ 16) := by
  unfold Ct
  intro p loose mean mg mb dp un gd cn cs a ccd cl outer A₀ bas h₀ L m s Q E B F X N T hk hdp hun hret
  refine wpAny_call ?_
  k_dflt cell_enter
  k_steps
  refine hret _ [] _ _ (by k_asm) (News.drop1 (by assumption)) ⟨rfl, _, _, rfl, ?_⟩
  rw [KBa.ints_make (by assumption)]
  exact (num_codes h0 h1).2
end Mine
namespace Mine
open PySem PySem.W PyProof.Rows PySem.Calls
open KBw (bInts)
theorem fillme20 : PySem.Challenge.rw_nt0488_01 = PySem.Challenge.rw_nt0488_01 ∧ hd.heap_39 = hd.heap_39 := by
  k_with_none
  w_top off
  k_fill
  exact ⟨rfl, rfl⟩
local macro_rules | `(tactic| walk_at $s:str) => `(tactic| k_extra $(Lean.Syntax.mkStrLit ("m " ++ s.getString)))
theorem words_U7_1 : True := by
  k_with "m led ne" =>
    first
      | exact List.forall_mem_nil _
      | (refine' List.forall_mem_cons.mpr ⟨?a, ?b⟩; (case a => k_ne); (case b => walk_at "led ne"))
      | (refine' List.forall_mem_append.mpr ⟨?a, ?b⟩; (case a => walk_at "led ne"); (case b => walk_at "led ne"))
      | (refine led_ne (by assumption) ?_; omega)
      | (refine led_ne' (by assumption) ?_; omega)
  k_with "m ct_sides" =>
    (
      (case k1 => k_asm); (case k2 => k_asm); (case k3 => k_asm); (case k4 => k_asm); (case k5 => k_asm); (case kK => first | exact rfl | assumption); (case kd => ktr_room); (case ku => ktr_units))
  k_with "m drop led" =>
    first
      | k_asm
      | (refine cb_drop (by with_reducible assumption) ?_; intro p hp; first
          | exact .tail _ hp
          | exact .tail _ (.tail _ hp)
          | exact .tail _ (.tail _ (.tail _ hp))
          | exact .tail _ (.tail _ (.tail _ (.tail _ hp)))
          | exact .tail _ (.tail _ (.tail _ (.tail _ (.tail _ hp))))
          | exact List.mem_append_left _ hp
          | exact List.mem_append_right _ hp
          | (simp only [List.nil_append, List.cons_append, List.mem_append, List.mem_cons] at hp ⊢; grind))
      | exact led_top (by assumption)
  k_with "m b ints" =>
    first | kba_ints2 | exact rfl
  k_with "m compareOp In bytes ref" =>
    (
      k_here; (with_reducible show wpAny _ _ (compareOp CmpOp.In (Value.bytes _ _) (Value.ref _)) _ _ _);
      (refine' in_tupI ?k1 ?k2 ?k3 ?k4 ?_; (case k1 => exact News.get (by k_asm) (by k_mem)); (case k2 => walk_at "b ints"); (case k3 => exact rfl); (case k4 => exact rfl); k_whole))
  k_with "m compareOp Eq bytes bytes" =>
    (
      k_here; (refine' eq_bytesI ?k1 ?k2 ?_; (case k1 => walk_at "b ints"); (case k2 => walk_at "b ints"); k_whole))
  k_with "m compareOp In int bytes" =>
    (
      k_here; (refine' in_intI ?k0 ?k1 ?k2 ?_; (case k0 => omega); (case k1 => omega); (case k2 => walk_at "b ints"); k_whole))
  exact trivial
inductive Pull (D C : Addr) (o c : Obj) : Led → Led → Prop
  | here {r} : Pull D C o c ((D, o) :: (C, c) :: r) r
  | skip {p l r} : Pull D C o c l r → Pull D C o c (p :: l) (p :: r)
theorem Pull.sub {D C : Addr} {o c : Obj} : ∀ {l r : Led}, Pull D C o c l r → ∀ q ∈ (D, o) :: (C, c) :: r, q ∈ l
  | _, _, .here, q, h => h
  | _, _, .skip p, q, h => by
    rcases List.mem_cons.mp h with rfl | h
    · exact .tail _ (p.sub _ (.head _))
    · rcases List.mem_cons.mp h with rfl | h
      · exact .tail _ (p.sub _ (.tail _ (.head _)))
      · rcases List.mem_cons.mp h with rfl | h
        · exact .head _
        · exact .tail _ (p.sub _ (.tail _ (.tail _ h)))
section
variable {w : World} {l news : Led} {p : Program} {loose : List Str} {mean : ExcName → Option Value} {mg mb : Str → Option Value}
    {dp un : Nat} {gd : Option (List Code)} {cn : Str} {cs : Scope} {a : Addr} {ccd : Value} {cl : List (Str × Addr)} {outer : List Env} {A₀ : Around}
    {base h₀ : Heap} {L : Addr} {m : Str → Option Value} {s : Shared} {Q E : Value → Shared → Prop}
    {D C : Addr} {o : Obj} {tm : Tok} {nn : Nat} {vs : List Value} {ns : List Int} {mx : Int}
theorem dk_use {f : Addr} {k : Nat} {as : Addr → List Value} {R : Value → Led → Prop} (Cc : CtK w f k as news R)
    (N : News h₀ L s.heap l) (P : Pull D C o (listOf vs.toArray nn) l news) (ok : DkOk vs ns mx) (hDk : DkIs w o C mx tm) (lo : (D == sysModules) = false) (hDC : @Ne Nat D C) (hnC : ∀ q ∈ news, q.1 ≠ C) (hnD : ∀ q ∈ news, q.1 ≠ D)
    (B : Below A₀ base outer h₀) (F : Fr h₀ L s.heap m) (X : (hd.heap_39 w.params).In h₀) (T : Top p loose mean mg mb h₀) (hk : cs.kind = .function) (hdp : dp + k < recursionLimit) (hun : un + 8 * k < cLine)
    (ret : ∀ r tl h' tk' o' tm' nn' vs' ns' mx', DkOk vs' ns' mx' → DkIs w o' C mx' tm' → Fr h₀ L h' m → News h₀ L h' (tl ++ (D, o') :: (C, listOf vs'.toArray nn') :: news) → R r tl → Q r { s with heap := h', toks := tk' }) :
    wpAny (model PG w) (ktrTop dp un gd cn cs L a ccd cl outer) (call (.ref f) (as D)) Q E s :=
  Cc _ _ _ _ _ _ _ _ _ _ _ _ _ _ _ _ _ _ _ _ _ _ D C o tm nn vs ns mx ok hDk lo hDC hnC hnD B F X (fun q hq => N q (P.sub q hq)) T hk hdp hun ret
theorem dk_draw {many : Int} {t : Tok} (h1 : 1 ≤ many) (h2 : many ≤ 10000000000000000)
    (N : News h₀ L s.heap l) (P : Pull D C o (listOf vs.toArray nn) l news) (ok : DkOk vs ns mx) (hDk : DkIs w o C mx tm) (lo : (D == sysModules) = false) (hDC : @Ne Nat D C) (hnC : ∀ q ∈ news, q.1 ≠ C) (hnD : ∀ q ∈ news, q.1 ≠ D)
    (B : Below A₀ base outer h₀) (F : Fr h₀ L s.heap m) (X : (hd.heap_39 w.params).In h₀) (T : Top p loose mean mg mb h₀) (hk : cs.kind = .function) (hdp : dp + 10 < recursionLimit) (hun : un + 8 * 10 < cLine)
    (ret : ∀ v t' h' tk' o' tm' nn' vs' ns' mx', DkOk vs' ns' mx' → DkIs w o' C mx' tm' → Fr h₀ L h' m → News h₀ L h' ((D, o') :: (C, listOf vs'.toArray nn') :: news) → 0 ≤ v → v < many → v < 10000000000000000 → Q (.int v t') { s with heap := h', toks := tk' }) :
    wpAny (model PG w) (ktrTop dp un gd cn cs L a ccd cl outer) (call (.ref 158) [.ref D, .int many t]) Q E s :=
  dk_use (c_draw w many h1 h2 t news) N P ok hDk lo hDC hnC hnD B F X T hk hdp hun fun r tl h' tk' o' tm' nn' vs' ns' mx' ok' hDk' F' N' hR => by
    obtain ⟨rfl, v, t', rfl, h1, h2⟩ := hR
    exact ret v t' h' tk' o' tm' nn' vs' ns' mx' ok' hDk' F' N' h1 h2 (by omega)
end
section
variable {prog : Program} {w : World} {A : Around} {E : Value → Shared → Prop} {s : Shared} {h₀ : Heap} {L a : Addr} {news : Led} {u : Tok} {Q : Value → Shared → Prop} {value slice : Expr} {its : Array Value} {n : Nat} {k : Int}
theorem k_menuB (N : News h₀ L s.heap news) (hm : (a, listOf its n) ∈ news) (h0 : 0 ≤ k) (h1 : k < 2 ^ 63) (h2 : k < (its.size : Int)) (hall : ∀ x ∈ its.toList, ∃ b t, x = .bytes b t ∧ (bInts b).length ≤ 2) (h : ∀ b t ks, bInts b = ks → ks.length ≤ 2 → Q (.bytes b t) s)
    (hs : ∀ u, subscripted slice false (.ref a) (.int k u) = operate [.ref a, .int k u] (getItem (.ref a) (.int k u)) := by intro _; with_unfolding_all rfl) (hg : ∀ r, letTemporaryGo value (.ref a) r = pure () := by intro _; with_unfolding_all rfl) :
    wpAny (model prog w) A (subscriptTail value slice (.ref a) (.int k u)) Q E s := by
  have hk : k.toNat < its.size := by omega
  obtain ⟨b, t, e, hl⟩ := hall its[k.toNat] (Array.mem_toList_iff.mpr (Array.getElem_mem hk))
  exact item_list (x := .bytes b t) (PySem.IsL.isList (n := n) (N _ hm).1) h0 h1 (by rw [Array.getElem?_eq_getElem hk, e]) (h b t _ rfl hl) (hs u) hg
theorem k_menuI (N : News h₀ L s.heap news) (hm : (a, listOf its n) ∈ news) (h0 : 0 ≤ k) (h1 : k < 2 ^ 63) (h2 : k < (its.size : Int)) (lo hi : Int) (hall : ∀ x ∈ its.toList, ∃ v t, x = .int v t ∧ lo ≤ v ∧ v ≤ hi) (h : ∀ v t, lo ≤ v → v ≤ hi → Q (.int v t) s)
    (hs : ∀ u, subscripted slice false (.ref a) (.int k u) = operate [.ref a, .int k u] (getItem (.ref a) (.int k u)) := by intro _; with_unfolding_all rfl) (hg : ∀ r, letTemporaryGo value (.ref a) r = pure () := by intro _; with_unfolding_all rfl) :
    wpAny (model prog w) A (subscriptTail value slice (.ref a) (.int k u)) Q E s := by
  have hk : k.toNat < its.size := by omega
  obtain ⟨v, t, e, hl, hl2⟩ := hall its[k.toNat] (Array.mem_toList_iff.mpr (Array.getElem_mem hk))
  exact item_list (x := .int v t) (PySem.IsL.isList (n := n) (N _ hm).1) h0 h1 (by rw [Array.getElem?_eq_getElem hk, e]) (h v t hl hl2) (hs u) hg
end
theorem k_mul9 {prog : Program} {w : World} {A : Around} {E : Value → Shared → Prop} {s : Shared} {n : Int} {t u : Tok} {Q : Value → Shared → Prop} (h0 : -1000 ≤ n) (h1 : n ≤ 9) (h : ∀ c t' k ks, bInts c = ks → ks.length ≤ 9 → Q (.bytes c t') { s with toks := k }) :
    wpAny (model prog w) A (binaryOp .Mult (.bytes #[48] t) (.int n u)) Q E s :=
  bytes_mul_any (b := [48]) (by simp) (by omega) (by omega) (by simp) fun t' k => h _ t' k _ rfl (by
    rw [KBw.ints_length]
    show ((List.replicate n.toNat [(48 : UInt8)]).flatten.toArray).size ≤ 9
    have e4 : ((List.replicate n.toNat [(48 : UInt8)]).flatten.toArray).size = n.toNat * 1 := by simp
    rw [e4]; omega)
theorem pow9 {v : Int} (h0 : 0 ≤ v) (h1 : v < 9) : 1 ≤ (10 : Int) ^ (1 + v).toNat ∧ (10 : Int) ^ (1 + v).toNat ≤ 10000000000000000 := by
  have : v = 0 ∨ v = 1 ∨ v = 2 ∨ v = 3 ∨ v = 4 ∨ v = 5 ∨ v = 6 ∨ v = 7 ∨ v = 8 := by omega
  rcases this with rfl | rfl | rfl | rfl | rfl | rfl | rfl | rfl | rfl <;> decide +kernel
theorem dk_drop {g h : Heap} {L D C : Addr} {o c : Obj} {l news : Led} (N : PyProof.Rows.News g L h ((D, o) :: (C, c) :: l)) (hs : ∀ q ∈ news, q ∈ l) : PyProof.Rows.News g L h ([] ++ (D, o) :: (C, c) :: news) := fun q hq => by
  rcases List.mem_cons.mp hq with rfl | hq
  · exact N _ (.head _)
  · rcases List.mem_cons.mp hq with rfl | hq
    · exact N _ (.tail _ (.head _))
    · exact N _ (.tail _ (.tail _ (hs _ hq)))
theorem getD_in {l : List Int} {i : Nat} {d lo hi : Int} (h : i < l.length) (hall : l.all (fun k => decide (lo ≤ k) && decide (k ≤ hi)) = true) : lo ≤ l.getD i d ∧ l.getD i d ≤ hi := by
  have hm : l.getD i d ∈ l := by rw [List.getD_eq_getElem?_getD, List.getElem?_eq_getElem h]; exact List.getElem_mem h
  have := List.all_eq_true.mp hall _ hm
  simpa using this
local macro_rules | `(tactic| k_all) => `(tactic| assumption)
theorem words_U7_2 : True := by
  k_with "m pull" =>
    first
      | exact Pull.here
      | exact (Pull.skip Pull.here)
      | exact (Pull.skip (Pull.skip Pull.here))
      | exact (Pull.skip (Pull.skip (Pull.skip Pull.here)))
      | exact (Pull.skip (Pull.skip (Pull.skip (Pull.skip Pull.here))))
      | exact (Pull.skip (Pull.skip (Pull.skip (Pull.skip (Pull.skip Pull.here)))))
      | exact (Pull.skip (Pull.skip (Pull.skip (Pull.skip (Pull.skip (Pull.skip Pull.here))))))
      | exact (Pull.skip (Pull.skip (Pull.skip (Pull.skip (Pull.skip (Pull.skip (Pull.skip Pull.here)))))))
      | exact (Pull.skip (Pull.skip (Pull.skip (Pull.skip (Pull.skip (Pull.skip (Pull.skip (Pull.skip Pull.here))))))))
      | exact (Pull.skip (Pull.skip (Pull.skip (Pull.skip (Pull.skip (Pull.skip (Pull.skip (Pull.skip (Pull.skip Pull.here)))))))))
  k_with "m dk_sides" =>
    (
      (case n1 => k_asm); (case n2 => walk_at "pull"); (case o1 => assumption); (case o2 => assumption); (case o3 => assumption); (case o4 => assumption); (case o5 => k_all); (case o6 => k_all);
      (case k1 => k_asm); (case k2 => k_asm); (case k3 => k_asm); (case k5 => k_asm); (case kK => first | exact rfl | assumption); (case kd => ktr_room); (case ku => ktr_units))
  k_with "m call ref" =>
    (
      k_here; (with_reducible show wpAny _ _ (call (Value.ref 158) [Value.ref _, Value.int _ _]) _ _ _);
      k_dflt (refine' dk_draw ?ka ?kb ?n1 ?n2 ?o1 ?o2 ?o3 ?o4 ?o5 ?o6 ?k1 ?k2 ?k3 ?k5 ?kK ?kd ?ku ?_; (case ka => walk_at "many lo"); (case kb => walk_at "many hi"); walk_at "dk_sides");
      (intro v9 t9 h9 tk9 o9 tm9 nn9 vs9 ns9 mx9 ok9 hDk9 F9 N9 hlo9 hhi9 hbd9; (try dsimp only); (try k_fold)))
  k_with "m all B" =>
    first
      | exact List.forall_mem_nil _
      | (refine List.forall_mem_cons.mpr ⟨⟨_, _, rfl, by decide⟩, ?_⟩; walk_at "all B")
  k_with "m all I" =>
    first
      | exact List.forall_mem_nil _
      | (refine List.forall_mem_cons.mpr ⟨⟨_, _, rfl, by decide +kernel, by decide +kernel⟩, ?_⟩; walk_at "all I")
  k_with "m menu hi" =>
    ((try simp only [List.size_toArray, List.length_cons, List.length_nil]); omega)
  k_with "m subscriptTail List cons Call ref int" =>
    (
      k_here; k_dflt (refine kba_turn (value' := PySem.Expr.Name (PySem.Str.ofString "_") ⟨0, 0, 0, 0⟩) (fun _ => rfl) ?_); k_dflt (refine' k_menuI ?k1 ?k2 ?k3 ?k4 ?k5 1 10000000000000000 ?k6 ?_; (case k1 => k_asm); (case k2 => k_mem); (case k3 => omega); (case k4 => omega); (case k5 => walk_at "menu hi"); (case k6 => walk_at "all I"); k_whole);
      intro v9 t9 hlo9 hhi9; (try dsimp only); (try k_fold))
  k_with "m subscriptTail List cons Call ref int" =>
    (
      k_here; k_dflt (refine kba_turn (value' := PySem.Expr.Name (PySem.Str.ofString "_") ⟨0, 0, 0, 0⟩) (fun _ => rfl) ?_); k_dflt (refine' k_menuB ?k1 ?k2 ?k3 ?k4 ?k5 ?k6 ?_; (case k1 => k_asm); (case k2 => k_mem); (case k3 => omega); (case k4 => omega); (case k5 => walk_at "menu hi"); (case k6 => walk_at "all B"); k_whole);
      intro b9 t9 ks9 hb9 hl9; (try dsimp only); (try k_fold))
  k_with "m subscriptTail Name Call ref int" =>
    (
      k_here; k_dflt (refine' k_menuI ?k1 ?k2 ?k3 ?k4 ?k5 1 10000000000000000 ?k6 ?_; (case k1 => k_asm); (case k2 => k_mem); (case k3 => omega); (case k4 => omega); (case k5 => walk_at "menu hi"); (case k6 => walk_at "all I"); k_whole);
      intro v9 t9 hlo9 hhi9; (try dsimp only); (try k_fold))
  k_with "m subscriptTail Name Call ref int" =>
    (
      k_here; k_dflt (refine' k_menuB ?k1 ?k2 ?k3 ?k4 ?k5 ?k6 ?_; (case k1 => k_asm); (case k2 => k_mem); (case k3 => omega); (case k4 => omega); (case k5 => walk_at "menu hi"); (case k6 => walk_at "all B"); k_whole);
      intro b9 t9 ks9 hb9 hl9; (try dsimp only); (try k_fold))
  k_with "m call ref" =>
    (
      k_here; (with_reducible show wpAny _ _ (call (Value.ref 163) [Value.int _ _]) _ _ _);
      k_dflt (refine' ct_use ?k1 ?k2 ?k3 ?k4 ?k5 ?kK (c_octets _ _ ?ka ?kb _ _) ?kd ?ku ?_; (case ka => omega); (case kb => omega); walk_at "ct_sides");
      (intro r9 tl9 h9 tk9 F9 N9 hR9; obtain ⟨e9, b9, t9, e8, hl9⟩ := hR9; subst e9; subst e8; (try simp only [List.nil_append] at N9); (generalize hb9 : bInts _ = ks9 at hl9); (try dsimp only); (try k_fold)))
  k_with "m in9" =>
    first | omega | (rw [Int.fdiv_eq_ediv_of_nonneg _ (by decide)]; omega)
  k_with "m binaryOp Mult bytes int" =>
    (
      k_here; k_dflt (refine' k_mul9 ?k1 ?k2 ?_; (case k1 => walk_at "in9"); (case k2 => walk_at "in9"); k_whole); intro c9 t9 tk9 ks9 hb9 hl9; (try dsimp only); (try k_fold))
  k_with "m many lo" =>
    first | decide | omega | exact (pow9 (by assumption) (by assumption)).1 | exact (getD_in (lo := 1) (hi := 10000000000000000) (by simp only [List.length_cons, List.length_nil]; omega) (by decide +kernel)).1
  k_with "m many hi" =>
    first | decide | omega | exact (pow9 (by assumption) (by assumption)).2 | exact (getD_in (lo := 1) (hi := 10000000000000000) (by simp only [List.length_cons, List.length_nil]; omega) (by decide +kernel)).2
  k_with "m binaryOp Pow int int" =>
    (
      k_here; (refine PyProof.Rows.pow_int (by omega) (pow10_ok (by omega)) ?_); (try dsimp only))
  exact trivial
theorem c_plain (w : World) (news : Led) : CtK w 170 12 (fun D => [.ref D]) news (fun r tl => tl = [] ∧ ∃ b t' ks, r = .bytes b t' ∧ bInts b = ks ∧ ks.length ≤ 60) := by
  unfold CtK
  intro p loose mean mg mb dp un gd cn cs a ccd cl outer A₀ bas h₀ L m s Q E D C o tm nn vs ns mx ok hDk lo hDC hnC hnD B F X N T hk hdp hun hret
  refine wpAny_call ?_
  k_dflt cell_enter
  k_steps
  all_goals (
    refine' hret _ [] _ _ _ _ _ _ _ _ ?a ?b ?F ?N ⟨rfl, _, _, _, rfl, ?e, ?l⟩
    case F => k_asm
    case N => exact dk_drop (by k_asm) (by intro q hq; repeat (first | exact hq | refine List.Mem.tail _ ?_))
    case a => assumption
    case b => assumption
    case e => assumption
    case l => kba_size)
end Mine
namespace Mine
open PySem PySem.W PyProof.Rows PySem.Calls
open KBw (bInts)
theorem fillme21 : PySem.Challenge.rw_nt0488_01 = PySem.Challenge.rw_nt0488_01 ∧ hd.heap_39 = hd.heap_39 := by
  k_with_none
  w_top off
  k_fill
  exact ⟨rfl, rfl⟩
local macro_rules | `(tactic| walk_at $s:str) => `(tactic| k_extra $(Lean.Syntax.mkStrLit ("m " ++ s.getString)))
theorem words_U8_1 : True := by
  k_with "m led ne" =>
    first
      | exact List.forall_mem_nil _
      | (refine' List.forall_mem_cons.mpr ⟨?a, ?b⟩; (case a => k_ne); (case b => walk_at "led ne"))
      | (refine' List.forall_mem_append.mpr ⟨?a, ?b⟩; (case a => walk_at "led ne"); (case b => walk_at "led ne"))
      | (refine led_ne (by assumption) ?_; omega)
      | (refine led_ne' (by assumption) ?_; omega)
  k_with "m ct_sides" =>
    (
      (case k1 => k_asm); (case k2 => k_asm); (case k3 => k_asm); (case k4 => k_asm); (case k5 => k_asm); (case kK => first | exact rfl | assumption); (case kd => ktr_room); (case ku => ktr_units))
  k_with "m drop led" =>
    first
      | k_asm
      | (refine cb_drop (by with_reducible assumption) ?_; intro p hp; first
          | exact .tail _ hp
          | exact .tail _ (.tail _ hp)
          | exact .tail _ (.tail _ (.tail _ hp))
          | exact .tail _ (.tail _ (.tail _ (.tail _ hp)))
          | exact .tail _ (.tail _ (.tail _ (.tail _ (.tail _ hp))))
          | exact List.mem_append_left _ hp
          | exact List.mem_append_right _ hp
          | (simp only [List.nil_append, List.cons_append, List.mem_append, List.mem_cons] at hp ⊢; grind))
      | exact led_top (by assumption)
  k_with "m b ints" =>
    first | kba_ints2 | exact rfl
  k_with "m compareOp In bytes ref" =>
    (
      k_here; (with_reducible show wpAny _ _ (compareOp CmpOp.In (Value.bytes _ _) (Value.ref _)) _ _ _);
      (refine' in_tupI ?k1 ?k2 ?k3 ?k4 ?_; (case k1 => exact News.get (by k_asm) (by k_mem)); (case k2 => walk_at "b ints"); (case k3 => exact rfl); (case k4 => exact rfl); k_whole))
  k_with "m compareOp Eq bytes bytes" =>
    (
      k_here; (refine' eq_bytesI ?k1 ?k2 ?_; (case k1 => walk_at "b ints"); (case k2 => walk_at "b ints"); k_whole))
  k_with "m compareOp In int bytes" =>
    (
      k_here; (refine' in_intI ?k0 ?k1 ?k2 ?_; (case k0 => omega); (case k1 => omega); (case k2 => walk_at "b ints"); k_whole))
  exact trivial
theorem k_menuN {prog : Program} {w : World} {A : Around} {E : Value → Shared → Prop} {s : Shared} {h₀ : Heap} {L a : Addr} {news : Led} {u : Tok} {Q : Value → Shared → Prop} {value slice : Expr} {us : List Value} {ms : List Int} {n : Nat} {k : Int} (N : News h₀ L s.heap news) (hm : (a, listOf us.toArray n) ∈ news) (hi : IntsAre us ms) (h0 : 0 ≤ k) (h1 : k < 2 ^ 63) (len : Nat) (hlen : ms.length = len) (h2 : k < (len : Int)) (lo hi' : Int) (hall : ms.all (fun v => decide (lo ≤ v) && decide (v ≤ hi')) = true) (h : ∀ v t, lo ≤ v → v ≤ hi' → Q (.int v t) s)
    (hs : ∀ u, subscripted slice false (.ref a) (.int k u) = operate [.ref a, .int k u] (getItem (.ref a) (.int k u)) := by intro _; with_unfolding_all rfl) (hg : ∀ r, letTemporaryGo value (.ref a) r = pure () := by intro _; with_unfolding_all rfl) :
    wpAny (model prog w) A (subscriptTail value slice (.ref a) (.int k u)) Q E s := by
  have hk : k.toNat < ms.length := by omega
  obtain ⟨t, e⟩ := hi.get k.toNat ms[k.toNat] (by simp [hk])
  have hb := List.all_eq_true.mp hall _ (List.getElem_mem hk)
  simp only [Bool.and_eq_true, decide_eq_true_eq] at hb
  exact item_list (x := .int ms[k.toNat] t) (PySem.IsL.isList (n := n) (N _ hm).1) h0 h1 (by simpa using e) (h _ t hb.1 hb.2) (hs u) hg
theorem slice1_K {prog : Program} {w : World} {A : Around} {E : Value → Shared → Prop} {s : Shared} {value slice : PySem.Expr} {b : Array UInt8} {t : Tok} {h₀ : Heap} {L : Addr} {m : PySem.Str → Option Value} {news : Led} {Q : Value → Shared → Prop} {i : Int} {ti tj : Tok}
    (hF : Fr h₀ L s.heap m) (hN : News h₀ L s.heap news) (hz : b.size ≤ 1000) (h0 : 0 ≤ i)
    (h : ∀ h' c t' k ks, Fr h₀ L h' m → News h₀ L h' news → bInts c = ks → ks.length ≤ 1 → Q (.bytes c t') { s with heap := h', toks := k })
    (hs : ∀ a, subscripted slice false (.bytes b t) (.ref a) = operate [.ref a, .bytes b t] (getItem (.bytes b t) (.ref a)) := by intro _; with_unfolding_all rfl)
    (ht : ∀ r, letTemporaryGo value (.bytes b t) r = pure () := by intro _; with_unfolding_all rfl) :
    wpAny (model prog w) A (subscriptTail value slice (.bytes b t) (.ref s.heap.objs.size)) Q E { s with heap := s.heap.push { cls := .type "slice", data := .fields #[.int i ti, .int (i + 1) tj, .none] } } := by
  obtain ⟨k, rfl⟩ := Int.eq_ofNat_of_zero_le h0
  refine KBc.slice_K hF hN (ks := bInts b) rfl (lo := some (k : Int)) (hi := some ((k : Int) + 1)) (by constructor) (by constructor) (by rw [KBw.ints_length]; omega) (fun h' t' kk F' N' e => h h' _ t' kk _ F' N' rfl ?_) (hs _) ht
  rw [e]
  simp only [Option.elim]
  rw [clip_nat, clip_succ, List.length_take]
  omega
section
variable {prog : Program} {w : World} {A : Around} {E : Value → Shared → Prop} {s : Shared} {env : Env} {h₀ : Heap} {x y z : Str} {body : List Stmt} {Q : Flow → Shared → Prop}
def BJ (w : World) (x y z : Str) (D C : Addr) (news : Led) (m₀ : Str → Option Value) (i : Nat) (m : Str → Option Value) (nx : Led) : Prop :=
  (∃ b tb ks, m y = some (.bytes b tb) ∧ bInts b = ks ∧ ks.length ≤ i) ∧ (∃ o tm nn vs ns mx, nx = (D, o) :: (C, listOf (List.toArray vs) nn) :: news ∧ DkOk vs ns mx ∧ DkIs w o C mx tm) ∧ ∀ q, q ≠ x → q ≠ y → q ≠ z → m q = m₀ q
theorem bj_map {m₁ m₀ : Str → Option Value} {v u : Value} (ha : m₁ y = some u) (hm : ∀ q, q ≠ x → q ≠ y → q ≠ z → m₁ q = m₀ q) :
    (fun q => if q = x then some v else m₁ q) = fun q => if q = x then some v else if q = y then some u else if q = z then m₁ z else m₀ q := by
  funext q
  by_cases h1 : q = x
  · simp [h1]
  · simp only [if_neg h1]
    by_cases h2 : q = y
    · subst h2; simp [ha]
    · simp only [if_neg h2]
      by_cases h3 : q = z
      · subst h3; simp
      · simp only [if_neg h3]; exact hm q h1 h2 h3
theorem bj_done {m₁ m₀ : Str → Option Value} {u : Value} (ha : m₁ y = some u) (hm : ∀ q, q ≠ x → q ≠ y → q ≠ z → m₁ q = m₀ q) (hxy : y ≠ x) :
    m₁ = fun q => if q = x then m₁ x else if q = y then some u else if q = z then m₁ z else m₀ q := by
  funext q
  by_cases h1 : q = x
  · simp [h1]
  · simp only [if_neg h1]
    by_cases h2 : q = y
    · subst h2; simp [ha]
    · simp only [if_neg h2]
      by_cases h3 : q = z
      · subst h3; simp
      · simp only [if_neg h3]; exact hm q h1 h2 h3
theorem based_loop {r : Addr} {t₀ u₀ v₀ : Tok} {m₀ : Str → Option Value} {l rest news : Led} {D C : Addr} {o : Obj} {tm : Tok} {nn : Nat} {vs : List Value} {ns : List Int} {mx v : Int} {t : Tok}
    (hh : A.handled = none) (hv0 : 0 ≤ v) (hv1 : v < 9) (hr : IsRange s.heap r 0 (1 + v) 1 t₀ u₀ v₀) (F : Fr h₀ env.locals s.heap m₀) (N : News h₀ env.locals s.heap l)
    (P : Pull D C o (listOf vs.toArray nn) l rest) (ok : DkOk vs ns mx) (hDk : DkIs w o C mx tm) (hsub : ∀ q ∈ news, q ∈ rest) (hf : m₀ y = some (.bytes #[] t)) (hxy : y ≠ x)
    (turn : ∀ i k t b tb ks (u : Str → Option Value) h tk own o tm nn vs ns mx, i ≤ 8 → bInts b = ks → ks.length ≤ i → DkOk vs ns mx → DkIs w o C mx tm → (∀ p ∈ own, p.1 ≠ C) → (∀ p ∈ own, p.1 ≠ D) →
      Fr h₀ env.locals h (fun q => if q = x then some (.int k t) else if q = y then some (.bytes b tb) else if q = z then u z else m₀ q) → News h₀ env.locals h ((D, o) :: (C, listOf (List.toArray vs) nn) :: (news ++ own)) →
      wpAny (model prog w) A (execs body env) (InvPostN h₀ env.locals (BJ w x y z D C news m₀ (i + 1)) own (D :: C :: news.map (·.1)) { s with heap := h, toks := tk } Q) E { s with heap := h, toks := tk })
    (done : ∀ b tb ks (u : Str → Option Value) h tk o tm nn vs ns mx, bInts b = ks → ks.length ≤ 9 → DkOk vs ns mx → DkIs w o C mx tm →
      Fr h₀ env.locals h (fun q => if q = x then u x else if q = y then some (.bytes b tb) else if q = z then u z else m₀ q) → News h₀ env.locals h ((D, o) :: (C, listOf (List.toArray vs) nn) :: news) → Q .next { s with heap := h, toks := tk }) :
    wpAny (model prog w) A (pyIter (.ref r)) (fun it s₂ => LoopAtV prog w A h₀ env x body Q E it s₂) E s := by
  have N' : PyProof.Rows.News h₀ env.locals s.heap ((D, o) :: (C, listOf vs.toArray nn) :: news) := fun q hq => N q (P.sub q (by
    rcases List.mem_cons.mp hq with rfl | hq
    · exact .head _
    · rcases List.mem_cons.mp hq with rfl | hq
      · exact .tail _ (.head _)
      · exact .tail _ (.tail _ (hsub _ hq))))
  refine kpr_invN (n := (1 + v).toNat) (BJ w x y z D C news m₀) hh hr (small_one (by decide) (by decide) (by omega) (by omega)) (by rw [rangeSize_nat, Int.sub_zero]) F N' ⟨⟨_, _, _, hf, rfl, by decide⟩, ⟨_, _, _, _, _, _, rfl, ok, hDk⟩, fun _ _ _ _ => rfl⟩ ?_ ?_
  · rintro i k t m₁ nx h tk own hk hoff ⟨⟨b, tb, ks, hb1, hb2, hb3⟩, ⟨o, tm, nn, vs, ns, mx, rfl, ok, hDk⟩, hm⟩ F₁ N₁
    rw [bj_map hb1 hm] at F₁
    have hi : i < (rangeKs 0 (1 + v).toNat).length := (List.getElem?_eq_some_iff.mp hk).1
    rw [rangeKs_length] at hi
    exact turn i k t b tb ks m₁ h tk own o tm nn vs ns mx (by omega) hb2 hb3 ok hDk (fun p hp => hoff p hp C (.tail _ (.head _))) (fun p hp => hoff p hp D (.head _)) F₁ N₁
  · rintro m₁ nx h tk ⟨⟨b, tb, ks, hb1, hb2, hb3⟩, ⟨o, tm, nn, vs, ns, mx, rfl, ok, hDk⟩, hm⟩ F₁ N₁
    rw [bj_done hb1 hm hxy] at F₁
    rw [rangeKs_length] at hb3
    exact done b tb ks m₁ h tk o tm nn vs ns mx hb2 (by omega) ok hDk F₁ N₁
theorem bj_end {L : Addr} {m' m₀ : Str → Option Value} {l news own : Led} {D C : Addr} {o : Obj} {tm : Tok} {nn i : Nat} {vs : List Value} {ns : List Int} {mx : Int} {b : Array UInt8} {tb : Tok} {ks : List Int} {h' : Heap} {tk : Nat} {s₁ : Shared}
    (F : Fr h₀ L h' m') (N : PyProof.Rows.News h₀ L h' ((D, o) :: (C, listOf vs.toArray nn) :: l)) (hs : ∀ q ∈ news ++ own, q ∈ l) (ok : DkOk vs ns mx) (hDk : DkIs w o C mx tm) (hf : m' y = some (.bytes b tb)) (hb : bInts b = ks) (hl : ks.length ≤ i) (hm : ∀ q, q ≠ x → q ≠ y → q ≠ z → m' q = m₀ q) :
    InvEndN h₀ L (BJ w x y z D C news m₀ i) own (D :: C :: news.map (·.1)) s₁ { s₁ with heap := h', toks := tk } :=
  ⟨h', tk, m', _, (D, o) :: (C, listOf vs.toArray nn) :: news, rfl, F, N, fun p hp => by
    rcases List.mem_cons.mp hp with rfl | hp
    · exact .head _
    · rcases List.mem_cons.mp hp with rfl | hp
      · exact .tail _ (.head _)
      · exact .tail _ (.tail _ (hs _ (List.mem_append_left _ hp))), fun p hp => .tail _ (.tail _ (hs _ (List.mem_append_right _ hp))), rfl, ⟨_, _, _, hf, hb, hl⟩, ⟨_, _, _, _, _, _, rfl, ok, hDk⟩, hm⟩
end
local macro_rules | `(tactic| k_all) => `(tactic| assumption)
theorem words_U8_2 : True := by
  k_with "m pull" =>
    first
      | exact Pull.here
      | exact (Pull.skip Pull.here)
      | exact (Pull.skip (Pull.skip Pull.here))
      | exact (Pull.skip (Pull.skip (Pull.skip Pull.here)))
      | exact (Pull.skip (Pull.skip (Pull.skip (Pull.skip Pull.here))))
      | exact (Pull.skip (Pull.skip (Pull.skip (Pull.skip (Pull.skip Pull.here)))))
      | exact (Pull.skip (Pull.skip (Pull.skip (Pull.skip (Pull.skip (Pull.skip Pull.here))))))
      | exact (Pull.skip (Pull.skip (Pull.skip (Pull.skip (Pull.skip (Pull.skip (Pull.skip Pull.here)))))))
      | exact (Pull.skip (Pull.skip (Pull.skip (Pull.skip (Pull.skip (Pull.skip (Pull.skip (Pull.skip Pull.here))))))))
      | exact (Pull.skip (Pull.skip (Pull.skip (Pull.skip (Pull.skip (Pull.skip (Pull.skip (Pull.skip (Pull.skip Pull.here)))))))))
  k_with "m dk_sides" =>
    (
      (case n1 => k_asm); (case n2 => walk_at "pull"); (case o1 => assumption); (case o2 => assumption); (case o3 => assumption); (case o4 => assumption); (case o5 => k_all); (case o6 => k_all);
      (case k1 => k_asm); (case k2 => k_asm); (case k3 => k_asm); (case k5 => k_asm); (case kK => first | exact rfl | assumption); (case kd => ktr_room); (case ku => ktr_units))
  k_with "m call ref" =>
    (
      k_here; (with_reducible show wpAny _ _ (call (Value.ref 158) [Value.ref _, Value.int _ _]) _ _ _);
      k_dflt (refine' dk_draw ?ka ?kb ?n1 ?n2 ?o1 ?o2 ?o3 ?o4 ?o5 ?o6 ?k1 ?k2 ?k3 ?k5 ?kK ?kd ?ku ?_; (case ka => walk_at "many lo"); (case kb => walk_at "many hi"); walk_at "dk_sides");
      (intro v9 t9 h9 tk9 o9 tm9 nn9 vs9 ns9 mx9 ok9 hDk9 F9 N9 hlo9 hhi9 hbd9; (try dsimp only); (try k_fold)))
  k_with "m all B" =>
    first
      | exact List.forall_mem_nil _
      | (refine List.forall_mem_cons.mpr ⟨⟨_, _, rfl, by decide⟩, ?_⟩; walk_at "all B")
  k_with "m all I" =>
    first
      | exact List.forall_mem_nil _
      | (refine List.forall_mem_cons.mpr ⟨⟨_, _, rfl, by decide +kernel, by decide +kernel⟩, ?_⟩; walk_at "all I")
  k_with "m menu hi" =>
    ((try simp only [List.size_toArray, List.length_cons, List.length_nil]); omega)
  k_with "m subscriptTail List cons Call ref int" =>
    (
      k_here; k_dflt (refine kba_turn (value' := PySem.Expr.Name (PySem.Str.ofString "_") ⟨0, 0, 0, 0⟩) (fun _ => rfl) ?_); k_dflt (refine' k_menuI ?k1 ?k2 ?k3 ?k4 ?k5 1 10000000000000000 ?k6 ?_; (case k1 => k_asm); (case k2 => k_mem); (case k3 => omega); (case k4 => omega); (case k5 => walk_at "menu hi"); (case k6 => walk_at "all I"); k_whole);
      intro v9 t9 hlo9 hhi9; (try dsimp only); (try k_fold))
  k_with "m subscriptTail List cons Call ref int" =>
    (
      k_here; k_dflt (refine kba_turn (value' := PySem.Expr.Name (PySem.Str.ofString "_") ⟨0, 0, 0, 0⟩) (fun _ => rfl) ?_); k_dflt (refine' k_menuB ?k1 ?k2 ?k3 ?k4 ?k5 ?k6 ?_; (case k1 => k_asm); (case k2 => k_mem); (case k3 => omega); (case k4 => omega); (case k5 => walk_at "menu hi"); (case k6 => walk_at "all B"); k_whole);
      intro b9 t9 ks9 hb9 hl9; (try dsimp only); (try k_fold))
  k_with "m subscriptTail Name Call ref int" =>
    (
      k_here; k_dflt (refine' k_menuI ?k1 ?k2 ?k3 ?k4 ?k5 1 10000000000000000 ?k6 ?_; (case k1 => k_asm); (case k2 => k_mem); (case k3 => omega); (case k4 => omega); (case k5 => walk_at "menu hi"); (case k6 => walk_at "all I"); k_whole);
      intro v9 t9 hlo9 hhi9; (try dsimp only); (try k_fold))
  k_with "m subscriptTail Name Call ref int" =>
    (
      k_here; k_dflt (refine' k_menuB ?k1 ?k2 ?k3 ?k4 ?k5 ?k6 ?_; (case k1 => k_asm); (case k2 => k_mem); (case k3 => omega); (case k4 => omega); (case k5 => walk_at "menu hi"); (case k6 => walk_at "all B"); k_whole);
      intro b9 t9 ks9 hb9 hl9; (try dsimp only); (try k_fold))
  k_with "m call ref" =>
    (
      k_here; (with_reducible show wpAny _ _ (call (Value.ref 163) [Value.int _ _]) _ _ _);
      k_dflt (refine' ct_use ?k1 ?k2 ?k3 ?k4 ?k5 ?kK (c_octets _ _ ?ka ?kb _ _) ?kd ?ku ?_; (case ka => omega); (case kb => omega); walk_at "ct_sides");
      (intro r9 tl9 h9 tk9 F9 N9 hR9; obtain ⟨e9, b9, t9, e8, hl9⟩ := hR9; subst e9; subst e8; (try simp only [List.nil_append] at N9); (generalize hb9 : bInts _ = ks9 at hl9); (try dsimp only); (try k_fold)))
  k_with "m binaryOp Add ref ref" =>
    (
      k_here; (with_reducible show wpAny _ _ (binaryOp _ (Value.ref _) (Value.ref _)) _ _ _);
      k_dflt (refine' kmk_add_ints ?k1 ?k2 ?k3 ?k4 ?k5 ?k6 ?_ ?k7; (case k1 => k_asm); (case k2 => k_asm); (case k3 => exact News.isList (by k_asm) (by k_mem)); (case k4 => assumption); (case k5 => l_ints); (case k6 => exact IntsAre.ofCarried (by assumption)); (case k7 => exact Nat.le_of_ble_eq_true rfl); k_whole);
      intro D' ws' h' F' N' l1 hI'; (try k_lt l1); (try k_sweep))
  k_with "m subscriptTail BinOp List Add Call Call ref int" =>
    (
      k_here; k_dflt (refine kba_turn (value' := PySem.Expr.Name (PySem.Str.ofString "_") ⟨0, 0, 0, 0⟩) (fun _ => rfl) ?_); k_dflt (refine' k_menuN ?k1 ?k2 ?k3 ?k4 ?k5 40 ?k8 ?k6 2 36 ?k7 ?_; (case k1 => k_asm); (case k2 => k_mem); (case k3 => assumption); (case k4 => omega); (case k5 => omega); (case k8 => decide +kernel); (case k6 => omega); (case k7 => decide +kernel); k_whole);
      intro v9 t9 hlo9 hhi9; (try dsimp only); (try k_fold))
  k_with "m exec For Name Call cons nil" =>
    (
      k_here; (rename Fr _ _ _ _ => lF'); (k_dflt (with_unfolding_all refine' For_invVF lF' ?k1 ?k2 ?_; (case k1 => exact rfl); (case k2 => exact rfl); k_whole)))
  k_with "m pyIter ref" =>
    (
      k_here;
      k_dflt (with_unfolding_all refine' based_loop (y := Str.ofString "found") (z := Str.ofString "place") ?k1 ?k2 ?k3 ?k4 ?k5 ?k6 ?k7 ?k8 ?k9 ?k10 ?k11 ?k12 ?_ ?_; (case k4 => assumption); (case k1 => rfl); (case k2 => assumption); (case k3 => assumption); (case k5 => k_asm); (case k6 => k_asm); (case k7 => walk_at "pull"); (case k8 => assumption); (case k9 => assumption); (case k11 => rfl); (case k12 => decide); (case k10 => (intro q hq; repeat (first | exact hq | refine List.Mem.tail _ ?_))));
      (all_goals (first
        | (intro i9 k9 t9 b9 tb9 ks9 u9 h9 tk9 own9 o9 tm9 nn9 vs9 ns9 mx9 hi9 hb9 hl9 ok9 hDk9 oC9 oD9 F9 N9)
        | (intro b9 tb9 ks9 u9 h9 tk9 o9 tm9 nn9 vs9 ns9 mx9 hb9 hl9 ok9 hDk9 F9 N9)));
      (all_goals ((try dsimp only); (try k_fold))))
  exact trivial
local macro_rules | `(tactic| k_all) => `(tactic| exact List.forall_mem_append.mpr ⟨by assumption, by assumption⟩)
theorem words_U8_3 : True := by
  k_with "m InvEndN" =>
    (
      refine' bj_end ?k1 ?k2 ?k3 ?k4 ?k5 ?k6 ?k7 ?k8 ?k9; (case k1 => k_asm); (case k2 => k_asm); (case k3 => (intro q hq; repeat (first | exact hq | refine List.Mem.tail _ ?_))); (case k4 => assumption); (case k5 => assumption); (case k6 => rfl); (case k7 => assumption); (case k8 => kba_size);
      (case k9 => (intro q h1 h2 h3; simp only [if_neg h1, if_neg h2, if_neg h3])))
  k_with "m subscriptTail Constant bytes Slice bytes ref" =>
    (
      k_here; (with_reducible rename Fr _ _ _ _ => F'); (with_reducible rename News _ _ _ _ => N');
      k_dflt (refine slice1_K (s := ⟨_, _, _, _, _⟩) F' N' (by decide) (by omega) ?_);
      (intro h9 c9 t9 k9 ks9 F9 N9 hb9 hl9; (try dsimp only); (try k_fold)))
  k_with "m newTuple" =>
    (
      k_here; k_dflt (refine' kup_newTuple ?k1 ?k2 ?_ ?k3; (case k1 => k_asm); (case k2 => k_asm); (case k3 => exact Nat.le_of_ble_eq_true rfl)); intro D' h' F' N' l1; (try k_lt l1); (try k_sweep))
  k_with "m many lo" =>
    first | decide | omega
  k_with "m many hi" =>
    first | decide | omega
  exact trivial
theorem c_based (w : World) (news : Led) : CtK w 177 12 (fun D => [.ref D]) news (fun r tl => tl = [] ∧ ∃ b t' ks, r = .bytes b t' ∧ bInts b = ks ∧ ks.length ≤ 60) := by
  unfold CtK
  intro p loose mean mg mb dp un gd cn cs a ccd cl outer A₀ bas h₀ L m s Q E D C o tm nn vs ns mx ok hDk lo hDC hnC hnD B F X N T hk hdp hun hret
  refine wpAny_call ?_
  k_dflt cell_enter
  k_steps
  refine' hret _ [] _ _ _ _ _ _ _ _ ?a ?b ?F ?N ⟨rfl, _, _, _, rfl, ?e, ?l⟩
  case F => k_asm
  case N => exact dk_drop (by k_asm) (by intro q hq; repeat (first | exact hq | refine List.Mem.tail _ ?_))
  case a => assumption
  case b => assumption
  case e => assumption
  case l => kba_size
end Mine
namespace Mine
open PySem PySem.W PyProof.Rows PySem.Calls
open KBw (bInts)
theorem fillme22 : PySem.Challenge.rw_nt0488_01 = PySem.Challenge.rw_nt0488_01 ∧ hd.heap_39 = hd.heap_39 := by
  k_with_none
  w_top off
  k_fill
  exact ⟨rfl, rfl⟩
local macro_rules | `(tactic| walk_at $s:str) => `(tactic| k_extra $(Lean.Syntax.mkStrLit ("m " ++ s.getString)))
theorem words_U9_1 : True := by
  k_with "m led ne" =>
    first
      | exact List.forall_mem_nil _
      | (refine' List.forall_mem_cons.mpr ⟨?a, ?b⟩; (case a => k_ne); (case b => walk_at "led ne"))
      | (refine' List.forall_mem_append.mpr ⟨?a, ?b⟩; (case a => walk_at "led ne"); (case b => walk_at "led ne"))
      | (refine led_ne (by assumption) ?_; omega)
      | (refine led_ne' (by assumption) ?_; omega)
  k_with "m ct_sides" =>
    (
      (case k1 => k_asm); (case k2 => k_asm); (case k3 => k_asm); (case k4 => k_asm); (case k5 => k_asm); (case kK => first | exact rfl | assumption); (case kd => ktr_room); (case ku => ktr_units))
  k_with "m drop led" =>
    first
      | k_asm
      | (refine cb_drop (by with_reducible assumption) ?_; intro p hp; first
          | exact .tail _ hp
          | exact .tail _ (.tail _ hp)
          | exact .tail _ (.tail _ (.tail _ hp))
          | exact .tail _ (.tail _ (.tail _ (.tail _ hp)))
          | exact .tail _ (.tail _ (.tail _ (.tail _ (.tail _ hp))))
          | exact List.mem_append_left _ hp
          | exact List.mem_append_right _ hp
          | (simp only [List.nil_append, List.cons_append, List.mem_append, List.mem_cons] at hp ⊢; grind))
      | exact led_top (by assumption)
  k_with "m b ints" =>
    first | kba_ints2 | exact rfl
  k_with "m compareOp In bytes ref" =>
    (
      k_here; (with_reducible show wpAny _ _ (compareOp CmpOp.In (Value.bytes _ _) (Value.ref _)) _ _ _);
      (refine' in_tupI ?k1 ?k2 ?k3 ?k4 ?_; (case k1 => exact News.get (by k_asm) (by k_mem)); (case k2 => walk_at "b ints"); (case k3 => exact rfl); (case k4 => exact rfl); k_whole))
  k_with "m compareOp Eq bytes bytes" =>
    (
      k_here; (refine' eq_bytesI ?k1 ?k2 ?_; (case k1 => walk_at "b ints"); (case k2 => walk_at "b ints"); k_whole))
  k_with "m compareOp In int bytes" =>
    (
      k_here; (refine' in_intI ?k0 ?k1 ?k2 ?_; (case k0 => omega); (case k1 => omega); (case k2 => walk_at "b ints"); k_whole))
  exact trivial
theorem slice8_K {prog : Program} {w : World} {A : Around} {E : Value → Shared → Prop} {s : Shared} {value slice : PySem.Expr} {b : Array UInt8} {t : Tok} {h₀ : Heap} {L : Addr} {m : PySem.Str → Option Value} {news : Led} {Q : Value → Shared → Prop} {i : Int} {ti : Tok}
    (hF : Fr h₀ L s.heap m) (hN : News h₀ L s.heap news) (hz : b.size ≤ 8)
    (h : ∀ h' c t' k ks, Fr h₀ L h' m → News h₀ L h' news → bInts c = ks → ks.length ≤ 8 → Q (.bytes c t') { s with heap := h', toks := k })
    (hs : ∀ a, subscripted slice false (.bytes b t) (.ref a) = operate [.ref a, .bytes b t] (getItem (.bytes b t) (.ref a)) := by intro _; with_unfolding_all rfl)
    (ht : ∀ r, letTemporaryGo value (.bytes b t) r = pure () := by intro _; with_unfolding_all rfl) :
    wpAny (model prog w) A (subscriptTail value slice (.bytes b t) (.ref s.heap.objs.size)) Q E { s with heap := s.heap.push { cls := .type "slice", data := .fields #[.int i ti, .none, .none] } } := by
  refine KBc.slice_K hF hN (ks := bInts b) rfl (lo := some i) (hi := none) (by constructor) (by constructor) (by rw [KBw.ints_length]; omega) (fun h' t' kk F' N' e => h h' _ t' kk _ F' N' rfl ?_) (hs _) ht
  rw [e, List.length_take, List.length_drop, KBw.ints_length]
  omega
local macro_rules | `(tactic| k_all) => `(tactic| assumption)
theorem words_U9_2 : True := by
  k_with "m pull" =>
    first
      | exact Pull.here
      | exact (Pull.skip Pull.here)
      | exact (Pull.skip (Pull.skip Pull.here))
      | exact (Pull.skip (Pull.skip (Pull.skip Pull.here)))
      | exact (Pull.skip (Pull.skip (Pull.skip (Pull.skip Pull.here))))
      | exact (Pull.skip (Pull.skip (Pull.skip (Pull.skip (Pull.skip Pull.here)))))
      | exact (Pull.skip (Pull.skip (Pull.skip (Pull.skip (Pull.skip (Pull.skip Pull.here))))))
      | exact (Pull.skip (Pull.skip (Pull.skip (Pull.skip (Pull.skip (Pull.skip (Pull.skip Pull.here)))))))
      | exact (Pull.skip (Pull.skip (Pull.skip (Pull.skip (Pull.skip (Pull.skip (Pull.skip (Pull.skip Pull.here))))))))
      | exact (Pull.skip (Pull.skip (Pull.skip (Pull.skip (Pull.skip (Pull.skip (Pull.skip (Pull.skip (Pull.skip Pull.here)))))))))
  k_with "m dk_sides" =>
    (
      (case n1 => k_asm); (case n2 => walk_at "pull"); (case o1 => assumption); (case o2 => assumption); (case o3 => assumption); (case o4 => assumption); (case o5 => k_all); (case o6 => k_all);
      (case k1 => k_asm); (case k2 => k_asm); (case k3 => k_asm); (case k5 => k_asm); (case kK => first | exact rfl | assumption); (case kd => ktr_room); (case ku => ktr_units))
  k_with "m call ref" =>
    (
      k_here; (with_reducible show wpAny _ _ (call (Value.ref 158) [Value.ref _, Value.int _ _]) _ _ _);
      k_dflt (refine' dk_draw ?ka ?kb ?n1 ?n2 ?o1 ?o2 ?o3 ?o4 ?o5 ?o6 ?k1 ?k2 ?k3 ?k5 ?kK ?kd ?ku ?_; (case ka => walk_at "many lo"); (case kb => walk_at "many hi"); walk_at "dk_sides");
      (intro v9 t9 h9 tk9 o9 tm9 nn9 vs9 ns9 mx9 ok9 hDk9 F9 N9 hlo9 hhi9 hbd9; (try dsimp only); (try k_fold)))
  k_with "m all B" =>
    first
      | exact List.forall_mem_nil _
      | (refine List.forall_mem_cons.mpr ⟨⟨_, _, rfl, by decide⟩, ?_⟩; walk_at "all B")
  k_with "m all I" =>
    first
      | exact List.forall_mem_nil _
      | (refine List.forall_mem_cons.mpr ⟨⟨_, _, rfl, by decide +kernel, by decide +kernel⟩, ?_⟩; walk_at "all I")
  k_with "m menu hi" =>
    ((try simp only [List.size_toArray, List.length_cons, List.length_nil]); omega)
  k_with "m subscriptTail List cons Call ref int" =>
    (
      k_here; k_dflt (refine kba_turn (value' := PySem.Expr.Name (PySem.Str.ofString "_") ⟨0, 0, 0, 0⟩) (fun _ => rfl) ?_); k_dflt (refine' k_menuI ?k1 ?k2 ?k3 ?k4 ?k5 1 10000000000000000 ?k6 ?_; (case k1 => k_asm); (case k2 => k_mem); (case k3 => omega); (case k4 => omega); (case k5 => walk_at "menu hi"); (case k6 => walk_at "all I"); k_whole);
      intro v9 t9 hlo9 hhi9; (try dsimp only); (try k_fold))
  k_with "m subscriptTail List cons Call ref int" =>
    (
      k_here; k_dflt (refine kba_turn (value' := PySem.Expr.Name (PySem.Str.ofString "_") ⟨0, 0, 0, 0⟩) (fun _ => rfl) ?_); k_dflt (refine' k_menuB ?k1 ?k2 ?k3 ?k4 ?k5 ?k6 ?_; (case k1 => k_asm); (case k2 => k_mem); (case k3 => omega); (case k4 => omega); (case k5 => walk_at "menu hi"); (case k6 => walk_at "all B"); k_whole);
      intro b9 t9 ks9 hb9 hl9; (try dsimp only); (try k_fold))
  k_with "m subscriptTail Name Call ref int" =>
    (
      k_here; k_dflt (refine' k_menuI ?k1 ?k2 ?k3 ?k4 ?k5 1 10000000000000000 ?k6 ?_; (case k1 => k_asm); (case k2 => k_mem); (case k3 => omega); (case k4 => omega); (case k5 => walk_at "menu hi"); (case k6 => walk_at "all I"); k_whole);
      intro v9 t9 hlo9 hhi9; (try dsimp only); (try k_fold))
  k_with "m subscriptTail Name Call ref int" =>
    (
      k_here; k_dflt (refine' k_menuB ?k1 ?k2 ?k3 ?k4 ?k5 ?k6 ?_; (case k1 => k_asm); (case k2 => k_mem); (case k3 => omega); (case k4 => omega); (case k5 => walk_at "menu hi"); (case k6 => walk_at "all B"); k_whole);
      intro b9 t9 ks9 hb9 hl9; (try dsimp only); (try k_fold))
  k_with "m call ref" =>
    (
      k_here; (with_reducible show wpAny _ _ (call (Value.ref 163) [Value.int _ _]) _ _ _);
      k_dflt (refine' ct_use ?k1 ?k2 ?k3 ?k4 ?k5 ?kK (c_octets _ _ ?ka ?kb _ _) ?kd ?ku ?_; (case ka => omega); (case kb => omega); walk_at "ct_sides");
      (intro r9 tl9 h9 tk9 F9 N9 hR9; obtain ⟨e9, b9, t9, e8, hl9⟩ := hR9; subst e9; subst e8; (try simp only [List.nil_append] at N9); (generalize hb9 : bInts _ = ks9 at hl9); (try dsimp only); (try k_fold)))
  k_with "m subscriptTail Constant bytes Slice bytes ref" =>
    (
      k_here; (with_reducible rename Fr _ _ _ _ => F'); (with_reducible rename News _ _ _ _ => N');
      k_dflt (refine slice8_K (s := ⟨_, _, _, _, _⟩) F' N' (by decide) ?_);
      (intro h9 c9 t9 k9 ks9 F9 N9 hb9 hl9; (try dsimp only); (try k_fold)))
  k_with "m many lo" =>
    first | decide | omega
  k_with "m many hi" =>
    first | decide | omega
  exact trivial
theorem bent_clip {n : Nat} {v : Int} (h : 0 ≤ v) : clipAt n v = min v.toNat n ∧ clipAt n (v + 1) = min (v.toNat + 1) n := by
  obtain ⟨k, rfl⟩ := Int.eq_ofNat_of_zero_le h
  exact ⟨clip_nat n k, clip_succ n k⟩
theorem bentA {ks l : List Int} {v : Int} (h0 : 0 ≤ v) (h : ks.length ≤ 60) (hl : l.length ≤ 8) : (List.take (clipAt ks.length v) ks ++ l ++ List.take (ks.length - clipAt ks.length v) (List.drop (clipAt ks.length v) ks)).length ≤ 70 := by
  rw [(bent_clip h0).1]
  simp only [List.length_append, List.length_take, List.length_drop]; omega
theorem bentB {ks l : List Int} {v : Int} (h0 : 0 ≤ v) (h : ks.length ≤ 60) (hl : l.length ≤ 8) : (List.take (clipAt ks.length v) ks ++ l ++ List.take (ks.length - clipAt ks.length (v + 1)) (List.drop (clipAt ks.length (v + 1)) ks)).length ≤ 70 := by
  rw [(bent_clip h0).1, (bent_clip h0).2]
  simp only [List.length_append, List.length_take, List.length_drop]; omega
theorem c_bent (w : World) (b : Array UInt8) (ks : List Int) (hb : bInts b = ks) (hlen : ks.length ≤ 60) (t : Tok) (news : Led) : CtK w 184 12 (fun D => [.ref D, .bytes b t]) news (fun r tl => tl = [] ∧ ∃ b t' ks, r = .bytes b t' ∧ bInts b = ks ∧ ks.length ≤ 70) := by
  unfold CtK
  intro p loose mean mg mb dp un gd cn cs a ccd cl outer A₀ bas h₀ L m s Q E D C o tm nn vs ns mx ok hDk lo hDC hnC hnD B F X N T hk hdp hun hret
  refine wpAny_call ?_
  k_dflt cell_enter
  k_steps
  all_goals (
    refine' hret _ [] _ _ _ _ _ _ _ _ ?a ?b ?F ?N ⟨rfl, _, _, _, rfl, ?e, ?l⟩
    case F => k_asm
    case N => exact dk_drop (by k_asm) (by intro q hq; repeat (first | exact hq | refine List.Mem.tail _ ?_))
    case a => assumption
    case b => assumption
    case e => assumption
    case l => first
      | exact bentA (by assumption) (by assumption) (by simp only [List.length_take, List.length_map, List.length_nil]; omega)
      | exact bentB (by assumption) (by assumption) (by simp only [List.length_take, List.length_map, List.length_nil]; omega))
end Mine
namespace Mine
open PySem PySem.W PyProof.Rows PySem.Calls
open KBw (bInts)

theorem tens_pos {n T e : Int} {g : Int} (he : e + 6 = T) (hn : 0 < n) (h0 : 0 ≤ T) (h1 : T ≤ 60) : tensV n e g = if 10 ^ 21 < n * 10 ^ T.toNat then .lim else .real (g * (n * 10 ^ T.toNat)) := by
  subst he
  unfold tensV
  rw [if_neg (by omega), if_neg (by omega)]
  simp only [if_pos h0]
theorem tens_neg {n T e : Int} {g : Int} (he : e + 6 = T) (hn : 0 < n) (h0 : ¬ 0 ≤ T) (h1 : ¬ T < -100) : tensV n e g = if 10 ^ 21 < (2 * n + 10 ^ (0 - T).toNat) / (2 * 10 ^ (0 - T).toNat) then .lim else .real (g * ((2 * n + 10 ^ (0 - T).toNat) / (2 * 10 ^ (0 - T).toNat))) := by
  subst he
  unfold tensV
  rw [if_neg (by omega), if_neg (by omega)]
  simp only [if_neg h0]
def gB (below : Bool) : Int := if below then -1 else 1
theorem gB_mul (below : Bool) (n : Int) : gB below * n = if below = true then -n else n := by cases below <;> simp [gB]
theorem gB_abs (below : Bool) (v : Int) : (gB below * v).natAbs = v.natAbs := by cases below <;> simp [gB]
theorem chk_g {v : Int} (hv : 0 ≤ v) (below : Bool) : realR (chk (gB below * v)) = if 10 ^ 21 < v then .lim else .real (gB below * v) := by
  unfold chk
  rw [gB_abs]
  by_cases h : v.natAbs ≤ 10 ^ 21
  · rw [if_pos h, if_neg (by omega)]; rfl
  · rw [if_neg h, if_pos (by omega)]; rfl
theorem divV_g {n b : Int} (hn : 0 < n) (hb : 0 < b) (below : Bool) : divV (gB below * n) b = gB below * ((2 * n + b) / (2 * b)) := by
  unfold divV
  cases below
  · have e : gB false * n = n := by simp [gB]
    have e2 : gB false * ((2 * n + b) / (2 * b)) = (2 * n + b) / (2 * b) := by simp [gB]
    rw [e, e2, if_neg (show ¬ n < 0 by omega), if_neg (show ¬ b < 0 by omega)]
    exact if_pos ⟨fun h => by omega, fun h => by omega⟩
  · have e : gB true * n = -n := by simp [gB]
    have e2 : gB true * ((2 * n + b) / (2 * b)) = -((2 * n + b) / (2 * b)) := by simp [gB]
    rw [e, e2, if_pos (show -n < 0 by omega), if_neg (show ¬ b < 0 by omega), Int.neg_neg]
    exact if_neg fun h => by have := h.mp (by omega); omega
theorem pow10_pos (k : Nat) : (0 : Int) < 10 ^ k := Int.pow_pos (by decide)
theorem small_zero {n b : Int} (hn : 0 < n) (h : 2 * n < b) : (2 * n + b) / (2 * b) = 0 := Int.ediv_eq_zero_of_lt (by omega) (by omega)
theorem pow10_mono {a b : Nat} (h : a ≤ b) : (10 : Int) ^ a ≤ 10 ^ b := by
  have := Nat.pow_le_pow_right (n := 10) (by decide) h
  exact_mod_cast this
theorem two_ten (k : Nat) : (2 : Int) ^ k ≤ 10 ^ k := by
  have := Nat.pow_le_pow_left (show 2 ≤ 10 by decide) k
  exact_mod_cast this
theorem scaled_eq {n T e : Int} (he : e + 6 = T) (hn : 0 < n) (hn2 : n < 10 ^ 99) (below : Bool) : realR (scaledV (gB below * n) T) = tensV n e (gB below) := by
  have hm : gB below * n ≠ 0 := by cases below <;> simp [gB] <;> omega
  unfold scaledV
  rw [if_neg hm]
  by_cases h0 : 0 ≤ T
  · rw [if_pos h0]
    by_cases h60 : 60 < T
    · rw [if_pos (by omega)]
      unfold tensV; rw [if_neg (by omega), if_pos (by omega)]; rfl
    · rw [tens_pos he hn h0 (by omega)]
      by_cases h32 : 32 < T
      · rw [if_pos h32]
        have h1 : (10 : Int) ^ 33 ≤ 10 ^ T.toNat := pow10_mono (by omega)
        have h2 : (10 : Int) ^ 21 < 10 ^ 33 := by decide +kernel
        have h3 : 1 * (10 : Int) ^ T.toNat ≤ n * 10 ^ T.toNat := Int.mul_le_mul_of_nonneg_right (by omega) (by omega)
        rw [if_pos (by omega)]; rfl
      · rw [if_neg h32, Int.mul_assoc]
        exact chk_g (Int.mul_nonneg (by omega) (Int.le_of_lt (pow10_pos _))) below
  · rw [if_neg h0]
    have hbits : Builtin.Int.intBits (gB below * n) = Builtin.Int.intBits n := by
      unfold Builtin.Int.intBits
      rw [gB_abs]
      cases below <;> simp [gB]
    have hb := pow10_pos (-T).toNat
    have hT : (0 - T).toNat = (-T).toNat := by congr 1; omega
    have hV : 0 ≤ (2 * n + 10 ^ (-T).toNat) / (2 * (10 : Int) ^ (-T).toNat) := Int.ediv_nonneg (by omega) (by omega)
    have hz : (Builtin.Int.intBits n : Int) < -T → 2 * n < 10 ^ (-T).toNat := fun h => by
      have h1 : Builtin.Int.intBits n ≤ (-T).toNat - 1 := by omega
      have h2 := intBits_le_iff.mp h1
      have h3 : (2 : Nat) ^ (-T).toNat = 2 * 2 ^ ((-T).toNat - 1) := by
        rw [← Nat.pow_succ']; congr 1; omega
      have h4 := two_ten (-T).toNat
      have h5 : ((2 : Nat) ^ (-T).toNat : Nat) = (2 : Int) ^ (-T).toNat := by push_cast; rfl
      omega
    by_cases h100 : T < -100
    · have e0 : tensV n e (gB below) = .real 0 := by unfold tensV; rw [if_pos (by omega)]
      rw [e0]
      by_cases hq : (Builtin.Int.intBits (gB below * n) : Int) < -T
      · rw [if_pos hq]; rfl
      · rw [if_neg hq, divV_g hn hb]
        have h1 : (10 : Int) ^ 101 ≤ 10 ^ (-T).toNat := pow10_mono (by omega)
        have h2 : 2 * (10 : Int) ^ 99 < 10 ^ 101 := by decide +kernel
        rw [small_zero hn (by omega), Int.mul_zero]
        rfl
    · rw [tens_neg he hn h0 h100, hT]
      by_cases hq : (Builtin.Int.intBits (gB below * n) : Int) < -T
      · rw [if_pos hq]
        rw [hbits] at hq
        rw [small_zero hn (hz hq), Int.mul_zero, if_neg (by decide +kernel)]; rfl
      · rw [if_neg hq, divV_g hn hb]
        exact chk_g hV below

/-- the scaled value of both readers -/
theorem real_eq {n tx k : Int} (h0 : 0 ≤ n) (hn2 : n < 10 ^ 99) (hk0 : 0 ≤ k) (hk : k ≤ 99) (below neg : Bool) (v : Int) (hv : 0 ≤ v) (hx : tx = if neg = true then 0 - v else v) :
    realR (scaledV (if below = true then -n else n) ((if neg = true then -(min v 1000000) else min v 1000000) - k + 6)) = tensV n (tx - k) (gB below) := by
  rw [← gB_mul]
  by_cases hn : n = 0
  · subst hn
    have e : gB below * 0 = 0 := Int.mul_zero _
    unfold scaledV tensV
    rw [if_pos e, if_pos (.inl rfl)]; rfl
  · by_cases hb : v ≤ 1000000
    · rw [show min v 1000000 = v by omega]
      refine scaled_eq (e := tx - k) ?_ (by omega) hn2 below
      rw [hx]; cases neg <;> simp <;> omega
    · rw [show min v 1000000 = 1000000 by omega]
      have hm : gB below * n ≠ 0 := by cases below <;> simp [gB] <;> omega
      have hm2 : (gB below * n).natAbs = n.natAbs := gB_abs below n
      cases neg
      · simp only [Bool.false_eq_true, if_false] at hx ⊢
        subst hx
        unfold scaledV tensV
        rw [if_neg hm, if_pos (by omega), if_pos (by omega), if_neg (by omega), if_pos (by omega)]; rfl
      · simp only [if_true] at hx ⊢
        subst hx
        unfold scaledV tensV
        have hbits : Builtin.Int.intBits (gB below * n) ≤ 400 := intBits_le_iff.mpr (by
          rw [hm2]
          have : n.natAbs < 10 ^ 99 := by omega
          exact Nat.lt_of_lt_of_le this (by decide +kernel))
        rw [if_neg hm, if_neg (by omega), if_pos (by omega), if_pos (by omega)]; rfl

theorem splitV_none {sg : List Int} : ∀ {l p : List Int}, splitV sg l = (p, none) → p = l ∧ ∀ v ∈ l, v ∉ sg
  | [], p, h => by cases h; exact ⟨rfl, fun _ hm => nomatch hm⟩
  | o :: r, p, h => by
    unfold splitV at h
    split at h
    · cases h
    · rename_i ho
      cases hs : splitV sg r with
      | mk a b =>
        rw [hs] at h
        injection h with h1 h2
        dsimp only at h1 h2
        subst h1; subst h2
        obtain ⟨e, hm⟩ := splitV_none hs
        subst e
        exact ⟨rfl, fun v hv => by
          rcases List.mem_cons.mp hv with rfl | hv
          · exact ho
          · exact hm v hv⟩
theorem splitV_some {sg : List Int} : ∀ {l p q : List Int}, splitV sg l = (p, some q) → ∃ o, o ∈ sg ∧ l = p ++ o :: q ∧ ∀ v ∈ p, v ∉ sg
  | [], p, q, h => by cases h
  | o :: r, p, q, h => by
    unfold splitV at h
    split at h
    · rename_i ho
      cases h
      exact ⟨o, ho, rfl, fun _ hm => nomatch hm⟩
    · rename_i ho
      cases hs : splitV sg r with
      | mk a b =>
        rw [hs] at h
        injection h with h1 h2
        dsimp only at h1 h2
        subst h1; subst h2
        obtain ⟨o', ho', e, hm⟩ := splitV_some hs
        subst e
        exact ⟨o', ho', rfl, fun v hv => by
          rcases List.mem_cons.mp hv with rfl | hv
          · exact ho
          · exact hm v hv⟩
theorem splitAll_no {x : Int} : ∀ {l : List Int}, (∀ v ∈ l, v ≠ x) → splitAll x l = [l]
  | [], _ => rfl
  | o :: r, h => by
    rw [splitAll_cons (h o (.head _)), splitAll_no fun v hv => h v (.tail _ hv)]; rfl
theorem splitAll_at {x : Int} : ∀ {p q : List Int}, (∀ v ∈ p, v ≠ x) → splitAll x (p ++ x :: q) = p :: splitAll x q
  | [], q, _ => by
    show (if x = x then _ else _) = _
    rw [if_pos rfl]
  | o :: r, q, h => by
    rw [List.cons_append, splitAll_cons (h o (.head _)), splitAll_at fun v hv => h v (.tail _ hv)]; rfl
theorem splitAll_in {x : Int} : ∀ {l : List Int}, x ∈ l → 2 ≤ (splitAll x l).length
  | o :: r, h => by
    by_cases ho : o = x
    · unfold splitAll; rw [if_pos ho, List.length_cons]
      have := splitAll_ne x r
      have : (splitAll x r).length ≠ 0 := fun q => this (List.length_eq_zero_iff.mp q)
      omega
    · rw [splitAll_cons ho]
      have ih := splitAll_in ((List.mem_cons.mp h).resolve_left fun q => ho q.symm)
      cases hs : splitAll x r with
      | nil => rw [hs] at ih; simp at ih
      | cons a b => rw [hs] at ih; exact ih
theorem rep_no {l : List Int} (h : ∀ v ∈ l, v ∉ [(101 : Int), 69]) : repV 69 101 l = l := rep_id fun hm => h _ hm (by simp)
theorem rep_app (p q : List Int) : repV 69 101 (p ++ q) = repV 69 101 p ++ repV 69 101 q := by unfold repV; rw [List.map_append]
theorem rep_e {o : Int} (h : o ∈ [(101 : Int), 69]) (q : List Int) : repV 69 101 (o :: q) = 101 :: repV 69 101 q := by
  unfold repV
  rw [List.map_cons]
  have : o = 101 ∨ o = 69 := by simpa using h
  rcases this with rfl | rfl <;> rfl
theorem fig_bad {l : List Int} {x : Int} (hx : x ∈ l) (hd : digitV x = none ∨ ∃ d, digitV x = some d ∧ d ≥ 10) : figV 10 l = none := by
  have hne : l ≠ [] := fun e => by rw [e] at hx; cases hx
  unfold figV
  rw [if_neg hne]
  have : ∀ (l : List Int) (a : Int), x ∈ l → figGo 10 l a = none := by
    intro l
    induction l with
    | nil => intro a h; cases h
    | cons o r ih =>
      intro a h
      unfold figGo
      cases ho : digitV o with
      | none => rfl
      | some d =>
        dsimp only
        split
        · rfl
        · rename_i hlt
          rcases List.mem_cons.mp h with e | h
          · subst e
            rcases hd with hd | ⟨d', hd, hd2⟩
            · rw [hd] at ho; cases ho
            · rw [hd] at ho; injection ho with ho; omega
          · exact ih _ h
  exact this l 0 hx
theorem bad_dot : digitV 46 = none ∨ ∃ d, digitV 46 = some d ∧ d ≥ 10 := .inl (by decide)
theorem bad_e {o : Int} (h : o ∈ [(101 : Int), 69]) : digitV o = none ∨ ∃ d, digitV o = some d ∧ d ≥ 10 := by
  have : o = 101 ∨ o = 69 := by simpa using h
  rcases this with rfl | rfl <;> exact .inr ⟨14, by decide, by decide⟩
theorem rest_mem {o : Int} {e : List Int} (h : o ∈ e) (h1 : o ≠ 43) (h2 : o ≠ 45) : o ∈ restV e := by
  unfold restV
  split
  · rename_i hs
    cases e with
    | nil => cases h
    | cons a r =>
      rcases List.mem_cons.mp h with rfl | h
      · simp at hs; omega
      · exact h
  · exact h
end Mine
namespace Mine
open PySem PySem.W PyProof.Rows PySem.Calls
open KBw (bInts)

theorem fig_small {l : List Int} {n : Int} (h : figV 10 l = some n) (hl : l.length ≤ 99) : 0 ≤ n ∧ n < 10 ^ 99 := by
  obtain ⟨h0, h1⟩ := figV_bound h
  exact ⟨h0, Int.lt_of_lt_of_le h1 (pow10_mono hl)⟩
theorem exp_some {e : List Int} {v : Int} (h : figV 10 (restV e) = some v) : expV e = some (if decide (e.take 1 = [45]) = true then -(min v 1000000) else min v 1000000) := by
  unfold expV
  have : figV 10 (if e.take 1 = [43] ∨ e.take 1 = [45] then e.drop 1 else e) = some v := h
  rw [this]
  simp only [decide_eq_true_eq]
theorem exp_none {e : List Int} (h : figV 10 (restV e) = none) : expV e = none := by
  unfold expV
  have : figV 10 (if e.take 1 = [43] ∨ e.take 1 = [45] then e.drop 1 else e) = none := h
  rw [this]
theorem tens_some {e : List Int} {v : Int} (h : figV 10 (restV e) = some v) : tensX e = some (if decide (e.take 1 = [45]) = true then 0 - v else v) := by
  rw [tensX_s h]; simp only [decide_eq_true_eq]

noncomputable def mantV (below : Bool) (T : Option Int) (p : List Int × Option (List Int)) : Res :=
  match T, figV 10 (p.1 ++ p.2.getD []) with
  | some t, some n => realR (scaledV (if below = true then -n else n) (t - (p.2.getD []).length + 6))
  | _, _ => .none
theorem mantV_s {below : Bool} {t n : Int} {p : List Int × Option (List Int)} (h : figV 10 (p.1 ++ p.2.getD []) = some n) : mantV below (some t) p = realR (scaledV (if below = true then -n else n) (t - (p.2.getD []).length + 6)) := by
  unfold mantV; rw [h]
theorem mantV_n {below : Bool} {T : Option Int} {p : List Int × Option (List Int)} (h : figV 10 (p.1 ++ p.2.getD []) = none) : mantV below T p = .none := by
  unfold mantV; rw [h]; cases T <;> rfl
theorem mantV_t {below : Bool} {p : List Int × Option (List Int)} : mantV below none p = .none := by
  unfold mantV; cases figV 10 (p.1 ++ p.2.getD []) <;> rfl
/-- behind the exponent: one mantissa, both ways -/
theorem mant_eq {f : List Int} {v : Int} (hf : f.length ≤ 99) (hv : 0 ≤ v) (below neg one : Bool) (t : Int) (ht : t = if neg = true then 0 - v else v)
    (hone : one = true → (46 : Int) ∈ f) :
    dueB (gB below) (splitAll 46 f) t one = mantV below (some (if neg = true then -(min v 1000000) else min v 1000000)) (splitV [46] f) := by
  cases hs : splitV [46] f with
  | mk wh r =>
    cases r with
    | none =>
      obtain ⟨e, hm⟩ := splitV_none hs
      subst e
      have hno : ∀ v ∈ wh, v ≠ 46 := fun v hv q => hm v hv (by simp [q])
      have ho : one = false := by
        cases one with
        | false => rfl
        | true => exact absurd rfl (hno _ (hone rfl))
      subst ho
      have hA := splitAll_no (x := 46) hno
      cases hn : figV 10 wh with
      | none => rw [B1_n hA hn, mantV_n (by simpa using hn)]
      | some n =>
        obtain ⟨h0, h1⟩ := fig_small hn hf
        rw [B1_s hA hn, mantV_s (n := n) (by simpa using hn)]
        exact (real_eq (k := 0) h0 h1 (by omega) (by omega) below neg v hv ht).symm
    | some rr =>
      obtain ⟨o, ho, e, hm⟩ := splitV_some hs
      have ho' : o = 46 := by simpa using ho
      subst ho'
      have hno : ∀ v ∈ wh, v ≠ 46 := fun v hv q => hm v hv (by simp [q])
      have hl : wh.length + rr.length ≤ 98 := by rw [e, List.length_append, List.length_cons] at hf; omega
      by_cases hq : (46 : Int) ∈ rr
      · have h3 : 3 ≤ (splitAll 46 f).length := by
          rw [e, splitAll_at hno, List.length_cons]
          have := splitAll_in hq; omega
        rw [Bm h3, mantV_n (fig_bad (List.mem_append_right _ hq) bad_dot)]
      · have hA : splitAll 46 f = [wh, rr] := by
          rw [e, splitAll_at hno, splitAll_no fun v hv q => hq (by rw [← q]; exact hv)]
        cases hn : figV 10 (wh ++ rr) with
        | none => rw [B2_n hA hn, mantV_n hn]
        | some n =>
          obtain ⟨h0, h1⟩ := fig_small hn (by rw [List.length_append]; omega)
          rw [B2_s hA hn, mantV_s (n := n) hn]
          exact (real_eq (k := (rr.length : Int)) h0 h1 (by omega) (by omega) below neg v hv ht).symm

theorem real_unf (ks : List Int) (below : Bool) : realV ks below = (match splitV [101, 69] ks with
  | (f, x) => if x = .none ∧ (splitV [46] f).2 = .none then .none else mantV below (match x with | .none => some 0 | .some e => expV e) (splitV [46] f)) := by
  unfold realV mantV
  cases splitV [101, 69] ks with
  | mk f x =>
    dsimp only
    all_goals
      cases splitV [46] f with
      | mk wh r => rfl

theorem whole_eq {n : Int} (h0 : 0 ≤ n) (below : Bool) {pc : List Int} (hA : splitAll 46 pc = [pc]) (hn : figV 10 pc = some n) : dueB (gB below) (splitAll 46 pc) 0 true = wholeV (if below = true then -n else n) := by
  rw [← gB_mul]
  by_cases hi : -2147483648 ≤ gB below * n ∧ gB below * n ≤ 2147483647
  · rw [B1_i hA hn (by show -2147483648 ≤ _; omega) (by show _ < 2147483648; omega)]
    unfold wholeV; rw [if_pos hi]
  · have hn0 : 0 < n := by
      rcases Int.lt_or_eq_of_le h0 with h | h
      · exact h
      · subst h; rw [Int.mul_zero] at hi; omega
    rw [B1_t hA hn (by
      by_cases h1 : -2147483648 ≤ gB below * n
      · exact .inr (by show ¬ _ < 2147483648; omega)
      · exact .inl h1)]
    unfold wholeV; rw [if_neg hi]
    rw [tens_pos (T := 6) (by omega) hn0 (by decide) (by decide), Int.mul_assoc]
    show _ = realR (chk (gB below * (n * 1000000)))
    rw [chk_g (Int.mul_nonneg h0 (by decide))]
    rfl

theorem plain_law (ks : List Int) (hlen : ks.length ≤ 99) : dueV ks = numV ks := by
  unfold dueV numV
  cases h35 : splitV [35] ks with
  | mk pre o =>
    cases o with
    | some post =>
      obtain ⟨o, ho, e, _⟩ := splitV_some h35
      have : o = 35 := by simpa using ho
      subst this
      rw [if_pos (by rw [e]; simp)]
    | none =>
      obtain ⟨e, hm⟩ := splitV_none h35
      rw [if_neg (fun h => hm _ h (by simp))]
      dsimp only
      have hg : sgV ks = gB (decide (ks.take 1 = [45])) := by
        unfold sgV gB; simp only [decide_eq_true_eq]
      rw [hg]
      have hb : (if ks.take 1 = [45] then -(0 : Int) else 0) = 0 := by split <;> rfl
      have hrl := rest_len ks
      have hif : ∀ n : Int, (if ks.take 1 = [45] then -n else n) = if decide (ks.take 1 = [45]) = true then -n else n := fun n => by simp only [decide_eq_true_eq]
      simp only [hif]
      generalize decide (ks.take 1 = [45]) = below
      generalize restV ks = r at hrl
      have hr : r.length ≤ 99 := by omega
      rw [real_unf]
      cases hE : splitV [101, 69] r with
      | mk f x =>
        cases x with
        | none =>
          obtain ⟨e, hm⟩ := splitV_none hE
          subst e
          have hA : splitAll 101 (repV 69 101 f) = [f] := by
            rw [rep_no hm, splitAll_no fun v hv q => hm v hv (by simp [q])]
          rw [hA]
          show dueB (gB below) (splitAll 46 f) 0 true = _
          by_cases hd : (46 : Int) ∈ f
          · rw [fig_bad hd bad_dot]
            dsimp only
            rw [mant_eq (v := 0) hr (by omega) below false true 0 rfl (fun _ => hd)]
            cases hs : splitV [46] f with
            | mk wh rr =>
              cases rr with
              | none => obtain ⟨e, hm2⟩ := splitV_none hs; exact absurd (by simp) (hm2 _ hd)
              | some rr => dsimp only; rw [if_neg (by simp)]; rfl
          · have hno : ∀ v ∈ f, v ≠ 46 := fun v hv q => hd (by rw [← q]; exact hv)
            have hA2 := splitAll_no (x := 46) hno
            have hs : splitV [46] f = (f, none) := split_miss fun v hv q => hno v hv (by simpa using q)
            cases hn : figV 10 f with
            | none => rw [B1_n hA2 hn]; dsimp only; rw [hs]; simp
            | some n =>
              dsimp only
              exact whole_eq (fig_small hn hr).1 below hA2 hn
        | some e =>
          obtain ⟨o, ho, er, hm⟩ := splitV_some hE
          have hfl : f.length + e.length ≤ 98 := by rw [er, List.length_append, List.length_cons] at hr; omega
          have hbad : figV 10 r = none := fig_bad (by rw [er]; simp) (bad_e ho)
          rw [hbad]
          dsimp only
          have hno : ∀ v ∈ f, v ≠ 101 := fun v hv q => hm v hv (by simp [q])
          have hA : splitAll 101 (repV 69 101 r) = f :: splitAll 101 (repV 69 101 e) := by
            rw [er, rep_app, rep_no hm, rep_e ho, splitAll_at hno]
          rw [hA]
          have hcond : ∀ rr : Option (List Int), ¬ (some e = (none : Option (List Int)) ∧ rr = none) := fun rr h => by cases h.1
          rw [if_neg (hcond _)]
          by_cases he : (101 : Int) ∈ repV 69 101 e
          · have h2 := splitAll_in he
            have hin : ∃ o', o' ∈ e ∧ o' ∈ [(101 : Int), 69] := by
              unfold repV at he
              obtain ⟨v, hv, hv2⟩ := List.mem_map.mp he
              refine ⟨v, hv, ?_⟩
              split at hv2
              · rename_i h; simp [h]
              · simp [hv2]
            obtain ⟨o', ho', ho2⟩ := hin
            have hne : o' ≠ 43 ∧ o' ≠ 45 := by
              have : o' = 101 ∨ o' = 69 := by simpa using ho2
              omega
            rw [exp_none (fig_bad (rest_mem ho' hne.1 hne.2) (bad_e ho2)), mantV_t]
            match hl : splitAll 101 (repV 69 101 e), h2 with
            | [], h2 => simp at h2
            | [_], h2 => simp at h2
            | a :: b :: c, _ => rfl
          · have hno2 : ∀ v ∈ e, v ∉ [(101 : Int), 69] := fun v hv q => he (by
              unfold repV
              refine List.mem_map.mpr ⟨v, hv, ?_⟩
              have : v = 101 ∨ v = 69 := by simpa using q
              rcases this with rfl | rfl <;> rfl)
            rw [rep_no hno2, splitAll_no fun v hv q => hno2 v hv (by simp [q])]
            show (match tensX e with | .none => Res.none | .some t => dueB (gB below) (splitAll 46 f) t false) = _
            cases hx : figV 10 (restV e) with
            | none => rw [tensX_n hx, exp_none hx, mantV_t]
            | some v =>
              rw [tens_some hx, exp_some hx]
              dsimp only
              have hv0 := (figV_bound hx).1
              exact mant_eq (by omega) hv0 below (decide (e.take 1 = [45])) false _ rfl (fun h => by cases h)
end Mine
namespace Mine
open PySem PySem.W PyProof.Rows PySem.Calls
open KBw (bInts)
theorem fillme23 : PySem.Challenge.rw_nt0488_01 = PySem.Challenge.rw_nt0488_01 ∧ hd.heap_39 = hd.heap_39 := by
  k_with_none
  w_top off
  k_fill
  exact ⟨rfl, rfl⟩
local macro_rules | `(tactic| k_qdec) => `(tactic| decide +kernel)
local macro_rules | `(tactic| walk_at $s:str) => `(tactic| k_extra $(Lean.Syntax.mkStrLit ("m " ++ s.getString)))
theorem words_W2_1 : True := by
  k_with "m led ne" =>
    first
      | exact List.forall_mem_nil _
      | (refine' List.forall_mem_cons.mpr ⟨?a, ?b⟩; (case a => k_ne); (case b => walk_at "led ne"))
      | (refine' List.forall_mem_append.mpr ⟨?a, ?b⟩; (case a => walk_at "led ne"); (case b => walk_at "led ne"))
      | (refine led_ne (by assumption) ?_; omega)
      | (refine led_ne' (by assumption) ?_; omega)
  k_with "m ct_sides" =>
    (
      (case k1 => k_asm); (case k2 => k_asm); (case k3 => k_asm); (case k4 => k_asm); (case k5 => k_asm); (case kK => first | exact rfl | assumption); (case kd => ktr_room); (case ku => ktr_units))
  k_with "m drop led" =>
    first
      | k_asm
      | (refine cb_drop (by with_reducible assumption) ?_; intro p hp; first
          | exact .tail _ hp
          | exact .tail _ (.tail _ hp)
          | exact .tail _ (.tail _ (.tail _ hp))
          | exact .tail _ (.tail _ (.tail _ (.tail _ hp)))
          | exact .tail _ (.tail _ (.tail _ (.tail _ (.tail _ hp))))
          | exact List.mem_append_left _ hp
          | exact List.mem_append_right _ hp
          | (simp only [List.nil_append, List.cons_append, List.mem_append, List.mem_cons] at hp ⊢; grind))
      | exact led_top (by assumption)
  k_with "m b ints" =>
    first | kba_ints2 | exact rfl
  k_with "m compareOp In bytes ref" =>
    (
      k_here; (with_reducible show wpAny _ _ (compareOp CmpOp.In (Value.bytes _ _) (Value.ref _)) _ _ _);
      (refine' in_tupI ?k1 ?k2 ?k3 ?k4 ?_; (case k1 => exact News.get (by k_asm) (by k_mem)); (case k2 => walk_at "b ints"); (case k3 => exact rfl); (case k4 => exact rfl); k_whole))
  k_with "m compareOp Eq bytes bytes" =>
    (
      k_here; (refine' eq_bytesI ?k1 ?k2 ?_; (case k1 => walk_at "b ints"); (case k2 => walk_at "b ints"); k_whole))
  k_with "m compareOp In int bytes" =>
    (
      k_here; (refine' in_intI ?k0 ?k1 ?k2 ?_; (case k0 => omega); (case k1 => omega); (case k2 => walk_at "b ints"); k_whole))
  exact trivial
section
variable {prog : Program} {w : World} {A : Around} {E : Value → Shared → Prop} {s : Shared} {h₀ : Heap} {L D C : Addr} {m : PySem.Str → Option Value} {l rest : Led} {o : Obj} {tm : Tok} {nn : Nat} {vs : List Value} {ns : List Int} {mx : Int}
theorem cutS {T : Sem Flow} {Q : Flow → Shared → Prop} (x : Str) (bd : Nat) (_ : Fr h₀ L s.heap m) (_ : News h₀ L s.heap l) (_ : Pull D C o (listOf vs.toArray nn) l rest) (_ : DkIs w o C mx tm)
    (h1 : ∀ P : Flow → Shared → Prop, (∀ b t ks h' tk o' tm' nn' vs' ns' mx', bInts b = ks → ks.length ≤ bd → DkOk vs' ns' mx' → DkIs w o' C mx' tm' → Fr h₀ L h' (fun y => if y = x then some (.bytes b t) else m y) → News h₀ L h' ((D, o') :: (C, listOf (List.toArray vs') nn') :: rest) → P .next { s with heap := h', toks := tk }) → wpAny (model prog w) A T P E s)
    (h2 : ∀ b t ks h' tk o' tm' nn' vs' ns' mx', bInts b = ks → ks.length ≤ bd → DkOk vs' ns' mx' → DkIs w o' C mx' tm' → Fr h₀ L h' (fun y => if y = x then some (.bytes b t) else m y) → News h₀ L h' ((D, o') :: (C, listOf (List.toArray vs') nn') :: rest) → Q .next { s with heap := h', toks := tk }) : wpAny (model prog w) A T Q E s := h1 Q h2
theorem cutN {T : Sem Flow} {Q : Flow → Shared → Prop} (_ : Fr h₀ L s.heap m) (_ : News h₀ L s.heap l)
    (h1 : ∀ P : Flow → Shared → Prop, (∀ h' tk, Fr h₀ L h' m → News h₀ L h' l → P .next { s with heap := h', toks := tk }) → wpAny (model prog w) A T P E s)
    (h2 : ∀ h' tk, Fr h₀ L h' m → News h₀ L h' l → Q .next { s with heap := h', toks := tk }) : wpAny (model prog w) A T Q E s := h1 Q h2
end
def isB60 : Value → Bool
  | .bytes b _ => decide (b.size ≤ 60)
  | _ => false
theorem k_odd {K : Frag} {prog : Program} {w : World} {A : Around} {E : Value → Shared → Prop} {s : Shared} {h₀ : Heap} {L a : Addr} {m : PySem.Str → Option Value} {value slice : Expr} {l : List Value} {dd : Option Addr} {sl : Array (Option Value)} {n : Nat} {k : Int} {u : Tok} {Q : Value → Shared → Prop} (F : Fr h₀ L s.heap m) (X₀ : K.In h₀) (hl : K.lookup a = some ⟨.type "tuple", dd, .seq l.toArray n, sl⟩)
    (len : Nat) (hlen : l.length = len) (h0 : 0 ≤ k) (h1 : k < (len : Int)) (h2 : len ≤ 1000) (hall : l.all isB60 = true) (h : ∀ b t ks, bInts b = ks → ks.length ≤ 60 → Q (.bytes b t) s)
    (hs : ∀ u, subscripted slice false (.ref a) (.int k u) = operate [.ref a, .int k u] (getItem (.ref a) (.int k u)) := by intro _; with_unfolding_all rfl) :
    wpAny (model prog w) A (subscriptTail value slice (.ref a) (.int k u)) Q E s := by
  have hk : k.toNat < l.length := by omega
  have hx := List.all_eq_true.mp hall _ (List.getElem_mem hk)
  cases hv : l[k.toNat] with
  | bytes b t =>
    rw [hv] at hx
    have hx' : b.size ≤ 60 := of_decide_eq_true hx
    have hj : seqIndex? k l.length = some k.toNat := by
      have h3 : ¬ k < 0 := by omega
      have h4 : k < (l.length : Int) := by omega
      simp [seqIndex?, h3, h4]
    exact item_tupleT (PySem.W.tupK (X₀.keeps F.keep) hl) (by omega) (by omega) hj (by rw [List.getElem?_eq_getElem hk, hv]) (h b t _ rfl (by rw [KBw.ints_length]; exact hx')) (hs u)
  | _ => rw [hv] at hx; cases hx
theorem told_use {w : World} {b : Array UInt8} {ks : List Int} {t : Tok} {news : Led} {p : Program} {loose : List Str} {mean : ExcName → Option Value} {mg mb : Str → Option Value}
    {dp un : Nat} {gd : Option (List Code)} {cn : Str} {cs : Scope} {a : Addr} {ccd : Value} {A₀ : Around}
    {base h₀ : Heap} {L : Addr} {m : Str → Option Value} {s : Shared} {Q E : Value → Shared → Prop} (hb : bInts b = ks) (hlen : ks.length ≤ 99)
    (B : Below A₀ base [] h₀) (F : Fr h₀ L s.heap m) (X : (hd.heap_39 w.params).In h₀) (N : News h₀ L s.heap news) (T : Top p loose mean mg mb h₀) (XB : (hd.heap_39 w.params).In base) (TB : Top p loose mean mg mb base) (hk : cs.kind = .function)
    (hdp : dp + 11 < recursionLimit) (hun : un + 8 * 11 < cLine)
    (ret : ∀ r tl h' tk', Fr h₀ L h' m → News h₀ L h' (tl ++ news) → ToldIs r tl (numV ks) → Q r { s with heap := h', toks := tk' }) :
    wpAny (model PG w) (ktrTop dp un gd cn cs L a ccd [] []) (call (.ref 217) [.bytes b t]) Q E s :=
  c_told w b ks hb hlen t news _ _ _ _ _ _ _ _ _ _ _ _ _ _ _ _ _ _ _ _ B F X N T XB TB hk hdp hun ret
section
variable {prog : Program} {w : World} {A : Around} {E : Value → Shared → Prop} {s : Shared} {env : Env} {h₀ : Heap} {x y z : Str} {body : List Stmt} {Q : Flow → Shared → Prop}
def LJ (w : World) (x y z : Str) (D C : Addr) (m₀ : Str → Option Value) (m : Str → Option Value) (nx : Led) : Prop :=
  (∃ o tm nn vs ns mx, nx = [(D, o), (C, listOf (List.toArray vs) nn)] ∧ DkOk vs ns mx ∧ DkIs w o C mx tm) ∧ ∀ q, q ≠ x → q ≠ y → q ≠ z → m q = m₀ q
theorem lj_map {m₁ m₀ : Str → Option Value} {v : Value} (hm : ∀ q, q ≠ x → q ≠ y → q ≠ z → m₁ q = m₀ q) :
    (fun q => if q = x then some v else m₁ q) = fun q => if q = x then some v else if q = y then m₁ y else if q = z then m₁ z else m₀ q := by
  funext q
  by_cases h1 : q = x
  · simp [h1]
  · simp only [if_neg h1]
    by_cases h2 : q = y
    · subst h2; simp
    · simp only [if_neg h2]
      by_cases h3 : q = z
      · subst h3; simp
      · simp only [if_neg h3]; exact hm q h1 h2 h3
theorem lj_done {m₁ m₀ : Str → Option Value} (hm : ∀ q, q ≠ x → q ≠ y → q ≠ z → m₁ q = m₀ q) :
    m₁ = fun q => if q = x then m₁ x else if q = y then m₁ y else if q = z then m₁ z else m₀ q := by
  funext q
  by_cases h1 : q = x
  · simp [h1]
  · simp only [if_neg h1]
    by_cases h2 : q = y
    · subst h2; simp
    · simp only [if_neg h2]
      by_cases h3 : q = z
      · subst h3; simp
      · simp only [if_neg h3]; exact hm q h1 h2 h3
theorem law_loop {r : Addr} {t₀ u₀ v₀ : Tok} {m₀ : Str → Option Value} {l : Led} {D C : Addr} {o : Obj} {tm : Tok} {nn : Nat} {vs : List Value} {ns : List Int} {mx : Int}
    (hh : A.handled = none) (hr : IsRange s.heap r 0 3 1 t₀ u₀ v₀) (F : Fr h₀ env.locals s.heap m₀) (N : News h₀ env.locals s.heap l)
    (hDk : DkIs w o C mx tm) (m1 : (D, o) ∈ l) (m2 : (C, listOf vs.toArray nn) ∈ l) (ok : DkOk vs ns mx) (hDC : @Ne Nat D C)
    (turn : ∀ k t (u : Str → Option Value) h tk own o tm nn vs ns mx, DkOk vs ns mx → DkIs w o C mx tm → @Ne Nat D C → (∀ p ∈ own, p.1 ≠ C) → (∀ p ∈ own, p.1 ≠ D) →
      Fr h₀ env.locals h (fun q => if q = x then some (.int k t) else if q = y then u y else if q = z then u z else m₀ q) → News h₀ env.locals h ((D, o) :: (C, listOf (List.toArray vs) nn) :: own) →
      wpAny (model prog w) A (execs body env) (InvPostN h₀ env.locals (LJ w x y z D C m₀) own [D, C] { s with heap := h, toks := tk } Q) E { s with heap := h, toks := tk })
    (done : ∀ (u : Str → Option Value) h tk o nn vs,
      Fr h₀ env.locals h (fun q => if q = x then u x else if q = y then u y else if q = z then u z else m₀ q) → News h₀ env.locals h [(D, o), (C, listOf (List.toArray vs) nn)] → Q .next { s with heap := h, toks := tk }) :
    wpAny (model prog w) A (pyIter (.ref r)) (fun it s₂ => LoopAtV prog w A h₀ env x body Q E it s₂) E s := by
  have N' : PyProof.Rows.News h₀ env.locals s.heap [(D, o), (C, listOf vs.toArray nn)] := fun q hq => by
    rcases List.mem_cons.mp hq with rfl | hq
    · exact N _ m1
    · rw [List.mem_singleton.mp hq]; exact N _ m2
  refine kpr_invN (n := 3) (fun _ => LJ w x y z D C m₀) hh hr (small_one (by decide) (by decide) (by decide) (by decide)) (by decide) F N' ⟨⟨_, _, _, _, _, _, rfl, ok, hDk⟩, fun _ _ _ _ => rfl⟩ ?_ ?_
  · rintro i k t m₁ nx h tk own hk hoff ⟨⟨o, tm, nn, vs, ns, mx, rfl, ok, hDk⟩, hm⟩ F₁ N₁
    rw [lj_map hm] at F₁
    exact turn k t m₁ h tk own o tm nn vs ns mx ok hDk hDC (fun p hp => hoff p hp C (.tail _ (.head _))) (fun p hp => hoff p hp D (.head _)) F₁ N₁
  · rintro m₁ nx h tk ⟨⟨o, tm, nn, vs, ns, mx, rfl, ok, hDk⟩, hm⟩ F₁ N₁
    rw [lj_done hm] at F₁
    exact done m₁ h tk o nn vs F₁ N₁
theorem lj_end {L : Addr} {m' m₀ : Str → Option Value} {l own : Led} {D C : Addr} {o : Obj} {tm : Tok} {nn : Nat} {vs : List Value} {ns : List Int} {mx : Int} {h' : Heap} {tk : Nat} {s₁ : Shared}
    {r : Led} (F : Fr h₀ L h' m') (N₀ : PyProof.Rows.News h₀ L h' l) (P : Pull D C o (listOf vs.toArray nn) l r) (hs : ∀ q ∈ own, q ∈ r) (ok : DkOk vs ns mx) (hDk : DkIs w o C mx tm) (hm : ∀ q, q ≠ x → q ≠ y → q ≠ z → m' q = m₀ q) :
    InvEndN h₀ L (LJ w x y z D C m₀) own [D, C] s₁ { s₁ with heap := h', toks := tk } :=
  have N : PyProof.Rows.News h₀ L h' ((D, o) :: (C, listOf vs.toArray nn) :: r) := fun q hq => N₀ q (P.sub q hq)
  ⟨h', tk, m', _, [(D, o), (C, listOf vs.toArray nn)], rfl, F, N, fun p hp => by
    rcases List.mem_cons.mp hp with rfl | hp
    · exact .head _
    · rw [List.mem_singleton.mp hp]; exact .tail _ (.head _), fun p hp => .tail _ (.tail _ (hs _ hp)), rfl, ⟨_, _, _, _, _, _, rfl, ok, hDk⟩, hm⟩
end
local macro_rules | `(tactic| k_all) => `(tactic| assumption)
theorem words_W2_2 : True := by
  k_with "m pull" =>
    first
      | exact Pull.here
      | exact (Pull.skip Pull.here)
      | exact (Pull.skip (Pull.skip Pull.here))
      | exact (Pull.skip (Pull.skip (Pull.skip Pull.here)))
      | exact (Pull.skip (Pull.skip (Pull.skip (Pull.skip Pull.here))))
      | exact (Pull.skip (Pull.skip (Pull.skip (Pull.skip (Pull.skip Pull.here)))))
      | exact (Pull.skip (Pull.skip (Pull.skip (Pull.skip (Pull.skip (Pull.skip Pull.here))))))
      | exact (Pull.skip (Pull.skip (Pull.skip (Pull.skip (Pull.skip (Pull.skip (Pull.skip Pull.here)))))))
      | exact (Pull.skip (Pull.skip (Pull.skip (Pull.skip (Pull.skip (Pull.skip (Pull.skip (Pull.skip Pull.here))))))))
      | exact (Pull.skip (Pull.skip (Pull.skip (Pull.skip (Pull.skip (Pull.skip (Pull.skip (Pull.skip (Pull.skip Pull.here)))))))))
  k_with "m dk_sides" =>
    (
      (case n1 => k_asm); (case n2 => walk_at "pull"); (case o1 => assumption); (case o2 => assumption); (case o3 => assumption); (case o4 => assumption); (case o5 => k_all); (case o6 => k_all);
      (case k1 => k_asm); (case k2 => k_asm); (case k3 => k_asm); (case k5 => k_asm); (case kK => first | exact rfl | assumption); (case kd => ktr_room); (case ku => ktr_units))
  k_with "m call ref" =>
    (
      k_here; (with_reducible show wpAny _ _ (call (Value.ref 158) [Value.ref _, Value.int _ _]) _ _ _);
      k_dflt (refine' dk_draw ?ka ?kb ?n1 ?n2 ?o1 ?o2 ?o3 ?o4 ?o5 ?o6 ?k1 ?k2 ?k3 ?k5 ?kK ?kd ?ku ?_; (case ka => walk_at "many lo"); (case kb => walk_at "many hi"); walk_at "dk_sides");
      (intro v9 t9 h9 tk9 o9 tm9 nn9 vs9 ns9 mx9 ok9 hDk9 F9 N9 hlo9 hhi9 hbd9; (try dsimp only); (try k_fold)))
  k_with "m all B" =>
    first
      | exact List.forall_mem_nil _
      | (refine List.forall_mem_cons.mpr ⟨⟨_, _, rfl, by decide⟩, ?_⟩; walk_at "all B")
  k_with "m all I" =>
    first
      | exact List.forall_mem_nil _
      | (refine List.forall_mem_cons.mpr ⟨⟨_, _, rfl, by decide +kernel, by decide +kernel⟩, ?_⟩; walk_at "all I")
  k_with "m menu hi" =>
    ((try simp only [List.size_toArray, List.length_cons, List.length_nil]); omega)
  k_with "m subscriptTail List cons Call ref int" =>
    (
      k_here; k_dflt (refine kba_turn (value' := PySem.Expr.Name (PySem.Str.ofString "_") ⟨0, 0, 0, 0⟩) (fun _ => rfl) ?_); k_dflt (refine' k_menuI ?k1 ?k2 ?k3 ?k4 ?k5 1 10000000000000000 ?k6 ?_; (case k1 => k_asm); (case k2 => k_mem); (case k3 => omega); (case k4 => omega); (case k5 => walk_at "menu hi"); (case k6 => walk_at "all I"); k_whole);
      intro v9 t9 hlo9 hhi9; (try dsimp only); (try k_fold))
  k_with "m subscriptTail List cons Call ref int" =>
    (
      k_here; k_dflt (refine kba_turn (value' := PySem.Expr.Name (PySem.Str.ofString "_") ⟨0, 0, 0, 0⟩) (fun _ => rfl) ?_); k_dflt (refine' k_menuB ?k1 ?k2 ?k3 ?k4 ?k5 ?k6 ?_; (case k1 => k_asm); (case k2 => k_mem); (case k3 => omega); (case k4 => omega); (case k5 => walk_at "menu hi"); (case k6 => walk_at "all B"); k_whole);
      intro b9 t9 ks9 hb9 hl9; (try dsimp only); (try k_fold))
  k_with "m subscriptTail Name Call ref int" =>
    (
      k_here; k_dflt (refine' k_menuI ?k1 ?k2 ?k3 ?k4 ?k5 1 10000000000000000 ?k6 ?_; (case k1 => k_asm); (case k2 => k_mem); (case k3 => omega); (case k4 => omega); (case k5 => walk_at "menu hi"); (case k6 => walk_at "all I"); k_whole);
      intro v9 t9 hlo9 hhi9; (try dsimp only); (try k_fold))
  k_with "m subscriptTail Name Call ref int" =>
    (
      k_here; k_dflt (refine' k_menuB ?k1 ?k2 ?k3 ?k4 ?k5 ?k6 ?_; (case k1 => k_asm); (case k2 => k_mem); (case k3 => omega); (case k4 => omega); (case k5 => walk_at "menu hi"); (case k6 => walk_at "all B"); k_whole);
      intro b9 t9 ks9 hb9 hl9; (try dsimp only); (try k_fold))
  k_with "m call ref" =>
    (
      k_here; (with_reducible show wpAny _ _ (call (Value.ref 163) [Value.int _ _]) _ _ _);
      k_dflt (refine' ct_use ?k1 ?k2 ?k3 ?k4 ?k5 ?kK (c_octets _ _ ?ka ?kb _ _) ?kd ?ku ?_; (case ka => omega); (case kb => omega); walk_at "ct_sides");
      (intro r9 tl9 h9 tk9 F9 N9 hR9; obtain ⟨e9, b9, t9, e8, hl9⟩ := hR9; subst e9; subst e8; (try simp only [List.nil_append] at N9); (generalize hb9 : bInts _ = ks9 at hl9); (try dsimp only); (try k_fold)))
  k_with "m exec For Name Call cons nil" =>
    (
      k_here; (rename Fr _ _ _ _ => lF'); (k_dflt (with_unfolding_all refine' For_invVF lF' ?k1 ?k2 ?_; (case k1 => exact rfl); (case k2 => exact rfl); k_whole)))
  k_with "m pyIter ref" =>
    (
      k_here; (with_reducible rename IsRange _ _ 0 3 1 _ _ _ => rgX);
      k_dflt (with_unfolding_all refine' law_loop (y := Str.ofString "way") (z := Str.ofString "octets") ?k1 ?k2 ?k3 ?k4 ?k5 ?k6 ?k7 ?k8 ?k9 ?_ ?_; (case k2 => exact rgX); (case k1 => rfl); (case k3 => k_asm); (case k4 => k_asm); (case k5 => assumption); (case k6 => k_mem); (case k7 => k_mem); (case k9 => omega); (case k8 => exact ⟨by assumption, by (rw [IntsAre.length (by assumption)]; simp only [List.length_reverse, List.length_map, List.length_take]; omega), by omega, by omega⟩));
      (all_goals (first
        | (intro k9 t9 u9 h9 tk9 own9 o9 tm9 nn9 vs9 ns9 mx9 ok9 hDk9 hDC9 oC9 oD9 F9 N9)
        | (intro u9 h9 tk9 o9 nn9 vs9 F9 N9)));
      (all_goals ((try dsimp only); (try k_fold))))
  k_with "m InvEndN" =>
    (
      refine' lj_end ?k1 ?k2 ?k6 ?k3 ?k4 ?k5 ?k9; (case k1 => k_asm); (case k2 => k_asm); (case k6 => walk_at "pull"); (case k3 => (intro q hq; repeat (first | exact hq | refine List.Mem.tail _ ?_))); (case k4 => assumption); (case k5 => assumption);
      (case k9 => (intro q h1 h2 h3; simp only [if_neg h1, if_neg h2, if_neg h3])))
  k_with "m many lo" =>
    first | decide | omega
  k_with "m many hi" =>
    first | decide | omega
  k_with "m subscriptTail Name Call ref int" =>
    (
      k_here; k_dflt (refine' k_odd ?k1 ?k2 ?k3 35 ?k4 ?k5 ?k6 ?k7 ?k8 ?_; (case k1 => k_asm); (case k2 => k_asm); (case k3 => k_is); (case k4 => with_unfolding_all rfl); (case k5 => omega); (case k6 => omega); (case k7 => decide); (case k8 => with_unfolding_all rfl); k_whole);
      intro b9 t9 ks9 hb9 hl9; (try dsimp only); (try k_fold))
  k_with "m call ref" =>
    (
      k_here; (with_reducible show wpAny _ _ (call (Value.ref 177) [Value.ref _]) _ _ _);
      k_dflt (refine' dk_use (as := fun D => [Value.ref D]) (c_based _ _) ?n1 ?n2 ?o1 ?o2 ?o3 ?o4 ?o5 ?o6 ?k1 ?k2 ?k3 ?k5 ?kK ?kd ?ku ?_; walk_at "dk_sides");
      (intro r9 tl9 h9 tk9 o9 tm9 nn9 vs9 ns9 mx9 ok9 hDk9 F9 N9 hR9; obtain ⟨e9, b9, t9, ks9, e8, hb9, hl9⟩ := hR9; subst e9; subst e8; (try simp only [List.nil_append] at N9); (try dsimp only); (try k_fold)))
  k_with "m call ref" =>
    (
      k_here; (with_reducible show wpAny _ _ (call (Value.ref 170) [Value.ref _]) _ _ _);
      k_dflt (refine' dk_use (as := fun D => [Value.ref D]) (c_plain _ _) ?n1 ?n2 ?o1 ?o2 ?o3 ?o4 ?o5 ?o6 ?k1 ?k2 ?k3 ?k5 ?kK ?kd ?ku ?_; walk_at "dk_sides");
      (intro r9 tl9 h9 tk9 o9 tm9 nn9 vs9 ns9 mx9 ok9 hDk9 F9 N9 hR9; obtain ⟨e9, b9, t9, ks9, e8, hb9, hl9⟩ := hR9; subst e9; subst e8; (try simp only [List.nil_append] at N9); (try dsimp only); (try k_fold)))
  k_with "m call ref" =>
    (
      k_here; (with_reducible show wpAny _ _ (call (Value.ref 184) [Value.ref _, Value.bytes _ _]) _ _ _);
      k_dflt (refine' dk_use (as := fun D => [Value.ref D, Value.bytes _ _]) (c_bent _ _ _ ?ka ?kb _ _) ?n1 ?n2 ?o1 ?o2 ?o3 ?o4 ?o5 ?o6 ?k1 ?k2 ?k3 ?k5 ?kK ?kd ?ku ?_; (case ka => assumption); (case kb => omega); walk_at "dk_sides");
      (intro r9 tl9 h9 tk9 o9 tm9 nn9 vs9 ns9 mx9 ok9 hDk9 F9 N9 hR9; obtain ⟨e9, b9, t9, ks9, e8, hb9, hl9⟩ := hR9; subst e9; subst e8; (try simp only [List.nil_append] at N9); (try dsimp only); (try k_fold)))
  exact trivial
theorem fr_same {h₀ h : Heap} {L : Addr} {m : Str → Option Value} {x : Str} {v : Value} (hx : m x = some v) (F : Fr h₀ L h m) : Fr h₀ L h (fun y => if y = x then some v else m y) := by
  have e : (fun y => if y = x then some v else m y) = m := by
    funext y
    by_cases h : y = x
    · subst h; simp [hx]
    · simp [h]
  rw [e]; exact F
inductive CutMark : Prop | mk
theorem words_W2_3 : True := by
  k_with "m exec If" =>
    (
      (fail_if_success (have : CutMark := by assumption));
      k_here; (with_reducible show wpAny _ _ (exec (Stmt.If (Expr.Compare (Expr.Name _ _) _ _ _) _ (_ :: _) _) _) _ _ _);
      k_dflt (refine' cutS (Str.ofString "octets") 60 ?k1 ?k2 ?k3 ?k4 ?h1 ?_; (case k1 => k_asm); (case k2 => k_asm); (case k3 => walk_at "pull"); (case k4 => assumption));
      (case h1 =>
        intro P hP
        have hCut := CutMark.mk
        k_dflt k_steps
        all_goals (
          refine' hP _ _ _ _ _ _ _ _ _ _ _ ?a ?b ?c ?d ?F ?N
          case F => first | k_asm | exact fr_same rfl (by k_asm)
          case N => k_asm
          case a => assumption
          case b => omega
          case c => assumption
          case d => assumption));
      k_whole;
      (intro b9 t9 ks9 h9 tk9 o9 tm9 nn9 vs9 ns9 mx9 hb9 hl9 ok9 hDk9 F9 N9; (try dsimp only); (try k_fold)))
  k_with "m exec If" =>
    (
      (fail_if_success (have : CutMark := by assumption));
      k_here; (with_reducible show wpAny _ _ (exec (Stmt.If (Expr.Compare (Expr.Name _ _) _ _ _) _ [] _) _) _ _ _);
      k_dflt (refine' cutS (Str.ofString "octets") 70 ?k1 ?k2 ?k3 ?k4 ?h1 ?_; (case k1 => k_asm); (case k2 => k_asm); (case k3 => walk_at "pull"); (case k4 => assumption));
      (case h1 =>
        intro P hP
        have hCut := CutMark.mk
        k_dflt k_steps
        all_goals (
          refine' hP _ _ _ _ _ _ _ _ _ _ _ ?a ?b ?c ?d ?F ?N
          case F => first | k_asm | exact fr_same rfl (by k_asm)
          case N => k_asm
          case a => assumption
          case b => omega
          case c => assumption
          case d => assumption));
      k_whole;
      (intro b9 t9 ks9 h9 tk9 o9 tm9 nn9 vs9 ns9 mx9 hb9 hl9 ok9 hDk9 F9 N9; (try dsimp only); (try k_fold)))
  exact trivial
theorem led_sub {g h : Heap} {L : Addr} {l l' : Led} (N : PyProof.Rows.News g L h l') (hs : ∀ q ∈ l, q ∈ l') : PyProof.Rows.News g L h l := fun q hq => N q (hs q hq)
theorem words_W2_4 : True := by
  k_with "m call ref" =>
    (
      k_here; (with_reducible show wpAny _ _ (call (Value.ref 217) [Value.bytes _ _]) _ _ _);
      k_dflt (refine' told_use ?ka ?kb ?k1 ?k2 ?k3 ?k4 ?k5 ?k6 ?k7 ?kK ?kd ?ku ?_; (case ka => assumption); (case kb => omega); (case k1 => k_asm); (case k2 => k_asm); (case k3 => k_asm); (case k4 => k_asm); (case k5 => k_asm); (case k6 => k_asm); (case k7 => k_asm); (case kK => first | exact rfl | assumption); (case kd => ktr_room); (case ku => ktr_units));
      (intro r9 tl9 h9 tk9 F9 N9 hR9; generalize hx9 : numV _ = x9 at hR9; rcases x9 with _ | _ | n9 | n9);
      (all_goals (k_dflt (first | (obtain ⟨e9, e8⟩ := hR9; subst e9; subst e8) | (obtain ⟨e9, t9, e8⟩ := hR9; subst e9; subst e8) | (obtain ⟨a9, t9, t8, e9, e8⟩ := hR9; subst e9; subst e8))));
      (all_goals ((try simp only [List.nil_append, List.cons_append] at N9); (try dsimp only); (try k_fold))))
  k_with "m call ref" =>
    (
      k_here; (with_reducible show wpAny _ _ (call (Value.ref 210) [Value.bytes _ _]) _ _ _);
      k_dflt (refine' ct_use ?k1 ?k2 ?k3 ?k4 ?k5 ?kK (c_due _ _ _ ?ka ?kb _ _) ?kd ?ku ?_; (case ka => assumption); (case kb => omega); walk_at "ct_sides");
      (intro r9 tl9 h9 tk9 F9 N9 hR9; rw [plain_law _ (by omega)] at hR9; (rename numV _ = _ => hx8); rw [hx8] at hR9);
      (k_dflt (first | (obtain ⟨e9, e8⟩ := hR9; subst e9; subst e8) | (obtain ⟨e9, t9, e8⟩ := hR9; subst e9; subst e8) | (obtain ⟨a9, t9, t8, e9, e8⟩ := hR9; subst e9; subst e8)));
      ((try simp only [List.nil_append, List.cons_append] at N9); (try dsimp only); (try k_fold)))
  k_with "m exec If" =>
    (
      (fail_if_success (have : CutMark := by assumption));
      k_here; (with_reducible show wpAny _ _ (exec (Stmt.If (Expr.Compare (Expr.Call _ _ _ _) _ _ _) _ [] _) _) _ _ _);
      k_dflt (refine' cutN ?k1 ?k2 ?h1 ?_; (case k1 => k_asm); (case k2 => k_asm));
      (case h1 =>
        intro P hP
        have hCut := CutMark.mk
        k_dflt k_steps
        all_goals exact hP _ _ (by k_asm) (led_sub (by k_asm) (by intro q hq; repeat (first | exact hq | refine List.Mem.tail _ ?_))));
      k_whole;
      (intro h9 tk9 F9 N9; (try dsimp only); (try k_fold)))
  exact trivial
theorem t1 : PySem.Challenge.rw_nt0488_01.Holds := by
  refine hd (by rfl) (by rfl) (by rfl) ?_
  delta hd.hook hd.loose hd.lv
  w_on
  k_with "pyIter ref" => k_state (fun _ m => 0 ≤ m ∧ m < 1000003) "mixed"
  w_strict k_go
end Mine
theorem PySem.Challenge.cw_nt0488_01_holds : PySem.Challenge.rw_nt0488_01.Holds := by
  exact Mine.t1
