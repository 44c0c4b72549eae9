import PyProof.Rows.All
import Wide.All
import OpenK.AllK
import Wide.FinOn
import PySem.Challenge.RW_nz0385_01
set_option Elab.async false

section -- HE
open PySem PySem.W PySem.Calls PyProof.Rows
set_option Elab.async false
set_option maxRecDepth 1000000
set_option maxHeartbeats 0
namespace Mine
/-- the i-th row of the text's top -/
def stm (i : Nat) : Stmt := match PySem.Challenge.pw_nz0385_01.main.body.drop i with
  | s :: _ => s
  | [] => .Pass ⟨0, 0, 0, 0⟩
/-- the i-th row of a class -/
def sub (c : Stmt) (i : Nat) : Stmt := match c with
  | .ClassDef _ _ _ b _ _ _ _ _ _ _ => (match b.drop i with
    | s :: _ => s
    | [] => .Pass ⟨0, 0, 0, 0⟩)
  | _ => .Pass ⟨0, 0, 0, 0⟩
/-- what a def leaves -/
def fnObj (st : Stmt) (qual : Str) (pm : Value) (cd : Addr) (dV : Value) : Obj := match st with
  | .FunctionDef name args body _ _ _ scope _ _ _ =>
    { cls := .type "function", data := .func { name, qualname := qual, params := args, body := .stmts body, scope, globals := 3, closure := [], defaults := dV, kwdefaults := .none, pyModule := pm, code := .ref cd } }
  | _ => default
/-- the part of the state behind the top that the walk leans on -/
noncomputable def heap : Params → Frag := fun P =>
  (nat_lit 3, { cls := Value.type "dict", data := Data.dict #[{ hash := PyData.keyHash P (Str.ofString "__name__"), key := Value.str (Str.ofString "__name__") 165, val := Value.str (Str.ofString "law_nz0385_01") 466 }, { hash := PyData.keyHash P (Str.ofString "__doc__"), key := Value.str (Str.ofString "__doc__") 166, val := Value.none }, { hash := PyData.keyHash P (Str.ofString "__package__"), key := Value.str (Str.ofString "__package__") 167, val := Value.none }, { hash := PyData.keyHash P (Str.ofString "__loader__"), key := Value.str (Str.ofString "__loader__") 168, val := Value.builtin "__main__.__loader__#opaque" }, { hash := PyData.keyHash P (Str.ofString "__spec__"), key := Value.str (Str.ofString "__spec__") 169, val := Value.none }, { hash := PyData.keyHash P (Str.ofString "__annotations__"), key := Value.str (Str.ofString "__annotations__") 170, val := Value.ref 6 }, { hash := PyData.keyHash P (Str.ofString "__builtins__"), key := Value.str (Str.ofString "__builtins__") 171, val := Value.ref 4 }, { hash := PyData.keyHash P (Str.ofString "__file__"), key := Value.str (Str.ofString "__file__") 173, val := Value.str (Str.ofString "/claim/cut.py") 172 }, { hash := PyData.keyHash P (Str.ofString "__cached__"), key := Value.str (Str.ofString "__cached__") 174, val := Value.none }, { hash := PyData.keyHash P (Str.ofString "_wall"), key := Value.str (Str.ofString "_wall") 193, val := Value.ref 21 }, { hash := PyData.keyHash P (Str.ofString "clause_of"), key := Value.str (Str.ofString "clause_of") 204, val := Value.ref 28 }, { hash := PyData.keyHash P (Str.ofString "place_of"), key := Value.str (Str.ofString "place_of") 211, val := Value.ref 35 }, { hash := PyData.keyHash P (Str.ofString "Clauses"), key := Value.str (Str.ofString "Clauses") 322, val := Value.ref 114 }, { hash := PyData.keyHash P (Str.ofString "Circuit"), key := Value.str (Str.ofString "Circuit") 465, val := Value.ref 224 }, { hash := PyData.keyHash P (Str.ofString "_law_next"), key := Value.str (Str.ofString "_law_next") 476, val := Value.ref 235 }, { hash := PyData.keyHash P (Str.ofString "_law_pick"), key := Value.str (Str.ofString "_law_pick") 485, val := Value.ref 242 }, { hash := PyData.keyHash P (Str.ofString "_law_made"), key := Value.str (Str.ofString "_law_made") 491, val := Value.ref 247 }, { hash := PyData.keyHash P (Str.ofString "_law_truths"), key := Value.str (Str.ofString "_law_truths") 497, val := Value.ref 252 }, { hash := PyData.keyHash P (Str.ofString "_law_forced"), key := Value.str (Str.ofString "_law_forced") 503, val := Value.ref 257 }, { hash := PyData.keyHash P (Str.ofString "_law_row_right"), key := Value.str (Str.ofString "_law_row_right") 509, val := Value.ref 262 }, { hash := PyData.keyHash P (Str.ofString "_law_is_plain"), key := Value.str (Str.ofString "_law_is_plain") 515, val := Value.ref 267 }, { hash := PyData.keyHash P (Str.ofString "_law_question"), key := Value.str (Str.ofString "_law_question") 521, val := Value.ref 272 }, { hash := PyData.keyHash P (Str.ofString "law"), key := Value.str (Str.ofString "law") 527, val := Value.ref 277 }] 23 }) ::
  (nat_lit 27, { cls := Value.type "code", data := Data.fields #[Value.str (Str.ofString "clause_of") 196, Value.str (Str.ofString "clause_of") 197, Value.str (Str.ofString "/claim/cut.py") 198, Value.int 5 0, Value.int 1 0, Value.int 0 0, Value.int 0 0, Value.int 3 0, Value.ref 22, Value.bool true, Value.int 181 0, Value.ref 23, Value.none, Value.ref 24, Value.ref 25, Value.ref 26, Value.int 202 0, Value.int 5 0, Value.str (Str.ofString "/claim/cut.py") 203] }) ::
  (nat_lit 28, fnObj (stm 2) (Str.ofString "clause_of") (Value.str (Str.ofString "relfinder.clauses") 194) 27 (Value.none)) ::
  (nat_lit 34, { cls := Value.type "code", data := Data.fields #[Value.str (Str.ofString "place_of") 205, Value.str (Str.ofString "place_of") 206, Value.str (Str.ofString "/claim/cut.py") 207, Value.int 12 0, Value.int 1 0, Value.int 0 0, Value.int 0 0, Value.int 3 0, Value.ref 29, Value.bool true, Value.int 181 0, Value.ref 30, Value.none, Value.ref 31, Value.ref 32, Value.ref 33, Value.int 209 0, Value.int 12 0, Value.str (Str.ofString "/claim/cut.py") 210] }) ::
  (nat_lit 35, fnObj (stm 3) (Str.ofString "place_of") (Value.str (Str.ofString "relfinder.clauses") 194) 34 (Value.none)) ::
  (nat_lit 43, { cls := Value.type "tuple", data := Data.seq #[Value.int 0 224] }) ::
  (nat_lit 49, { cls := Value.type "code", data := Data.fields #[Value.str (Str.ofString "__init__") 225, Value.str (Str.ofString "Clauses.__init__") 226, Value.str (Str.ofString "/claim/cut.py") 227, Value.int 16 0, Value.int 3 0, Value.int 0 0, Value.int 0 0, Value.int 3 0, Value.ref 44, Value.bool true, Value.int 181 0, Value.ref 45, Value.none, Value.ref 46, Value.ref 47, Value.ref 48, Value.int 232 0, Value.int 16 0, Value.str (Str.ofString "/claim/cut.py") 233] }) ::
  (nat_lit 50, fnObj (sub (stm 4) 0) (Str.ofString "Clauses.__init__") (Value.str (Str.ofString "relfinder.clauses") 194) 49 (Value.ref 43)) ::
  (nat_lit 56, { cls := Value.type "code", data := Data.fields #[Value.str (Str.ofString "many") 235, Value.str (Str.ofString "Clauses.many") 236, Value.str (Str.ofString "/claim/cut.py") 237, Value.int 28 0, Value.int 1 0, Value.int 0 0, Value.int 0 0, Value.int 3 0, Value.ref 51, Value.bool true, Value.int 181 0, Value.ref 52, Value.none, Value.ref 53, Value.ref 54, Value.ref 55, Value.int 239 0, Value.int 28 0, Value.str (Str.ofString "/claim/cut.py") 240] }) ::
  (nat_lit 57, fnObj (sub (stm 4) 1) (Str.ofString "Clauses.many") (Value.str (Str.ofString "relfinder.clauses") 194) 56 (Value.none)) ::
  (nat_lit 63, { cls := Value.type "code", data := Data.fields #[Value.str (Str.ofString "number_of") 242, Value.str (Str.ofString "Clauses.number_of") 243, Value.str (Str.ofString "/claim/cut.py") 244, Value.int 31 0, Value.int 2 0, Value.int 0 0, Value.int 0 0, Value.int 3 0, Value.ref 58, Value.bool true, Value.int 181 0, Value.ref 59, Value.none, Value.ref 60, Value.ref 61, Value.ref 62, Value.int 247 0, Value.int 31 0, Value.str (Str.ofString "/claim/cut.py") 248] }) ::
  (nat_lit 64, fnObj (sub (stm 4) 2) (Str.ofString "Clauses.number_of") (Value.str (Str.ofString "relfinder.clauses") 194) 63 (Value.none)) ::
  (nat_lit 70, { cls := Value.type "code", data := Data.fields #[Value.str (Str.ofString "gate_of") 250, Value.str (Str.ofString "Clauses.gate_of") 251, Value.str (Str.ofString "/claim/cut.py") 252, Value.int 37 0, Value.int 2 0, Value.int 0 0, Value.int 0 0, Value.int 3 0, Value.ref 65, Value.bool true, Value.int 181 0, Value.ref 66, Value.none, Value.ref 67, Value.ref 68, Value.ref 69, Value.int 255 0, Value.int 37 0, Value.str (Str.ofString "/claim/cut.py") 256] }) ::
  (nat_lit 71, fnObj (sub (stm 4) 3) (Str.ofString "Clauses.gate_of") (Value.str (Str.ofString "relfinder.clauses") 194) 70 (Value.none)) ::
  (nat_lit 77, { cls := Value.type "code", data := Data.fields #[Value.str (Str.ofString "enter") 258, Value.str (Str.ofString "Clauses.enter") 259, Value.str (Str.ofString "/claim/cut.py") 260, Value.int 40 0, Value.int 2 0, Value.int 0 0, Value.int 0 0, Value.int 3 0, Value.ref 72, Value.bool true, Value.int 181 0, Value.ref 73, Value.none, Value.ref 74, Value.ref 75, Value.ref 76, Value.int 266 0, Value.int 40 0, Value.str (Str.ofString "/claim/cut.py") 267] }) ::
  (nat_lit 78, fnObj (sub (stm 4) 4) (Str.ofString "Clauses.enter") (Value.str (Str.ofString "relfinder.clauses") 194) 77 (Value.none)) ::
  (nat_lit 84, { cls := Value.type "code", data := Data.fields #[Value.str (Str.ofString "tell") 269, Value.str (Str.ofString "Clauses.tell") 270, Value.str (Str.ofString "/claim/cut.py") 271, Value.int 49 0, Value.int 2 0, Value.int 0 0, Value.int 0 0, Value.int 3 0, Value.ref 79, Value.bool true, Value.int 181 0, Value.ref 80, Value.none, Value.ref 81, Value.ref 82, Value.ref 83, Value.int 275 0, Value.int 49 0, Value.str (Str.ofString "/claim/cut.py") 276] }) ::
  (nat_lit 85, fnObj (sub (stm 4) 5) (Str.ofString "Clauses.tell") (Value.str (Str.ofString "relfinder.clauses") 194) 84 (Value.none)) ::
  (nat_lit 89, { cls := Value.type "code", data := Data.fields #[Value.str (Str.ofString "open_gate") 278, Value.str (Str.ofString "Clauses.open_gate") 279, Value.str (Str.ofString "/claim/cut.py") 280, Value.int 54 0, Value.int 2 0, Value.int 0 0, Value.int 0 0, Value.int 3 0, Value.ref 86, Value.bool true, Value.int 181 0, Value.ref 87, Value.none, Value.none, Value.none, Value.ref 88, Value.int 281 0, Value.int 54 0, Value.str (Str.ofString "/claim/cut.py") 282] }) ::
  (nat_lit 90, fnObj (sub (stm 4) 6) (Str.ofString "Clauses.open_gate") (Value.str (Str.ofString "relfinder.clauses") 194) 89 (Value.none)) ::
  (nat_lit 96, { cls := Value.type "code", data := Data.fields #[Value.str (Str.ofString "flush") 284, Value.str (Str.ofString "Clauses.flush") 285, Value.str (Str.ofString "/claim/cut.py") 286, Value.int 64 0, Value.int 1 0, Value.int 0 0, Value.int 0 0, Value.int 3 0, Value.ref 91, Value.bool true, Value.int 181 0, Value.ref 92, Value.none, Value.ref 93, Value.ref 94, Value.ref 95, Value.int 288 0, Value.int 64 0, Value.str (Str.ofString "/claim/cut.py") 289] }) ::
  (nat_lit 97, fnObj (sub (stm 4) 7) (Str.ofString "Clauses.flush") (Value.str (Str.ofString "relfinder.clauses") 194) 96 (Value.none)) ::
  (nat_lit 103, { cls := Value.type "code", data := Data.fields #[Value.str (Str.ofString "literal_of") 291, Value.str (Str.ofString "Clauses.literal_of") 292, Value.str (Str.ofString "/claim/cut.py") 293, Value.int 68 0, Value.int 2 0, Value.int 0 0, Value.int 0 0, Value.int 3 0, Value.ref 98, Value.bool true, Value.int 181 0, Value.ref 99, Value.none, Value.ref 100, Value.ref 101, Value.ref 102, Value.int 297 0, Value.int 68 0, Value.str (Str.ofString "/claim/cut.py") 298] }) ::
  (nat_lit 104, fnObj (sub (stm 4) 8) (Str.ofString "Clauses.literal_of") (Value.str (Str.ofString "relfinder.clauses") 194) 103 (Value.none)) ::
  (nat_lit 113, { cls := Value.type "dict", data := Data.dict #[{ hash := PyData.keyHash P (Str.ofString "__module__"), key := Value.str (Str.ofString "__module__") 219, val := Value.str (Str.ofString "relfinder.clauses") 194 }, { hash := PyData.keyHash P (Str.ofString "__firstlineno__"), key := Value.str (Str.ofString "__firstlineno__") 223, val := Value.int 14 222 }, { hash := PyData.keyHash P (Str.ofString "__init__"), key := Value.str (Str.ofString "__init__") 234, val := Value.ref 50 }, { hash := PyData.keyHash P (Str.ofString "many"), key := Value.str (Str.ofString "many") 241, val := Value.ref 57 }, { hash := PyData.keyHash P (Str.ofString "number_of"), key := Value.str (Str.ofString "number_of") 249, val := Value.ref 64 }, { hash := PyData.keyHash P (Str.ofString "gate_of"), key := Value.str (Str.ofString "gate_of") 257, val := Value.ref 71 }, { hash := PyData.keyHash P (Str.ofString "enter"), key := Value.str (Str.ofString "enter") 268, val := Value.ref 78 }, { hash := PyData.keyHash P (Str.ofString "tell"), key := Value.str (Str.ofString "tell") 277, val := Value.ref 85 }, { hash := PyData.keyHash P (Str.ofString "open_gate"), key := Value.str (Str.ofString "open_gate") 283, val := Value.ref 90 }, { hash := PyData.keyHash P (Str.ofString "flush"), key := Value.str (Str.ofString "flush") 290, val := Value.ref 97 }, { hash := PyData.keyHash P (Str.ofString "literal_of"), key := Value.str (Str.ofString "literal_of") 299, val := Value.ref 104 }, { hash := PyData.keyHash P (Str.ofString "add_top"), key := Value.str (Str.ofString "add_top") 307, val := Value.ref 111 }, { hash := PyData.keyHash P (Str.ofString "__static_attributes__"), key := Value.str (Str.ofString "__static_attributes__") 315, val := Value.ref 112 }, { hash := PyData.keyHash P (Str.ofString "__dict__"), key := Value.str (Str.ofString "__dict__") 317, val := Value.ref 115 }, { hash := PyData.keyHash P (Str.ofString "__weakref__"), key := Value.str (Str.ofString "__weakref__") 319, val := Value.ref 116 }, { hash := PyData.keyHash P (Str.ofString "__doc__"), key := Value.str (Str.ofString "__doc__") 320, val := Value.none }] 4 }) ::
  (nat_lit 114, { cls := Value.type "type", data := Data.cls { name := Str.ofString "Clauses", bases := [Value.type "object"], mro := [Value.ref 114, Value.type "object"], ns := 113, qualname := Str.ofString "Clauses" }, slots := #[none, none, some (Value.str (Str.ofString "Clauses") 212), some (Value.str (Str.ofString "Clauses") 220), some (Value.builtin "object.__new__"), some (Value.bool true)] }) ::
  (nat_lit 131, { cls := Value.type "code", data := Data.fields #[Value.str (Str.ofString "__init__") 337, Value.str (Str.ofString "Circuit.__init__") 338, Value.str (Str.ofString "/claim/cut.py") 339, Value.int 78 0, Value.int 1 0, Value.int 0 0, Value.int 0 0, Value.int 3 0, Value.ref 126, Value.bool true, Value.int 181 0, Value.ref 127, Value.none, Value.ref 128, Value.ref 129, Value.ref 130, Value.int 341 0, Value.int 78 0, Value.str (Str.ofString "/claim/cut.py") 342] }) ::
  (nat_lit 132, fnObj (sub (stm 6) 0) (Str.ofString "Circuit.__init__") (Value.str (Str.ofString "relfinder.circuit") 323) 131 (Value.none)) ::
  (nat_lit 138, { cls := Value.type "code", data := Data.fields #[Value.str (Str.ofString "size") 344, Value.str (Str.ofString "Circuit.size") 345, Value.str (Str.ofString "/claim/cut.py") 346, Value.int 83 0, Value.int 1 0, Value.int 0 0, Value.int 0 0, Value.int 3 0, Value.ref 133, Value.bool true, Value.int 181 0, Value.ref 134, Value.none, Value.ref 135, Value.ref 136, Value.ref 137, Value.int 348 0, Value.int 83 0, Value.str (Str.ofString "/claim/cut.py") 349] }) ::
  (nat_lit 139, fnObj (sub (stm 6) 1) (Str.ofString "Circuit.size") (Value.str (Str.ofString "relfinder.circuit") 323) 138 (Value.none)) ::
  (nat_lit 145, { cls := Value.type "code", data := Data.fields #[Value.str (Str.ofString "kind") 351, Value.str (Str.ofString "Circuit.kind") 352, Value.str (Str.ofString "/claim/cut.py") 353, Value.int 86 0, Value.int 2 0, Value.int 0 0, Value.int 0 0, Value.int 3 0, Value.ref 140, Value.bool true, Value.int 181 0, Value.ref 141, Value.none, Value.ref 142, Value.ref 143, Value.ref 144, Value.int 356 0, Value.int 86 0, Value.str (Str.ofString "/claim/cut.py") 357] }) ::
  (nat_lit 146, fnObj (sub (stm 6) 2) (Str.ofString "Circuit.kind") (Value.str (Str.ofString "relfinder.circuit") 323) 145 (Value.none)) ::
  (nat_lit 152, { cls := Value.type "code", data := Data.fields #[Value.str (Str.ofString "parts") 359, Value.str (Str.ofString "Circuit.parts") 360, Value.str (Str.ofString "/claim/cut.py") 361, Value.int 89 0, Value.int 2 0, Value.int 0 0, Value.int 0 0, Value.int 3 0, Value.ref 147, Value.bool true, Value.int 181 0, Value.ref 148, Value.none, Value.ref 149, Value.ref 150, Value.ref 151, Value.int 364 0, Value.int 89 0, Value.str (Str.ofString "/claim/cut.py") 365] }) ::
  (nat_lit 153, fnObj (sub (stm 6) 3) (Str.ofString "Circuit.parts") (Value.str (Str.ofString "relfinder.circuit") 323) 152 (Value.none)) ::
  (nat_lit 159, { cls := Value.type "code", data := Data.fields #[Value.str (Str.ofString "new_gate") 367, Value.str (Str.ofString "Circuit.new_gate") 368, Value.str (Str.ofString "/claim/cut.py") 369, Value.int 92 0, Value.int 3 0, Value.int 0 0, Value.int 0 0, Value.int 3 0, Value.ref 154, Value.bool true, Value.int 181 0, Value.ref 155, Value.none, Value.ref 156, Value.ref 157, Value.ref 158, Value.int 373 0, Value.int 92 0, Value.str (Str.ofString "/claim/cut.py") 374] }) ::
  (nat_lit 160, fnObj (sub (stm 6) 4) (Str.ofString "Circuit.new_gate") (Value.str (Str.ofString "relfinder.circuit") 323) 159 (Value.none)) ::
  (nat_lit 166, { cls := Value.type "code", data := Data.fields #[Value.str (Str.ofString "new_input") 376, Value.str (Str.ofString "Circuit.new_input") 377, Value.str (Str.ofString "/claim/cut.py") 378, Value.int 97 0, Value.int 1 0, Value.int 0 0, Value.int 0 0, Value.int 3 0, Value.ref 161, Value.bool true, Value.int 181 0, Value.ref 162, Value.none, Value.ref 163, Value.ref 164, Value.ref 165, Value.int 380 0, Value.int 97 0, Value.str (Str.ofString "/claim/cut.py") 381] }) ::
  (nat_lit 167, fnObj (sub (stm 6) 5) (Str.ofString "Circuit.new_input") (Value.str (Str.ofString "relfinder.circuit") 323) 166 (Value.none)) ::
  (nat_lit 173, { cls := Value.type "code", data := Data.fields #[Value.str (Str.ofString "all_of") 383, Value.str (Str.ofString "Circuit.all_of") 384, Value.str (Str.ofString "/claim/cut.py") 385, Value.int 100 0, Value.int 2 0, Value.int 0 0, Value.int 0 0, Value.int 3 0, Value.ref 168, Value.bool true, Value.int 181 0, Value.ref 169, Value.none, Value.ref 170, Value.ref 171, Value.ref 172, Value.int 391 0, Value.int 100 0, Value.str (Str.ofString "/claim/cut.py") 392] }) ::
  (nat_lit 174, fnObj (sub (stm 6) 6) (Str.ofString "Circuit.all_of") (Value.str (Str.ofString "relfinder.circuit") 323) 173 (Value.none)) ::
  (nat_lit 178, { cls := Value.type "code", data := Data.fields #[Value.str (Str.ofString "any_of") 394, Value.str (Str.ofString "Circuit.any_of") 395, Value.str (Str.ofString "/claim/cut.py") 396, Value.int 114 0, Value.int 2 0, Value.int 0 0, Value.int 0 0, Value.int 3 0, Value.ref 175, Value.bool true, Value.int 181 0, Value.ref 176, Value.none, Value.none, Value.none, Value.ref 177, Value.int 397 0, Value.int 114 0, Value.str (Str.ofString "/claim/cut.py") 398] }) ::
  (nat_lit 179, fnObj (sub (stm 6) 7) (Str.ofString "Circuit.any_of") (Value.str (Str.ofString "relfinder.circuit") 323) 178 (Value.none)) ::
  (nat_lit 199, { cls := Value.type "code", data := Data.fields #[Value.str (Str.ofString "implies") 418, Value.str (Str.ofString "Circuit.implies") 419, Value.str (Str.ofString "/claim/cut.py") 420, Value.int 123 0, Value.int 3 0, Value.int 0 0, Value.int 0 0, Value.int 3 0, Value.ref 194, Value.bool true, Value.int 181 0, Value.ref 195, Value.none, Value.ref 196, Value.ref 197, Value.ref 198, Value.int 424 0, Value.int 123 0, Value.str (Str.ofString "/claim/cut.py") 425] }) ::
  (nat_lit 200, fnObj (sub (stm 6) 10) (Str.ofString "Circuit.implies") (Value.str (Str.ofString "relfinder.circuit") 323) 199 (Value.none)) ::
  (nat_lit 206, { cls := Value.type "code", data := Data.fields #[Value.str (Str.ofString "iff") 427, Value.str (Str.ofString "Circuit.iff") 428, Value.str (Str.ofString "/claim/cut.py") 429, Value.int 126 0, Value.int 3 0, Value.int 0 0, Value.int 0 0, Value.int 3 0, Value.ref 201, Value.bool true, Value.int 181 0, Value.ref 202, Value.none, Value.ref 203, Value.ref 204, Value.ref 205, Value.int 433 0, Value.int 126 0, Value.str (Str.ofString "/claim/cut.py") 434] }) ::
  (nat_lit 207, fnObj (sub (stm 6) 11) (Str.ofString "Circuit.iff") (Value.str (Str.ofString "relfinder.circuit") 323) 206 (Value.none)) ::
  (nat_lit 213, { cls := Value.type "code", data := Data.fields #[Value.str (Str.ofString "unlike") 436, Value.str (Str.ofString "Circuit.unlike") 437, Value.str (Str.ofString "/claim/cut.py") 438, Value.int 129 0, Value.int 3 0, Value.int 0 0, Value.int 0 0, Value.int 3 0, Value.ref 208, Value.bool true, Value.int 181 0, Value.ref 209, Value.none, Value.ref 210, Value.ref 211, Value.ref 212, Value.int 442 0, Value.int 129 0, Value.str (Str.ofString "/claim/cut.py") 443] }) ::
  (nat_lit 214, fnObj (sub (stm 6) 12) (Str.ofString "Circuit.unlike") (Value.str (Str.ofString "relfinder.circuit") 323) 213 (Value.none)) ::
  (nat_lit 220, { cls := Value.type "code", data := Data.fields #[Value.str (Str.ofString "choose") 445, Value.str (Str.ofString "Circuit.choose") 446, Value.str (Str.ofString "/claim/cut.py") 447, Value.int 132 0, Value.int 4 0, Value.int 0 0, Value.int 0 0, Value.int 3 0, Value.ref 215, Value.bool true, Value.int 181 0, Value.ref 216, Value.none, Value.ref 217, Value.ref 218, Value.ref 219, Value.int 452 0, Value.int 132 0, Value.str (Str.ofString "/claim/cut.py") 453] }) ::
  (nat_lit 221, fnObj (sub (stm 6) 13) (Str.ofString "Circuit.choose") (Value.str (Str.ofString "relfinder.circuit") 323) 220 (Value.none)) ::
  (nat_lit 223, { cls := Value.type "dict", data := Data.dict #[{ hash := PyData.keyHash P (Str.ofString "__module__"), key := Value.str (Str.ofString "__module__") 332, val := Value.str (Str.ofString "relfinder.circuit") 323 }, { hash := PyData.keyHash P (Str.ofString "__firstlineno__"), key := Value.str (Str.ofString "__firstlineno__") 336, val := Value.int 76 335 }, { hash := PyData.keyHash P (Str.ofString "__init__"), key := Value.str (Str.ofString "__init__") 343, val := Value.ref 132 }, { hash := PyData.keyHash P (Str.ofString "size"), key := Value.str (Str.ofString "size") 350, val := Value.ref 139 }, { hash := PyData.keyHash P (Str.ofString "kind"), key := Value.str (Str.ofString "kind") 358, val := Value.ref 146 }, { hash := PyData.keyHash P (Str.ofString "parts"), key := Value.str (Str.ofString "parts") 366, val := Value.ref 153 }, { hash := PyData.keyHash P (Str.ofString "new_gate"), key := Value.str (Str.ofString "new_gate") 375, val := Value.ref 160 }, { hash := PyData.keyHash P (Str.ofString "new_input"), key := Value.str (Str.ofString "new_input") 382, val := Value.ref 167 }, { hash := PyData.keyHash P (Str.ofString "all_of"), key := Value.str (Str.ofString "all_of") 393, val := Value.ref 174 }, { hash := PyData.keyHash P (Str.ofString "any_of"), key := Value.str (Str.ofString "any_of") 399, val := Value.ref 179 }, { hash := PyData.keyHash P (Str.ofString "both"), key := Value.str (Str.ofString "both") 408, val := Value.ref 186 }, { hash := PyData.keyHash P (Str.ofString "either"), key := Value.str (Str.ofString "either") 417, val := Value.ref 193 }, { hash := PyData.keyHash P (Str.ofString "implies"), key := Value.str (Str.ofString "implies") 426, val := Value.ref 200 }, { hash := PyData.keyHash P (Str.ofString "iff"), key := Value.str (Str.ofString "iff") 435, val := Value.ref 207 }, { hash := PyData.keyHash P (Str.ofString "unlike"), key := Value.str (Str.ofString "unlike") 444, val := Value.ref 214 }, { hash := PyData.keyHash P (Str.ofString "choose"), key := Value.str (Str.ofString "choose") 454, val := Value.ref 221 }, { hash := PyData.keyHash P (Str.ofString "__static_attributes__"), key := Value.str (Str.ofString "__static_attributes__") 458, val := Value.ref 222 }, { hash := PyData.keyHash P (Str.ofString "__dict__"), key := Value.str (Str.ofString "__dict__") 460, val := Value.ref 225 }, { hash := PyData.keyHash P (Str.ofString "__weakref__"), key := Value.str (Str.ofString "__weakref__") 462, val := Value.ref 226 }, { hash := PyData.keyHash P (Str.ofString "__doc__"), key := Value.str (Str.ofString "__doc__") 463, val := Value.none }] 4 }) ::
  (nat_lit 224, { cls := Value.type "type", data := Data.cls { name := Str.ofString "Circuit", bases := [Value.type "object"], mro := [Value.ref 224, Value.type "object"], ns := 223, qualname := Str.ofString "Circuit" }, slots := #[none, none, some (Value.str (Str.ofString "Circuit") 325), some (Value.str (Str.ofString "Circuit") 333), some (Value.builtin "object.__new__"), some (Value.bool true)] }) ::
  (nat_lit 234, { cls := Value.type "code", data := Data.fields #[Value.str (Str.ofString "_law_next") 468, Value.str (Str.ofString "_law_next") 469, Value.str (Str.ofString "/claim/cut.py") 470, Value.int 135 0, Value.int 2 0, Value.int 0 0, Value.int 0 0, Value.int 3 0, Value.ref 229, Value.bool true, Value.int 181 0, Value.ref 230, Value.none, Value.ref 231, Value.ref 232, Value.ref 233, Value.int 474 0, Value.int 135 0, Value.str (Str.ofString "/claim/cut.py") 475] }) ::
  (nat_lit 235, fnObj (stm 8) (Str.ofString "_law_next") (Value.str (Str.ofString "law_nz0385_01") 466) 234 (Value.none)) ::
  (nat_lit 241, { cls := Value.type "code", data := Data.fields #[Value.str (Str.ofString "_law_pick") 477, Value.str (Str.ofString "_law_pick") 478, Value.str (Str.ofString "/claim/cut.py") 479, Value.int 141 0, Value.int 2 0, Value.int 0 0, Value.int 0 0, Value.int 3 0, Value.ref 236, Value.bool true, Value.int 181 0, Value.ref 237, Value.none, Value.ref 238, Value.ref 239, Value.ref 240, Value.int 483 0, Value.int 141 0, Value.str (Str.ofString "/claim/cut.py") 484] }) ::
  (nat_lit 242, fnObj (stm 9) (Str.ofString "_law_pick") (Value.str (Str.ofString "law_nz0385_01") 466) 241 (Value.none)) ::
  (nat_lit 246, { cls := Value.type "code", data := Data.fields #[Value.str (Str.ofString "_law_made") 486, Value.str (Str.ofString "_law_made") 487, Value.str (Str.ofString "/claim/cut.py") 488, Value.int 144 0, Value.int 3 0, Value.int 0 0, Value.int 0 0, Value.int 3 0, Value.ref 243, Value.bool true, Value.int 181 0, Value.ref 244, Value.none, Value.none, Value.none, Value.ref 245, Value.int 489 0, Value.int 144 0, Value.str (Str.ofString "/claim/cut.py") 490] }) ::
  (nat_lit 247, fnObj (stm 10) (Str.ofString "_law_made") (Value.str (Str.ofString "law_nz0385_01") 466) 246 (Value.none)) ::
  (nat_lit 251, { cls := Value.type "code", data := Data.fields #[Value.str (Str.ofString "_law_truths") 492, Value.str (Str.ofString "_law_truths") 493, Value.str (Str.ofString "/claim/cut.py") 494, Value.int 152 0, Value.int 2 0, Value.int 0 0, Value.int 0 0, Value.int 3 0, Value.ref 248, Value.bool true, Value.int 181 0, Value.ref 249, Value.none, Value.none, Value.none, Value.ref 250, Value.int 495 0, Value.int 152 0, Value.str (Str.ofString "/claim/cut.py") 496] }) ::
  (nat_lit 252, fnObj (stm 11) (Str.ofString "_law_truths") (Value.str (Str.ofString "law_nz0385_01") 466) 251 (Value.none)) ::
  (nat_lit 256, { cls := Value.type "code", data := Data.fields #[Value.str (Str.ofString "_law_forced") 498, Value.str (Str.ofString "_law_forced") 499, Value.str (Str.ofString "/claim/cut.py") 500, Value.int 161 0, Value.int 2 0, Value.int 0 0, Value.int 0 0, Value.int 3 0, Value.ref 253, Value.bool true, Value.int 181 0, Value.ref 254, Value.none, Value.none, Value.none, Value.ref 255, Value.int 501 0, Value.int 161 0, Value.str (Str.ofString "/claim/cut.py") 502] }) ::
  (nat_lit 257, fnObj (stm 12) (Str.ofString "_law_forced") (Value.str (Str.ofString "law_nz0385_01") 466) 256 (Value.none)) ::
  (nat_lit 261, { cls := Value.type "code", data := Data.fields #[Value.str (Str.ofString "_law_row_right") 504, Value.str (Str.ofString "_law_row_right") 505, Value.str (Str.ofString "/claim/cut.py") 506, Value.int 173 0, Value.int 4 0, Value.int 0 0, Value.int 0 0, Value.int 3 0, Value.ref 258, Value.bool true, Value.int 181 0, Value.ref 259, Value.none, Value.none, Value.none, Value.ref 260, Value.int 507 0, Value.int 173 0, Value.str (Str.ofString "/claim/cut.py") 508] }) ::
  (nat_lit 262, fnObj (stm 13) (Str.ofString "_law_row_right") (Value.str (Str.ofString "law_nz0385_01") 466) 261 (Value.none)) ::
  (nat_lit 266, { cls := Value.type "code", data := Data.fields #[Value.str (Str.ofString "_law_is_plain") 510, Value.str (Str.ofString "_law_is_plain") 511, Value.str (Str.ofString "/claim/cut.py") 512, Value.int 192 0, Value.int 2 0, Value.int 0 0, Value.int 0 0, Value.int 3 0, Value.ref 263, Value.bool true, Value.int 181 0, Value.ref 264, Value.none, Value.none, Value.none, Value.ref 265, Value.int 513 0, Value.int 192 0, Value.str (Str.ofString "/claim/cut.py") 514] }) ::
  (nat_lit 267, fnObj (stm 14) (Str.ofString "_law_is_plain") (Value.str (Str.ofString "law_nz0385_01") 466) 266 (Value.none)) ::
  (nat_lit 271, { cls := Value.type "code", data := Data.fields #[Value.str (Str.ofString "_law_question") 516, Value.str (Str.ofString "_law_question") 517, Value.str (Str.ofString "/claim/cut.py") 518, Value.int 198 0, Value.int 4 0, Value.int 0 0, Value.int 0 0, Value.int 3 0, Value.ref 268, Value.bool true, Value.int 181 0, Value.ref 269, Value.none, Value.none, Value.none, Value.ref 270, Value.int 519 0, Value.int 198 0, Value.str (Str.ofString "/claim/cut.py") 520] }) ::
  (nat_lit 272, fnObj (stm 15) (Str.ofString "_law_question") (Value.str (Str.ofString "law_nz0385_01") 466) 271 (Value.none)) ::
  (nat_lit 276, { cls := Value.type "code", data := Data.fields #[Value.str (Str.ofString "law") 522, Value.str (Str.ofString "law") 523, Value.str (Str.ofString "/claim/cut.py") 524, Value.int 216 0, Value.int 1 0, Value.int 0 0, Value.int 0 0, Value.int 3 0, Value.ref 273, Value.bool true, Value.int 181 0, Value.ref 274, Value.none, Value.none, Value.none, Value.ref 275, Value.int 525 0, Value.int 216 0, Value.str (Str.ofString "/claim/cut.py") 526] }) ::
  (nat_lit 277, fnObj (stm 16) (Str.ofString "law") (Value.str (Str.ofString "law_nz0385_01") 466) 276 (Value.none)) :: []
def heapAt : List Addr := [3, 27, 28, 34, 35, 43, 49, 50, 56, 57, 63, 64, 70, 71, 77, 78, 84, 85, 89, 90, 96, 97, 103, 104, 113, 114, 131, 132, 138, 139, 145, 146, 152, 153, 159, 160, 166, 167, 173, 174, 178, 179, 199, 200, 206, 207, 213, 214, 220, 221, 223, 224, 234, 235, 241, 242, 246, 247, 251, 252, 256, 257, 261, 262, 266, 267, 271, 272, 276, 277]
abbrev vw : Program := PySem.W.view PySem.Challenge.pw_nz0385_01 [0, 2, 3, 4, 6, 8, 9, 10, 11, 12, 13, 14, 15, 16]
theorem heap_at : ∀ P, heapAt = (heap P).map (·.1) := fun _ => rfl
noncomputable abbrev hook : Hook := kHook heap heapAt heap_at
theorem left : LeftO PySem.Challenge.pw_nz0385_01 vw [] (fun s => xlAt vw [] s && recOk [] s) (Hook.obs hook) (Hook.val hook) 3172 := fun w => by
  kernel_rfl
end Mine
end

section -- JA
open PySem PySem.W PySem.Calls PyProof.Rows
set_option Elab.async false
set_option maxRecDepth 100000
namespace Mine

abbrev Loc := Str → Option Value

/-- a value without its token -/
def nz : Value → Value
  | .int i _ => .int i 0
  | .float x _ => .float x 0
  | .str x _ => .str x 0
  | .bytes x _ => .bytes x 0
  | v => v

theorem nz_int {v : Value} {i : Int} (h : nz v = .int i 0) : ∃ t, v = .int i t := by
  cases v <;> simp [nz] at h; subst h; exact ⟨_, rfl⟩
theorem nz_str {v : Value} {x : Str} (h : nz v = .str x 0) : ∃ t, v = .str x t := by
  cases v <;> simp [nz] at h; subst h; exact ⟨_, rfl⟩
theorem nz_ref {v : Value} {a : Addr} (h : nz v = .ref a) : v = .ref a := by
  cases v <;> simp [nz] at h; subst h; rfl
theorem nz_bool {v : Value} {b : Bool} (h : nz v = .bool b) : v = .bool b := by
  cases v <;> simp [nz] at h; subst h; rfl
theorem nz_none {v : Value} (h : nz v = .none) : v = .none := by
  cases v <;> simp [nz] at h; rfl
theorem nz_builtin {v : Value} {i : String} (h : nz v = .builtin i) : v = .builtin i := by
  cases v <;> simp [nz] at h; subst h; rfl
theorem nz_type {v : Value} {i : String} (h : nz v = .type i) : v = .type i := by
  cases v <;> simp [nz] at h; subst h; rfl

/-- what stands at an address, without tokens and epochs -/
inductive AO where
  | list (vs : List Value)
  | tup (vs : List Value)
  | inst (C d : Addr)
  | ns (m : Loc) (n : Nat)
  | idict (kvs : List (Int × Value))
  | sdict (kvs : List (Str × Value))
  | tdict (kvs : List (List Int × Value))
  | raw (o : Obj)

def nsL (es : List DictEntry) (x : Str) : Option Value := (es.find? (·.key.isStr x)).map (·.val)
def StrKeysL (es : List DictEntry) : Prop := ∀ e ∈ es, ∃ n t, e.key = .str n t

def Holds (prog : Program) (w : World) (h : Heap) (a : Addr) : AO → Prop
  | .list vs => ∃ (xs : List Value) (n : Nat), h.get? a = some ⟨.type "list", none, .seq xs.toArray n, #[]⟩ ∧ xs.map nz = vs
  | .tup vs => ∃ (xs : List Value) (n : Nat), h.get? a = some ⟨.type "tuple", none, .seq xs.toArray n, #[]⟩ ∧ xs.map nz = vs
  | .inst C d => ∃ sl, h.get? a = some ⟨.ref C, some d, .plain, sl⟩
  | .ns m n => ∃ es k, h.get? a = some (dictOf es k) ∧ StrKeysL es ∧ (∀ x, (nsL es x).map nz = m x) ∧ es.length ≤ n
  | .idict kvs => ∃ ks, h.DictOf (intKind prog w) a ks ∧ ks.map (fun p => (p.1, nz p.2)) = kvs
  | .sdict kvs => ∃ ks, h.DictOf (strKind prog w) a ks ∧ ks.map (fun p => (p.1, nz p.2)) = kvs
  | .tdict kvs => ∃ xs, h.DictOfH (tupleKind (intKind prog w)) a xs ∧ xs.map (fun p => (p.1, nz p.2.2)) = kvs
  | .raw o => h.get? a = some o

def AO.isTup : AO → Bool
  | .tup _ => true
  | _ => false

theorem Holds.at {prog : Program} {w : World} {h h' : Heap} {a : Addr} {ao : AO} (x : Holds prog w h a ao) (k : ∀ o, h.get? a = some o → h'.get? a = some o)
    (kt : ∀ b vs, IsTup h b vs → IsTup h' b vs) : Holds prog w h' a ao := by
  cases ao with
  | list vs => obtain ⟨xs, n, ho, e⟩ := x; exact ⟨xs, n, k _ ho, e⟩
  | tup vs => obtain ⟨xs, n, ho, e⟩ := x; exact ⟨xs, n, k _ ho, e⟩
  | inst C d => obtain ⟨sl, ho⟩ := x; exact ⟨sl, k _ ho⟩
  | ns m n => obtain ⟨es, j, ho, r⟩ := x; exact ⟨es, j, k _ ho, r⟩
  | idict kvs => obtain ⟨ks, hd, e⟩ := x; exact ⟨ks, hd.at k, e⟩
  | sdict kvs => obtain ⟨ks, hd, e⟩ := x; exact ⟨ks, hd.at k, e⟩
  | tdict kvs =>
    obtain ⟨xs, ⟨o, es, ep, ho, he, hd, hl, hk, hn⟩, e⟩ := x
    refine ⟨xs, ⟨o, es, ep, k _ ho, he, hd, hl, fun y hy => ?_, hn⟩, e⟩
    obtain ⟨o₁, items, n, h1, h2, h3, h4⟩ := hk y hy
    obtain ⟨o₂, g1, g2, m, g3⟩ := kt y.2.1 items ⟨o₁, h1, h2, n, h3⟩
    exact ⟨o₂, items, m, g1, g2, g3, h4⟩
  | raw o => exact k _ x

theorem Holds.keep {prog : Program} {w : World} {h h' : Heap} {a : Addr} {ao : AO} (x : Holds prog w h a ao) (k : ∀ b o, h.get? b = some o → h'.get? b = some o) : Holds prog w h' a ao :=
  x.at (fun o => k a o) fun b _ ⟨o, ho, r⟩ => ⟨o, k b o ho, r⟩

/-- an address that holds this is no tuple's -/
def NotTup (h : Heap) (d : Addr) : Prop := ∀ vs, ¬ IsTup h d vs

theorem Holds.notTup {prog : Program} {w : World} {h : Heap} {d : Addr} {ao : AO} (x : Holds prog w h d ao) (ht : ao.isTup = false) (hr : ∀ o, ao = .raw o → o.cls ≠ .type "tuple") : NotTup h d := by
  rintro vs ⟨o, ho, hc, n, hd⟩
  cases ao with
  | list vs => obtain ⟨xs, n', ho', e⟩ := x; rw [ho] at ho'; cases ho'; exact absurd (show Value.type "list" = Value.type "tuple" from hc) (by decide)
  | tup vs => cases ht
  | inst C d => obtain ⟨sl, ho'⟩ := x; rw [ho] at ho'; cases ho'; cases hc
  | ns m n => obtain ⟨es, j, ho', r⟩ := x; rw [ho] at ho'; cases ho'; cases hd
  | idict kvs => obtain ⟨ks, ⟨o', es, ep, ho', he, hd', _⟩, e⟩ := x; rw [ho] at ho'; cases ho'; rw [hd] at hd'; cases hd'
  | sdict kvs => obtain ⟨ks, ⟨o', es, ep, ho', he, hd', _⟩, e⟩ := x; rw [ho] at ho'; cases ho'; rw [hd] at hd'; cases hd'
  | tdict kvs => obtain ⟨xs, ⟨o', es, ep, ho', he, hd', _⟩, e⟩ := x; rw [ho] at ho'; cases ho'; rw [hd] at hd'; cases hd'
  | raw o' => have x : h.get? d = some o' := x; rw [ho] at x; cases x; exact hr _ rfl hc

theorem Holds.ext {prog : Program} {w : World} {h h' : Heap} {a d : Addr} {ao : AO} (x : Holds prog w h a ao) (k : Heap.ExtBut d h h') (hd : NotTup h d) (ne : a ≠ d) : Holds prog w h' a ao :=
  x.at (fun o => k a o ne) fun b vs y => by
    have nb : b ≠ d := by rintro rfl; exact hd _ y
    obtain ⟨o, ho, r⟩ := y
    exact ⟨o, k b o nb ho, r⟩

abbrev OH := Addr → Option AO
def upd (H : OH) (a : Addr) (ao : AO) : OH := fun b => if b = a then some ao else H b
theorem upd_self (H : OH) (a : Addr) (ao : AO) : upd H a ao a = some ao := by simp [upd]
theorem upd_ne (H : OH) {a b : Addr} (ao : AO) (h : b ≠ a) : upd H a ao b = H b := by simp [upd, h]

/-- what does not change in a law's call -/
structure Fx (prog : Program) (KF : Params → Frag) where
  w : World
  h₀ : Heap
  os : OsState
  mg : Loc
  mb : Loc
  X : (KF w.params).In h₀
  G : h₀.Ns mainGlobals mg
  Bn : h₀.Ns builtinsNs mb
  bi : ∀ x : Str, x ≠ "__name__" → mb x = bootBuiltins x
  lim : h₀.NoLimit
  low : sysModules < h₀.objs.size

abbrev Fx.K {prog : Program} {KF : Params → Frag} (fx : Fx prog KF) : Frag := KF fx.w.params

/-- a frame at hand: what runs, its table, what is frozen below it, the room left -/
structure Amb where
  A : Around
  env : Env
  B : Addr → Option Obj
  rem : Nat

structure Amb.Ok (Γ : Amb) : Prop where
  depth : Γ.A.depth + Γ.rem < recursionLimit
  units : Γ.A.units + 12 * Γ.rem < cLine
  handled : Γ.A.handled = none
  kind : Γ.env.scope.kind = .function
  glob : Γ.env.globals = mainGlobals
  bns : Γ.env.builtins = builtinsNs

abbrev Amb.L (Γ : Amb) : Addr := Γ.env.locals
abbrev Amb.cells (Γ : Amb) : List (Str × Addr) := Γ.env.cells

variable {prog : Program} {KF : Params → Frag}

structure St (fx : Fx prog KF) (Γ : Amb) (H : OH) (m : Loc) (s : Shared) : Prop where
  ok : Γ.Ok
  base : ∀ b o, fx.h₀.get? b = some o → s.heap.get? b = some o
  own : ∀ a ao, H a = some ao → Holds prog fx.w s.heap a ao
  frz : ∀ a o, Γ.B a = some o → s.heap.get? a = some o
  ns : ∃ m', s.heap.Ns Γ.L m' ∧ ∀ x v, Γ.cells.lookup x = none → m x = some v → (m' x).map nz = some v
  cel : ∀ x c, Γ.cells.lookup x = some c → ∃ v, s.heap.IsCell c v ∧ ∀ u, m x = some u → v.map nz = some u
  gens : s.gens = #[]
  os : s.os = fx.os
  sepH : ∀ a ao, H a = some ao → fx.h₀.objs.size ≤ a ∧ a ≠ Γ.L ∧ Γ.B a = none ∧ ∀ x c, Γ.cells.lookup x = some c → a ≠ c
  sepL : fx.h₀.objs.size ≤ Γ.L ∧ Γ.B Γ.L = none ∧ ∀ x c, Γ.cells.lookup x = some c → c ≠ Γ.L
  sepC : ∀ x c, Γ.cells.lookup x = some c → fx.h₀.objs.size ≤ c ∧ Γ.B c = none ∧ ∀ y d, Γ.cells.lookup y = some d → x ≠ y → c ≠ d

section
variable {fx : Fx prog KF} {Γ : Amb} {H : OH} {m : Loc} {s : Shared}

theorem St.size (S : St fx Γ H m s) : fx.h₀.objs.size ≤ s.heap.objs.size := by
  obtain ⟨m', hn, _⟩ := S.ns
  exact Nat.le_of_lt (Nat.lt_of_le_of_lt S.sepL.1 hn.lt)

theorem Ns_not_isCell {h : Heap} {a : Addr} {m v} (x : h.Ns a m) (y : h.IsCell a v) : False := by
  obtain ⟨o, es, ep, ho, hd, _⟩ := x
  obtain ⟨o', ho', hd'⟩ := y
  rw [ho] at ho'; cases ho'; rw [hd] at hd'; cases hd'

theorem St.keep (S : St fx Γ H m s) {h' : Heap} {tk : Nat} (k : ∀ b o, s.heap.get? b = some o → h'.get? b = some o) : St fx Γ H m { s with heap := h', toks := tk } where
  ok := S.ok
  base b o e := k b o (S.base b o e)
  own a ao e := (S.own a ao e).keep k
  frz a o e := k a o (S.frz a o e)
  ns := let ⟨m', hn, hm⟩ := S.ns; ⟨m', hn.keeps k, hm⟩
  cel x c e := let ⟨v, hc, hv⟩ := S.cel x c e; ⟨v, hc.keeps k, hv⟩
  gens := S.gens
  os := S.os
  sepH := S.sepH
  sepL := S.sepL
  sepC := S.sepC

theorem St.tok (S : St fx Γ H m s) (tk : Nat) : St fx Γ H m { s with toks := tk } := S.keep (h' := s.heap) fun _ _ e => e

theorem St.fresh (S : St fx Γ H m s) {a : Addr} (ha : s.heap.objs.size ≤ a) : H a = none ∧ Γ.B a = none ∧ a ≠ Γ.L ∧ (∀ x c, Γ.cells.lookup x = some c → a ≠ c) ∧ fx.h₀.objs.size ≤ a := by
  refine ⟨?_, ?_, ?_, ?_, Nat.le_trans S.size ha⟩
  · cases e : H a with
    | none => rfl
    | some ao =>
      exfalso
      have x := S.own a ao e
      cases ao with
      | list vs => obtain ⟨xs, n, ho, _⟩ := x; exact absurd (Heap.lt_size ho) (Nat.not_lt.mpr ha)
      | tup vs => obtain ⟨xs, n, ho, _⟩ := x; exact absurd (Heap.lt_size ho) (Nat.not_lt.mpr ha)
      | inst C d => obtain ⟨sl, ho⟩ := x; exact absurd (Heap.lt_size ho) (Nat.not_lt.mpr ha)
      | ns m n => obtain ⟨es, j, ho, _⟩ := x; exact absurd (Heap.lt_size ho) (Nat.not_lt.mpr ha)
      | idict kvs => obtain ⟨ks, ⟨o, es, ep, ho, _⟩, _⟩ := x; exact absurd (Heap.lt_size ho) (Nat.not_lt.mpr ha)
      | sdict kvs => obtain ⟨ks, ⟨o, es, ep, ho, _⟩, _⟩ := x; exact absurd (Heap.lt_size ho) (Nat.not_lt.mpr ha)
      | tdict kvs => obtain ⟨xs, ⟨o, es, ep, ho, _⟩, _⟩ := x; exact absurd (Heap.lt_size ho) (Nat.not_lt.mpr ha)
      | raw o => exact absurd (Heap.lt_size x) (Nat.not_lt.mpr ha)
  · cases e : Γ.B a with
    | none => rfl
    | some o => exact absurd (Heap.lt_size (S.frz a o e)) (Nat.not_lt.mpr ha)
  · obtain ⟨m', hn, _⟩ := S.ns
    exact Nat.ne_of_gt (Nat.lt_of_lt_of_le hn.lt ha)
  · intro x c e
    obtain ⟨v, hc, _⟩ := S.cel x c e
    exact Nat.ne_of_gt (Nat.lt_of_lt_of_le hc.lt ha)

/-- a new object -/
theorem St.new (S : St fx Γ H m s) {h' : Heap} {tk : Nat} {a : Addr} {ao : AO} (k : ∀ b o, s.heap.get? b = some o → h'.get? b = some o) (ha : s.heap.objs.size ≤ a) (hn : Holds prog fx.w h' a ao) :
    St fx Γ (upd H a ao) m { s with heap := h', toks := tk } := by
  have S' := S.keep (tk := tk) k
  obtain ⟨f1, f2, f3, f4, f5⟩ := S.fresh ha
  exact { S' with
    own := fun b bo e => by
      by_cases h : b = a
      · subst h; rw [upd_self] at e; cases e; exact hn
      · rw [upd_ne _ _ h] at e; exact S'.own b bo e
    sepH := fun b bo e => by
      by_cases h : b = a
      · subst h; exact ⟨f5, f3, f2, f4⟩
      · rw [upd_ne _ _ h] at e; exact S'.sepH b bo e }

/-- an object of the call's own changes -/
theorem St.put (S : St fx Γ H m s) {h' : Heap} {tk : Nat} {d : Addr} {ao ao' : AO} (hd : H d = some ao) (ht : NotTup s.heap d) (k : Heap.ExtBut d s.heap h') (hn : Holds prog fx.w h' d ao') :
    St fx Γ (upd H d ao') m { s with heap := h', toks := tk } := by
  obtain ⟨q1, q2, q3, q4⟩ := S.sepH d ao hd
  refine ⟨S.ok, fun b o e => k b o ?_ (S.base b o e), fun b bo e => ?_, fun b o e => k b o ?_ (S.frz b o e), ?_, ?_, S.gens, S.os, fun b bo e => ?_, S.sepL, S.sepC⟩
  · exact Nat.ne_of_lt (Nat.lt_of_lt_of_le (Heap.lt_size e) q1)
  · by_cases h : b = d
    · subst h; rw [upd_self] at e; cases e; exact hn
    · rw [upd_ne _ _ h] at e; exact (S.own b bo e).ext k ht h
  · rintro rfl; rw [q3] at e; cases e
  · obtain ⟨m', hN, hm⟩ := S.ns
    exact ⟨m', hN.extBut k (Ne.symm q2), hm⟩
  · intro x c e
    obtain ⟨v, ⟨o, ho, hv⟩, hu⟩ := S.cel x c e
    exact ⟨v, ⟨o, k c o (Ne.symm (q4 x c e)) ho, hv⟩, hu⟩
  · by_cases h : b = d
    · subst h; exact ⟨q1, q2, q3, q4⟩
    · rw [upd_ne _ _ h] at e; exact S.sepH b bo e

def updL (m : Loc) (x : Str) (v : Value) : Loc := fun y => if y = x then some v else m y

theorem Ns_notTup {h : Heap} {a : Addr} {m} (x : h.Ns a m) : NotTup h a := by
  rintro vs ⟨o, ho, hc, n, hd⟩
  obtain ⟨o', es, ep, ho', hd', _⟩ := x
  rw [ho] at ho'; cases ho'; rw [hd] at hd'; cases hd'
theorem Cell_notTup {h : Heap} {a : Addr} {v} (x : h.IsCell a v) : NotTup h a := by
  rintro vs ⟨o, ho, hc, n, hd⟩
  obtain ⟨o', ho', hd'⟩ := x
  rw [ho] at ho'; cases ho'; rw [hd] at hd'; cases hd'

/-- a local is stored -/
theorem St.setL (S : St fx Γ H m s) {h' : Heap} {tk : Nat} {x : Str} {v : Value} {m' : Loc} (hx : Γ.cells.lookup x = none) (hN : s.heap.Ns Γ.L m') (hm : ∀ x v, Γ.cells.lookup x = none → m x = some v → (m' x).map nz = some v)
    (hn : h'.Ns Γ.L (fun y => if y = x then some v else m' y)) (hs : Heap.SameBut Γ.L s.heap h') : St fx Γ H (updL m x (nz v)) { s with heap := h', toks := tk } := by
  have k := hs.extBut
  refine ⟨S.ok, fun b o e => k b o ?_ (S.base b o e), fun b bo e => (S.own b bo e).ext k (Ns_notTup hN) (S.sepH b bo e).2.1, fun b o e => k b o ?_ (S.frz b o e), ⟨_, hn, fun y u hy e => ?_⟩, fun y c e => ?_, S.gens, S.os, S.sepH, S.sepL, S.sepC⟩
  · exact Nat.ne_of_lt (Nat.lt_of_lt_of_le (Heap.lt_size e) S.sepL.1)
  · rintro rfl; rw [S.sepL.2.1] at e; cases e
  · unfold updL at e
    by_cases h : y = x
    · subst h; simpa using e
    · simp only [if_neg h] at e ⊢; exact hm y u hy e
  · obtain ⟨u, hc, hu⟩ := S.cel y c e
    refine ⟨u, hc.sameBut hs (S.sepL.2.2 y c e), fun z hz => hu z ?_⟩
    unfold updL at hz
    rw [if_neg (by rintro rfl; rw [hx] at e; cases e)] at hz; exact hz

/-- a cell is stored -/
theorem St.setC (S : St fx Γ H m s) {h' : Heap} {tk : Nat} {x : Str} {c : Addr} {v : Value} (hx : Γ.cells.lookup x = some c) (hn : h'.IsCell c (some v)) (hs : Heap.SameBut c s.heap h') :
    St fx Γ H (updL m x (nz v)) { s with heap := h', toks := tk } := by
  have k := hs.extBut
  obtain ⟨c1, c2, c3⟩ := S.sepC x c hx
  obtain ⟨v₀, hc₀, _⟩ := S.cel x c hx
  refine ⟨S.ok, fun b o e => k b o ?_ (S.base b o e), fun b bo e => (S.own b bo e).ext k (Cell_notTup hc₀) ((S.sepH b bo e).2.2.2 x c hx), fun b o e => k b o ?_ (S.frz b o e), ?_, fun y d e => ?_, S.gens, S.os, S.sepH, S.sepL, S.sepC⟩
  · exact Nat.ne_of_lt (Nat.lt_of_lt_of_le (Heap.lt_size e) c1)
  · rintro rfl; rw [c2] at e; cases e
  · obtain ⟨m', hN, hm⟩ := S.ns
    refine ⟨m', hN.sameBut hs (Ne.symm (S.sepL.2.2 x c hx)), fun y u hy e => hm y u hy ?_⟩
    unfold updL at e
    rw [if_neg (by rintro rfl; rw [hx] at hy; cases hy)] at e; exact e
  · by_cases h : y = x
    · subst h; rw [hx] at e; cases e
      exact ⟨_, hn, fun u hu => by unfold updL at hu; simpa using hu⟩
    · obtain ⟨u, hc, hu⟩ := S.cel y d e
      refine ⟨u, hc.sameBut hs fun q => ?_, fun z hz => hu z ?_⟩
      · exact c3 y d e (Ne.symm h) q.symm
      · unfold updL at hz; rw [if_neg h] at hz; exact hz

theorem St.weak (S : St fx Γ H m s) {H' : OH} {m' : Loc} (hH : ∀ a ao, H' a = some ao → H a = some ao) (hm : ∀ x v, m' x = some v → m x = some v) : St fx Γ H' m' s :=
  { S with
    own := fun a ao e => S.own a ao (hH a ao e)
    sepH := fun a ao e => S.sepH a ao (hH a ao e)
    ns := let ⟨m₁, hn, h⟩ := S.ns; ⟨m₁, hn, fun x v hx e => h x v hx (hm x v e)⟩
    cel := fun x c e => let ⟨v, hc, h⟩ := S.cel x c e; ⟨v, hc, fun u hu => h u (hm x u hu)⟩ }
end
end Mine
end

section -- JB
open PySem PySem.W PySem.Calls PyProof.Rows
set_option Elab.async false
set_option maxRecDepth 100000
set_option linter.unusedVariables false
namespace Mine
variable {prog : Program} {KF : Params → Frag}

abbrev noE : Value → Shared → Prop := fun _ _ => False

def JV (fx : Fx prog KF) (Γ : Amb) (H : OH) (m : Loc) (t : Sem Value) (Q : Value → OH → Prop) : Prop :=
  ∀ s, St fx Γ H m s → wpAny (model prog fx.w) Γ.A t (fun v s' => ∃ H', St fx Γ H' m s' ∧ Q (nz v) H') noE s
def JB (fx : Fx prog KF) (Γ : Amb) (H : OH) (m : Loc) (t : Sem Bool) (Q : Bool → OH → Prop) : Prop :=
  ∀ s, St fx Γ H m s → wpAny (model prog fx.w) Γ.A t (fun v s' => ∃ H', St fx Γ H' m s' ∧ Q v H') noE s
/-- arguments -/
def JL (fx : Fx prog KF) (Γ : Amb) (H : OH) (m : Loc) (t : Sem (List Value)) (Q : List Value → OH → Prop) : Prop :=
  ∀ s, St fx Γ H m s → wpAny (model prog fx.w) Γ.A t (fun v s' => ∃ H', St fx Γ H' m s' ∧ Q (v.map nz) H') noE s
def JU (fx : Fx prog KF) (Γ : Amb) (H : OH) (m : Loc) (t : Sem Unit) (Q : OH → Loc → Prop) : Prop :=
  ∀ s, St fx Γ H m s → wpAny (model prog fx.w) Γ.A t (fun _ s' => ∃ H' m', St fx Γ H' m' s' ∧ Q H' m') noE s
def nzF : Flow → Flow
  | .ret v => .ret (nz v)
  | f => f
def JS (fx : Fx prog KF) (Γ : Amb) (H : OH) (m : Loc) (t : Sem Flow) (Q : Flow → OH → Loc → Prop) : Prop :=
  ∀ s, St fx Γ H m s → wpAny (model prog fx.w) Γ.A t (fun f s' => ∃ H' m', St fx Γ H' m' s' ∧ Q (nzF f) H' m') noE s

section
variable {fx : Fx prog KF} {Γ : Amb} {H : OH} {m : Loc} {s : Shared}

theorem JV.run {t : Sem Value} {Q : Value → OH → Prop} {Q' : Value → Shared → Prop} (h : JV fx Γ H m t Q) (S : St fx Γ H m s)
    (k : ∀ v H' s', St fx Γ H' m s' → Q (nz v) H' → Q' v s') : wpAny (model prog fx.w) Γ.A t Q' noE s :=
  wpAny_mono (h s S) (fun v s' ⟨H', S', q⟩ => k v H' s' S' q) fun _ _ e => e
theorem JB.run {t : Sem Bool} {Q : Bool → OH → Prop} {Q' : Bool → Shared → Prop} (h : JB fx Γ H m t Q) (S : St fx Γ H m s)
    (k : ∀ v H' s', St fx Γ H' m s' → Q v H' → Q' v s') : wpAny (model prog fx.w) Γ.A t Q' noE s :=
  wpAny_mono (h s S) (fun v s' ⟨H', S', q⟩ => k v H' s' S' q) fun _ _ e => e
theorem JL.run {t : Sem (List Value)} {Q : List Value → OH → Prop} {Q' : List Value → Shared → Prop} (h : JL fx Γ H m t Q) (S : St fx Γ H m s)
    (k : ∀ v H' s', St fx Γ H' m s' → Q (v.map nz) H' → Q' v s') : wpAny (model prog fx.w) Γ.A t Q' noE s :=
  wpAny_mono (h s S) (fun v s' ⟨H', S', q⟩ => k v H' s' S' q) fun _ _ e => e
theorem JU.run {t : Sem Unit} {Q : OH → Loc → Prop} {Q' : Unit → Shared → Prop} (h : JU fx Γ H m t Q) (S : St fx Γ H m s)
    (k : ∀ H' m' s', St fx Γ H' m' s' → Q H' m' → Q' () s') : wpAny (model prog fx.w) Γ.A t Q' noE s :=
  wpAny_mono (h s S) (fun v s' ⟨H', m', S', q⟩ => k H' m' s' S' q) fun _ _ e => e
theorem JS.run {t : Sem Flow} {Q : Flow → OH → Loc → Prop} {Q' : Flow → Shared → Prop} (h : JS fx Γ H m t Q) (S : St fx Γ H m s)
    (k : ∀ v H' m' s', St fx Γ H' m' s' → Q (nzF v) H' m' → Q' v s') : wpAny (model prog fx.w) Γ.A t Q' noE s :=
  wpAny_mono (h s S) (fun v s' ⟨H', m', S', q⟩ => k v H' m' s' S' q) fun _ _ e => e

theorem JV.mono {t : Sem Value} {Q Q' : Value → OH → Prop} (h : JV fx Γ H m t Q) (k : ∀ v H', Q v H' → Q' v H') : JV fx Γ H m t Q' :=
  fun _ S => h.run S fun v H' _ S' q => ⟨H', S', k _ _ q⟩
theorem JB.mono {t : Sem Bool} {Q Q' : Bool → OH → Prop} (h : JB fx Γ H m t Q) (k : ∀ v H', Q v H' → Q' v H') : JB fx Γ H m t Q' :=
  fun _ S => h.run S fun v H' _ S' q => ⟨H', S', k _ _ q⟩
theorem JS.mono {t : Sem Flow} {Q Q' : Flow → OH → Loc → Prop} (h : JS fx Γ H m t Q) (k : ∀ v H' m', Q v H' m' → Q' v H' m') : JS fx Γ H m t Q' :=
  fun _ S => h.run S fun v H' m' _ S' q => ⟨H', m', S', k _ _ _ q⟩
theorem JV.weak {t : Sem Value} {Q : Value → OH → Prop} {H₁ : OH} (h : JV fx Γ H₁ m t Q) (hH : ∀ a ao, H₁ a = some ao → H a = some ao) : JV fx Γ H m t Q :=
  fun s S => h s (S.weak hH fun _ _ e => e)

-- a value at hand
theorem JV.here {v : Value} {Q : Value → OH → Prop} (h : Q (nz v) H) : JV fx Γ H m (pure v) Q := fun _ S => wpAny_pure ⟨H, S, h⟩

-- constants
theorem JV.cint {i : Int} {k pos} {Q : Value → OH → Prop} (h : Q (.int i 0) H) : JV fx Γ H m (eval (.Constant (.int i) k pos) Γ.env) Q :=
  fun s S => wpAny_Constant_int ⟨H, S.tok _, h⟩
theorem JV.cstr {x : Str} {k pos} {Q : Value → OH → Prop} (h : Q (.str x 0) H) : JV fx Γ H m (eval (.Constant (.str x) k pos) Γ.env) Q :=
  fun s S => Constant_str ⟨H, S.tok _, h⟩
theorem JV.cbool {b : Bool} {k pos} {Q : Value → OH → Prop} (h : Q (.bool b) H) : JV fx Γ H m (eval (.Constant (.bool b) k pos) Γ.env) Q :=
  fun s S => Constant_bool ⟨H, S, h⟩
theorem JV.cnone {k pos} {Q : Value → OH → Prop} (h : Q .none H) : JV fx Γ H m (eval (.Constant .none k pos) Γ.env) Q :=
  fun s S => Constant_none ⟨H, S, h⟩

-- names
theorem JV.nameL {x : Str} {pos} {v : Value} {Q : Value → OH → Prop} (hv : m x = some v) (h : Q v H) (hl : Γ.env.kindOf x = some .local := by rfl) (hc : Γ.env.cells.lookup x = none := by rfl)
    (hd : (x == ("__debug__" : Str)) = false := by decide) : JV fx Γ H m (eval (.Name x pos) Γ.env) Q := fun s S => by
  obtain ⟨m', hn, hm⟩ := S.ns
  have e := hm x v hc hv
  cases hx : m' x with
  | none => rw [hx] at e; cases e
  | some u =>
    rw [hx] at e
    have e' : nz u = v := Option.some.inj e
    exact wpAny_Name (wpAny_loadName_local S.ok.kind hl hn hx ⟨H, S, e' ▸ h⟩) hd
theorem JV.nameC {x : Str} {pos} {v : Value} {c : Addr} {Q : Value → OH → Prop} (hv : m x = some v) (h : Q v H) (hl : Γ.env.kindOf x = some .cell := by rfl) (hc : Γ.env.cells.lookup x = some c := by rfl)
    (hd : (x == ("__debug__" : Str)) = false := by decide) : JV fx Γ H m (eval (.Name x pos) Γ.env) Q := fun s S => by
  obtain ⟨u, hu, hm⟩ := S.cel x c hc
  have e := hm v hv
  cases u with
  | none => cases e
  | some u =>
    have e' : nz u = v := Option.some.inj e
    exact wpAny_Name (wpAny_loadName_cell S.ok.kind hl hc hu ⟨H, S, e' ▸ h⟩) hd
theorem JV.nameF {x : Str} {pos} {v : Value} {c : Addr} {Q : Value → OH → Prop} (hv : m x = some v) (h : Q v H) (hl : Γ.env.kindOf x = some .free := by rfl) (hc : Γ.env.cells.lookup x = some c := by rfl)
    (hd : (x == ("__debug__" : Str)) = false := by decide) (hn : (x == ("__classdict__" : Str)) = false := by decide) : JV fx Γ H m (eval (.Name x pos) Γ.env) Q := fun s S => by
  obtain ⟨u, hu, hm⟩ := S.cel x c hc
  have e := hm v hv
  cases u with
  | none => cases e
  | some u =>
    have e' : nz u = v := Option.some.inj e
    exact wpAny_Name (wpAny_loadName_free S.ok.kind hl hc hu ⟨H, S, e' ▸ h⟩ hn) hd
theorem JV.nameG {x : Str} {pos} {v : Value} {Q : Value → OH → Prop} (e : nsIn fx.K mainGlobals x = some (some v)) (h : Q (nz v) H) (hl : Γ.env.kindOf x = some .globalImplicit := by rfl)
    (hd : (x == ("__debug__" : Str)) = false := by decide) : JV fx Γ H m (eval (.Name x pos) Γ.env) Q := fun s S =>
  Name_function_global S.ok.kind hl (loadGlobal_global (by rw [S.ok.glob]; exact fx.G.keeps S.base) (mg_of fx.X fx.G e) ⟨H, S, h⟩) hd
theorem JV.nameB {x : Str} {pos} {v : Value} {Q : Value → OH → Prop} (e : nsIn fx.K mainGlobals x = some none) (hv : bootBuiltins x = some v) (h : Q (nz v) H) (hl : Γ.env.kindOf x = some .globalImplicit := by rfl)
    (hn : x ≠ "__name__" := by decide) (hd : (x == ("__debug__" : Str)) = false := by decide) : JV fx Γ H m (eval (.Name x pos) Γ.env) Q := fun s S =>
  Name_function_global S.ok.kind hl (loadGlobal_builtin (by rw [S.ok.glob]; exact fx.G.keeps S.base) (mg_none_of fx.X fx.G e) (by rw [S.ok.bns]; exact fx.Bn.keeps S.base) ((fx.bi x hn).trans hv) ⟨H, S, h⟩) hd

-- operators
theorem JV.binop {l op r pos} {Q : Value → OH → Prop}
    (h : JV fx Γ H m (eval l Γ.env) fun a H₁ => JV fx Γ H₁ m (eval r Γ.env) fun b H₂ => ∀ ra rb, nz ra = a → nz rb = b → JV fx Γ H₂ m (binaryOp op ra rb) Q) :
    JV fx Γ H m (eval (.BinOp l op r pos) Γ.env) Q := fun s S =>
  wpAny_BinOp (h.run S fun a _ _ S₁ h₁ => h₁.run S₁ fun b _ _ S₂ h₂ => h₂ a b rfl rfl _ S₂)
theorem JV.unop {op x pos} {Q : Value → OH → Prop} (h : JV fx Γ H m (eval x Γ.env) fun a H₁ => ∀ ra, nz ra = a → JV fx Γ H₁ m (unaryOp op ra) Q) :
    JV fx Γ H m (eval (.UnaryOp op x pos) Γ.env) Q := fun s S => UnaryOp_ (h.run S fun a _ _ S₁ h₁ => h₁ a rfl _ S₁)

-- tests
theorem JB.cmp {l op r pos whole} {Q : Bool → OH → Prop}
    (h : JV fx Γ H m (eval l Γ.env) fun a H₁ => JV fx Γ H₁ m (eval r Γ.env) fun b H₂ => ∀ ra rb, nz ra = a → nz rb = b → JV fx Γ H₂ m (compareOp op ra rb) fun v H₃ => ∃ c, v = .bool c ∧ Q c H₃)
    (hm : behindInMarks op r = false := by with_unfolding_all rfl) : JB fx Γ H m (isTrue (.Compare l [op] [r] pos) Γ.env whole) Q := fun s S =>
  wpAny_isTrue_Compare1 (h.run S fun a _ _ S₁ h₁ => h₁.run S₁ fun b _ _ S₂ h₂ => (h₂ a b rfl rfl).run S₂ fun v H₃ s₃ S₃ hh => by
    obtain ⟨c, e, q⟩ := hh
    rw [nz_bool e]; exact wpAny_truthy_bool ⟨H₃, S₃, q⟩) hm
theorem JV.cmp {l op r pos} {Q : Value → OH → Prop}
    (h : JV fx Γ H m (eval l Γ.env) fun a H₁ => JV fx Γ H₁ m (eval r Γ.env) fun b H₂ => ∀ ra rb, nz ra = a → nz rb = b → JV fx Γ H₂ m (compareOp op ra rb) Q)
    (hm : behindInMarks op r = false := by with_unfolding_all rfl) : JV fx Γ H m (eval (.Compare l [op] [r] pos) Γ.env) Q := fun s S =>
  wpAny_Compare1 (h.run S fun a _ _ S₁ h₁ => h₁.run S₁ fun b _ _ S₂ h₂ => h₂ a b rfl rfl _ S₂) hm
theorem JB.not {x pos whole} {Q : Bool → OH → Prop} (h : JB fx Γ H m (isTrue x Γ.env (eval x Γ.env)) fun c H₁ => Q (!c) H₁) :
    JB fx Γ H m (isTrue (.UnaryOp .Not x pos) Γ.env whole) Q := fun s S => isTrue_not (h.run S fun _ H₁ _ S₁ q => ⟨H₁, S₁, q⟩)
theorem JB.and {x y rest pos whole} {Q : Bool → OH → Prop}
    (h : JB fx Γ H m (isTrue x Γ.env (eval x Γ.env)) fun c H₁ => if c then JB fx Γ H₁ m (isTrue (.BoolOp .And (y :: rest) pos) Γ.env whole) Q else Q false H₁) :
    JB fx Γ H m (isTrue (.BoolOp .And (x :: y :: rest) pos) Γ.env whole) Q := fun s S => isTrue_and (h.run S fun c H₁ s₁ S₁ q => by
  cases c with
  | false => exact ⟨H₁, S₁, q⟩
  | true => exact q s₁ S₁)
theorem JB.and1 {x pos whole} {Q : Bool → OH → Prop} (h : JB fx Γ H m (isTrue x Γ.env (eval x Γ.env)) Q) : JB fx Γ H m (isTrue (.BoolOp .And [x] pos) Γ.env whole) Q :=
  fun s S => isTrue_and (h.run S fun c H₁ s₁ S₁ q => by
  cases c with
  | false => exact ⟨H₁, S₁, q⟩
  | true => exact isTrue_and_nil ⟨H₁, S₁, q⟩)
theorem JB.or {x y rest pos whole} {Q : Bool → OH → Prop}
    (h : JB fx Γ H m (isTrue x Γ.env (eval x Γ.env)) fun c H₁ => if c then Q true H₁ else JB fx Γ H₁ m (isTrue (.BoolOp .Or (y :: rest) pos) Γ.env whole) Q) :
    JB fx Γ H m (isTrue (.BoolOp .Or (x :: y :: rest) pos) Γ.env whole) Q := fun s S => isTrue_or (h.run S fun c H₁ s₁ S₁ q => by
  cases c with
  | false => exact q s₁ S₁
  | true => exact ⟨H₁, S₁, q⟩)
theorem JB.or1 {x pos whole} {Q : Bool → OH → Prop} (h : JB fx Γ H m (isTrue x Γ.env (eval x Γ.env)) Q) : JB fx Γ H m (isTrue (.BoolOp .Or [x] pos) Γ.env whole) Q :=
  fun s S => isTrue_or (h.run S fun c H₁ s₁ S₁ q => by
  cases c with
  | false => exact isTrue_or_nil ⟨H₁, S₁, q⟩
  | true => exact ⟨H₁, S₁, q⟩)
/-- a name or a call that holds a bool -/
theorem JB.plain {e : Expr} {whole : Sem Value} {Q : Bool → OH → Prop} (h : JV fx Γ H m whole fun v H₁ => ∃ c, v = .bool c ∧ Q c H₁)
    (he : isTrue e Γ.env whole = (do let v ← whole; standAt e.pos; holding [v] (truthy v)) := by rfl) : JB fx Γ H m (isTrue e Γ.env whole) Q := fun s S =>
  isTrue_plain (h.run S fun v H₁ s₁ S₁ hh => by obtain ⟨c, e, q⟩ := hh; rw [nz_bool e]; exact wpAny_truthy_bool ⟨H₁, S₁, q⟩) he
theorem JV.ife {test body orelse pos} {Q : Value → OH → Prop}
    (h : JB fx Γ H m (isTrue test Γ.env (eval test Γ.env)) fun c H₁ => if c then JV fx Γ H₁ m (eval body Γ.env) Q else JV fx Γ H₁ m (eval orelse Γ.env) Q) :
    JV fx Γ H m (eval (.IfExp test body orelse pos) Γ.env) Q := fun s S => IfExp_ (h.run S fun c H₁ s₁ S₁ q => by
  cases c with
  | false => exact q s₁ S₁
  | true => exact q s₁ S₁)
theorem JV.and2 {x y pos} {Q : Value → OH → Prop}
    (h : JV fx Γ H m (eval x Γ.env) fun v H₁ => ∃ c, v = .bool c ∧ if c then JV fx Γ H₁ m (eval y Γ.env) Q else Q (.bool false) H₁) :
    JV fx Γ H m (eval (.BoolOp .And [x, y] pos) Γ.env) Q := fun s S => BoolOp_and (h.run S fun v H₁ s₁ S₁ hh => by
  obtain ⟨c, e, q⟩ := hh
  have e' := nz_bool e
  subst e'
  refine wpAny_truthy_bool ?_
  cases c with
  | false => exact ⟨H₁, S₁, q⟩
  | true => exact BoolOp_one (q s₁ S₁))

-- statements
theorem JS.nil {Q : Flow → OH → Loc → Prop} (h : Q .next H m) : JS fx Γ H m (execs [] Γ.env) Q := fun s S => wpAny_execs_nil ⟨H, m, S, h⟩
theorem JS.cons {st rest} {Q : Flow → OH → Loc → Prop}
    (h : JS fx Γ H m (exec st Γ.env) fun f H₁ m₁ => match f with | .next => JS fx Γ H₁ m₁ (execs rest Γ.env) Q | f => Q f H₁ m₁) :
    JS fx Γ H m (execs (st :: rest) Γ.env) Q := fun s S => wpAny_execs_cons (h.run S fun f H₁ m₁ s₁ S₁ q => by
  cases f with
  | next => exact q s₁ S₁
  | brk => exact ⟨H₁, m₁, S₁, q⟩
  | cont => exact ⟨H₁, m₁, S₁, q⟩
  | ret v => exact ⟨H₁, m₁, S₁, q⟩)
theorem JS.ret {e pos} {Q : Flow → OH → Loc → Prop} (h : JV fx Γ H m (eval e Γ.env) fun v H₁ => Q (.ret v) H₁ m) : JS fx Γ H m (exec (.Return (some e) pos) Γ.env) Q := fun s S =>
  wpAny_Return_some (h.run S fun v H₁ _ S₁ q => ⟨H₁, m, S₁, q⟩)
theorem JS.ite {test body orelse pos} {Q : Flow → OH → Loc → Prop}
    (h : JB fx Γ H m (isTrue test Γ.env (eval test Γ.env)) fun c H₁ => if c then JS fx Γ H₁ m (execs body Γ.env) Q else JS fx Γ H₁ m (execs orelse Γ.env) Q) :
    JS fx Γ H m (exec (.If test body orelse pos) Γ.env) Q := fun s S => wpAny_If (h.run S fun c H₁ s₁ S₁ q => by
  cases c with
  | false => exact q s₁ S₁
  | true => exact q s₁ S₁)
def notRef : Value → Prop
  | .ref _ => False
  | _ => True
theorem notRef_nz {v : Value} (h : notRef (nz v)) : notRef v := by cases v <;> first | exact h | trivial
theorem JS.expr {e pos} {Q : Flow → OH → Loc → Prop} (h : JV fx Γ H m (eval e Γ.env) fun v H₁ => notRef v ∧ Q .next H₁ m)
    (hi : interactive Γ.env = false := by rfl) (hs : swapsWith e none pos.line Γ.env = pure false := by rfl) : JS fx Γ H m (exec (.Expr e pos) Γ.env) Q := fun s S =>
  wpAny_Expr (h.run S fun v H₁ s₁ S₁ hh => by
    obtain ⟨nr, q⟩ := hh
    have nr' := notRef_nz nr
    cases v <;> first | exact nr'.elim | exact ⟨H₁, m, S₁, q⟩) hi hs
theorem notClass (hk : Γ.Ok) : (Γ.env.scope.kind == .class || (Γ.env.scope.kind == .module && Γ.env.locals != Γ.env.globals)) = false := by rw [hk.kind]; rfl
/-- a name is bound -/
theorem JU.storeL {x : Str} {v : Value} {Q : OH → Loc → Prop} (h : Q H (updL m x (nz v))) (hl : Γ.env.kindOf x = some .local := by rfl) (hc : Γ.env.cells.lookup x = none := by rfl) :
    JU fx Γ H m (storeName Γ.env x v) Q := fun s S => by
  obtain ⟨m', hn, hm⟩ := S.ns
  exact wpAny_storeName_local hl hn (fun h' hn' hs => ⟨H, _, S.setL hc hn hm hn' hs, h⟩) (notClass S.ok)
theorem JU.storeC {x : Str} {v : Value} {c : Addr} {Q : OH → Loc → Prop} (h : Q H (updL m x (nz v))) (hl : Γ.env.kindOf x = some .cell := by rfl) (hc : Γ.env.cells.lookup x = some c := by rfl) :
    JU fx Γ H m (storeName Γ.env x v) Q := fun s S => by
  obtain ⟨u, hu, _⟩ := S.cel x c hc
  exact wpAny_storeName_cell S.ok.kind hl hc hu fun h' hn hs => ⟨H, _, S.setC hc hn hs, h⟩
theorem JS.assignL {x : Str} {pos' value pos} {Q : Flow → OH → Loc → Prop} (h : JV fx Γ H m (eval value Γ.env) fun v H₁ => Q .next H₁ (updL m x v))
    (hl : Γ.env.kindOf x = some .local := by rfl) (hc : Γ.env.cells.lookup x = none := by rfl)
    (hs : swapsWith value (some (.Name x pos')) pos.line Γ.env = pure false := by rfl) : JS fx Γ H m (exec (.Assign [.Name x pos'] value pos) Γ.env) Q := fun s S =>
  wpAny_Assign_Name (h.run S fun v H₁ s₁ S₁ q => (JU.storeL (Q := fun H' m' => Q .next H' m') q hl hc).run S₁ fun H' m' s' S' q' => ⟨H', m', S', q'⟩) hs
theorem JS.assignC {x : Str} {c : Addr} {pos' value pos} {Q : Flow → OH → Loc → Prop} (h : JV fx Γ H m (eval value Γ.env) fun v H₁ => Q .next H₁ (updL m x v))
    (hl : Γ.env.kindOf x = some .cell := by rfl) (hc : Γ.env.cells.lookup x = some c := by rfl)
    (hs : swapsWith value (some (.Name x pos')) pos.line Γ.env = pure false := by rfl) : JS fx Γ H m (exec (.Assign [.Name x pos'] value pos) Γ.env) Q := fun s S =>
  wpAny_Assign_Name (h.run S fun v H₁ s₁ S₁ q => (JU.storeC (Q := fun H' m' => Q .next H' m') q hl hc).run S₁ fun H' m' s' S' q' => ⟨H', m', S', q'⟩) hs
end
end Mine
end

section -- JC
open PySem PySem.W PySem.Calls PyProof.Rows
set_option Elab.async false
set_option maxRecDepth 100000
set_option linter.unusedVariables false
namespace Mine
variable {prog : Program} {KF : Params → Frag}

section
variable {fx : Fx prog KF} {Γ : Amb} {H : OH} {m : Loc} {s : Shared}

-- arguments
theorem JL.nil {pos} {Q : List Value → OH → Prop} (h : Q [] H) : JL fx Γ H m (spliced (backTo pos (starEach [] Γ.env))) Q := fun s S => args_nil ⟨H, S, h⟩
theorem JL.cons {e rest pos} {Q : List Value → OH → Prop}
    (h : JV fx Γ H m (eval e Γ.env) fun v H₁ => JL fx Γ H₁ m (spliced (backTo pos (starEach rest Γ.env))) fun vs H₂ => Q (v :: vs) H₂)
    (he : starEach (e :: rest) Γ.env = (false, eval e Γ.env) :: starEach rest Γ.env := by rfl) : JL fx Γ H m (spliced (backTo pos (starEach (e :: rest) Γ.env))) Q := fun s S =>
  args_cons (h.run S fun v H₁ s₁ S₁ q => q.run S₁ fun vs H₂ s₂ S₂ q₂ => ⟨H₂, S₂, q₂⟩) he

/-- what may be called: a def or a class of the text's, a builtin, a type -/
def Callee (fx : Fx prog KF) : Value → Prop
  | .ref a => keepIn fx.K (.ref a) = true
  | .builtin _ => True
  | .type _ => True
  | _ => False

theorem callee_nz {f : Value} (h : Callee fx (nz f)) : nz f = f := by cases f <;> first | rfl | exact h.elim

theorem JV.callWith0 {pos : Pos} {f : Value} {first : List Value} {Q : Value → OH → Prop} (hf : Callee fx f)
    (h : JV fx Γ H m (call f (first ++ [])) Q) : JV fx Γ H m (callWith pos f first (backTo pos (starEach [] Γ.env)) []) Q := fun s S => by
  have h' := h s S
  cases f with
  | ref a => exact callWith_K0 (fx.X.keeps S.base) hf h'
  | builtin i => exact callWith_builtin rfl (evalArgs_nil3 h')
  | type T => exact PyProof.Rows.callWith_type rfl (evalArgs_nil3 h')
  | _ => exact hf.elim
theorem JV.callWithN {pos : Pos} {f : Value} {first : List Value} {e : Expr} {rest : List Expr} {Q : Value → OH → Prop} (hf : Callee fx f)
    (h : JL fx Γ H m (spliced (backTo pos (starEach (e :: rest) Γ.env))) fun vs H₁ => ∀ raws, raws.map nz = vs → JV fx Γ H₁ m (call f (first ++ raws)) Q)
    (he : starEach (e :: rest) Γ.env = (false, eval e Γ.env) :: starEach rest Γ.env := by rfl) (hp : (backTo pos (starEach rest Γ.env)).any (·.1) = false := by rfl) :
    JV fx Γ H m (callWith pos f first (backTo pos (starEach (e :: rest) Γ.env)) []) Q := fun s S => by
  cases f with
  | ref a => exact callWith_K fx.X hf (h.run S fun vs H₁ s₁ S₁ q => ⟨fx.X.keeps S₁.base, q vs rfl s₁ S₁⟩) he hp
  | builtin i =>
    rw [he] at h ⊢
    exact callWith_builtin (by show (false || (backTo pos (starEach rest Γ.env)).any (·.1)) = false; rw [hp]; rfl) (evalArgs_plain (h.run S fun vs H₁ s₁ S₁ q => q vs rfl s₁ S₁))
  | type T =>
    rw [he] at h ⊢
    exact PyProof.Rows.callWith_type (by show (false || (backTo pos (starEach rest Γ.env)).any (·.1)) = false; rw [hp]; rfl) (evalArgs_plain (h.run S fun vs H₁ s₁ S₁ q => q vs rfl s₁ S₁))
  | _ => exact hf.elim

theorem JV.call0 {func : Expr} {pos : Pos} {Q : Value → OH → Prop}
    (h : JV fx Γ H m (eval func Γ.env) fun f H₁ => Callee fx f ∧ JV fx Γ H₁ m (call f []) Q)
    (he : eval (.Call func [] [] pos) Γ.env = (do PySem.callWith pos (← eval func Γ.env) [] (backTo pos (starEach [] Γ.env)) (backToKw pos (keywordEach [] Γ.env))) := by rfl) :
    JV fx Γ H m (eval (.Call func [] [] pos) Γ.env) Q := fun s S =>
  Call_ (h.run S fun f H₁ s₁ S₁ hh => by obtain ⟨hf, q⟩ := hh; have e := callee_nz hf; rw [e] at hf q; exact JV.callWith0 hf q s₁ S₁) he
theorem JV.callN {func e : Expr} {rest : List Expr} {pos : Pos} {Q : Value → OH → Prop}
    (h : JV fx Γ H m (eval func Γ.env) fun f H₁ => Callee fx f ∧ JL fx Γ H₁ m (spliced (backTo pos (starEach (e :: rest) Γ.env))) fun vs H₂ => ∀ raws, raws.map nz = vs → JV fx Γ H₂ m (call f raws) Q)
    (he : eval (.Call func (e :: rest) [] pos) Γ.env = (do PySem.callWith pos (← eval func Γ.env) [] (backTo pos (starEach (e :: rest) Γ.env)) (backToKw pos (keywordEach [] Γ.env))) := by rfl)
    (he2 : starEach (e :: rest) Γ.env = (false, eval e Γ.env) :: starEach rest Γ.env := by rfl) (hp : (backTo pos (starEach rest Γ.env)).any (·.1) = false := by rfl) :
    JV fx Γ H m (eval (.Call func (e :: rest) [] pos) Γ.env) Q := fun s S =>
  Call_ (h.run S fun f H₁ s₁ S₁ hh => by obtain ⟨hf, q⟩ := hh; have e := callee_nz hf; rw [e] at hf q; exact JV.callWithN hf q he2 hp s₁ S₁) he

-- objects of our own
/-- x is an object of class C, its table holds fm -/
def InstOf (H : OH) (x C : Addr) (fm : Loc) : Prop := ∃ d n, H x = some (.inst C d) ∧ H d = some (.ns fm n)

theorem nsFind_dictOf {es : List DictEntry} {k : Nat} {name : Str} (hs : StrKeysL es) : lookIn name (dictOf es k) = some (nsL es name) := by
  unfold lookIn nsL
  show (match es.toArray.toList.find? (·.key.isStr name) with | some e => some (some e.val) | none => if es.toArray.toList.any (·.refKey) then none else some none) = _
  rw [List.toList_toArray]
  cases h : es.find? (·.key.isStr name) with
  | some e => rfl
  | none =>
    have : es.any (·.refKey) = false := by
      rw [List.any_eq_false]
      intro e he
      obtain ⟨n, t, h1⟩ := hs e he
      simp [DictEntry.refKey, h1]
    simp [this]

theorem InstOf.at {x C : Addr} {fm : Loc} (I : InstOf H x C fm) (S : St fx Γ H m s) : ∃ ox es k, InstAt s.heap x ox C (some (dictOf es k)) ∧ StrKeysL es ∧ ∀ y, (nsL es y).map nz = fm y := by
  obtain ⟨d, n, h1, h2⟩ := I
  obtain ⟨sl, hx⟩ := S.own x _ h1
  obtain ⟨es, k, hd, hk, hf, _⟩ := S.own d _ h2
  exact ⟨_, es, k, ⟨hx, rfl, rfl, hd⟩, hk, hf⟩

/-- the written part says that the name is no trap of the class -/
def AttrK (K : Frag) (C : Addr) (name : Str) : Prop := plainGet K C name = true ∧ hasDictIn K C = true ∧ ∃ attr, findIn K (.ref C) name = some attr ∧ noGet K attr = true
def MethK (K : Frag) (C : Addr) (name : Str) (f : Addr) : Prop := plainGet K C name = true ∧ findIn K (.ref C) name = some (some (.ref f)) ∧ isFn K (.ref f) = true ∧ keepIn K (.ref f) = true

def handsOn : Value → Prop
  | .builtin _ => False
  | _ => True
theorem handed_nz {v : Value} (h : handsOn (nz v)) : handedIn v = true := by cases v <;> first | rfl | exact h.elim

theorem JV.getAt {x C : Addr} {fm : Loc} {name : Str} {v : Value} {expr : Bool} {Q : Value → OH → Prop} (I : InstOf H x C fm) (hk : AttrK fx.K C name) (hv : fm name = some v) (hh : handsOn v) (h : Q v H) :
    JV fx Γ H m (getAttr (.ref x) name expr) Q := fun s S => by
  obtain ⟨ox, es, k, I', hs, hf⟩ := I.at S
  obtain ⟨k1, k2, attr, k3, k4⟩ := hk
  have e := hf name
  rw [hv] at e
  cases hn : nsL es name with
  | none => rw [hn] at e; cases e
  | some u =>
    rw [hn] at e
    have e' : nz u = v := Option.some.inj e
    have X := fx.X.keeps S.base
    exact get_value X I' (plainGet_of k1).1 (findObj_own k2 k3 k4 (by rw [nsFind_dictOf hs, hn])) (handed_nz (e' ▸ hh)) ⟨H, S.tok _, e' ▸ h⟩
theorem JV.attr {value : Expr} {attr : Str} {pos : Pos} {Q : Value → OH → Prop}
    (h : JV fx Γ H m (eval value Γ.env) fun o H₁ => ∃ x C fm v, o = .ref x ∧ InstOf H₁ x C fm ∧ AttrK fx.K C attr ∧ fm attr = some v ∧ handsOn v ∧ Q v H₁)
    (he : eval (.Attribute value attr pos) Γ.env = (do
      let o ← eval value Γ.env
      standAt pos.atName
      let r ← holding [o] (PySem.getAttr o attr true)
      letTemporaryGo value o r
      pure r) := by with_unfolding_all rfl) : JV fx Γ H m (eval (.Attribute value attr pos) Γ.env) Q := fun s S =>
  Attribute_any_ (h.run S fun o H₁ s₁ S₁ hh => by obtain ⟨x, C, fm, v, e, I, k, hv, hh, q⟩ := hh; rw [nz_ref e]; exact JV.getAt I k hv hh q s₁ S₁) he

theorem JV.getMe {x C f : Addr} {fm : Loc} {name : Str} {pl : Sem Bool} (I : InstOf H x C fm) (hk : MethK fx.K C name f) (hv : fm name = none) {Q' : Value × List Value → Shared → Prop} (S : St fx Γ H m s)
    (h : Q' (.ref f, [.ref x]) s) : wpAny (model prog fx.w) Γ.A (PySem.getMethod (.ref x) name pl) Q' noE s := by
  obtain ⟨ox, es, k, I', hs, hf⟩ := I.at S
  obtain ⟨k1, k2, k3, k4⟩ := hk
  have e := hf name
  rw [hv] at e
  have hn : nsL es name = none := by cases q : nsL es name with | none => rfl | some u => rw [q] at e; cases e
  exact method_fn (fx.X.keeps S.base) I' (plainGet_of k1).1 (plainGet_of k1).2 k2 (beq_iff_eq.mp k3) (by show (lookIn name (dictOf es k)).map _ = _; rw [nsFind_dictOf hs, hn]; rfl) h

theorem JV.meth0 {o : Expr} {name : Str} {apos pos : Pos} {pl : Sem Bool} {Q : Value → OH → Prop}
    (h : JV fx Γ H m (eval o Γ.env) fun ov H₁ => ∃ x C fm f, ov = .ref x ∧ InstOf H₁ x C fm ∧ MethK fx.K C name f ∧ fm name = none ∧ JV fx Γ H₁ m (call (.ref f) [.ref x]) Q)
    (he : eval (.Call (.Attribute o name apos) [] [] pos) Γ.env = (do
      let ov ← eval o Γ.env
      standAt apos.atName
      let (f, first) ← holding [ov] (PySem.getMethod ov name pl)
      PySem.callWith pos f first (backTo pos (starEach [] Γ.env)) (backToKw pos (keywordEach [] Γ.env))) := by rfl) :
    JV fx Γ H m (eval (.Call (.Attribute o name apos) [] [] pos) Γ.env) Q := fun s S =>
  methodCall_KW (kws := []) (h.run S fun ov H₁ s₁ S₁ hh => by
    obtain ⟨x, C, fm, f, e, I, k, hv, q⟩ := hh
    rw [nz_ref e]; exact JV.getMe I k hv S₁ (JV.callWith0 (first := [.ref x]) (show Callee fx (.ref f) from k.2.2.2) q s₁ S₁)) he
theorem JV.methN {o e₁ : Expr} {rest : List Expr} {name : Str} {apos pos : Pos} {pl : Sem Bool} {Q : Value → OH → Prop}
    (h : JV fx Γ H m (eval o Γ.env) fun ov H₁ => ∃ x C fm f, ov = .ref x ∧ InstOf H₁ x C fm ∧ MethK fx.K C name f ∧ fm name = none ∧
      JL fx Γ H₁ m (spliced (backTo pos (starEach (e₁ :: rest) Γ.env))) fun vs H₂ => ∀ raws, raws.map nz = vs → JV fx Γ H₂ m (call (.ref f) (.ref x :: raws)) Q)
    (he : eval (.Call (.Attribute o name apos) (e₁ :: rest) [] pos) Γ.env = (do
      let ov ← eval o Γ.env
      standAt apos.atName
      let (f, first) ← holding [ov] (PySem.getMethod ov name pl)
      PySem.callWith pos f first (backTo pos (starEach (e₁ :: rest) Γ.env)) (backToKw pos (keywordEach [] Γ.env))) := by rfl)
    (he2 : starEach (e₁ :: rest) Γ.env = (false, eval e₁ Γ.env) :: starEach rest Γ.env := by rfl) (hp : (backTo pos (starEach rest Γ.env)).any (·.1) = false := by rfl) :
    JV fx Γ H m (eval (.Call (.Attribute o name apos) (e₁ :: rest) [] pos) Γ.env) Q := fun s S =>
  methodCall_KW (kws := []) (h.run S fun ov H₁ s₁ S₁ hh => by
    obtain ⟨x, C, fm, f, e, I, k, hv, q⟩ := hh
    rw [nz_ref e]; exact JV.getMe I k hv S₁ (JV.callWithN (first := [.ref x]) (show Callee fx (.ref f) from k.2.2.2) q he2 hp s₁ S₁)) he

/-- a method of a builtin kind -/
theorem JV.methB0 {o : Expr} {name : Str} {apos pos : Pos} {pl : Sem Bool} {T id : String} {Q : Value → OH → Prop} (pa : PlainAttrs T) (slot : Slot T name id) (hty : typeOf (.builtin id) = pure (.type "method_descriptor"))
    (h : JV fx Γ H m (eval o Γ.env) fun ov H₁ => ∃ x, ov = .ref x ∧ (∀ s₁, St fx Γ H₁ m s₁ → ∃ ob, s₁.heap.get? x = some ob ∧ ob.cls = .type T ∧ ob.dict = none) ∧ JV fx Γ H₁ m (PySem.callWith pos (.builtin id) [.ref x] [] []) Q)
    (he : eval (.Call (.Attribute o name apos) [] [] pos) Γ.env = (do
      let ov ← eval o Γ.env
      standAt apos.atName
      let (f, first) ← holding [ov] (PySem.getMethod ov name pl)
      PySem.callWith pos f first (backTo pos (starEach [] Γ.env)) (backToKw pos (keywordEach [] Γ.env))) := by rfl) :
    JV fx Γ H m (eval (.Call (.Attribute o name apos) [] [] pos) Γ.env) Q := fun s S =>
  methodCall_KW (kws := []) (h.run S fun ov H₁ s₁ S₁ hh => by
    obtain ⟨x, e, k, q⟩ := hh
    rw [nz_ref e]
    obtain ⟨ob, h1, h2, h3⟩ := k s₁ S₁
    exact getMethod_builtin ⟨ob, h1, h2⟩ pa slot hty (fun a ea => by cases ea; exact ⟨ob, h1, h3⟩) (q s₁ S₁)) he
theorem JV.methB1 {o e₁ : Expr} {name : Str} {apos pos : Pos} {pl : Sem Bool} {T id : String} {Q : Value → OH → Prop} (pa : PlainAttrs T) (slot : Slot T name id) (hty : typeOf (.builtin id) = pure (.type "method_descriptor"))
    (h : JV fx Γ H m (eval o Γ.env) fun ov H₁ => ∃ x, ov = .ref x ∧ (∀ s₁, St fx Γ H₁ m s₁ → ∃ ob, s₁.heap.get? x = some ob ∧ ob.cls = .type T ∧ ob.dict = none) ∧ JV fx Γ H₁ m (PySem.callWith pos (.builtin id) [.ref x] [(false, eval e₁ Γ.env)] []) Q)
    (he : eval (.Call (.Attribute o name apos) [e₁] [] pos) Γ.env = (do
      let ov ← eval o Γ.env
      standAt apos.atName
      let (f, first) ← holding [ov] (PySem.getMethod ov name pl)
      PySem.callWith pos f first (backTo pos (starEach [e₁] Γ.env)) (backToKw pos (keywordEach [] Γ.env))) := by rfl)
    (ht : backTo pos (starEach [e₁] Γ.env) = [(false, eval e₁ Γ.env)] := by rfl) :
    JV fx Γ H m (eval (.Call (.Attribute o name apos) [e₁] [] pos) Γ.env) Q := fun s S =>
  methodCall_KW (kws := []) (h.run S fun ov H₁ s₁ S₁ hh => by
    obtain ⟨x, e, k, q⟩ := hh
    rw [nz_ref e]
    obtain ⟨ob, h1, h2, h3⟩ := k s₁ S₁
    refine getMethod_builtin ⟨ob, h1, h2⟩ pa slot hty (fun a ea => by cases ea; exact ⟨ob, h1, h3⟩) ?_
    rw [ht]
    exact q s₁ S₁) he
end
end Mine
end

section -- JD
open PySem PySem.W PySem.Calls PyProof.Rows
set_option Elab.async false
set_option maxRecDepth 100000
set_option linter.unusedVariables false
namespace Mine
variable {prog : Program} {KF : Params → Frag}

open Classical in
/-- all that stands, but what P names, is frozen -/
noncomputable def frozen (h : Heap) (P : Addr → Prop) : Addr → Option Obj := fun b => if P b then none else h.get? b

theorem frz_none {h : Heap} {P : Addr → Prop} {b : Addr} (p : P b) : frozen h P b = none := by unfold frozen; rw [if_pos p]
theorem frz_some {h : Heap} {P : Addr → Prop} {b : Addr} {o : Obj} (p : ¬ P b) (e : h.get? b = some o) : frozen h P b = some o := by unfold frozen; rw [if_neg p]; exact e
theorem frz_get {h : Heap} {P : Addr → Prop} {b : Addr} {o : Obj} (e : frozen h P b = some o) : h.get? b = some o := by
  unfold frozen at e
  split at e
  · cases e
  · exact e
theorem frz_new {h : Heap} {P : Addr → Prop} {b : Addr} (p : h.objs.size ≤ b) : frozen h P b = none := by
  unfold frozen
  split
  · rfl
  · cases e : h.get? b with
    | none => rfl
    | some o => exact absurd (Heap.lt_size e) (Nat.not_lt.mpr p)

section
variable {fx : Fx prog KF} {Γ Γ' : Amb} {H H' : OH} {m m' : Loc} {s s' : Shared}

abbrev mine (H : OH) : Addr → Prop := fun b => H b ≠ none

/-- back from a frame below which all but the own objects was frozen -/
theorem St.back (S : St fx Γ H m s) (S' : St fx Γ' H' m' s') (hB : Γ'.B = frozen s.heap (mine H)) : St fx Γ H' m s' := by
  have stay : ∀ b o, H b = none → s.heap.get? b = some o → s'.heap.get? b = some o := fun b o hb e => S'.frz b o (by rw [hB]; exact frz_some (fun q => q hb) e)
  have notH : ∀ b o, H b = none → s.heap.get? b = some o → H' b = none := fun b o hb e => by
    cases q : H' b with
    | none => rfl
    | some ao =>
      have := (S'.sepH b ao q).2.2.1
      rw [hB, frz_some (fun q => q hb) e] at this; cases this
  have hL : H Γ.L = none := by
    cases q : H Γ.L with
    | none => rfl
    | some ao => exact absurd rfl (S.sepH _ _ q).2.1
  have hC : ∀ x c, Γ.cells.lookup x = some c → H c = none := fun x c e => by
    cases q : H c with
    | none => rfl
    | some ao => exact absurd rfl ((S.sepH _ _ q).2.2.2 x c e)
  have hF : ∀ b o, Γ.B b = some o → H b = none := fun b o e => by
    cases q : H b with
    | none => rfl
    | some ao => have := (S.sepH _ _ q).2.2.1; rw [e] at this; cases this
  obtain ⟨m₁, ⟨oL, es, ep, hoL, r⟩, hm⟩ := S.ns
  refine ⟨S.ok, S'.base, S'.own, fun a o e => stay a o (hF a o e) (S.frz a o e), ⟨m₁, ⟨oL, es, ep, stay _ _ hL hoL, r⟩, hm⟩, fun x c e => ?_, S'.gens, S'.os, fun a ao e => ?_, S.sepL, S.sepC⟩
  · obtain ⟨v, ⟨o, ho, hd⟩, hu⟩ := S.cel x c e
    exact ⟨v, ⟨o, stay _ _ (hC x c e) ho, hd⟩, hu⟩
  · refine ⟨(S'.sepH a ao e).1, ?_, ?_, fun x c hc => ?_⟩
    · rintro rfl
      rw [notH _ _ hL hoL] at e; cases e
    · cases q : Γ.B a with
      | none => rfl
      | some o => rw [notH a o (hF a o q) (S.frz a o q)] at e; cases e
    · rintro rfl
      obtain ⟨v, ⟨o, ho, hd⟩, hu⟩ := S.cel x a hc
      rw [notH _ _ (hC x a hc) ho] at e; cases e

theorem St.lt (S : St fx Γ H m s) {a : Addr} {ao : AO} (e : H a = some ao) : a < s.heap.objs.size := by
  refine Nat.lt_of_not_le fun q => ?_
  rw [(S.fresh q).1] at e; cases e

theorem lookup_reverse {α : Type} : ∀ {l : List (Str × α)} {y : Str}, (l.map (·.1)).Nodup → l.reverse.lookup y = l.lookup y
  | [], _, _ => rfl
  | (n, v) :: r, y, h => by
    rw [List.map_cons, List.nodup_cons] at h
    rw [List.reverse_cons, List.lookup_append, lookup_reverse h.2, List.lookup_cons]
    by_cases q : y = n
    · subst q
      have hn : r.lookup y = none := by
        rw [List.lookup_eq_none_iff]
        intro p hp
        simp only [bne_iff_ne, ne_eq]
        rintro rfl
        exact h.1 (List.mem_map_of_mem (f := (·.1)) hp)
      simp [hn]
    · have hb : (y == n) = false := by simpa using q
      simp [hb, List.lookup_cons]

/-- what a call's names hold -/
def binding (binds : List (Str × Value)) : Loc := fun y => (binds.lookup y).map nz

def retOf : Flow → Value
  | .ret v => v
  | _ => .none
theorem retOf_nz (f : Flow) : nz (match f with | .ret v => v | _ => .none) = retOf (nzF f) := by cases f <;> rfl

theorem JV.fn {f : Addr} {raws : List Value} {Q : Value → OH → Prop} {name qual : Str} {params : Arguments} {body : List Stmt} {scope : Scope} {dV kV doc pm cdv ct oc : Value} {an od : Option Addr} {osl : Array (Option Value)} {binds : List (Str × Value)}
    (ho : fx.K.lookup f = some ⟨oc, od, .func (fnOf name qual params body scope dV kV doc pm an cdv ct), osl⟩) (hcd : codeIn fx.K cdv qual = true)
    (rem : 1 ≤ Γ.rem) (hbind : ∀ s, St fx Γ H m s → BindsTo s (fnOf name qual params body scope dV kV doc pm an cdv ct) ⟨raws, []⟩ binds) (hloc : ∀ y ∈ binds, scope.names.lookup y.1 = some .local)
    (hnd : (binds.map (·.1)).Nodup)
    (h : ∀ (A : Around) (L : Addr) (B : Addr → Option Obj), JS fx ⟨A, envOf qual scope L f cdv, B, Γ.rem - 1⟩ H (binding binds) (execs body (envOf qual scope L f cdv)) fun fl H₁ _ => Q (retOf fl) H₁)
    (hcell : ∀ x ∈ scope.names, x.2 ≠ .cell) (hco : scope.isCoroutine = false) (hgen : scope.isGenerator = false) (hk : scope.kind = .function) :
    JV fx Γ H m (call (.ref f) raws) Q := fun s S => by
  have X := fx.X.keeps S.base
  refine wpAny_call (codeAny_call_def (fd := fnOf name qual params body scope dV kV doc pm an cdv ct) (body := body) (binds := binds) (by have := S.ok.depth; omega) (X _ _ ho) rfl (fx.lim.keeps S.base) (codeRec_of X hcd) rfl
    (hbind s S) hcell hloc (fun h₁ hns hk₁ => ?_) hco hgen hk)
  have S₁ : St fx ⟨Γ.A.deeper (envOf qual scope s.heap.objs.size f cdv), envOf qual scope s.heap.objs.size f cdv, frozen s.heap (mine H), Γ.rem - 1⟩ H (binding binds) { s with heap := h₁, toks := s.toks + binds.length } := by
    refine ⟨⟨?_, ?_, S.ok.handled, hk, rfl, rfl⟩, fun b o e => hk₁ _ _ (S.base b o e), fun a ao e => (S.own a ao e).keep hk₁, fun a o e => hk₁ _ _ (frz_get e), ⟨_, hns, fun x v _ e => ?_⟩, fun x c e => (nomatch e), S.gens, S.os,
      fun a ao e => ⟨(S.sepH a ao e).1, Nat.ne_of_lt (S.lt e), frz_none (by simp [mine, e]), fun x c e => (nomatch e)⟩, ⟨S.size, frz_new (Nat.le_refl _), fun x c e => (nomatch e)⟩, fun x c e => (nomatch e)⟩
    · show Γ.A.depth + 1 + (Γ.rem - 1) < _; have := S.ok.depth; omega
    · show Γ.A.units + 3 + 12 * (Γ.rem - 1) < _; have := S.ok.units; omega
    · rw [lookup_reverse hnd]; exact e
  exact wpAny_mono (h _ _ _ _ S₁) (fun fl s' ⟨H', m', S', q⟩ => ⟨H', S.back S' rfl, by cases fl <;> exact q⟩) fun _ _ e => e.elim

theorem bindL_lookup (kindOf : Str → Option NameKind) : ∀ (binds : List (Str × Value)) (m₀ : Loc) (y : Str), (binds.map (·.1)).Nodup → kindOf y = some .local → bindL kindOf binds m₀ y = (binds.lookup y).or (m₀ y)
  | [], m₀, y, _, _ => by simp [bindL]
  | (n, v) :: r, m₀, y, h, hy => by
    rw [List.map_cons, List.nodup_cons] at h
    rw [bindL, bindL_lookup kindOf r _ y h.2 hy, List.lookup_cons]
    by_cases q : y = n
    · subst q
      have hn : r.lookup y = none := by
        rw [List.lookup_eq_none_iff]
        intro p hp
        simp only [bne_iff_ne, ne_eq]
        rintro rfl
        exact h.1 (List.mem_map_of_mem (f := (·.1)) hp)
      simp [hn, hy]
    · have hb : (y == n) = false := by simpa using q
      simp only [hb]
      split <;> simp [q]
theorem bindC_lookup (kindOf : Str → Option NameKind) : ∀ (binds : List (Str × Value)) (m₀ : Loc) (y : Str), (binds.map (·.1)).Nodup → kindOf y ≠ some .local → bindC kindOf binds m₀ y = (binds.lookup y).or (m₀ y)
  | [], m₀, y, _, _ => by simp [bindC]
  | (n, v) :: r, m₀, y, h, hy => by
    rw [List.map_cons, List.nodup_cons] at h
    rw [bindC, bindC_lookup kindOf r _ y h.2 hy, List.lookup_cons]
    by_cases q : y = n
    · subst q
      have hn : r.lookup y = none := by
        rw [List.lookup_eq_none_iff]
        intro p hp
        simp only [bne_iff_ne, ne_eq]
        rintro rfl
        exact h.1 (List.mem_map_of_mem (f := (·.1)) hp)
      simp [hn, hy]
    · have hb : (y == n) = false := by simpa using q
      simp only [hb]
      split <;> simp [q]

theorem lookup_pairwise {cs : List (Str × Addr)} (ap : cs.Pairwise fun x y => x.2 ≠ y.2) {x y : Str} {c d : Addr} (hx : cs.lookup x = some c) (hy : cs.lookup y = some d) (n : x ≠ y) : c ≠ d := fun e =>
  n (name_of_addr ap (mem_of_lookup hx) (e ▸ mem_of_lookup hy))

/-- a def some of whose names are cells -/
theorem JV.fnC {f : Addr} {raws : List Value} {Q : Value → OH → Prop} {name qual : Str} {params : Arguments} {body : List Stmt} {scope : Scope} {dV kV doc pm cdv ct oc : Value} {an od : Option Addr} {osl : Array (Option Value)} {binds : List (Str × Value)}
    (ho : fx.K.lookup f = some ⟨oc, od, .func (fnOf name qual params body scope dV kV doc pm an cdv ct), osl⟩) (hcd : codeIn fx.K cdv qual = true)
    (rem : 1 ≤ Γ.rem) (hbind : bindArgs (fnOf name qual params body scope dV kV doc pm an cdv ct) ⟨raws, []⟩ = pure binds)
    (hkind : (binds.all fun y => scope.names.lookup y.1 == some .local || scope.names.lookup y.1 == some .cell) = true)
    (hloc : ∀ y, ((cellsFrom 0 scope.names []).lookup y).isSome = true → scope.names.lookup y ≠ some .local)
    (hnc : ∀ y ∈ binds, ((cellsFrom 0 scope.names []).lookup y.1).isSome = false → scope.names.lookup y.1 = some .local)
    (hnd : (binds.map (·.1)).Nodup)
    (h : ∀ (A : Around) (L : Addr) (B : Addr → Option Obj), JS fx ⟨A, envOfC qual scope L f cdv, B, Γ.rem - 1⟩ H (binding binds) (execs body (envOfC qual scope L f cdv)) fun fl H₁ _ => Q (retOf fl) H₁)
    (hco : scope.isCoroutine = false) (hgen : scope.isGenerator = false) (hk : scope.kind = .function) :
    JV fx Γ H m (call (.ref f) raws) Q := fun s S => by
  have X := fx.X.keeps S.base
  have same : ∀ (names : List (Str × NameKind)) (n k : Nat) (acc acc' : List (Str × Addr)), acc.map (·.1) = acc'.map (·.1) → ((cellsFrom n names acc).map (·.1)) = ((cellsFrom k names acc').map (·.1)) := by
    intro names
    induction names with
    | nil => intro n k acc acc' e; exact e
    | cons p r ih =>
      intro n k acc acc' e
      obtain ⟨x, kd⟩ := p
      unfold cellsFrom
      split
      · exact ih _ _ _ _ (by simp [e])
      · exact ih _ _ _ _ e
  have lk : ∀ {l l' : List (Str × Addr)} {y : Str}, l.map (·.1) = l'.map (·.1) → (l.lookup y).isSome = (l'.lookup y).isSome := by
    intro l
    induction l with
    | nil => intro l' y e; cases l' with | nil => rfl | cons _ _ => cases e
    | cons p r ih =>
      intro l' y e
      cases l' with
      | nil => cases e
      | cons p' r' =>
        simp only [List.map_cons, List.cons.injEq] at e
        obtain ⟨x, c⟩ := p
        obtain ⟨x', c'⟩ := p'
        simp only at e
        obtain ⟨rfl, e⟩ := e
        simp only [List.lookup_cons]
        split
        · rfl
        · exact ih e
  have cs0 : ∀ n y, ((cellsFrom n scope.names []).lookup y).isSome = ((cellsFrom 0 scope.names []).lookup y).isSome := fun n y => lk (same scope.names n 0 [] [] rfl)
  refine wpAny_call (codeAny_call_cells (fd := fnOf name qual params body scope dV kV doc pm an cdv ct) (body := body) (binds := binds) (by have := S.ok.depth; omega) (X _ _ ho) rfl (fx.lim.keeps S.base) (codeRec_of X hcd) rfl hbind rfl
    (kindsX hkind _) (fun s₁ x => ?_) hco hgen hk)
  have x' : InCallC s s.heap.objs.size (bindL (envOfC qual scope s.heap.objs.size f cdv).kindOf binds fun _ => none) (cellsFrom (s.heap.objs.size + 1) scope.names []) (bindC (envOfC qual scope s.heap.objs.size f cdv).kindOf binds fun _ => none) s₁ := x
  clear x
  obtain ⟨h₁, tk, rfl, hk₁⟩ := x'.done
  have kd : ∀ y, (envOfC qual scope s.heap.objs.size f cdv).kindOf y = scope.names.lookup y := fun _ => rfl
  have S₁ : St fx ⟨Γ.A.deeper (envOfC qual scope s.heap.objs.size f cdv), envOfC qual scope s.heap.objs.size f cdv, frozen s.heap (mine H), Γ.rem - 1⟩ H (binding binds) { s with heap := h₁, toks := tk } := by
    have above : ∀ y c, (cellsFrom (s.heap.objs.size + 1) scope.names []).lookup y = some c → s.heap.objs.size < c := fun y c e => x'.above y c (mem_of_lookup e)
    refine ⟨⟨?_, ?_, S.ok.handled, hk, rfl, rfl⟩, fun b o e => hk₁ _ _ (S.base b o e), fun a ao e => (S.own a ao e).keep hk₁, fun a o e => hk₁ _ _ (frz_get e), ⟨_, x'.toInCall.ns, fun y v hc e => ?_⟩, fun y c e => ⟨_, x'.cell y c e, fun u hu => ?_⟩, S.gens, S.os,
      fun a ao e => ⟨(S.sepH a ao e).1, Nat.ne_of_lt (S.lt e), frz_none (by simp [mine, e]), fun y c hc => Nat.ne_of_lt (Nat.lt_trans (S.lt e) (above y c hc))⟩,
      ⟨S.size, frz_new (Nat.le_refl _), fun y c hc => Nat.ne_of_gt (above y c hc)⟩, fun y c hc => ⟨Nat.le_trans S.size (Nat.le_of_lt (above y c hc)), frz_new (Nat.le_of_lt (above y c hc)), fun z d hz n => lookup_pairwise x'.apart hc hz n⟩⟩
    · show Γ.A.depth + 1 + (Γ.rem - 1) < _; have := S.ok.depth; omega
    · show Γ.A.units + 3 + 12 * (Γ.rem - 1) < _; have := S.ok.units; omega
    · cases q : binds.lookup y with
      | none => rw [binding, q] at e; cases e
      | some u =>
        have hm := mem_of_lookup q
        have hl : scope.names.lookup y = some .local := hnc (y, u) hm (by rw [← cs0 (s.heap.objs.size + 1)]; show ((cellsFrom (s.heap.objs.size + 1) scope.names []).lookup y).isSome = false; rw [show (cellsFrom (s.heap.objs.size + 1) scope.names []).lookup y = none from hc]; rfl)
        rw [bindL_lookup _ _ _ _ hnd (by rw [kd]; exact hl), q]
        rw [binding, q] at e
        exact e
    · have hn : (envOfC qual scope s.heap.objs.size f cdv).kindOf y ≠ some .local := by
        rw [kd]; exact hloc y (by rw [← cs0 (s.heap.objs.size + 1)]; show ((cellsFrom (s.heap.objs.size + 1) scope.names []).lookup y).isSome = true; rw [show (cellsFrom (s.heap.objs.size + 1) scope.names []).lookup y = some c from e]; rfl)
      rw [bindC_lookup _ _ _ _ hnd hn]
      unfold binding at hu
      cases q : binds.lookup y with
      | none => rw [q] at hu; cases hu
      | some u' => rw [q] at hu; exact hu
  exact wpAny_mono (h _ _ _ _ S₁) (fun fl s' ⟨H', m', S', q⟩ => ⟨H', S.back S' rfl, by cases fl <;> exact q⟩) fun _ _ e => e.elim
end
end Mine
end

section -- JE
open PySem PySem.W PySem.Calls PyProof.Rows
set_option Elab.async false
set_option maxRecDepth 100000
set_option linter.unusedVariables false
namespace Mine
variable {prog : Program} {KF : Params → Frag}

section
variable {fx : Fx prog KF} {Γ : Amb} {H : OH} {m : Loc} {s : Shared}

abbrev I (i : Int) : Value := .int i 0

-- ints
theorem JV.add {l r pos} {Q : Value → OH → Prop} (h : JV fx Γ H m (eval l Γ.env) fun a H₁ => JV fx Γ H₁ m (eval r Γ.env) fun b H₂ => ∃ i j, a = I i ∧ b = I j ∧ Q (I (i + j)) H₂) :
    JV fx Γ H m (eval (.BinOp l .Add r pos) Γ.env) Q := JV.binop (h.mono fun a H₁ h₁ => h₁.mono fun b H₂ hh ra rb ha hb s S => by
  obtain ⟨i, j, ea, eb, q⟩ := hh
  obtain ⟨t, rfl⟩ := nz_int (ha.trans ea); obtain ⟨u, rfl⟩ := nz_int (hb.trans eb)
  exact PyProof.Rows.add_int ⟨H₂, S.tok _, q⟩)
theorem JV.sub {l r pos} {Q : Value → OH → Prop} (h : JV fx Γ H m (eval l Γ.env) fun a H₁ => JV fx Γ H₁ m (eval r Γ.env) fun b H₂ => ∃ i j, a = I i ∧ b = I j ∧ Q (I (i - j)) H₂) :
    JV fx Γ H m (eval (.BinOp l .Sub r pos) Γ.env) Q := JV.binop (h.mono fun a H₁ h₁ => h₁.mono fun b H₂ hh ra rb ha hb s S => by
  obtain ⟨i, j, ea, eb, q⟩ := hh
  obtain ⟨t, rfl⟩ := nz_int (ha.trans ea); obtain ⟨u, rfl⟩ := nz_int (hb.trans eb)
  exact PyProof.Rows.sub_int ⟨H₂, S.tok _, q⟩)
theorem JV.mul {l r pos} {Q : Value → OH → Prop} (h : JV fx Γ H m (eval l Γ.env) fun a H₁ => JV fx Γ H₁ m (eval r Γ.env) fun b H₂ => ∃ i j, a = I i ∧ b = I j ∧ IntMulOk i j ∧ Q (I (i * j)) H₂) :
    JV fx Γ H m (eval (.BinOp l .Mult r pos) Γ.env) Q := JV.binop (h.mono fun a H₁ h₁ => h₁.mono fun b H₂ hh ra rb ha hb s S => by
  obtain ⟨i, j, ea, eb, ok, q⟩ := hh
  obtain ⟨t, rfl⟩ := nz_int (ha.trans ea); obtain ⟨u, rfl⟩ := nz_int (hb.trans eb)
  exact PyProof.Rows.mul_int ⟨H₂, S.tok _, q⟩ ok)
theorem JV.mod {l r pos} {Q : Value → OH → Prop} (h : JV fx Γ H m (eval l Γ.env) fun a H₁ => JV fx Γ H₁ m (eval r Γ.env) fun b H₂ => ∃ i j, a = I i ∧ b = I j ∧ j ≠ 0 ∧ Q (I (i.fmod j)) H₂) :
    JV fx Γ H m (eval (.BinOp l .Mod r pos) Γ.env) Q := JV.binop (h.mono fun a H₁ h₁ => h₁.mono fun b H₂ hh ra rb ha hb s S => by
  obtain ⟨i, j, ea, eb, ok, q⟩ := hh
  obtain ⟨t, rfl⟩ := nz_int (ha.trans ea); obtain ⟨u, rfl⟩ := nz_int (hb.trans eb)
  exact PyProof.Rows.mod_int' ok ⟨H₂, S.tok _, q⟩)
theorem JV.pow {l r pos} {Q : Value → OH → Prop} (h : JV fx Γ H m (eval l Γ.env) fun a H₁ => JV fx Γ H₁ m (eval r Γ.env) fun b H₂ => ∃ i j, a = I i ∧ b = I j ∧ 0 ≤ j ∧ (Builtin.Int.intBits i : Int) * j ≤ 2 ^ 27 ∧ Q (I (i ^ j.toNat)) H₂) :
    JV fx Γ H m (eval (.BinOp l .Pow r pos) Γ.env) Q := JV.binop (h.mono fun a H₁ h₁ => h₁.mono fun b H₂ hh ra rb ha hb s S => by
  obtain ⟨i, j, ea, eb, ok, ok2, q⟩ := hh
  obtain ⟨t, rfl⟩ := nz_int (ha.trans ea); obtain ⟨u, rfl⟩ := nz_int (hb.trans eb)
  exact PyProof.Rows.pow_int ok ok2 ⟨H₂, S.tok _, q⟩)
theorem JV.shr {l r pos} {Q : Value → OH → Prop} (h : JV fx Γ H m (eval l Γ.env) fun a H₁ => JV fx Γ H₁ m (eval r Γ.env) fun b H₂ => ∃ i j, a = I i ∧ b = I j ∧ 0 ≤ j ∧ Q (I (i.fdiv (2 ^ j.toNat))) H₂) :
    JV fx Γ H m (eval (.BinOp l .RShift r pos) Γ.env) Q := JV.binop (h.mono fun a H₁ h₁ => h₁.mono fun b H₂ hh ra rb ha hb s S => by
  obtain ⟨i, j, ea, eb, ok, q⟩ := hh
  obtain ⟨t, rfl⟩ := nz_int (ha.trans ea); obtain ⟨u, rfl⟩ := nz_int (hb.trans eb)
  exact PyProof.Rows.rshift_int ok ⟨H₂, S.tok _, q⟩)
theorem JV.band {l r pos} {Q : Value → OH → Prop} (h : JV fx Γ H m (eval l Γ.env) fun a H₁ => JV fx Γ H₁ m (eval r Γ.env) fun b H₂ => ∃ i j, a = I i ∧ b = I j ∧ Q (I (Builtin.bitAnd i j)) H₂) :
    JV fx Γ H m (eval (.BinOp l .BitAnd r pos) Γ.env) Q := JV.binop (h.mono fun a H₁ h₁ => h₁.mono fun b H₂ hh ra rb ha hb s S => by
  obtain ⟨i, j, ea, eb, q⟩ := hh
  obtain ⟨t, rfl⟩ := nz_int (ha.trans ea); obtain ⟨u, rfl⟩ := nz_int (hb.trans eb)
  exact PyProof.Rows.and_int ⟨H₂, S.tok _, q⟩)
theorem JV.neg {x pos} {Q : Value → OH → Prop} (h : JV fx Γ H m (eval x Γ.env) fun a H₁ => ∃ i, a = I i ∧ Q (I (-i)) H₁) :
    JV fx Γ H m (eval (.UnaryOp .USub x pos) Γ.env) Q := JV.unop (h.mono fun a H₁ hh ra ha s S => by
  obtain ⟨i, ea, q⟩ := hh
  obtain ⟨t, rfl⟩ := nz_int (ha.trans ea)
  exact PyProof.Rows.neg_int ⟨H₁, S.tok _, q⟩)

/-- two values compared come out as this, and nothing turns -/
def CmpOk (fx : Fx prog KF) (Γ : Amb) (H : OH) (m : Loc) (op : CmpOp) (a b : Value) (r : Bool) : Prop :=
  ∀ ra rb, nz ra = a → nz rb = b → ∀ Q : Value → OH → Prop, Q (.bool r) H → JV fx Γ H m (compareOp op ra rb) Q

theorem JB.cmpOk {l op r pos whole} {Q : Bool → OH → Prop}
    (h : JV fx Γ H m (eval l Γ.env) fun a H₁ => JV fx Γ H₁ m (eval r Γ.env) fun b H₂ => ∃ c, CmpOk fx Γ H₂ m op a b c ∧ Q c H₂)
    (hm : behindInMarks op r = false := by with_unfolding_all rfl) : JB fx Γ H m (isTrue (.Compare l [op] [r] pos) Γ.env whole) Q :=
  JB.cmp (h.mono fun a H₁ h₁ => h₁.mono fun b H₂ ⟨c, ok, q⟩ ra rb ha hb => ok ra rb ha hb _ ⟨c, rfl, q⟩) hm
theorem JV.cmpOk {l op r pos} {Q : Value → OH → Prop}
    (h : JV fx Γ H m (eval l Γ.env) fun a H₁ => JV fx Γ H₁ m (eval r Γ.env) fun b H₂ => ∃ c, CmpOk fx Γ H₂ m op a b c ∧ Q (.bool c) H₂)
    (hm : behindInMarks op r = false := by with_unfolding_all rfl) : JV fx Γ H m (eval (.Compare l [op] [r] pos) Γ.env) Q :=
  JV.cmp (h.mono fun a H₁ h₁ => h₁.mono fun b H₂ ⟨c, ok, q⟩ ra rb ha hb => ok ra rb ha hb _ q) hm

theorem CmpOk.eqI {i j : Int} : CmpOk fx Γ H m .Eq (I i) (I j) (i == j) := fun ra rb ha hb Q q s S => by
  obtain ⟨t, rfl⟩ := nz_int ha; obtain ⟨u, rfl⟩ := nz_int hb; exact PyProof.Rows.eq_int ⟨H, S, q⟩
theorem CmpOk.neI {i j : Int} : CmpOk fx Γ H m .NotEq (I i) (I j) (i != j) := fun ra rb ha hb Q q s S => by
  obtain ⟨t, rfl⟩ := nz_int ha; obtain ⟨u, rfl⟩ := nz_int hb; exact PyProof.Rows.ne_int ⟨H, S, q⟩
theorem CmpOk.ltI {i j : Int} : CmpOk fx Γ H m .Lt (I i) (I j) (decide (i < j)) := fun ra rb ha hb Q q s S => by
  obtain ⟨t, rfl⟩ := nz_int ha; obtain ⟨u, rfl⟩ := nz_int hb; exact PyProof.Rows.lt_int ⟨H, S, q⟩
theorem CmpOk.gtI {i j : Int} : CmpOk fx Γ H m .Gt (I i) (I j) (decide (j < i)) := fun ra rb ha hb Q q s S => by
  obtain ⟨t, rfl⟩ := nz_int ha; obtain ⟨u, rfl⟩ := nz_int hb; exact PyProof.Rows.gt_int ⟨H, S, q⟩
theorem CmpOk.eqB {b c : Bool} : CmpOk fx Γ H m .Eq (.bool b) (.bool c) (b == c) := fun ra rb ha hb Q q s S => by
  obtain rfl := nz_bool ha; obtain rfl := nz_bool hb; exact PyProof.Rows.eq_bool ⟨H, S, q⟩
theorem CmpOk.neB {b c : Bool} : CmpOk fx Γ H m .NotEq (.bool b) (.bool c) (b != c) := fun ra rb ha hb Q q s S => by
  obtain rfl := nz_bool ha; obtain rfl := nz_bool hb; exact PyProof.Rows.ne_bool ⟨H, S, q⟩
theorem CmpOk.neNB {c : Bool} : CmpOk fx Γ H m .NotEq .none (.bool c) true := fun ra rb ha hb Q q s S => by
  obtain rfl := nz_none ha; obtain rfl := nz_bool hb; exact PySem.EqNone.ne_none_bool ⟨H, S, q⟩
theorem CmpOk.eqS {x y : Str} : CmpOk fx Γ H m .Eq (.str x 0) (.str y 0) (x == y) := fun ra rb ha hb Q q s S => by
  obtain ⟨t, rfl⟩ := nz_str ha; obtain ⟨u, rfl⟩ := nz_str hb; exact PyProof.Rows.eq_str ⟨H, S, q⟩
theorem nz_is_none (v : Value) : (nz v == Value.none) = (v == Value.none) := by cases v <;> rfl
theorem CmpOk.isN {v : Value} : CmpOk fx Γ H m .Is v .none (v == .none) := fun ra rb ha hb Q q s S => by
  obtain rfl := nz_none hb; rw [← ha, nz_is_none] at q; exact is_none ⟨H, S, q⟩
theorem CmpOk.isNotN {v : Value} : CmpOk fx Γ H m .IsNot v .none (!(v == .none)) := fun ra rb ha hb Q q s S => by
  obtain rfl := nz_none hb; rw [← ha, nz_is_none] at q; exact isNot_none ⟨H, S, q⟩

-- what stands in the heap
theorem St.getList (S : St fx Γ H m s) {l : Addr} {vs : List Value} (e : H l = some (.list vs)) : ∃ (xs : List Value) (n : Nat), s.heap.get? l = some ⟨.type "list", none, .seq xs.toArray n, #[]⟩ ∧ xs.map nz = vs := S.own l _ e
theorem St.getTup (S : St fx Γ H m s) {l : Addr} {vs : List Value} (e : H l = some (.tup vs)) : ∃ (xs : List Value) (n : Nat), s.heap.get? l = some ⟨.type "tuple", none, .seq xs.toArray n, #[]⟩ ∧ xs.map nz = vs := S.own l _ e
theorem isList_of {h : Heap} {l : Addr} {xs : List Value} {n : Nat} (e : h.get? l = some ⟨.type "list", none, .seq xs.toArray n, #[]⟩) : h.IsList l xs.toArray := ⟨_, e, rfl, n, rfl⟩
theorem isTup_of {h : Heap} {l : Addr} {xs : List Value} {n : Nat} (e : h.get? l = some ⟨.type "tuple", none, .seq xs.toArray n, #[]⟩) : IsTup h l xs.toArray := ⟨_, e, rfl, n, rfl⟩
theorem St.ns_mod (S : St fx Γ H m s) {a : Addr} {ao : AO} (e : H a = some ao) : (a == sysModules) = false := by
  have := (S.sepH a ao e).1
  have := fx.low
  exact beq_eq_false_iff_ne.mpr fun q => by subst q; exact Nat.lt_irrefl _ (Nat.lt_of_lt_of_le fx.low (S.sepH _ ao e).1)

theorem map_get {xs vs : List Value} (e : xs.map nz = vs) {k : Nat} {v : Value} (h : vs[k]? = some v) : ∃ x, xs[k]? = some x ∧ nz x = v := by
  subst e
  rw [List.getElem?_map] at h
  cases q : xs[k]? with
  | none => rw [q] at h; cases h
  | some x => rw [q] at h; exact ⟨x, rfl, Option.some.inj h⟩

-- an item
theorem JV.item {value slice pos} {Q : Value → OH → Prop}
    (h : JV fx Γ H m (eval value Γ.env) fun o H₁ => JV fx Γ H₁ m (eval slice Γ.env) fun i H₂ => ∀ ro ri, nz ro = o → nz ri = i → JV fx Γ H₂ m (subscriptTail value slice ro ri) Q) :
    JV fx Γ H m (eval (.Subscript value slice pos) Γ.env) Q := fun s S =>
  Subscript_ (h.run S fun o H₁ s₁ S₁ h₁ => h₁.run S₁ fun i H₂ s₂ S₂ h₂ => h₂ o i rfl rfl s₂ S₂)
def PlainSub (slice : Expr) : Prop := ∀ o i, subscripted slice false o i = operate [o, i] (getItem o i)
theorem JV.itemL {value slice pos} {Q : Value → OH → Prop}
    (h : JV fx Γ H m (eval value Γ.env) fun o H₁ => JV fx Γ H₁ m (eval slice Γ.env) fun i H₂ => ∃ l vs k v, o = .ref l ∧ i = I k ∧ H₂ l = some (.list vs) ∧ 0 ≤ k ∧ k < 2 ^ 63 ∧ vs[k.toNat]? = some v ∧ Q v H₂)
    (hs : PlainSub slice := by intro _ _; with_unfolding_all rfl) : JV fx Γ H m (eval (.Subscript value slice pos) Γ.env) Q :=
  JV.item (h.mono fun o H₁ h₁ => h₁.mono fun i H₂ hh ro ri ho hi s S => by
    obtain ⟨l, vs, k, v, eo, ei, hl, h0, hk, hv, q⟩ := hh
    obtain rfl := nz_ref (ho.trans eo); obtain ⟨t, rfl⟩ := nz_int (hi.trans ei)
    obtain ⟨xs, n, hx, em⟩ := S.getList hl
    obtain ⟨x, hx1, rfl⟩ := map_get em hv
    exact tail_any (isList_of hx).typeIs slot_list_getitem.lookup (wpAny_getItem_list (isList_of hx) h0 hk (by simpa using hx1) ⟨H₂, S, q⟩) (hs _ _))
theorem JV.itemLneg {value slice pos} {Q : Value → OH → Prop}
    (h : JV fx Γ H m (eval value Γ.env) fun o H₁ => JV fx Γ H₁ m (eval slice Γ.env) fun i H₂ => ∃ l vs v, o = .ref l ∧ i = I (-1) ∧ H₂ l = some (.list (vs ++ [v])) ∧ vs.length < 2 ^ 60 ∧ Q v H₂)
    (hs : PlainSub slice := by intro _ _; with_unfolding_all rfl) : JV fx Γ H m (eval (.Subscript value slice pos) Γ.env) Q :=
  JV.item (h.mono fun o H₁ h₁ => h₁.mono fun i H₂ hh ro ri ho hi s S => by
    obtain ⟨l, vs, v, eo, ei, hl, hk, q⟩ := hh
    obtain rfl := nz_ref (ho.trans eo); obtain ⟨t, rfl⟩ := nz_int (hi.trans ei)
    obtain ⟨xs, n, hx, em⟩ := S.getList hl
    have hlen : xs.length = vs.length + 1 := by rw [← List.length_map (f := nz), em]; simp
    obtain ⟨x, hx1, rfl⟩ := map_get em (k := vs.length) (v := v) (by simp)
    exact tail_any (isList_of hx).typeIs slot_list_getitem.lookup (wpAny_getItem_list_neg (isList_of hx) (by decide) (by simp only [List.size_toArray]; omega) (by decide)
      (by simp only [List.size_toArray]; rw [show ((-1 : Int) + (xs.length : Nat)).toNat = vs.length by omega]; simpa using hx1) ⟨H₂, S, q⟩) (hs _ _))
theorem JV.itemT {value slice pos} {Q : Value → OH → Prop}
    (h : JV fx Γ H m (eval value Γ.env) fun o H₁ => JV fx Γ H₁ m (eval slice Γ.env) fun i H₂ => ∃ l vs k v, o = .ref l ∧ i = I k ∧ H₂ l = some (.tup vs) ∧ 0 ≤ k ∧ k < 2 ^ 63 ∧ vs[k.toNat]? = some v ∧ Q v H₂)
    (hs : PlainSub slice := by intro _ _; with_unfolding_all rfl) : JV fx Γ H m (eval (.Subscript value slice pos) Γ.env) Q :=
  JV.item (h.mono fun o H₁ h₁ => h₁.mono fun i H₂ hh ro ri ho hi s S => by
    obtain ⟨l, vs, k, v, eo, ei, hl, h0, hk, hv, q⟩ := hh
    obtain rfl := nz_ref (ho.trans eo); obtain ⟨t, rfl⟩ := nz_int (hi.trans ei)
    obtain ⟨xs, n, hx, em⟩ := S.getTup hl
    obtain ⟨x, hx1, rfl⟩ := map_get em hv
    have hlt : k.toNat < xs.length := (List.getElem?_eq_some_iff.mp hx1).1
    exact tail_any (isTup_of hx).typeIs slot_tuple_getitem.lookup (PyProof.Rows.getItem_tuple (isTup_of hx) (by omega) hk (j := k.toNat) (by
      unfold seqIndex?
      simp only [List.size_toArray, if_neg (show ¬ k < 0 by omega)]
      rw [if_pos (by simp only [Bool.and_eq_true, decide_eq_true_eq]; omega)]) (by simpa using hx1) ⟨H₂, S, q⟩) (hs _ _))
theorem pairs_get {K : Type} [DecidableEq K] {ks kvs : List (K × Value)} (e : ks.map (fun p => (p.1, nz p.2)) = kvs) (k : K) : (valueAt ks k).map nz = valueAt kvs k := by
  subst e
  unfold valueAt
  induction ks with
  | nil => rfl
  | cons p r ih =>
    simp only [List.map_cons, List.find?_cons]
    by_cases h : p.1 = k
    · simp [h]
    · simp only [h, decide_false]; exact ih
theorem JV.itemI {value slice pos} {Q : Value → OH → Prop}
    (h : JV fx Γ H m (eval value Γ.env) fun o H₁ => JV fx Γ H₁ m (eval slice Γ.env) fun i H₂ => ∃ d kvs k v, o = .ref d ∧ i = I k ∧ H₂ d = some (.idict kvs) ∧ valueAt kvs k = some v ∧ Q v H₂)
    (hs : PlainSub slice := by intro _ _; with_unfolding_all rfl) : JV fx Γ H m (eval (.Subscript value slice pos) Γ.env) Q :=
  JV.item (h.mono fun o H₁ h₁ => h₁.mono fun i H₂ hh ro ri ho hi s S => by
    obtain ⟨d, kvs, k, v, eo, ei, hd, hv, q⟩ := hh
    obtain rfl := nz_ref (ho.trans eo); obtain ⟨t, rfl⟩ := nz_int (hi.trans ei)
    obtain ⟨ks, hk, em⟩ := S.own _ _ hd
    have e := pairs_get em k
    rw [hv] at e
    cases hx : valueAt ks k with
    | none => rw [hx] at e; cases e
    | some x =>
      rw [hx] at e
      obtain rfl : nz x = v := Option.some.inj e
      exact tail_any hk.typeIs slot_dict_getitem.lookup (wpAny_getItem_of (intKind_is prog fx.w k t) hk.mapOf hx ⟨H₂, S.tok _, q⟩) (hs _ _))
theorem JV.itemS {value slice pos} {Q : Value → OH → Prop}
    (h : JV fx Γ H m (eval value Γ.env) fun o H₁ => JV fx Γ H₁ m (eval slice Γ.env) fun i H₂ => ∃ d kvs k v, o = .ref d ∧ i = .str k 0 ∧ H₂ d = some (.sdict kvs) ∧ valueAt kvs k = some v ∧ Q v H₂)
    (hs : PlainSub slice := by intro _ _; with_unfolding_all rfl) : JV fx Γ H m (eval (.Subscript value slice pos) Γ.env) Q :=
  JV.item (h.mono fun o H₁ h₁ => h₁.mono fun i H₂ hh ro ri ho hi s S => by
    obtain ⟨d, kvs, k, v, eo, ei, hd, hv, q⟩ := hh
    obtain rfl := nz_ref (ho.trans eo); obtain ⟨t, rfl⟩ := nz_str (hi.trans ei)
    obtain ⟨ks, hk, em⟩ := S.own _ _ hd
    have e := pairs_get em k
    rw [hv] at e
    cases hx : valueAt ks k with
    | none => rw [hx] at e; cases e
    | some x =>
      rw [hx] at e
      obtain rfl : nz x = v := Option.some.inj e
      exact tail_any hk.typeIs slot_dict_getitem.lookup (wpAny_getItem_of (strKind_is prog fx.w k t) hk.mapOf hx ⟨H₂, S.tok _, q⟩) (hs _ _))
end
end Mine
end

section -- JF
open PySem PySem.W PySem.Calls PyProof.Rows
set_option Elab.async false
set_option maxRecDepth 100000
set_option linter.unusedVariables false
namespace Mine
variable {prog : Program} {KF : Params → Frag}

section
variable {fx : Fx prog KF} {Γ : Amb} {H : OH} {m : Loc} {s : Shared}

theorem pairs_stored {K : Type} [DecidableEq K] {ks kvs : List (K × Value)} (e : ks.map (fun p => (p.1, nz p.2)) = kvs) (k : K) (v : Value) : (stored ks k v).map (fun p => (p.1, nz p.2)) = stored kvs k (nz v) := by
  subst e
  unfold stored
  have ha : ((ks.map fun p => (p.1, nz p.2)).any fun kv => decide (kv.1 = k)) = ks.any fun kv => decide (kv.1 = k) := by
    rw [List.any_map]; rfl
  rw [ha]
  split
  · rw [List.map_map, List.map_map]
    apply List.map_congr_left
    intro p _
    simp only [Function.comp]
    split <;> rfl
  · simp

theorem Holds.dictNot {w : World} {h : Heap} {d : Addr} {kvs : List (Int × Value)} (x : Holds prog w h d (.idict kvs)) : NotTup h d := x.notTup rfl (fun o e => by cases e)

/-- an own object takes a value -/
theorem JU.setI {d : Addr} {kvs : List (Int × Value)} {k : Int} {t : Tok} {v : Value} {Q : OH → Loc → Prop} (hd : H d = some (.idict kvs)) (hz : kvs.length ≤ sizeLine) (h : Q (upd H d (.idict (stored kvs k (nz v)))) m) :
    JU fx Γ H m (setItem (.ref d) (.int k t) v) Q := fun s S => by
  obtain ⟨ks, hk, em⟩ := S.own _ _ hd
  have hl : ks.length ≤ sizeLine := by rw [← em, List.length_map] at hz; exact hz
  exact wpAny_setItem_pairs (intKind_is prog fx.w k t) hk (fun h' hm' hs => ⟨_, _, S.put hd ((S.own _ _ hd).notTup rfl (fun o e => by cases e)) hs.extBut (show Holds prog fx.w _ _ (.idict _) from ⟨_, hm', pairs_stored em k v⟩), h⟩) hl
theorem JU.setS {d : Addr} {kvs : List (Str × Value)} {k : Str} {t : Tok} {v : Value} {Q : OH → Loc → Prop} (hd : H d = some (.sdict kvs)) (hz : kvs.length ≤ sizeLine) (h : Q (upd H d (.sdict (stored kvs k (nz v)))) m) :
    JU fx Γ H m (setItem (.ref d) (.str k t) v) Q := fun s S => by
  obtain ⟨ks, hk, em⟩ := S.own _ _ hd
  have hl : ks.length ≤ sizeLine := by rw [← em, List.length_map] at hz; exact hz
  exact wpAny_setItem_pairs (strKind_is prog fx.w k t) hk (fun h' hm' hs => ⟨_, _, S.put hd ((S.own _ _ hd).notTup rfl (fun o e => by cases e)) hs.extBut (show Holds prog fx.w _ _ (.sdict _) from ⟨_, hm', pairs_stored em k v⟩), h⟩) hl

theorem JS.assignSub {o i pos' value pos} {Q : Flow → OH → Loc → Prop}
    (h : JV fx Γ H m (eval value Γ.env) fun v H₁ => JV fx Γ H₁ m (eval o Γ.env) fun ov H₂ => JV fx Γ H₂ m (eval i Γ.env) fun iv H₃ =>
      ∀ rv ro ri, nz rv = v → nz ro = ov → nz ri = iv → JU fx Γ H₃ m (setItem ro ri rv) fun H₄ m₄ => Q .next H₄ m₄)
    (hs : swapsWith value (some (.Subscript o i pos')) pos.line Γ.env = pure false := by rfl) : JS fx Γ H m (exec (.Assign [.Subscript o i pos'] value pos) Γ.env) Q := fun s S =>
  wpAny_Assign_Subscript (h.run S fun v H₁ s₁ S₁ h₁ => h₁.run S₁ fun ov H₂ s₂ S₂ h₂ => h₂.run S₂ fun iv H₃ s₃ S₃ h₃ => (h₃ v ov iv rfl rfl rfl).run S₃ fun H₄ m₄ s₄ S₄ q => ⟨H₄, m₄, S₄, q⟩) hs
/-- d[k] = v, the key an int -/
theorem JS.putI {o i pos' value pos} {Q : Flow → OH → Loc → Prop}
    (h : JV fx Γ H m (eval value Γ.env) fun v H₁ => JV fx Γ H₁ m (eval o Γ.env) fun ov H₂ => JV fx Γ H₂ m (eval i Γ.env) fun iv H₃ =>
      ∃ d kvs k, ov = .ref d ∧ iv = I k ∧ H₃ d = some (.idict kvs) ∧ kvs.length ≤ sizeLine ∧ Q .next (upd H₃ d (.idict (stored kvs k v))) m)
    (hs : swapsWith value (some (.Subscript o i pos')) pos.line Γ.env = pure false := by rfl) : JS fx Γ H m (exec (.Assign [.Subscript o i pos'] value pos) Γ.env) Q :=
  JS.assignSub (h.mono fun v H₁ h₁ => h₁.mono fun ov H₂ h₂ => h₂.mono fun iv H₃ hh rv ro ri hv ho hi => by
    obtain ⟨d, kvs, k, eo, ei, hd, hz, q⟩ := hh
    obtain rfl := nz_ref (ho.trans eo); obtain ⟨t, rfl⟩ := nz_int (hi.trans ei)
    exact JU.setI hd hz (by rw [hv]; exact q)) hs
theorem JS.putS {o i pos' value pos} {Q : Flow → OH → Loc → Prop}
    (h : JV fx Γ H m (eval value Γ.env) fun v H₁ => JV fx Γ H₁ m (eval o Γ.env) fun ov H₂ => JV fx Γ H₂ m (eval i Γ.env) fun iv H₃ =>
      ∃ d kvs k, ov = .ref d ∧ iv = .str k 0 ∧ H₃ d = some (.sdict kvs) ∧ kvs.length ≤ sizeLine ∧ Q .next (upd H₃ d (.sdict (stored kvs k v))) m)
    (hs : swapsWith value (some (.Subscript o i pos')) pos.line Γ.env = pure false := by rfl) : JS fx Γ H m (exec (.Assign [.Subscript o i pos'] value pos) Γ.env) Q :=
  JS.assignSub (h.mono fun v H₁ h₁ => h₁.mono fun ov H₂ h₂ => h₂.mono fun iv H₃ hh rv ro ri hv ho hi => by
    obtain ⟨d, kvs, k, eo, ei, hd, hz, q⟩ := hh
    obtain rfl := nz_ref (ho.trans eo); obtain ⟨t, rfl⟩ := nz_str (hi.trans ei)
    exact JU.setS hd hz (by rw [hv]; exact q)) hs

-- in, not in
theorem CmpOk.inI {k : Int} {d : Addr} {kvs : List (Int × Value)} (hd : H d = some (.idict kvs)) : CmpOk fx Γ H m .In (I k) (.ref d) (valueAt kvs k).isSome := fun ra rb ha hb Q q s S => by
  obtain ⟨t, rfl⟩ := nz_int ha; obtain rfl := nz_ref hb
  obtain ⟨ks, hk, em⟩ := S.own _ _ hd
  have e := pairs_get em k
  exact wpAny_in_of (intKind_is prog fx.w k t) (S.ns_mod hd) hk.mapOf ⟨H, S.tok _, by
    have e2 : (valueAt ks k).isSome = (valueAt kvs k).isSome := by rw [← e]; simp
    rw [e2]; exact q⟩
theorem CmpOk.notInI {k : Int} {d : Addr} {kvs : List (Int × Value)} (hd : H d = some (.idict kvs)) : CmpOk fx Γ H m .NotIn (I k) (.ref d) (!(valueAt kvs k).isSome) := fun ra rb ha hb Q q s S => by
  obtain ⟨t, rfl⟩ := nz_int ha; obtain rfl := nz_ref hb
  obtain ⟨ks, hk, em⟩ := S.own _ _ hd
  have e := pairs_get em k
  exact wpAny_notIn_of (intKind_is prog fx.w k t) (S.ns_mod hd) hk.mapOf ⟨H, S.tok _, by
    have e2 : (valueAt ks k).isSome = (valueAt kvs k).isSome := by rw [← e]; simp
    rw [e2]; exact q⟩

-- builtins
theorem JV.lenL {l : Addr} {vs : List Value} {Q : Value → OH → Prop} (hl : H l = some (.list vs)) (hz : vs.length < 2 ^ 60) (h : Q (I vs.length) H) : JV fx Γ H m (call (.builtin "len") [.ref l]) Q := fun s S => by
  obtain ⟨xs, n, hx, em⟩ := S.getList hl
  have e : xs.length = vs.length := by rw [← em, List.length_map]
  refine Calls.call_len_list (isList_of hx) (by simp only [List.size_toArray]; omega) ⟨H, S.tok _, ?_⟩
  simp only [List.size_toArray, e]; exact h
theorem JV.lenT {l : Addr} {vs : List Value} {Q : Value → OH → Prop} (hl : H l = some (.tup vs)) (hz : vs.length < 2 ^ 60) (h : Q (I vs.length) H) : JV fx Γ H m (call (.builtin "len") [.ref l]) Q := fun s S => by
  obtain ⟨xs, n, hx, em⟩ := S.getTup hl
  have e : xs.length = vs.length := by rw [← em, List.length_map]
  refine PySem.P.len_tuple (n := n) hx (by simp only [List.size_toArray]; omega) ⟨H, S.tok _, ?_⟩
  simp only [List.size_toArray, e]; exact h
theorem JV.abs {i : Int} {v : Value} {Q : Value → OH → Prop} (hv : nz v = I i) (h : Q (I i.natAbs) H) : JV fx Γ H m (call (.builtin "abs") [v]) Q := fun s S => by
  obtain ⟨t, rfl⟩ := nz_int hv
  refine call_abs_int fun u tk => ⟨H, S.tok _, ?_⟩
  have : (if i < 0 then -i else i) = (i.natAbs : Int) := by split <;> omega
  rw [this]; exact h
theorem JV.append {l : Addr} {vs : List Value} {v : Value} {Q : Value → OH → Prop} (hl : H l = some (.list vs)) (hz : vs.length ≤ sizeLine) (h : Q .none (upd H l (.list (vs ++ [nz v])))) :
    JV fx Γ H m (call (.builtin "list.append") [.ref l, v]) Q := fun s S => by
  obtain ⟨xs, n, hx, em⟩ := S.getList hl
  have e : xs.length = vs.length := by rw [← em, List.length_map]
  refine wpAny_list_append_plain ⟨n, hx⟩ (fun h' hm' hs => ⟨_, S.put hl ((S.own _ _ hl).notTup rfl (fun o e => by cases e)) hs.extBut ?_, h⟩) (by simp only [List.size_toArray]; omega)
  obtain ⟨n', hm'⟩ := hm'
  exact ⟨xs ++ [v], n', by rw [hm']; simp, by simp [em]⟩
theorem IsLobj (S : St fx Γ H m s) {l : Addr} {vs : List Value} (hl : H l = some (.list vs)) : ∃ ob, s.heap.get? l = some ob ∧ ob.cls = .type "list" ∧ ob.dict = none := by
  obtain ⟨xs, n, hx, em⟩ := S.getList hl; exact ⟨_, hx, rfl, rfl⟩
/-- l.append(e) -/
theorem JV.appendE {o e : Expr} {apos pos : Pos} {pl : Sem Bool} {Q : Value → OH → Prop}
    (h : JV fx Γ H m (eval o Γ.env) fun ov H₁ => ∃ l vs, ov = .ref l ∧ H₁ l = some (.list vs) ∧ JV fx Γ H₁ m (eval e Γ.env) fun v H₂ => ∃ vs₂, H₂ l = some (.list vs₂) ∧ vs₂.length ≤ sizeLine ∧ Q .none (upd H₂ l (.list (vs₂ ++ [v]))))
    (he : eval (.Call (.Attribute o "append" apos) [e] [] pos) Γ.env = (do
      let ov ← eval o Γ.env
      standAt apos.atName
      let (f, first) ← holding [ov] (PySem.getMethod ov "append" pl)
      PySem.callWith pos f first (backTo pos (starEach [e] Γ.env)) (backToKw pos (keywordEach [] Γ.env))) := by rfl)
    (ht : backTo pos (starEach [e] Γ.env) = [(false, eval e Γ.env)] := by rfl) :
    JV fx Γ H m (eval (.Call (.Attribute o "append" apos) [e] [] pos) Γ.env) Q :=
  JV.methB1 F.plainAttrs_list F.slot_list_append F.type_list_append (h.mono fun ov H₁ ⟨l, vs, e₁, hl, q⟩ => ⟨l, e₁, fun s₁ S₁ => IsLobj S₁ hl, fun s₁ S₁ =>
    callWith_builtin rfl (evalArgs_plain (spliced_cons (q.run S₁ fun v H₂ s₂ S₂ ⟨vs₂, hl₂, hz, q₂⟩ => spliced_nil ((JV.append hl₂ hz q₂) s₂ S₂))))⟩) he ht
/-- l.pop() -/
theorem JV.popE {o : Expr} {apos pos : Pos} {pl : Sem Bool} {Q : Value → OH → Prop}
    (h : JV fx Γ H m (eval o Γ.env) fun ov H₁ => ∃ l vs v, ov = .ref l ∧ H₁ l = some (.list (vs ++ [v])) ∧ vs.length < sizeLine ∧ Q v (upd H₁ l (.list vs)))
    (he : eval (.Call (.Attribute o "pop" apos) [] [] pos) Γ.env = (do
      let ov ← eval o Γ.env
      standAt apos.atName
      let (f, first) ← holding [ov] (PySem.getMethod ov "pop" pl)
      PySem.callWith pos f first (backTo pos (starEach [] Γ.env)) (backToKw pos (keywordEach [] Γ.env))) := by rfl) :
    JV fx Γ H m (eval (.Call (.Attribute o "pop" apos) [] [] pos) Γ.env) Q :=
  JV.methB0 F.plainAttrs_list F.slot_list_pop F.type_list_pop (h.mono fun ov H₁ ⟨l, vs, v, e₁, hl, hz, q⟩ => ⟨l, e₁, fun s₁ S₁ => IsLobj S₁ hl, fun s₁ S₁ => by
    obtain ⟨xs, n, hx, em⟩ := S₁.getList hl
    have hlen : xs.length = vs.length + 1 := by rw [← List.length_map (f := nz), em]; simp
    obtain ⟨x, hx1, rfl⟩ := map_get em (k := vs.length) (v := v) (by simp)
    have hxs : xs = xs.dropLast ++ [x] := by
      have hne : xs ≠ [] := by intro q; rw [q] at hlen; simp at hlen
      have hlast : xs.getLast hne = x := by
        rw [List.getLast_eq_getElem]
        have := (List.getElem?_eq_some_iff.mp hx1).2
        rw [← this]; congr 1; omega
      rw [← hlast]; exact (List.dropLast_concat_getLast hne).symm
    have hd : xs.dropLast.map nz = vs := by
      rw [hxs, List.map_append] at em
      exact (List.append_inj em (by simp; omega)).1
    refine PySem.P.pop_list (n := n) hx (by simp only [List.size_toArray]; rw [show xs.length - 1 = vs.length by omega]; simpa using hx1) ⟨_, S₁.put hl ((S₁.own _ _ hl).notTup rfl (fun o e => by cases e)) (Heap.SameBut.update ..).extBut ?_, q⟩ (by simp only [List.size_toArray]; omega)
    have : (xs.toArray.eraseIdxIfInBounds (xs.toArray.size - 1)) = xs.dropLast.toArray := by
      simp only [List.size_toArray]
      rw [Array.eraseIdxIfInBounds, dif_pos (by simp; omega)]
      apply Array.ext'
      rw [Array.toList_eraseIdx]
      simp only [List.toList_toArray]
      rw [List.eraseIdx_eq_take_drop_succ, List.dropLast_eq_take]
      rw [show xs.length - 1 + 1 = xs.length by omega]; simp
    have hu := IsL.update (n := n) hx (fun xs_1 => xs_1.eraseIdxIfInBounds (xs.toArray.size - 1))
    simp only [this] at hu
    exact ⟨xs.dropLast, _, hu, hd⟩⟩) he
-- displays
theorem JV.tupE {elts k pos} {Q : Value → OH → Prop} (h : JL fx Γ H m (spliced (backTo pos (starEach elts Γ.env))) fun vs H₁ => vs.length ≤ sizeLine ∧ ∀ a, H₁ a = none → Q (.ref a) (upd H₁ a (.tup vs))) :
    JV fx Γ H m (eval (.Tuple elts k pos) Γ.env) Q := fun s S => wpAny_Tuple (h.run S fun vs H₁ s₁ S₁ ⟨hz, q⟩ => ⟨by simpa using hz, upd H₁ s₁.heap.objs.size (.tup (vs.map nz)),
      S₁.new (fun b o e => Heap.get?_push_of_some _ e) (Nat.le_refl _) (show Holds prog fx.w _ _ (.tup _) from ⟨vs, 0, Heap.get?_push_size _ rfl, rfl⟩), q _ (S₁.fresh (Nat.le_refl _)).1⟩)
theorem JV.listE {elts pos} {Q : Value → OH → Prop} (h : JL fx Γ H m (spliced (backTo pos (starEach elts Γ.env))) fun vs H₁ => vs.length ≤ sizeLine ∧ ∀ a, H₁ a = none → Q (.ref a) (upd H₁ a (.list vs))) :
    JV fx Γ H m (eval (.List elts pos) Γ.env) Q := fun s S => wpAny_List (h.run S fun vs H₁ s₁ S₁ ⟨hz, q⟩ => ⟨by simpa using hz, upd H₁ s₁.heap.objs.size (.list (vs.map nz)),
      S₁.new (fun b o e => Heap.get?_push_of_some _ e) (Nat.le_refl _) (show Holds prog fx.w _ _ (.list _) from ⟨vs, 0, Heap.get?_push_size _ rfl, rfl⟩), q _ (S₁.fresh (Nat.le_refl _)).1⟩)
theorem JV.dictI0 {pos} {Q : Value → OH → Prop} (h : ∀ a, H a = none → Q (.ref a) (upd H a (.idict []))) : JV fx Γ H m (eval (.Dict [] [] pos) Γ.env) Q := fun s S =>
  wpAny_Dict_empty ⟨_, S.new (fun b o e => Heap.get?_push_of_some _ e) (Nat.le_refl _) (show Holds prog fx.w _ _ (.idict _) from ⟨[], Heap.DictOf.new _, rfl⟩), h _ (S.fresh (Nat.le_refl _)).1⟩
theorem JV.dictT0 {pos} {Q : Value → OH → Prop} (h : ∀ a, H a = none → Q (.ref a) (upd H a (.tdict []))) : JV fx Γ H m (eval (.Dict [] [] pos) Γ.env) Q := fun s S =>
  wpAny_Dict_empty ⟨_, S.new (fun b o e => Heap.get?_push_of_some _ e) (Nat.le_refl _) (show Holds prog fx.w _ _ (.tdict _) from ⟨[], Heap.DictOfH.new _, rfl⟩), h _ (S.fresh (Nat.le_refl _)).1⟩
end
end Mine
end

section -- JG
open PySem PySem.W PySem.Calls PyProof.Rows
set_option Elab.async false
set_option maxRecDepth 100000
set_option linter.unusedVariables false
namespace Mine
variable {prog : Program} {KF : Params → Frag}

section
variable {fx : Fx prog KF} {Γ Γ' : Amb} {H H' : OH} {m m' : Loc} {s s' : Shared}

/-- an address that no one of the call's own views names -/
structure Out (fx : Fx prog KF) (Γ : Amb) (H : OH) (a : Addr) : Prop where
  h : H a = none
  b : Γ.B a = none
  l : a ≠ Γ.L
  c : ∀ x c, Γ.cells.lookup x = some c → a ≠ c
  z : fx.h₀.objs.size ≤ a

theorem St.out (S : St fx Γ H m s) {a : Addr} (ha : s.heap.objs.size ≤ a) : Out fx Γ H a :=
  let ⟨a1, a2, a3, a4, a5⟩ := S.fresh ha; ⟨a1, a2, a3, a4, a5⟩

theorem St.outside (S : St fx Γ H m s) {a : Addr} (o : Out fx Γ H a) (nt : NotTup s.heap a) {h' : Heap} {tk : Nat} (k : Heap.ExtBut a s.heap h') : St fx Γ H m { s with heap := h', toks := tk } where
  ok := S.ok
  base b ob e := k b ob (Nat.ne_of_lt (Nat.lt_of_lt_of_le (Heap.lt_size e) o.z)) (S.base b ob e)
  own b ao e := (S.own b ao e).ext k nt (by rintro rfl; rw [o.h] at e; cases e)
  frz b ob e := k b ob (by rintro rfl; rw [o.b] at e; cases e) (S.frz b ob e)
  ns := let ⟨m', hn, hm⟩ := S.ns; ⟨m', hn.extBut k (Ne.symm o.l), hm⟩
  cel x c e := let ⟨v, ⟨ob, ho, hd⟩, hv⟩ := S.cel x c e; ⟨v, ⟨ob, k c ob (Ne.symm (o.c x c e)) ho, hd⟩, hv⟩
  gens := S.gens
  os := S.os
  sepH := S.sepH
  sepL := S.sepL
  sepC := S.sepC

/-- what one may iterate over, and what comes -/
structure Src (fx : Fx prog KF) (l : Addr) (P : OH → Prop) (vs : List Value) (At : Addr → Nat → Heap → Prop) : Prop where
  iter : ∀ {Γ : Amb} {H : OH} {m : Loc} {s : Shared} {Q : Value → Shared → Prop} {E : Value → Shared → Prop}, St fx Γ H m s → P H →
    (∀ h' tk, At s.heap.objs.size 0 h' → (∀ b o, s.heap.get? b = some o → h'.get? b = some o) → Q (.ref s.heap.objs.size) { s with heap := h', toks := tk }) → wpAny (model prog fx.w) Γ.A (pyIter (.ref l)) Q E s
  same : ∀ {J : Addr} {i : Nat} {h h' : Heap}, At J i h → (∀ o, h.get? J = some o → h'.get? J = some o) → At J i h'
  nt : ∀ {J : Addr} {i : Nat} {h : Heap}, At J i h → NotTup h J
  has : ∀ {J : Addr} {i : Nat} {h : Heap}, At J i h → ∃ o, h.get? J = some o
  item : ∀ {Γ : Amb} {H : OH} {m : Loc} {s : Shared} {J : Addr} {i : Nat} {v : Value} {Q : Option Value → Shared → Prop} {E : Value → Shared → Prop}, St fx Γ H m s → P H → At J i s.heap → vs[i]? = some v →
    (∀ rv h' tk, nz rv = v → At J (i + 1) h' → Heap.ExtBut J s.heap h' → Q (some rv) { s with heap := h', toks := tk }) → wpAny (model prog fx.w) Γ.A (pyNext (.ref J)) Q E s
  done : ∀ {Γ : Amb} {H : OH} {m : Loc} {s : Shared} {J : Addr} {Q : Option Value → Shared → Prop} {E : Value → Shared → Prop}, St fx Γ H m s → P H → At J vs.length s.heap →
    (∀ h' tk, Heap.ExtBut J s.heap h' → Q none { s with heap := h', toks := tk }) → wpAny (model prog fx.w) Γ.A (pyNext (.ref J)) Q E s
  self : ∀ {A : Around} {s : Shared} {J : Addr} {i : Nat} {Q : Value → Shared → Prop} {E : Value → Shared → Prop}, At J i s.heap → Q (.ref J) s → wpAny (model prog fx.w) A (pyIter (.ref J)) Q E s
  go : ∀ {A : Around} {s : Shared} {J : Addr} {i : Nat} {target : Expr} {v : Value} {Q : Unit → Shared → Prop} {E : Value → Shared → Prop}, At J i s.heap → Q () s → wpAny (model prog fx.w) A (letOwnedTupleGo target (.ref J) v) Q E s

theorem notTup_cls {h : Heap} {a : Addr} {o : Obj} (ho : h.get? a = some o) (hc : o.cls ≠ .type "tuple") : NotTup h a := by
  rintro vs ⟨o', ho', hc', _⟩
  rw [ho] at ho'; cases ho'; exact hc hc'

theorem Src.list {l : Addr} {vs : List Value} : Src fx l (fun H => H l = some (.list vs)) vs (fun J i h => h.IsListIter J l i) where
  iter := fun S hP hQ => by
    obtain ⟨xs, n, hx, em⟩ := S.getList hP
    exact wpAny_pyIter_list (isList_of hx) (hQ _ _ ⟨_, Heap.get?_push_size _ rfl, rfl, rfl⟩ fun b o e => Heap.get?_push_of_some _ e)
  same := fun ⟨o, ho, r⟩ k => ⟨o, k o ho, r⟩
  nt := fun ⟨o, ho, hc, _⟩ => notTup_cls ho (by rw [hc]; decide)
  has := fun ⟨o, ho, _⟩ => ⟨o, ho⟩
  item := fun S hP hA hv hQ => by
    obtain ⟨xs, n, hx, em⟩ := S.getList hP
    obtain ⟨x, hx1, hx2⟩ := map_get em hv
    exact wpAny_pyNext_list_item hA (isList_of hx) (x := x) (by simpa using hx1) fun h' hit hs => hQ x h' _ hx2 hit hs.extBut
  done := fun S hP hA hQ => by
    obtain ⟨xs, n, hx, em⟩ := S.getList hP
    exact wpAny_pyNext_list_end S.ok.handled hA (isList_of hx) (by subst em; simp) fun h' hs => hQ h' _ hs
  self := fun hA hQ => wpAny_pyIter_listiter hA hQ
  go := fun hA hQ => letGo_listiter hA hQ

theorem Src.tup {l : Addr} {vs : List Value} : Src fx l (fun H => H l = some (.tup vs)) vs (fun J i h => h.IsTupleIter J l i) where
  iter := fun S hP hQ => by
    obtain ⟨xs, n, hx, em⟩ := S.getTup hP
    exact wpAny_pyIter_tuple (isTup_of hx) (hQ _ _ ⟨_, Heap.get?_push_size _ rfl, rfl, rfl⟩ fun b o e => Heap.get?_push_of_some _ e)
  same := fun ⟨o, ho, r⟩ k => ⟨o, k o ho, r⟩
  nt := fun ⟨o, ho, hc, _⟩ => notTup_cls ho (by rw [hc]; decide)
  has := fun ⟨o, ho, _⟩ => ⟨o, ho⟩
  item := fun S hP hA hv hQ => by
    obtain ⟨xs, n, hx, em⟩ := S.getTup hP
    obtain ⟨x, hx1, hx2⟩ := map_get em hv
    exact wpAny_pyNext_tuple_item hA (isTup_of hx) (x := x) (by simpa using hx1) fun h' hit hs => hQ x h' _ hx2 hit hs.extBut
  done := fun S hP hA hQ => by
    obtain ⟨xs, n, hx, em⟩ := S.getTup hP
    exact wpAny_pyNext_tuple_end S.ok.handled hA (isTup_of hx) (by subst em; simp) fun h' hs => hQ h' _ hs
  self := fun hA hQ => wpAny_pyIter_tupleiter hA hQ
  go := fun hA hQ => letGo_tupleiter hA hQ

def rangeObj (a b : Int) (t u v : Tok) : Obj := { cls := .type "range", dict := none, data := .fields #[.int a t, .int b u, .int 1 v], slots := #[] }
def rangeVals (a : Int) (n : Nat) : List Value := (List.range n).map fun (i : Nat) => I (a + (i : Int))

theorem letGo_rangeiter {prog : Program} {w : World} {A : Around} {E : Value → Shared → Prop} {target : Expr} {J : Addr} {x left step : Int} {v : Value} {Q' : Unit → Shared → Prop} {s' : Shared} (hit : IsRangeIter s'.heap J x left step) (h : Q' () s') :
    wpAny (model prog w) A (letOwnedTupleGo target (.ref J) v) Q' E s' := by
  unfold letOwnedTupleGo
  cases target <;> first
    | exact wpAny_pure h
    | (cases v <;> first
        | exact wpAny_pure h
        | (refine wpAny_bind (wpAny_load hit ?_)
           exact wpAny_pure h))

theorem Src.range {r : Addr} {a b : Int} {n : Nat} {t u v : Tok} (hn : ((b - a).toNat) = n) (ha : -(2 ^ 62) ≤ a) (ha' : a < 2 ^ 62) (hb : -(2 ^ 62) ≤ b) (hb' : b < 2 ^ 62) :
    Src fx r (fun H => H r = some (.raw (rangeObj a b t u v))) (rangeVals a n) (fun J i h => IsRangeIter h J (a + (i : Nat)) ((n : Int) - (i : Nat)) 1) where
  iter := fun {Γ H m s Q E} S hP hQ => by
    have hx : s.heap.get? r = some (rangeObj a b t u v) := S.own _ _ hP
    refine wpAny_pyIter_range (a := a) (b := b) (c := 1) hx (small_one ha ha' hb hb') (hQ _ _ ?_ fun b o e => Heap.get?_push_of_some _ e)
    have e1 : Builtin.Range.rangeSize a b 1 = (n : Int) := by rw [rangeSize_one]; split <;> omega
    rw [e1]
    have := Heap.get?_push_size s.heap (o := { cls := .type "range_iterator", data := .fields #[rawInt a, rawInt (n : Int), rawInt 1] }) rfl
    show _ = _
    simpa using this
  same := fun x k => k _ x
  nt := fun x => notTup_cls x (show Value.type "range_iterator" ≠ Value.type "tuple" by decide)
  has := fun x => ⟨_, x⟩
  item := fun {Γ H m s J i v Q E} S hP hA hv hQ => by
    have hi : i < n := by
      have := (List.getElem?_eq_some_iff.mp hv).1
      simpa [rangeVals] using this
    have hv' : I (a + (i : Nat)) = v := by simpa [rangeVals, hi] using hv
    refine wpAny_pyNext_range_item hA (by omega) fun h' hit' hs' => hQ _ h' _ hv' ?_ hs'.extBut
    have e1 : a + ((i + 1 : Nat) : Int) = a + (i : Nat) + 1 := by omega
    have e2 : (n : Int) - ((i + 1 : Nat) : Int) = (n : Int) - (i : Nat) - 1 := by omega
    rw [e1, e2]; exact hit'
  done := fun S hP hA hQ => wpAny_pyNext_range_end S.ok.handled hA (by simp [rangeVals]) fun h' he' => hQ h' _ he'
  self := fun hA hQ => wpAny_pyIter_rangeiter hA hQ
  go := fun hA hQ => letGo_rangeiter hA hQ

/-- this object is this dict of ints -/
def IsIDict (prog : Program) (w : World) (o : Obj) (ks : List (Int × Value)) (ep : Nat) : Prop := ∀ h d, Heap.get? h d = some o → h.DictAt (intKind prog w) d ks ep

theorem intKind_nz {w : World} {k : Int} {v : Value} (h : (intKind prog w).is k v = true) : nz v = I k := by
  cases v <;> simp [intKind, Value.isInt] at h; subst h; rfl

theorem Src.keys {d : Addr} {o : Obj} {ks : List (Int × Value)} {ep : Nat} (hk : IsIDict prog fx.w o ks ep) :
    Src fx d (fun H => H d = some (.raw o)) (ks.map fun p => I p.1) (fun J i h => h.IsKeyIter J d i ks.length ep) where
  iter := fun {Γ H m s Q E} S hP hQ => by
    have hx : s.heap.get? d = some o := S.own _ _ hP
    exact wpAny_pyIter_dict (S.ns_mod hP) (hk _ _ hx) (hQ _ _ ⟨_, Heap.get?_push_size _ rfl, rfl, rfl⟩ fun b o e => Heap.get?_push_of_some _ e)
  same := fun ⟨o, ho, r⟩ k => ⟨o, k o ho, r⟩
  nt := fun ⟨o, ho, hc, _⟩ => notTup_cls ho (by rw [hc]; decide)
  has := fun ⟨o, ho, _⟩ => ⟨o, ho⟩
  item := fun {Γ H m s J i v Q E} S hP hA hv hQ => by
    have hx : s.heap.get? d = some o := S.own _ _ hP
    rw [List.getElem?_map] at hv
    cases q : ks[i]? with
    | none => rw [q] at hv; cases hv
    | some p =>
      rw [q] at hv
      have hv' : I p.1 = v := Option.some.inj hv
      exact wpAny_pyNext_dict_item hA (hk _ _ hx) (k := p.1) (v := p.2) q fun key h' hkey hit hs => hQ key h' _ ((intKind_nz hkey).trans hv') hit hs.extBut
  done := fun {Γ H m s J Q E} S hP hA hQ => by
    have hx : s.heap.get? d = some o := S.own _ _ hP
    rw [List.length_map] at hA
    exact wpAny_pyNext_dict_end S.ok.handled hA (hk _ _ hx) (by simp) fun h' hs => hQ h' _ hs
  self := fun hA hQ => wpAny_pyIter_keyiter hA hQ
  go := fun hA hQ => letGo_keyiter hA hQ

/-- P names what may still change in a turn -/
abbrev loose (Γ : Amb) (H : OH) : Addr → Prop := fun b => H b ≠ none ∨ b = Γ.L ∨ ∃ x, Γ.cells.lookup x = some b

theorem St.into (S : St fx Γ H m s) : St fx { Γ with B := frozen s.heap (loose Γ H) } H m s :=
  { S with
    ok := ⟨S.ok.depth, S.ok.units, S.ok.handled, S.ok.kind, S.ok.glob, S.ok.bns⟩
    frz := fun a o e => frz_get e
    sepH := fun a ao e => let ⟨a1, a2, a3, a4⟩ := S.sepH a ao e; ⟨a1, a2, frz_none (.inl (by rw [e]; simp)), a4⟩
    sepL := ⟨S.sepL.1, frz_none (.inr (.inl rfl)), S.sepL.2.2⟩
    sepC := fun x c e => let ⟨a1, a2, a3⟩ := S.sepC x c e; ⟨a1, frz_none (.inr (.inr ⟨x, e⟩)), a3⟩ }
theorem St.not_loose (S : St fx Γ H m s) {a : Addr} {o : Obj} (e : Γ.B a = some o) : ¬ loose Γ H a := by
  rintro (q | q | ⟨x, q⟩)
  · cases e' : H a with
    | none => exact q e'
    | some ao => have := (S.sepH a ao e').2.2.1; rw [e] at this; cases this
  · have := S.sepL.2.1; rw [← q, e] at this; cases this
  · have := (S.sepC x a q).2.1; rw [e] at this; cases this
theorem St.outof (S : St fx Γ H m s) (S' : St fx { Γ with B := frozen s.heap (loose Γ H) } H' m' s') : St fx Γ H' m' s' :=
  { S' with
    ok := S.ok
    frz := fun a o e => S'.frz a o (frz_some (S.not_loose e) (S.frz a o e))
    sepH := fun a ao e => by
      obtain ⟨a1, a2, a3, a4⟩ := S'.sepH a ao e
      refine ⟨a1, a2, ?_, a4⟩
      cases q : Γ.B a with
      | none => rfl
      | some o =>
        have a3' : frozen s.heap (loose Γ H) a = none := a3
        rw [frz_some (S.not_loose q) (S.frz a o q)] at a3'; cases a3'
    sepL := S.sepL
    sepC := S.sepC }
theorem Out.not_loose {a : Addr} (o : Out fx Γ H a) : ¬ loose Γ H a := by
  rintro (q | q | ⟨x, q⟩)
  · exact q o.h
  · exact o.l q
  · exact o.c x a q rfl
theorem Out.over {a : Addr} {ob : Obj} (o : Out fx Γ H a) (ho : s.heap.get? a = some ob) (S' : St fx { Γ with B := frozen s.heap (loose Γ H) } H' m' s') : Out fx Γ H' a ∧ s'.heap.get? a = some ob := by
  have hb : frozen s.heap (loose Γ H) a = some ob := frz_some o.not_loose ho
  refine ⟨⟨?_, o.b, o.l, o.c, o.z⟩, S'.frz a ob hb⟩
  cases e : H' a with
  | none => rfl
  | some ao => have a3 : frozen s.heap (loose Γ H) a = none := (S'.sepH a ao e).2.2.1; rw [hb] at a3; cases a3

theorem turn1 {n i k : Nat} (a : n + i = k) (b : i < k) : n - 1 < n := Nat.sub_lt (by omega) (by decide)
theorem turn2 {n i k : Nat} (a : n + i = k) (b : i < k) : n - 1 + (i + 1) = k := by omega
theorem turn0 {α : Type} {vs : List α} {n i : Nat} (a : n + i = vs.length) (b : vs[i]? = none) : i = vs.length := Nat.le_antisymm (a ▸ Nat.le_add_left i n) (List.getElem?_eq_none_iff.mp b)

/-- a for loop over l -/
def ForW (fx : Fx prog KF) (Γ : Amb) (target : Expr) (body : List Stmt) (Q : Flow → OH → Loc → Prop) (l : Addr) (H : OH) (m : Loc) : Prop :=
  ∃ (P : OH → Prop) (vs : List Value) (At : Addr → Nat → Heap → Prop) (Inv : Nat → OH → Loc → Prop), Src fx l P vs At ∧ Inv 0 H m ∧ (∀ i H m, Inv i H m → P H) ∧
    (∀ i v H₁ m₁, vs[i]? = some v → Inv i H₁ m₁ → ∀ B rv, nz rv = v → JU fx { Γ with B := B } H₁ m₁ (assign target Γ.env rv) fun H₂ m₂ =>
      JS fx { Γ with B := B } H₂ m₂ (execs body Γ.env) fun fl H₃ m₃ => match fl with | .next | .cont => Inv (i + 1) H₃ m₃ | .brk => Q .next H₃ m₃ | .ret v => Q (.ret v) H₃ m₃) ∧
    (∀ H₁ m₁, Inv vs.length H₁ m₁ → Q .next H₁ m₁)

theorem JS.forE {target iter : Expr} {body : List Stmt} {pos : Pos} {Q : Flow → OH → Loc → Prop} (h : JV fx Γ H m (eval iter Γ.env) fun o H₁ => ∃ l, o = .ref l ∧ ForW fx Γ target body Q l H₁ m)
    (hs : ∀ x, foldedSetIterable iter Γ.env x = pure x := by intro _; rfl) : JS fx Γ H m (exec (.For target iter body [] pos) Γ.env) Q := fun s S =>
  wpAny_For (h.run S fun o H₁ s₁ S₁ hh => by
    obtain ⟨l, eo, P, vs, At, Inv, src, h0, hP, step, done⟩ := hh
    obtain rfl := nz_ref eo
    refine src.iter S₁ (hP _ _ _ h0) fun h₂ tk₂ hat₂ k₂ => ?_
    have S₂ : St fx Γ H₁ m { s₁ with heap := h₂, toks := tk₂ } := S₁.keep k₂
    refine codeAny_forLoop_any (fun n s' => ∃ i H' m', n + i = vs.length ∧ St fx Γ H' m' s' ∧ Inv i H' m' ∧ At s₁.heap.objs.size i s'.heap ∧ Out fx Γ H' s₁.heap.objs.size)
      (fun n s' hh => ?_) vs.length ⟨0, H₁, m, rfl, S₂, h0, hat₂, S₁.out (Nat.le_refl _)⟩
    obtain ⟨i, H', m', hn, S', hI, hA, hO⟩ := hh
    cases hv : vs[i]? with
    | none =>
      have hi : i = vs.length := turn0 hn hv
      subst hi
      refine src.done S' (hP _ _ _ hI) hA fun h₃ tk₃ k₃ => ?_
      exact wpAny_execs_nil ⟨H', m', S'.outside hO (src.nt hA) k₃, done _ _ hI⟩
    | some v =>
      have hi := (List.getElem?_eq_some_iff.mp hv).1
      refine src.item S' (hP _ _ _ hI) hA hv fun rv h₃ tk₃ hrv hA₃ k₃ => ?_
      have S₃ : St fx Γ H' m' { s' with heap := h₃, toks := tk₃ } := S'.outside hO (src.nt hA) k₃
      refine src.go hA₃ ?_
      obtain ⟨ob, hob⟩ := src.has hA₃
      refine wpAny_mono ((step i v H' m' hv hI (frozen h₃ (loose Γ H')) rv hrv).run S₃.into fun H₄ m₄ s₄ S₄ q₄ => wpAny_mono (q₄.run S₄ fun fl H₅ m₅ s₅ S₅ q₅ => ?_) (fun _ _ e => e) fun _ _ e => e.elim) (fun _ _ e => e) fun _ _ e => e.elim
      have S₅' := S₃.outof S₅
      obtain ⟨hO₅, hob₅⟩ := hO.over (s := { s' with heap := h₃, toks := tk₃ }) hob S₅
      cases fl with
      | next => exact ⟨n - 1, turn1 hn hi, i + 1, H₅, m₅, turn2 hn hi, S₅', q₅, src.same hA₃ (fun o e => by cases hob.symm.trans e; exact hob₅), hO₅⟩
      | cont => exact ⟨n - 1, turn1 hn hi, i + 1, H₅, m₅, turn2 hn hi, S₅', q₅, src.same hA₃ (fun o e => by cases hob.symm.trans e; exact hob₅), hO₅⟩
      | brk => exact ⟨H₅, m₅, S₅', q₅⟩
      | ret v => exact ⟨H₅, m₅, S₅', q₅⟩) hs

theorem JS.whileE {test : Expr} {body : List Stmt} {pos : Pos} {Q : Flow → OH → Loc → Prop} (Inv : Nat → OH → Loc → Prop) (n : Nat) (h0 : Inv n H m)
    (step : ∀ n H m, Inv n H m → JB fx Γ H m (isTrue test Γ.env (eval test Γ.env)) fun c H₁ => if c then JS fx Γ H₁ m (execs body Γ.env) fun fl H₂ m₂ => (match fl with
        | .next | .cont => ∃ k, k < n ∧ Inv k H₂ m₂ | .brk => Q .next H₂ m₂ | .ret v => Q (.ret v) H₂ m₂) else Q .next H₁ m) :
    JS fx Γ H m (exec (.While test body [] pos) Γ.env) Q := fun s S =>
  wpAny_While (codeAny_whileLoop (fun n s' => ∃ H' m', St fx Γ H' m' s' ∧ Inv n H' m') (fun n s' hh => by
    obtain ⟨H', m', S', hI⟩ := hh
    refine wpAny_mono ((step n H' m' hI).run S' fun c H₁ s₁ S₁ q₁ => ?_) (fun _ _ e => e) fun _ _ e => e.elim
    cases c with
    | false => exact wpAny_execs_nil ⟨H₁, m', S₁, q₁⟩
    | true =>
      refine wpAny_mono (q₁ s₁ S₁) (fun fl s₂ ⟨H₂, m₂, S₂, q₂⟩ => ?_) fun _ _ e => e.elim
      cases fl with
      | next => obtain ⟨k, hk, q₂⟩ := q₂; exact ⟨k, hk, H₂, m₂, S₂, q₂⟩
      | cont => obtain ⟨k, hk, q₂⟩ := q₂; exact ⟨k, hk, H₂, m₂, S₂, q₂⟩
      | brk => exact ⟨H₂, m₂, S₂, q₂⟩
      | ret v => exact ⟨H₂, m₂, S₂, q₂⟩) n ⟨H, m, S, h0⟩)
end
end Mine
end

section -- JH
open PySem PySem.W PySem.Calls PyProof.Rows
set_option Elab.async false
set_option maxRecDepth 100000
set_option linter.unusedVariables false
namespace Mine
variable {prog : Program} {KF : Params → Frag}

abbrev compT (ifs : List Expr) (env : Env) : Sem Bool := forIn ifs true fun c r => if r = true then do let ok ← isTrue c env (eval c env); pure (ForInStep.yield ok) else pure (ForInStep.yield r)

theorem compLoop_go {w : World} {A : Around} {R : Result → Shared → Prop} {s : Shared} {elt target iter : Expr} {ifs : List Expr} {scope : Scope} {pos : Pos} {it acc : Value} {env : Env} (J : Nat → Shared → Prop)
    (turn : ∀ n s, J n s → wpAny (model prog w) A (pyNext it) (fun r s₁ => match r with
      | none => R (.ok .next) s₁
      | some v => wpAny (model prog w) A (letOwnedTupleGo target it v) (fun _ s₁' => wpAny (model prog w) A (assign target env v) (fun _ s₂ =>
          wpAny (model prog w) A (compT ifs env) (fun ok s₃ =>
            if ok = true then wpAny (model prog w) A (eval elt env) (fun x s₄ =>
              wpAny (model prog w) A (call (.builtin "list.append") [acc, x]) (fun _ s₅ => ∃ k, k < n ∧ J k s₅) noE s₄) noE s₃
            else ∃ k, k < n ∧ J k s₃) noE s₂) noE s₁') noE s₁) noE s)
    (n : Nat) (h : J n s) :
    codeAny (model prog w) A (.compLoop (.ListComp elt [⟨target, iter, ifs, 0⟩] scope pos) 0 it acc env) R s := by
  refine codeAny_loop rfl J (fun n s hI => ?_) n h
  show wpAny _ A ((compTurn (.ListComp elt [⟨target, iter, ifs, 0⟩] scope pos) 0 it acc env).onRaise (fun x => do noteFrame x env; theTreesLotGoes x)) _ _ s
  refine wpAny_noted ?_
  rw [compTurn_list]
  refine wpAny_bind (wpAny_standAt (wpAny_bind (wpAny_mono (turn n s hI) (fun r s₁ h₁ => ?_) fun _ _ e => e.elim)))
  cases r with
  | none => exact wpAny_pure h₁
  | some v =>
    refine wpAny_bind (wpAny_mono h₁ (fun _ s₁' h₁' => ?_) fun _ _ e => e.elim)
    refine wpAny_bind (wpAny_mono h₁' (fun _ s₂ h₂ => wpAny_bind (wpAny_mono h₂ (fun ok s₃ h₃ => ?_) fun _ _ e => e.elim)) fun _ _ e => e.elim)
    cases ok with
    | false => exact wpAny_pure ⟨rfl, h₃⟩
    | true =>
      exact wpAny_bind (wpAny_bind (wpAny_mono h₃ (fun x s₄ h₄ => wpAny_bind (wpAny_mono h₄ (fun _ s₅ h₅ => wpAny_pure (wpAny_pure ⟨rfl, h₅⟩)) fun _ _ e => e.elim)) fun _ _ e => e.elim))

section
variable {fx : Fx prog KF} {Γ Γ' : Amb} {H H' : OH} {m m' : Loc} {s s' : Shared}

theorem JB.tests0 {Q : Bool → OH → Prop} (h : Q true H) : JB fx Γ H m (compT [] Γ.env) Q := fun s S => wpAny_tests_nil ⟨H, S, h⟩
theorem JB.tests1 {c : Expr} {Q : Bool → OH → Prop} (h : JB fx Γ H m (isTrue c Γ.env (eval c Γ.env)) Q) : JB fx Γ H m (compT [c] Γ.env) Q := fun s S => wpAny_tests_one (h s S)

/-- the captured names alone -/
def mcap (cl : List (Str × Addr)) (m : Loc) : Loc := fun x => if (cl.lookup x).isSome then m x else none

abbrev cAmb (Γ : Amb) (scope : Scope) (cl : List (Str × Addr)) (C : Addr) (B : Addr → Option Obj) : Amb := ⟨Γ.A, compEnvC scope cl C Γ.env, B, Γ.rem⟩

theorem mcap_some {cl : List (Str × Addr)} {x : Str} {u : Value} (h : mcap cl m x = some u) : (∃ c, cl.lookup x = some c) ∧ m x = some u := by
  unfold mcap at h
  split at h
  · rename_i q; exact ⟨Option.isSome_iff_exists.mp q, h⟩
  · cases h

theorem mcap_updL {cl : List (Str × Addr)} {x : Str} {v : Value} (h : cl.lookup x = none) : ∀ y u, mcap cl m y = some u → updL (mcap cl m) x v y = some u := fun y u e => by
  unfold updL
  split
  · rename_i q
    subst q
    obtain ⟨⟨c, hc⟩, _⟩ := mcap_some e
    rw [h] at hc; cases hc
  · exact e

theorem St.comp (S : St fx Γ H m s) {scope : Scope} {cl : List (Str × Addr)} {C : Addr} {mC : Loc} (hk : scope.kind = .function) (hcl : ∀ x c, cl.lookup x = some c → Γ.cells.lookup x = some c) (oC : Out fx Γ H C) (hN : s.heap.Ns C mC) :
    St fx (cAmb Γ scope cl C Γ.B) H (mcap cl m) s where
  ok := ⟨S.ok.depth, S.ok.units, S.ok.handled, hk, S.ok.glob, S.ok.bns⟩
  base := S.base
  own := S.own
  frz := S.frz
  ns := ⟨mC, hN, fun x v hx e => by obtain ⟨⟨c, hc⟩, _⟩ := mcap_some e; rw [show cl.lookup x = none from hx] at hc; cases hc⟩
  cel x c e := let ⟨v, hc, hv⟩ := S.cel x c (hcl x c e); ⟨v, hc, fun u hu => hv u (mcap_some hu).2⟩
  gens := S.gens
  os := S.os
  sepH a ao e := let ⟨a1, a2, a3, a4⟩ := S.sepH a ao e; ⟨a1, (by rintro rfl; rw [show H _ = none from oC.h] at e; cases e), a3, fun x c hx => a4 x c (hcl x c hx)⟩
  sepL := ⟨oC.z, oC.b, fun x c hx => Ne.symm (oC.c x c (hcl x c hx))⟩
  sepC x c e := let ⟨a1, a2, a3⟩ := S.sepC x c (hcl x c e); ⟨a1, a2, fun y d hy n => a3 y d (hcl y d hy) n⟩

theorem Out.comp {scope : Scope} {cl : List (Str × Addr)} {C a : Addr} (o : Out fx Γ H a) (hcl : ∀ x c, cl.lookup x = some c → Γ.cells.lookup x = some c) (ne : a ≠ C) : Out fx (cAmb Γ scope cl C Γ.B) H a :=
  ⟨o.h, o.b, ne, fun x c hx => o.c x c (hcl x c hx), o.z⟩

theorem St.uncomp (S : St fx Γ H m s) {scope : Scope} {cl : List (Str × Addr)} {C : Addr} (hcl : ∀ x c, cl.lookup x = some c → Γ.cells.lookup x = some c) (oC : Out fx Γ H C)
    {m₂ : Loc} (hm : ∀ y u, mcap cl m y = some u → m₂ y = some u) (S' : St fx { cAmb Γ scope cl C Γ.B with B := frozen s.heap (loose (cAmb Γ scope cl C Γ.B) H) } H' m₂ s')
    (S₁ : St fx (cAmb Γ scope cl C Γ.B) H' m₂ s') : St fx Γ H' m s' := by
  obtain ⟨m₁, ⟨oL, es, ep, hoL, r⟩, hmL⟩ := S.ns
  have stay : ∀ {a : Addr} {ob : Obj}, s.heap.get? a = some ob → H a = none → a ≠ C → (∀ x c, cl.lookup x = some c → a ≠ c) → s'.heap.get? a = some ob ∧ H' a = none := fun {a ob} ho hH hC hc => by
    have hb : frozen s.heap (loose (cAmb Γ scope cl C Γ.B) H) a = some ob := frz_some (by
      rintro (q | q | ⟨x, q⟩)
      · exact q hH
      · exact hC q
      · exact hc x a q rfl) ho
    refine ⟨S'.frz a ob hb, ?_⟩
    cases e : H' a with
    | none => rfl
    | some ao => have a3 : frozen s.heap (loose (cAmb Γ scope cl C Γ.B) H) a = none := (S'.sepH a ao e).2.2.1; rw [hb] at a3; cases a3
  have hLH : H Γ.L = none := by
    cases q : H Γ.L with
    | none => rfl
    | some ao => exact absurd rfl (S.sepH _ _ q).2.1
  obtain ⟨hL₁, hL₂⟩ := stay hoL hLH (Ne.symm oC.l) fun x c hx => Ne.symm (S.sepL.2.2 x c (hcl x c hx))
  have hCH : ∀ x c, Γ.cells.lookup x = some c → H c = none := fun x c e => by
    cases q : H c with
    | none => rfl
    | some ao => exact absurd rfl ((S.sepH _ _ q).2.2.2 x c e)
  have cap : ∀ x c, Γ.cells.lookup x = some c → cl.lookup x = some c ∨ ∀ y d, cl.lookup y = some d → c ≠ d := fun x c e => by
    cases q : cl.lookup x with
    | some d => have := hcl x d q; rw [e] at this; cases this; exact .inl rfl
    | none =>
      refine .inr fun y d hy => (S.sepC x c e).2.2 y d (hcl y d hy) ?_
      rintro rfl; rw [q] at hy; cases hy
  refine ⟨S.ok, S₁.base, S₁.own, S₁.frz, ⟨m₁, ⟨oL, es, ep, hL₁, r⟩, hmL⟩, fun x c e => ?_, S₁.gens, S₁.os, fun a ao e => ?_, S.sepL, S.sepC⟩
  · obtain ⟨v, ⟨ob, ho, hd⟩, hv⟩ := S.cel x c e
    rcases cap x c e with q | q
    · obtain ⟨v', hc', hv'⟩ := S₁.cel x c q
      exact ⟨v', hc', fun u hu => hv' u (hm x u (by unfold mcap; rw [q]; exact hu))⟩
    · exact ⟨v, ⟨ob, (stay ho (hCH x c e) (Ne.symm (oC.c x c e)) fun y d hy => q y d hy).1, hd⟩, hv⟩
  · obtain ⟨a1, a2, a3, a4⟩ := S₁.sepH a ao e
    refine ⟨a1, ?_, a3, fun x c hx => ?_⟩
    · rintro rfl; rw [show H' _ = none from hL₂] at e; cases e
    · rcases cap x c hx with q | q
      · exact a4 x c q
      · rintro rfl
        obtain ⟨v, ⟨ob, ho, hd⟩, hv⟩ := S.cel x a hx
        rw [(stay ho (hCH x a hx) (Ne.symm (oC.c x a hx)) fun y d hy => q y d hy).2] at e; cases e

/-- a new object that stood outside comes into view -/
theorem St.take (S : St fx Γ H m s) {a : Addr} {ao : AO} (o : Out fx Γ H a) (hn : Holds prog fx.w s.heap a ao) : St fx Γ (upd H a ao) m s :=
  { S with
    own := fun b bo e => by
      by_cases h : b = a
      · subst h; rw [upd_self] at e; cases e; exact hn
      · rw [upd_ne _ _ h] at e; exact S.own b bo e
    sepH := fun b bo e => by
      by_cases h : b = a
      · subst h; exact ⟨o.z, o.l, o.b, o.c⟩
      · rw [upd_ne _ _ h] at e; exact S.sepH b bo e }

/-- a list comprehension over l -/
def CompW (fx : Fx prog KF) (Γ : Amb) (target elt : Expr) (ifs : List Expr) (scope : Scope) (cl : List (Str × Addr)) (Q : List Value → OH → Prop) (l : Addr) (H : OH) (m : Loc) : Prop :=
  ∃ (P : OH → Prop) (vs : List Value) (At : Addr → Nat → Heap → Prop) (Inv : Nat → OH → List Value → Prop), Src fx l P vs At ∧ vs.length ≤ sizeLine ∧ Inv 0 H [] ∧ (∀ i H acc, Inv i H acc → P H) ∧
    (∀ i v H₁ acc, vs[i]? = some v → Inv i H₁ acc → ∀ C B rv, nz rv = v →
      JU fx (cAmb Γ scope cl C B) H₁ (mcap cl m) (assign target (compEnvC scope cl C Γ.env) rv) fun H₂ m₂ => (∀ y u, mcap cl m y = some u → m₂ y = some u) ∧
        JB fx (cAmb Γ scope cl C B) H₂ m₂ (compT ifs (compEnvC scope cl C Γ.env)) fun ok H₃ =>
          if ok then JV fx (cAmb Γ scope cl C B) H₃ m₂ (eval elt (compEnvC scope cl C Γ.env)) fun x H₄ => Inv (i + 1) H₄ (acc ++ [x]) else Inv (i + 1) H₃ acc) ∧
    (∀ H₁ acc, Inv vs.length H₁ acc → Q acc H₁)

theorem comp_core {target elt iter : Expr} {ifs : List Expr} {scope : Scope} {cl : List (Str × Addr)} {pos : Pos} {Q : List Value → OH → Prop} {l : Addr} {RR : Value → Addr → Result → Shared → Prop}
    (S : St fx Γ H m s) (W : CompW fx Γ target elt ifs scope cl Q l H m) (hcl : ∀ x c, cl.lookup x = some c → Γ.cells.lookup x = some c)
    (hcell : ∀ y ∈ scope.names, y.2 ≠ .cell) (hkind : scope.kind = .function)
    (hRR : ∀ (D C : Addr) (s' : Shared) (H' : OH) (acc : List Value) (raw : List Value) (n : Nat) (mC : Loc), St fx Γ H' m s' → Out fx Γ H' D → Out fx Γ H' C → D ≠ C → s'.heap.get? D = some ⟨.type "list", none, .seq raw.toArray n, #[]⟩ → raw.map nz = acc → acc.length ≤ sizeLine → s'.heap.Ns C mC → Q acc H' → RR (.ref D) C (.ok .next) s') :
    wpAny (model prog fx.w) Γ.A (pyIter (.ref l)) (fun it s₂ => wpAny (model prog fx.w) Γ.A (newList []) (fun acc s₃ => wpAny (model prog fx.w) Γ.A (newFunctionEnv scope Γ.env.globals cl [] Γ.env.qual none .none (some Γ.env)) (fun cenv s₄ =>
      codeAny (model prog fx.w) Γ.A (.compStart (.ListComp elt [⟨target, iter, ifs, 0⟩] scope pos) 0 it acc { cenv with scope := relabel scope Γ.env }) (RR acc cenv.locals) s₄) noE s₃) noE s₂) noE s := by
  obtain ⟨P, vs, At, Inv, src, hsz, h0, hP, step, done⟩ := W
  refine src.iter S (hP _ _ _ h0) fun h₂ tk₂ hat₂ k₂ => ?_
  have S₂ : St fx Γ H m { s with heap := h₂, toks := tk₂ } := S.keep k₂
  obtain ⟨oJ, hoJ⟩ := src.has hat₂
  have hJlt : s.heap.objs.size < h₂.objs.size := Heap.lt_size hoJ
  have oJ0 : Out fx Γ H s.heap.objs.size := S.out (Nat.le_refl _)
  refine wpAny_newObj_type (wpAny_newFunctionEnv hcell (by intro y hy; simp at hy) (fun h₁ hns₁ hsb₁ => ?_) hkind)
  dsimp only at hns₁ hsb₁ ⊢
  generalize hH2 : h₂.push { cls := .type "list", dict := none, data := .seq ([] : List Value).toArray } = H2 at hns₁ hsb₁ ⊢
  have hC : H2.objs.size = h₂.objs.size + 1 := by rw [← hH2, Heap.size_push]
  have old : ∀ b o, h₂.get? b = some o → h₁.get? b = some o := fun b o e => hsb₁.extBut b o (Nat.ne_of_lt (by rw [hC]; exact Nat.lt_succ_of_lt (Heap.lt_size e))) (Heap.get?_push_of_some _ (hH2 ▸ Heap.get?_push_of_some _ e))
  have hD₁ : h₁.get? h₂.objs.size = some ⟨.type "list", none, .seq ([] : List Value).toArray 0, #[]⟩ :=
    hsb₁.extBut _ _ (Nat.ne_of_lt (by rw [hC]; exact Nat.lt_succ_self _)) (Heap.get?_push_of_some _ (hH2 ▸ Heap.get?_push_size _ rfl))
  have oD0 : Out fx Γ H h₂.objs.size := S₂.out (Nat.le_refl _)
  have oC0 : Out fx Γ H H2.objs.size := S₂.out (by rw [hC]; exact Nat.le_succ _)
  have hDC : h₂.objs.size ≠ H2.objs.size := Nat.ne_of_lt (by rw [hC]; exact Nat.lt_succ_self _)
  have hJC : s.heap.objs.size ≠ H2.objs.size := Nat.ne_of_lt (by rw [hC]; exact Nat.lt_succ_of_lt hJlt)
  have hJD : s.heap.objs.size ≠ h₂.objs.size := Nat.ne_of_lt hJlt
  have hat₁ : At s.heap.objs.size 0 h₁ := src.same hat₂ fun o e => old _ o e
  have S₁ : ∀ tk, St fx Γ H m { s with heap := h₁, toks := tk } := fun tk => S₂.keep (h' := h₁) (tk := tk) old
  have loop : ∀ s₃ : Shared, s₃ = { s with heap := h₁, toks := tk₂ + ([] : List (Str × Value)).length } →
      codeAny (model prog fx.w) Γ.A (.compLoop (.ListComp elt [⟨target, iter, ifs, 0⟩] scope pos) 0 (.ref s.heap.objs.size) (.ref h₂.objs.size) (compEnvC scope cl H2.objs.size Γ.env)) (RR (.ref h₂.objs.size) H2.objs.size) s₃ := by
    rintro s₃ rfl
    refine compLoop_go (fun n s' => ∃ i H' acc raw k mC, n + i = vs.length ∧ St fx Γ H' m s' ∧ Inv i H' acc ∧ At s.heap.objs.size i s'.heap ∧ Out fx Γ H' s.heap.objs.size ∧ Out fx Γ H' h₂.objs.size ∧ Out fx Γ H' H2.objs.size ∧
        s'.heap.get? h₂.objs.size = some ⟨.type "list", none, .seq (raw : List Value).toArray k, #[]⟩ ∧ raw.map nz = acc ∧ acc.length ≤ i ∧ s'.heap.Ns H2.objs.size mC)
      (fun n s' hh => ?_) vs.length ⟨0, H, [], [], 0, _, rfl, S₁ _, h0, hat₁, oJ0, oD0, oC0, hD₁, rfl, Nat.le_refl _, hns₁⟩
    obtain ⟨i, H', acc, raw, k, mC, hn, S', hI, hA, oJ', oD', oC', hD', hacc, hle, hN'⟩ := hh
    cases hv : vs[i]? with
    | none =>
      have hi : i = vs.length := turn0 hn hv
      subst hi
      refine src.done S' (hP _ _ _ hI) hA fun h₃ tk₃ k₃ => ?_
      exact hRR _ _ _ H' acc raw k mC (S'.outside oJ' (src.nt hA) k₃) oD' oC' hDC (k₃ _ _ (Ne.symm hJD) hD') hacc (Nat.le_trans hle hsz) (hN'.extBut k₃ (Ne.symm hJC)) (done _ _ hI)
    | some v =>
      have hi := (List.getElem?_eq_some_iff.mp hv).1
      refine src.item S' (hP _ _ _ hI) hA hv fun rv h₃ tk₃ hrv hA₃ k₃ => ?_
      have S₃ : St fx Γ H' m { s' with heap := h₃, toks := tk₃ } := S'.outside oJ' (src.nt hA) k₃
      have hN₃ : h₃.Ns H2.objs.size mC := hN'.extBut k₃ (Ne.symm hJC)
      have hD₃ := k₃ _ _ (Ne.symm hJD) hD'
      refine src.go hA₃ ?_
      obtain ⟨ob, hob⟩ := src.has hA₃
      have Sc := (S₃.comp (scope := scope) hkind hcl oC' hN₃)
      have oJc := oJ'.comp (scope := scope) hcl hJC
      have oDc := oD'.comp (scope := scope) hcl hDC
      have fin : ∀ {H₅ : OH} {m₂ : Loc} {s₅ : Shared}, (∀ y u, mcap cl m y = some u → m₂ y = some u) → St fx { cAmb Γ scope cl H2.objs.size Γ.B with B := frozen h₃ (loose (cAmb Γ scope cl H2.objs.size Γ.B) H') } H₅ m₂ s₅ →
          St fx Γ H₅ m s₅ ∧ At s.heap.objs.size (i + 1) s₅.heap ∧ Out fx Γ H₅ s.heap.objs.size ∧ Out fx Γ H₅ h₂.objs.size ∧ Out fx Γ H₅ H2.objs.size ∧ s₅.heap.get? h₂.objs.size = some ⟨.type "list", none, .seq raw.toArray k, #[]⟩ ∧ ∃ mC', s₅.heap.Ns H2.objs.size mC' := by
        intro H₅ m₂ s₅ hm S₅
        have S₆ := Sc.outof (s := { s' with heap := h₃, toks := tk₃ }) S₅
        obtain ⟨q1, q2⟩ := oJc.over (s := { s' with heap := h₃, toks := tk₃ }) hob S₅
        obtain ⟨q3, q4⟩ := oDc.over (s := { s' with heap := h₃, toks := tk₃ }) hD₃ S₅
        refine ⟨S₃.uncomp hcl oC' hm S₅ S₆, src.same hA₃ (fun o e => by cases hob.symm.trans e; exact q2), ⟨q1.h, oJ'.b, oJ'.l, oJ'.c, oJ'.z⟩, ⟨q3.h, oD'.b, oD'.l, oD'.c, oD'.z⟩, ⟨?_, oC'.b, oC'.l, oC'.c, oC'.z⟩, q4, ?_⟩
        · cases e : H₅ H2.objs.size with
          | none => rfl
          | some ao => exact absurd rfl (S₅.sepH _ _ e).2.1
        · obtain ⟨mC', hmC', _⟩ := S₅.ns; exact ⟨mC', hmC'⟩
      refine wpAny_mono ((step i v H' acc hv hI H2.objs.size (frozen h₃ (loose (cAmb Γ scope cl H2.objs.size Γ.B) H')) rv hrv).run Sc.into fun H₄ m₄ s₄ S₄ ⟨hm, q₄⟩ => wpAny_mono (q₄.run S₄ fun ok H₅ s₅ S₅ q₅ => ?_) (fun _ _ e => e) fun _ _ e => e.elim) (fun _ _ e => e) fun _ _ e => e.elim
      cases ok with
      | false =>
        obtain ⟨f1, f2, f3, f4, f5, f6, mC', f7⟩ := fin hm S₅
        exact ⟨n - 1, turn1 hn hi, i + 1, H₅, acc, raw, k, mC', turn2 hn hi, f1, q₅, f2, f3, f4, f5, f6, hacc, Nat.le_succ_of_le hle, f7⟩
      | true =>
        refine wpAny_mono (q₅ s₅ S₅) (fun y s₆ ⟨H₆, S₆, q₆⟩ => ?_) fun _ _ e => e.elim
        obtain ⟨f1, f2, f3, f4, f5, f6, mC', f7⟩ := fin hm S₆
        have hlr : raw.length = acc.length := by rw [← hacc, List.length_map]
        refine wpAny_list_append_plain ⟨k, f6⟩ (fun h₇ hl₇ hs₇ => ?_) (by simp only [List.size_toArray]; omega)
        obtain ⟨k', hk'⟩ := hl₇
        refine ⟨n - 1, turn1 hn hi, i + 1, H₆, acc ++ [nz y], raw ++ [y], k', mC', turn2 hn hi, f1.outside (tk := s₆.toks) f4 (notTup_cls f6 (show Value.type "list" ≠ Value.type "tuple" by decide)) hs₇.extBut, q₆, src.same f2 (fun o e => hs₇.extBut _ _ hJD e), f3, f4, f5, by rw [hk']; simp, by simp [hacc], by simp; omega, f7.extBut hs₇.extBut (Ne.symm hDC)⟩
  exact codeAny_compStart_list (loop _ rfl) (src.self hat₁ (loop _ rfl))
end
end Mine
end

section -- JI
open PySem PySem.W PySem.Calls PyProof.Rows
set_option Elab.async false
set_option maxRecDepth 100000
set_option linter.unusedVariables false
namespace Mine
variable {prog : Program} {KF : Params → Frag}

section
variable {fx : Fx prog KF} {Γ Γ' : Amb} {H H' : OH} {m m' : Loc} {s s' : Shared}

/-- the cells of some names -/
def capOf (cells : List (Str × Addr)) (ns : List Str) : List (Str × Addr) := ns.filterMap fun x => (cells.lookup x).map fun c => (x, c)
theorem capt_of {cl : List (Str × Addr)} {cells : List (Str × Addr)} (ns : List Str) (h : cl = ns.filterMap fun x => (cells.lookup x).map fun c => (x, c)) : ∀ x c, cl.lookup x = some c → cells.lookup x = some c := by
  subst h
  induction ns with
  | nil => intro x c h; simp at h
  | cons n r ih =>
    intro x c h
    rw [List.filterMap_cons] at h
    cases q : cells.lookup n with
    | none => rw [q] at h; exact ih x c h
    | some d =>
      rw [q] at h
      simp only [Option.map_some, List.lookup_cons] at h
      split at h
      · rename_i e
        have e' : x = n := by simpa using e
        rw [e', q]; exact h
      · exact ih x c h

theorem JV.comp {target elt iter : Expr} {ifs : List Expr} {scope : Scope} {pos : Pos} {Q : Value → OH → Prop} (ns : List Str)
    (h : JV fx Γ H m (eval iter Γ.env) fun o H₁ => ∃ l, o = .ref l ∧ CompW fx Γ target elt ifs scope (capOf Γ.env.cells ns) (fun acc H₂ => ∀ D, H₂ D = none → Q (.ref D) (upd H₂ D (.list acc))) l H₁ m)
    (hclos : closureFor scope Γ.env = pure (capOf Γ.env.cells ns) := by rfl)
    (hs : ∀ x, foldedSetIterable iter Γ.env x = pure x := by intro _; rfl)
    (hcell : ∀ y ∈ scope.names, y.2 ≠ .cell := by decide) (hkind : scope.kind = .function := by rfl)
    (hnames : ∀ y ∈ scope.names, y.2 = .local → scope.names.lookup y.1 = some .local := by decide) :
    JV fx Γ H m (eval (.ListComp elt [⟨target, iter, ifs, 0⟩] scope pos) Γ.env) Q := fun s S => by
  rw [eval_ListComp]
  refine wpAny_comprehension_free (use := none) rfl hs hclos hkind hnames (h.run S fun o H₁ s₁ S₁ ⟨l, eo, W⟩ => ?_)
  obtain rfl := nz_ref eo
  refine comp_core S₁ W (capt_of ns rfl) hcell hkind ?_
  intro D C s' H' acc raw n mC S' oD oC hDC hD hacc hlen hN q
  refine ⟨mC, hN, fun h' hs' => ?_⟩
  have S₂ : St fx Γ H' m { s' with heap := h', toks := s'.toks } := S'.outside oC (Ns_notTup hN) hs'.extBut
  exact ⟨_, S₂.take oD (show Holds prog fx.w _ _ (.list _) from ⟨raw, n, hs'.extBut _ _ hDC hD, hacc⟩), q D oD.h⟩

theorem JU.nameL {x : Str} {px : Pos} {v : Value} {Q : OH → Loc → Prop} (h : Q H (updL m x (nz v))) (hl : Γ.env.kindOf x = some .local := by rfl) (hc : Γ.env.cells.lookup x = none := by rfl) :
    JU fx Γ H m (assign (.Name x px) Γ.env v) Q := fun s S => wpAny_assign_Name (JU.storeL h hl hc s S)
theorem JU.nameC {x : Str} {px : Pos} {v : Value} {c : Addr} {Q : OH → Loc → Prop} (h : Q H (updL m x (nz v))) (hl : Γ.env.kindOf x = some .cell := by rfl) (hc : Γ.env.cells.lookup x = some c := by rfl) :
    JU fx Γ H m (assign (.Name x px) Γ.env v) Q := fun s S => wpAny_assign_Name (JU.storeC h hl hc s S)
theorem JU.mono {t : Sem Unit} {Q Q' : OH → Loc → Prop} (h : JU fx Γ H m t Q) (k : ∀ H' m', Q H' m' → Q' H' m') : JU fx Γ H m t Q' :=
  fun _ S => h.run S fun H' m' _ S' q => ⟨H', m', S', k _ _ q⟩

/-- y = [ .. for .. ] on one line -/
theorem JS.assignComp {y : Str} {py : Pos} {target elt iter : Expr} {ifs : List Expr} {scope : Scope} {pos spos : Pos} {Q : Flow → OH → Loc → Prop} (ns : List Str)
    (h : JV fx Γ H m (eval iter Γ.env) fun o H₁ => ∃ l, o = .ref l ∧ CompW fx Γ target elt ifs scope (capOf Γ.env.cells ns) (fun acc H₂ => ∀ D, H₂ D = none → Q .next (upd H₂ D (.list acc)) (updL m y (.ref D))) l H₁ m)
    (hy : ∀ B H₂ m₂ v, JU fx { Γ with B := B } H₂ m₂ (assign (.Name y py) Γ.env v) fun H₃ m₃ => H₃ = H₂ ∧ m₃ = updL m₂ y (nz v))
    (hsw : swapsWith (.ListComp elt [⟨target, iter, ifs, 0⟩] scope pos) (some (.Name y py)) spos.line Γ.env = pure true := by rfl)
    (hclos : closureFor scope Γ.env = pure (capOf Γ.env.cells ns) := by rfl)
    (hs : ∀ x, foldedSetIterable iter Γ.env x = pure x := by intro _; rfl)
    (hcell : ∀ y ∈ scope.names, y.2 ≠ .cell := by decide) (hkind : scope.kind = .function := by rfl)
    (hnames : ∀ y ∈ scope.names, y.2 = .local → scope.names.lookup y.1 = some .local := by decide) :
    JS fx Γ H m (exec (.Assign [.Name y py] (.ListComp elt [⟨target, iter, ifs, 0⟩] scope pos) spos) Γ.env) Q := fun s S => by
  rw [exec_Assign_Name_used _ _ _ _ hsw]
  refine wpAny_bind (wpAny_standAt (wpAny_bind ?_))
  show wpAny _ Γ.A (do let _ ← comprehension (.ListComp elt [⟨target, iter, ifs, 0⟩] scope pos) scope Γ.env _ (newList []) false (eval iter Γ.env) (some (assign (.Name y py) Γ.env))) _ _ s
  refine wpAny_bind (wpAny_mono (wpAny_comprehension_free (use := some (assign (.Name y py) Γ.env)) (Q := fun _ s' => ∃ H' m', St fx Γ H' m' s' ∧ Q (nzF .next) H' m') rfl hs hclos hkind hnames
    (h.run S fun o H₁ s₁ S₁ ⟨l, eo, W⟩ => ?_)) (fun _ s' hq => wpAny_pure (wpAny_pure hq)) fun _ _ e => e)
  obtain rfl := nz_ref eo
  refine comp_core S₁ W (capt_of ns rfl) hcell hkind ?_
  intro D C s' H' acc raw n mC S' oD oC hDC hD hacc hlen hN q
  obtain ⟨ob, es, ep, hob, _⟩ := id hN
  have S₂ := S'.take oD (show Holds prog fx.w _ _ (.list _) from ⟨raw, n, hD, hacc⟩)
  have oC₂ : Out fx Γ (upd H' D (.list acc)) C := ⟨by rw [upd_ne _ _ (Ne.symm hDC)]; exact oC.h, oC.b, oC.l, oC.c, oC.z⟩
  show wpAny _ Γ.A (assign (.Name y py) Γ.env (.ref D)) _ _ _
  refine wpAny_mono ((hy (frozen s'.heap (loose Γ (upd H' D (.list acc)))) _ m (.ref D)).run S₂.into fun H₃ m₃ s₃ S₃ ⟨e1, e2⟩ => ?_) (fun _ _ e => e) fun _ _ e => e.elim
  subst e1 e2
  obtain ⟨oC₃, hC₃⟩ := oC₂.over hob S₃
  obtain ⟨mC', hmC'⟩ : ∃ mC', s₃.heap.Ns C mC' := ⟨_, hN.at' fun o e => by cases hob.symm.trans e; exact hC₃⟩
  refine ⟨mC', hmC', fun h' hs' => ?_⟩
  have S₄ : St fx Γ (upd H' D (.list acc)) (updL m y (.ref D)) { s₃ with heap := h', toks := s₃.toks } := (S₂.outof S₃).outside oC₃ (Ns_notTup hmC') hs'.extBut
  exact ⟨_, _, S₄, q D oD.h⟩

def Stores (fx : Fx prog KF) (Γ : Amb) (x : Str) : Prop := ∀ (H : OH) (m : Loc) (v : Value) (Q : OH → Loc → Prop), Q H (updL m x (nz v)) → JU fx Γ H m (storeName Γ.env x v) Q
theorem Stores.l {x : Str} (hl : Γ.env.kindOf x = some .local := by rfl) (hc : Γ.env.cells.lookup x = none := by rfl) : Stores fx Γ x := fun _ _ _ _ h => JU.storeL h hl hc
theorem Stores.c {x : Str} {c : Addr} (hl : Γ.env.kindOf x = some .cell := by rfl) (hc : Γ.env.cells.lookup x = some c := by rfl) : Stores fx Γ x := fun _ _ _ _ h => JU.storeC h hl hc

theorem JU.two {t u : Value → Sem Unit} {a b : Value} {Q : OH → Loc → Prop} (h : JU fx Γ H m (t a) fun H₁ m₁ => JU fx Γ H₁ m₁ (u b) Q) : JU fx Γ H m (assignInOrder [t, u] [a, b]) Q := fun s S =>
  PyProof.Rows.assignInOrder_cons (h.run S fun H₁ m₁ s₁ S₁ q => PyProof.Rows.assignInOrder_cons (q.run S₁ fun H₂ m₂ s₂ S₂ q₂ => PyProof.Rows.assignInOrder_nil ⟨H₂, m₂, S₂, q₂⟩))

theorem tup2 {xs : List Value} {a b : Value} (em : xs.map nz = [a, b]) : ∃ u w, xs = [u, w] ∧ nz u = a ∧ nz w = b := by
  obtain ⟨x, r, e1, e2, e3⟩ := List.map_eq_cons_iff.mp em
  obtain ⟨y, q, e4, e5, e6⟩ := List.map_eq_cons_iff.mp e3
  exact ⟨x, y, by rw [e1, e4, List.map_eq_nil_iff.mp e6], e2, e5⟩

/-- (x, y) = t, as a loop's target -/
theorem JU.pair {x y : Str} {px py pos : Pos} {k : Nat} {v : Value} {t : Addr} {a b : Value} {Q : OH → Loc → Prop} (hx : Stores fx Γ x) (hy : Stores fx Γ y) (hv : nz v = .ref t) (ht : H t = some (.tup [a, b])) (h : Q H (updL (updL m x a) y b)) :
    JU fx Γ H m (assign (.Tuple [.Name x px, .Name y py] k pos) Γ.env v) Q := fun s S => by
  obtain rfl := nz_ref hv
  obtain ⟨xs, n, hxs, em⟩ := S.getTup ht
  obtain ⟨u, w, rfl, rfl, rfl⟩ := tup2 em
  refine wpAny_assign_Tuple S.ok.handled (isTup_of hxs) rfl rfl fun h' hk => ?_
  have S₁ : St fx Γ H m { s with heap := h', toks := s.toks } := S.keep fun b o e => hk b o (Nat.ne_of_lt (Heap.lt_size e)) e
  refine JU.two (t := fun v => assign (.Name x px) Γ.env v) (u := fun v => assign (.Name y py) Γ.env v) ?_ _ S₁
  exact fun s S => wpAny_assign_Name (hx _ _ _ _ (show JU fx Γ H _ _ Q from fun s S => wpAny_assign_Name (hy _ _ _ _ h s S)) s S)

theorem updL_comm {x y : Str} {a b : Value} (n : x ≠ y) : updL (updL m y b) x a = updL (updL m x a) y b := by
  funext z
  unfold updL
  by_cases h1 : z = x
  · subst h1; simp [n]
  · simp [h1]

theorem JS.assign2 {x y : Str} {px py tpos : Pos} {k : Nat} {value : Expr} {pos : Pos} {Q : Flow → OH → Loc → Prop} (hx : Stores fx Γ x) (hy : Stores fx Γ y) (n : x ≠ y)
    (h : JV fx Γ H m (eval value Γ.env) fun v H₁ => ∃ t a b, v = .ref t ∧ H₁ t = some (.tup [a, b]) ∧ Q .next H₁ (updL (updL m x a) y b))
    (hw : swappedStores [.Tuple [.Name x px, .Name y py] k tpos] value Γ.env = pure none ∨ swappedStores [.Tuple [.Name x px, .Name y py] k tpos] value Γ.env = pure (some [x, y]))
    (hs : swapsWithSole [.Tuple [.Name x px, .Name y py] k tpos] value pos.line Γ.env = pure false := by rfl) :
    JS fx Γ H m (exec (.Assign [.Tuple [.Name x px, .Name y py] k tpos] value pos) Γ.env) Q := fun s S => by
  rcases hw with hw | hw
  · exact Assign_Tuple (h.run S fun v H₁ s₁ S₁ ⟨t, a, b, ev, ht, q⟩ => (JU.pair (Q := fun H₂ m₂ => Q .next H₂ m₂) hx hy ev ht q).run S₁ fun H₂ m₂ s₂ S₂ q₂ => ⟨H₂, m₂, S₂, q₂⟩) hs hw
  · refine Assign_Tuple_swapped (h.run S fun v H₁ s₁ S₁ ⟨t, a, b, ev, ht, q⟩ => ?_) hs hw
    obtain rfl := nz_ref ev
    obtain ⟨xs, k', hxs, em⟩ := S₁.getTup ht
    obtain ⟨u, w, rfl, rfl, rfl⟩ := tup2 em
    rw [show [x, y].length = [u, w].toArray.size from rfl]
    refine wpAny_unpackItems_tuple S₁.ok.handled (isTup_of hxs) fun h' hk => ?_
    have S₂ : St fx Γ H₁ m { s₁ with heap := h', toks := s₁.toks } := S₁.keep fun b o e => hk b o (Nat.ne_of_lt (Heap.lt_size e)) e
    simp only [List.reverse_cons, List.reverse_nil, List.nil_append, List.cons_append, List.map_cons, List.map_nil]
    have J : JU fx Γ H₁ m (assignInOrder [fun v => bindName Γ.env y v, fun v => bindName Γ.env x v] [w, u]) (fun H₂ m₂ => Q .next H₂ m₂) :=
      JU.two (fun s S => wpAny_bindName (hy _ _ _ _ (show JU fx Γ H₁ _ (bindName Γ.env x u) _ from fun s S => wpAny_bindName (hx _ _ _ _ (by rw [updL_comm n]; exact q) s S)) s S))
    exact J.run S₂ fun H₃ m₃ s₃ S₃ q₃ => ⟨H₃, m₃, S₃, q₃⟩
end
end Mine
end

section -- JK
open PySem PySem.W PySem.Calls PyProof.Rows PySem.SeqAt
set_option Elab.async false
set_option maxRecDepth 100000
set_option linter.unusedVariables false
namespace Mine
variable {prog : Program} {KF : Params → Frag}

section
variable {fx : Fx prog KF} {Γ Γ' : Amb} {H H' : OH} {m m' : Loc} {s s' : Shared}

theorem JV.range1 {b : Int} {v : Value} {Q : Value → OH → Prop} (hv : nz v = I b) (h : ∀ r t u w, H r = none → Q (.ref r) (upd H r (.raw (rangeObj 0 b t u w)))) : JV fx Γ H m (call (.type "range") [v]) Q := fun s S => by
  obtain ⟨t, rfl⟩ := nz_int hv
  exact call_range_1 ⟨_, S.new (fun b o e => Heap.get?_push_of_some _ e) (Nat.le_refl _) (show Holds prog fx.w _ _ (.raw _) from Heap.get?_push_size _ rfl), h _ _ _ _ (S.fresh (Nat.le_refl _)).1⟩
theorem JV.range2 {a b : Int} {v u : Value} {Q : Value → OH → Prop} (hv : nz v = I a) (hu : nz u = I b) (h : ∀ r t u w, H r = none → Q (.ref r) (upd H r (.raw (rangeObj a b t u w)))) : JV fx Γ H m (call (.type "range") [v, u]) Q := fun s S => by
  obtain ⟨t, rfl⟩ := nz_int hv
  obtain ⟨t', rfl⟩ := nz_int hu
  exact call_range_2 ⟨_, S.new (fun b o e => Heap.get?_push_of_some _ e) (Nat.le_refl _) (show Holds prog fx.w _ _ (.raw _) from Heap.get?_push_size _ rfl), h _ _ _ _ (S.fresh (Nat.le_refl _)).1⟩

theorem map_len {xs vs : List Value} (e : xs.map nz = vs) : xs.length = vs.length := by rw [← e, List.length_map]

theorem JV.tupleOf {l : Addr} {vs : List Value} {Q : Value → OH → Prop} (hl : H l = some (.list vs)) (hz : vs.length ≤ sizeLine) (h : ∀ a, H a = none → Q (.ref a) (upd H a (.tup vs))) : JV fx Γ H m (call (.type "tuple") [.ref l]) Q := fun s S => by
  obtain ⟨xs, n, hx, em⟩ := S.getList hl
  refine call_tuple_list (isList_of hx) (fun h' hk => ?_) (by simp only [List.size_toArray, map_len em]; exact hz)
  have S₁ : St fx Γ H m { s with heap := h', toks := s.toks } := S.keep hk
  exact ⟨_, S₁.new (fun b o e => Heap.get?_push_of_some _ e) (Nat.le_refl _) (show Holds prog fx.w _ _ (.tup _) from ⟨xs, 0, Heap.get?_push_size _ rfl, em⟩), h _ (S₁.fresh (Nat.le_refl _)).1⟩
theorem JV.listOf {l : Addr} {vs : List Value} {Q : Value → OH → Prop} (hl : H l = some (.list vs)) (hz : vs.length ≤ sizeLine) (h : ∀ a, H a = none → Q (.ref a) (upd H a (.list vs))) : JV fx Γ H m (call (.type "list") [.ref l]) Q := fun s S => by
  obtain ⟨xs, n, hx, em⟩ := S.getList hl
  refine call_list_seq l (T := "list") (.inl rfl) hx rfl rfl (fun h' c' hk hn => ?_) (by simp only [List.size_toArray, map_len em]; exact hz)
  exact ⟨_, S.new hk (Nat.le_refl _) (show Holds prog fx.w _ _ (.list _) from ⟨xs, c', hn, em⟩), h _ (S.fresh (Nat.le_refl _)).1⟩

/-- l + r for lists -/
theorem JV.addL {l r pos} {Q : Value → OH → Prop} (h : JV fx Γ H m (eval l Γ.env) fun a H₁ => JV fx Γ H₁ m (eval r Γ.env) fun b H₂ => ∃ x y vs us, a = .ref x ∧ b = .ref y ∧ H₂ x = some (.list vs) ∧ H₂ y = some (.list us) ∧ vs.length + us.length ≤ sizeLine ∧
      ∀ c, H₂ c = none → Q (.ref c) (upd H₂ c (.list (vs ++ us)))) : JV fx Γ H m (eval (.BinOp l .Add r pos) Γ.env) Q := JV.binop (h.mono fun a H₁ h₁ => h₁.mono fun b H₂ hh ra rb ha hb s S => by
  obtain ⟨x, y, vs, us, ea, eb, hx, hy, hz, q⟩ := hh
  obtain rfl := nz_ref (ha.trans ea); obtain rfl := nz_ref (hb.trans eb)
  obtain ⟨xs, n, h1, e1⟩ := S.getList hx
  obtain ⟨ys, k, h2, e2⟩ := S.getList hy
  refine PySem.P.add_list (n := n) (n2 := k) h1 h2 ⟨_, S.new (fun b o e => Heap.get?_push_of_some _ e) (Nat.le_refl _) (show Holds prog fx.w _ _ (.list (vs ++ us)) from ⟨xs ++ ys, 0, ?_, by rw [List.map_append, e1, e2]⟩), q _ (S.fresh (Nat.le_refl _)).1⟩ (by simp only [List.size_toArray, map_len e1, map_len e2]; exact hz)
  have := Heap.get?_push_size s.heap (o := { cls := .type "list", data := .seq (xs.toArray ++ ys.toArray) }) rfl
  simpa using this)

/-- l[:n] -/
theorem JV.sliceTo {value hi : Expr} {p pos : Pos} {Q : Value → OH → Prop} (h : JV fx Γ H m (eval value Γ.env) fun o H₁ => JV fx Γ H₁ m (eval hi Γ.env) fun i H₂ => ∃ l vs k, o = .ref l ∧ i = I (k : Nat) ∧ H₂ l = some (.list vs) ∧ k ≤ vs.length ∧ vs.length ≤ sizeLine ∧
      ∀ a, H₂ a = none → Q (.ref a) (upd H₂ a (.list (vs.take k))))
    (he : evalPart (some hi) Γ.env = eval hi Γ.env := by rfl)
    (ht : ∀ o r, letTemporaryGo value o r = pure () := by intro _ _; rfl) : JV fx Γ H m (eval (.Subscript value (.Slice none (some hi) none p) pos) Γ.env) Q := fun s S => by
  refine wpAny_Subscript_list_slice (h.run S fun o H₁ s₁ S₁ h₁ => ?_) ht
  rw [evalPart_none]
  refine wpAny_pure ?_
  rw [he]
  refine h₁.run S₁ fun i H₂ s₂ S₂ ⟨l, vs, k, eo, ei, hl, hk, hz, q⟩ => ?_
  obtain ⟨t, rfl⟩ := nz_int ei
  obtain ⟨xs, n, hx, em⟩ := S₂.getList hl
  refine ⟨l, xs.toArray, none, some (k : Int), nz_ref eo, isList_of hx, by simp only [List.size_toArray, map_len em]; exact hz, .none, .int _ _, ?_⟩
  have S₃ : St fx Γ H₂ m { s₂ with heap := s₂.heap.push { cls := .type "slice", data := .fields #[Value.none, .int k t, .none] }, toks := s₂.toks } := S₂.keep fun b o e => Heap.get?_push_of_some _ e
  have e : slicePick xs.toArray none (some (k : Int)) none = (xs.take k).toArray := by rw [slicePick_upto _ _ (by simp [map_len em, hk])]
  rw [e]
  have := S₃.new (tk := s₂.toks) (ao := .list (vs.take k)) (h' := (s₂.heap.push { cls := .type "slice", data := .fields #[Value.none, .int k t, .none] }).push { cls := .type "list", data := .seq (xs.take k).toArray }) (fun b o e => Heap.get?_push_of_some _ e) (Nat.le_refl _)
    (show Holds prog fx.w _ _ (.list _) from ⟨xs.take k, 0, Heap.get?_push_size _ rfl, by rw [List.map_take, em]⟩)
  have hn := (S₃.fresh (Nat.le_refl _)).1
  have hsz : (s₂.heap.push { cls := .type "slice", data := .fields #[Value.none, .int k t, .none] }).objs.size = s₂.heap.objs.size + 1 := Heap.size_push ..
  dsimp only at this hn
  rw [hsz] at this hn
  exact ⟨_, this, q _ hn⟩

-- lists compared
theorem CmpOk.eqNil {l r : Addr} {vs : List Value} (hl : H l = some (.list vs)) (hr : H r = some (.list [])) (rem : 1 ≤ Γ.rem) : CmpOk fx Γ H m .Eq (.ref l) (.ref r) vs.isEmpty := fun ra rb ha hb Q q s S => by
  obtain rfl := nz_ref ha; obtain rfl := nz_ref hb
  obtain ⟨xs, n, h1, e1⟩ := S.getList hl
  obtain ⟨ys, k, h2, e2⟩ := S.getList hr
  have hu : Γ.A.units < cLine := by have := S.ok.units; omega
  have : ys = [] := by simpa using e2
  subst this
  cases vs with
  | nil =>
    have : xs = [] := by simpa using e1
    subst this
    exact eq_listAt (e := fun _ => true) (isList_of h1) (isList_of h2) rfl hu (fun j h1 => by simp at h1) ⟨H, S, q⟩
  | cons v r =>
    have hx := map_len e1
    exact eq_list_lengthsAt (isList_of h1) (isList_of h2) (by simp [hx]) hu ⟨H, S, q⟩
theorem CmpOk.neNil {l r : Addr} {vs : List Value} (hl : H l = some (.list vs)) (hr : H r = some (.list [])) (rem : 1 ≤ Γ.rem) : CmpOk fx Γ H m .NotEq (.ref l) (.ref r) (!vs.isEmpty) := fun ra rb ha hb Q q s S => by
  obtain rfl := nz_ref ha; obtain rfl := nz_ref hb
  obtain ⟨xs, n, h1, e1⟩ := S.getList hl
  obtain ⟨ys, k, h2, e2⟩ := S.getList hr
  have hu : Γ.A.units < cLine := by have := S.ok.units; omega
  have : ys = [] := by simpa using e2
  subst this
  cases vs with
  | nil =>
    have : xs = [] := by simpa using e1
    subst this
    exact PySem.SeqAt.RcNeAt.lists (e := fun _ => true) (isList_of h1) (isList_of h2) rfl hu (fun j h1 => by simp at h1) _ _ _ _ ⟨H, S, q⟩
  | cons v r =>
    have hx := map_len e1
    exact PySem.SeqAt.RcNeAt.lists_lengths (isList_of h1) (isList_of h2) (by simp [hx]) hu _ _ _ _ ⟨H, S, q⟩
/-- ints and references: what is alike is equal -/
def plainV : Value → Bool
  | .int .. => true
  | .ref _ => true
  | _ => false
theorem CmpOk.neSame {l r : Addr} {vs : List Value} (hl : H l = some (.list vs)) (hr : H r = some (.list vs)) (hv : vs.all plainV = true) (rem : 1 ≤ Γ.rem) : CmpOk fx Γ H m .NotEq (.ref l) (.ref r) false := fun ra rb ha hb Q q s S => by
  obtain rfl := nz_ref ha; obtain rfl := nz_ref hb
  obtain ⟨xs, n, h1, e1⟩ := S.getList hl
  obtain ⟨ys, k, h2, e2⟩ := S.getList hr
  have hu : Γ.A.units < cLine := by have := S.ok.units; omega
  have hxy : xs.length = ys.length := by rw [map_len e1, map_len e2]
  refine PySem.SeqAt.RcNeAt.lists (e := fun _ => true) (isList_of h1) (isList_of h2) (by simp [hxy]) hu (fun j h1 h2 => ?_) _ _ _ _ ?_
  · simp only [List.size_toArray] at h1 h2
    have a1 : nz xs[j] = vs[j]'(by rw [← map_len e1]; exact h1) := by simp [← e1]
    have a2 : nz ys[j] = vs[j]'(by rw [← map_len e1]; exact h1) := by simp [← e2]
    have a3 : plainV (vs[j]'(by rw [← map_len e1]; exact h1)) = true := List.all_eq_true.mp hv _ (List.getElem_mem _)
    generalize vs[j]'(by rw [← map_len e1]; exact h1) = v at a1 a2 a3
    show EqAt _ _ xs[j] ys[j] true
    cases v with
    | int i t =>
      have b1 : nz xs[j] = .int i 0 := by cases q : xs[j] <;> rw [q] at a1 <;> simp [nz] at a1 ⊢; exact a1.1
      have b2 : nz ys[j] = .int i 0 := by cases q : ys[j] <;> rw [q] at a2 <;> simp [nz] at a2 ⊢; exact a2.1
      obtain ⟨t1, c1⟩ := nz_int b1
      obtain ⟨t2, c2⟩ := nz_int b2
      rw [c1, c2]
      have := EqAt.int_int (A := Γ.A.in1) (s := s) i t1 i t2
      simpa using this
    | ref a =>
      rw [nz_ref a1, nz_ref a2]
      exact EqAt.same _
    | _ => cases a3
  · have : (!(List.range xs.toArray.size).all fun _ => true) = false := by simp
    rw [this]; exact ⟨H, S, q⟩
/-- an int in a list of ints -/
theorem CmpOk.inL {l : Addr} {k : Int} {vs : List Int} (hl : H l = some (.list (vs.map I))) : CmpOk fx Γ H m .In (I k) (.ref l) (vs.any (· == k)) := fun ra rb ha hb Q q s S => by
  obtain ⟨t, rfl⟩ := nz_int ha; obtain rfl := nz_ref hb
  obtain ⟨xs, n, h1, e1⟩ := S.getList hl
  have key : ∀ (xs : List Value) (vs : List Int), xs.map nz = vs.map I → (∀ y ∈ xs, ∃ j u, y = .int j u) ∧ (xs.any fun v => match v with | .int j _ => j == k | _ => false) = vs.any (· == k) := by
    intro xs
    induction xs with
    | nil => intro vs e; cases vs with | nil => exact ⟨by simp, rfl⟩ | cons _ _ => cases e
    | cons x r ih =>
      intro vs e
      cases vs with
      | nil => cases e
      | cons j js =>
        simp only [List.map_cons, List.cons.injEq] at e
        obtain ⟨u, rfl⟩ := nz_int e.1
        obtain ⟨i1, i2⟩ := ih js e.2
        refine ⟨fun y hy => ?_, ?_⟩
        · rcases List.mem_cons.mp hy with rfl | hy
          · exact ⟨j, u, rfl⟩
          · exact i1 y hy
        · rw [List.any_cons, List.any_cons, i2]
  obtain ⟨k1, k2⟩ := key xs vs e1
  refine in_listAt (fun v => match v with | .int j _ => j == k | _ => false) (isList_of h1) (fun y hy => ?_) ⟨H, S, ?_⟩
  · obtain ⟨j, u, rfl⟩ := k1 y (by simpa using hy)
    exact EqAt.int_int j u k t
  · rw [List.any_toArray, k2]; exact q
end
end Mine
end

section -- JM
open PySem PySem.W PySem.Calls PyProof.Rows PySem.SeqAt
set_option Elab.async false
set_option maxRecDepth 100000
set_option linter.unusedVariables false
namespace Mine
variable {prog : Program} {KF : Params → Frag}

section
variable {fx : Fx prog KF} {Γ Γ' : Amb} {H H' : OH} {m m' : Loc} {s s' : Shared}

theorem IsIobj (S : St fx Γ H m s) {d : Addr} {kvs : List (Int × Value)} (hd : H d = some (.idict kvs)) : ∃ ob, s.heap.get? d = some ob ∧ ob.cls = .type "dict" ∧ ob.dict = none := by
  obtain ⟨ks, ⟨o, es, ep, ho, he, _⟩, em⟩ := S.own _ _ hd
  exact ⟨o, ho, he.1, he.2.1⟩
/-- d.get(e) -/
theorem JV.getE {o e : Expr} {apos pos : Pos} {pl : Sem Bool} {Q : Value → OH → Prop}
    (h : JV fx Γ H m (eval o Γ.env) fun ov H₁ => ∃ d kvs, ov = .ref d ∧ H₁ d = some (.idict kvs) ∧ JV fx Γ H₁ m (eval e Γ.env) fun v H₂ => ∃ k kvs₂, v = I k ∧ H₂ d = some (.idict kvs₂) ∧ Q ((valueAt kvs₂ k).getD .none) H₂)
    (he : eval (.Call (.Attribute o "get" apos) [e] [] pos) Γ.env = (do
      let ov ← eval o Γ.env
      standAt apos.atName
      let (f, first) ← holding [ov] (PySem.getMethod ov "get" pl)
      PySem.callWith pos f first (backTo pos (starEach [e] Γ.env)) (backToKw pos (keywordEach [] Γ.env))) := by rfl)
    (ht : backTo pos (starEach [e] Γ.env) = [(false, eval e Γ.env)] := by rfl) :
    JV fx Γ H m (eval (.Call (.Attribute o "get" apos) [e] [] pos) Γ.env) Q :=
  JV.methB1 F.plainAttrs_dict F.slot_dict_get F.type_dict_get (h.mono fun ov H₁ ⟨d, kvs, e₁, hd, q⟩ => ⟨d, e₁, fun s₁ S₁ => IsIobj S₁ hd, fun s₁ S₁ => by
    refine wpAny_dict_get1 (knd := intKind prog fx.w) (S₁.ns_mod hd) (q.run S₁ fun v H₂ s₂ S₂ ⟨k, kvs₂, ev, hd₂, q₂⟩ => ?_)
    obtain ⟨t, rfl⟩ := nz_int ev
    obtain ⟨ks, hk, em⟩ := S₂.own _ _ hd₂
    refine ⟨k, _, intKind_is prog fx.w k t, hk.mapOf, H₂, S₂.tok _, ?_⟩
    have e := pairs_get em k
    have e2 : nz ((valueAt ks k).getD .none) = (valueAt kvs₂ k).getD .none := by rw [← e]; cases valueAt ks k <;> rfl
    rw [e2]; exact q₂⟩) he ht

-- dict displays
theorem JV.dictI1 {k₁ v₁ : Expr} {pos : Pos} {Q : Value → OH → Prop}
    (h : ∀ d, H d = none → JV fx Γ (upd H d (.idict [])) m (eval k₁ Γ.env) fun kv H₁ => JV fx Γ H₁ m (eval v₁ Γ.env) fun vv H₂ => ∃ k, kv = I k ∧ H₂ d = some (.idict []) ∧ Q (.ref d) (upd H₂ d (.idict [(k, vv)]))) :
    JV fx Γ H m (eval (.Dict [some k₁] [v₁] pos) Γ.env) Q := fun s S => by
  refine wpAny_Dict_walk (knd := intKind prog fx.w) rfl rfl (by simp) (by simp) ?_
  have S₁ : St fx Γ (upd H s.heap.objs.size (.idict [])) m { s with heap := s.heap.push { cls := .type "dict", data := .dict #[] }, toks := s.toks } :=
    S.new (fun b o e => Heap.get?_push_of_some _ e) (Nat.le_refl _) (show Holds prog fx.w _ _ (.idict _) from ⟨[], Heap.DictOf.new _, rfl⟩)
  refine pairTrees_cons_walk ((h _ (S.fresh (Nat.le_refl _)).1).run S₁ fun kv H₁ s₁ S₁' h₁ => h₁.run S₁' fun vv H₂ s₂ S₂ ⟨k, ek, hd, q⟩ => pairTrees_nil_walk ?_)
  obtain ⟨t, rfl⟩ := nz_int ek
  obtain ⟨ks, hk, em⟩ := S₂.own _ _ hd
  have : ks = [] := by simpa using em
  subst this
  exact ⟨[(k, vv)], ⟨intKind_is prog fx.w k t, rfl, trivial⟩, hk, fun h' hk' hs => ⟨_, S₂.put hd ((S₂.own _ _ hd).notTup rfl (fun o e => by cases e)) hs.extBut (show Holds prog fx.w _ _ (.idict _) from ⟨_, hk', rfl⟩), q⟩⟩
theorem JV.dictS2 {k₁ v₁ k₂ v₂ : Expr} {pos : Pos} {Q : Value → OH → Prop}
    (h : ∀ d, H d = none → JV fx Γ (upd H d (.sdict [])) m (eval k₁ Γ.env) fun kv₁ H₁ => JV fx Γ H₁ m (eval v₁ Γ.env) fun vv₁ H₂ => JV fx Γ H₂ m (eval k₂ Γ.env) fun kv₂ H₃ => JV fx Γ H₃ m (eval v₂ Γ.env) fun vv₂ H₄ =>
      ∃ x₁ x₂, kv₁ = .str x₁ 0 ∧ kv₂ = .str x₂ 0 ∧ x₁ ≠ x₂ ∧ H₄ d = some (.sdict []) ∧ Q (.ref d) (upd H₄ d (.sdict [(x₁, vv₁), (x₂, vv₂)]))) :
    JV fx Γ H m (eval (.Dict [some k₁, some k₂] [v₁, v₂] pos) Γ.env) Q := fun s S => by
  refine wpAny_Dict_walk (knd := strKind prog fx.w) rfl rfl (by simp) (by simp) ?_
  have S₁ : St fx Γ (upd H s.heap.objs.size (.sdict [])) m { s with heap := s.heap.push { cls := .type "dict", data := .dict #[] }, toks := s.toks } :=
    S.new (fun b o e => Heap.get?_push_of_some _ e) (Nat.le_refl _) (show Holds prog fx.w _ _ (.sdict _) from ⟨[], Heap.DictOf.new _, rfl⟩)
  refine pairTrees_cons_walk ((h _ (S.fresh (Nat.le_refl _)).1).run S₁ fun kv H₁ s₁ S₁' h₁ => h₁.run S₁' fun vv H₂ s₂ S₂ h₂ => pairTrees_cons_walk (h₂.run S₂ fun kv₂ H₃ s₃ S₃ h₃ => h₃.run S₃ fun vv₂ H₄ s₄ S₄ ⟨x₁, x₂, ek₁, ek₂, ne, hd, q⟩ => pairTrees_nil_walk ?_))
  obtain ⟨t₁, rfl⟩ := nz_str ek₁
  obtain ⟨t₂, rfl⟩ := nz_str ek₂
  obtain ⟨ks, hk, em⟩ := S₄.own _ _ hd
  have : ks = [] := by simpa using em
  subst this
  refine ⟨[(x₁, vv), (x₂, vv₂)], ⟨strKind_is prog fx.w x₁ t₁, rfl, strKind_is prog fx.w x₂ t₂, rfl, trivial⟩, hk, fun h' hk' hs => ⟨_, S₄.put hd ((S₄.own _ _ hd).notTup rfl (fun o e => by cases e)) hs.extBut (show Holds prog fx.w _ _ (.sdict _) from ⟨_, hk', ?_⟩), q⟩⟩
  simp [merged, stored, ne]

-- a dict whose keys are tuples of ints
theorem itemsAre {w : World} : ∀ {xs : List Value} {ks : List Int}, xs.map nz = ks.map I → ItemsAre (intKind prog w) ks xs
  | [], [], _ => .nil
  | [], _ :: _, e => by cases e
  | _ :: _, [], e => by cases e
  | x :: r, k :: q, e => by
    simp only [List.map_cons, List.cons.injEq] at e
    obtain ⟨t, rfl⟩ := nz_int e.1
    exact .cons (intKind_is prog w k t) (itemsAre e.2)
theorem isTupleKey (S : St fx Γ H m s) {a : Addr} {ks : List Int} (ha : H a = some (.tup (ks.map I))) : (tupleKind (intKind prog fx.w)).is s.heap ks a := by
  obtain ⟨xs, n, hx, em⟩ := S.getTup ha
  exact ⟨_, xs.toArray, n, hx, rfl, rfl, by simpa using itemsAre em⟩
theorem atKey_get {K : Type} [DecidableEq K] {xs : List (K × Addr × Value)} {kvs : List (K × Value)} (e : xs.map (fun p => (p.1, nz p.2.2)) = kvs) (k : K) : (atKey xs k).map (fun p => nz p.2) = valueAt kvs k := by
  subst e
  unfold atKey valueAt
  induction xs with
  | nil => rfl
  | cons p r ih =>
    simp only [List.map_cons, List.find?_cons]
    by_cases h : p.1 = k
    · simp [h]
    · simp only [h, decide_false]; exact ih
theorem storedH_map {K : Type} [DecidableEq K] {xs : List (K × Addr × Value)} {kvs : List (K × Value)} (e : xs.map (fun p => (p.1, nz p.2.2)) = kvs) (k : K) (a : Addr) (v : Value) : (storedH xs k a v).map (fun p => (p.1, nz p.2.2)) = stored kvs k (nz v) := by
  have h1 : (atKey xs k).isSome = kvs.any (fun kv => kv.1 = k) := by
    subst e
    unfold atKey
    rw [Option.isSome_map, List.any_map, Bool.eq_iff_iff, List.find?_isSome, List.any_eq_true]
    simp
  unfold storedH stored
  rw [h1]
  split
  · subst e
    simp only [List.map_map]
    refine List.map_congr_left fun p _ => ?_
    simp only [Function.comp]
    unfold putAt
    by_cases q : p.1 = k <;> simp [q]
  · subst e; simp
theorem CmpOk.notInT {a d : Addr} {ks : List Int} {kvs : List (List Int × Value)} (ha : H a = some (.tup (ks.map I))) (hd : H d = some (.tdict kvs)) (rem : 1 ≤ Γ.rem) : CmpOk fx Γ H m .NotIn (.ref a) (.ref d) (!(valueAt kvs ks).isSome) := fun ra rb ha' hb Q q s S => by
  obtain rfl := nz_ref ha'; obtain rfl := nz_ref hb
  obtain ⟨xs, hk, em⟩ := S.own _ _ hd
  have e : (atKey xs ks).isSome = (valueAt kvs ks).isSome := by rw [← atKey_get em ks]; simp
  refine wpAny_notIn_heap (knd := tupleKind (intKind prog fx.w)) (tupleKind_room_in1 (by have := S.ok.units; omega)) (isTupleKey S ha) (S.ns_mod hd) hk ⟨H, S.tok _, ?_⟩
  rw [e]; exact q
theorem JV.itemTd {value slice pos} {Q : Value → OH → Prop}
    (h : JV fx Γ H m (eval value Γ.env) fun o H₁ => JV fx Γ H₁ m (eval slice Γ.env) fun i H₂ => ∃ d a kvs ks v, o = .ref d ∧ i = .ref a ∧ H₂ d = some (.tdict kvs) ∧ H₂ a = some (.tup (ks.map I)) ∧ valueAt kvs ks = some v ∧ 1 ≤ Γ.rem ∧ Q v H₂)
    (hs : PlainSub slice := by intro _ _; with_unfolding_all rfl) : JV fx Γ H m (eval (.Subscript value slice pos) Γ.env) Q :=
  JV.item (h.mono fun o H₁ h₁ => h₁.mono fun i H₂ hh ro ri ho hi s S => by
    obtain ⟨d, a, kvs, ks, v, eo, ei, hd, ha, hv, rem, q⟩ := hh
    obtain rfl := nz_ref (ho.trans eo); obtain rfl := nz_ref (hi.trans ei)
    obtain ⟨xs, hk, em⟩ := S.own _ _ hd
    have e := atKey_get em ks
    rw [hv] at e
    cases hx : atKey xs ks with
    | none => rw [hx] at e; cases e
    | some x =>
      rw [hx] at e
      obtain rfl : nz x.2 = v := Option.some.inj e
      exact tail_any hk.typeIs slot_dict_getitem.lookup (wpAny_getItem_heap (knd := tupleKind (intKind prog fx.w)) (tupleKind_room_in1 (by have := S.ok.units; omega)) (isTupleKey S ha) hk hx ⟨H₂, S.tok _, q⟩) (hs _ _))
theorem JS.putT {o i pos' value pos} {Q : Flow → OH → Loc → Prop}
    (h : JV fx Γ H m (eval value Γ.env) fun v H₁ => JV fx Γ H₁ m (eval o Γ.env) fun ov H₂ => JV fx Γ H₂ m (eval i Γ.env) fun iv H₃ =>
      ∃ d a kvs ks, ov = .ref d ∧ iv = .ref a ∧ H₃ d = some (.tdict kvs) ∧ H₃ a = some (.tup (ks.map I)) ∧ kvs.length ≤ sizeLine ∧ 1 ≤ Γ.rem ∧ Q .next (upd H₃ d (.tdict (stored kvs ks v))) m)
    (hs : swapsWith value (some (.Subscript o i pos')) pos.line Γ.env = pure false := by rfl) : JS fx Γ H m (exec (.Assign [.Subscript o i pos'] value pos) Γ.env) Q :=
  JS.assignSub (h.mono fun v H₁ h₁ => h₁.mono fun ov H₂ h₂ => h₂.mono fun iv H₃ hh rv ro ri hv ho hi s S => by
    obtain ⟨d, a, kvs, ks, eo, ei, hd, ha, hz, rem, q⟩ := hh
    obtain rfl := nz_ref (ho.trans eo); obtain rfl := nz_ref (hi.trans ei)
    obtain ⟨xs, hk, em⟩ := S.own _ _ hd
    have hl : xs.length = kvs.length := by rw [← em, List.length_map]
    refine wpAny_setItem_heap (knd := tupleKind (intKind prog fx.w)) (tupleKind_room_in1 (by have := S.ok.units; omega)) (isTupleKey S ha) hk (fun h' hk' hs' => ?_) (by omega)
    exact ⟨_, m, S.put hd ((S.own _ _ hd).notTup rfl (fun o e => by cases e)) hs'.extBut (show Holds prog fx.w _ _ (.tdict _) from ⟨_, hk', storedH_map em ks a rv⟩), by rw [hv]; exact q⟩) hs

-- a set of ints, and how many it holds
theorem firstMet_mem (val : Nat → Int) (i : Nat) (k : Int) : (firstMet val i).any (· == k) = true ↔ ∃ j, j < i ∧ val j = k := by
  rw [firstMet_any]
  simp only [List.any_map, List.any_eq_true, List.mem_range, Function.comp, beq_iff_eq]
theorem firstMet_len (val : Nat → Int) : ∀ (i : Nat), (∀ a b, a < i → b < i → val a = val b → a = b) → (firstMet val i).length = i
  | 0, _ => rfl
  | i + 1, h => by
    rw [firstMet_succ, step_length, firstMet_len val i fun a b ha hb => h a b (Nat.lt_succ_of_lt ha) (Nat.lt_succ_of_lt hb)]
    have : (firstMet val i).any (· == val i) = false := by
      rw [Bool.eq_false_iff]
      intro q
      obtain ⟨j, hj, e⟩ := (firstMet_mem val i _).mp q
      have := h j i (Nat.lt_succ_of_lt hj) (Nat.lt_succ_self _) e
      omega
    rw [this]; simp
theorem intsAre_of {xs : List Value} : ∀ {ns : List Int}, xs.map nz = ns.map I → IntsAre xs ns := by
  induction xs with
  | nil => intro ns e; cases ns with | nil => exact .nil | cons _ _ => cases e
  | cons x r ih =>
    intro ns e
    cases ns with
    | nil => cases e
    | cons k q =>
      simp only [List.map_cons, List.cons.injEq] at e
      obtain ⟨t, rfl⟩ := nz_int e.1
      exact .cons k t (ih e.2)
def IsSetObj (o : Obj) (n : Nat) : Prop := ∃ es ep t, o.ExactSet ∧ o.data = .set es ep t ∧ t.fits es.size = true ∧ es.size = n
/-- set(l), no int twice in l -/
theorem JV.setOf {l : Addr} {ns : List Int} {Q : Value → OH → Prop} (hl : H l = some (.list (ns.map I))) (hn : ns.Nodup) (hz : ns.length + 1 < scanBound) (h : ∀ a o, H a = none → IsSetObj o ns.length → Q (.ref a) (upd H a (.raw o))) :
    JV fx Γ H m (call (.type "set") [.ref l]) Q := fun s S => by
  obtain ⟨xs, n, hx, em⟩ := S.getList hl
  have hlen : xs.length = ns.length := by rw [map_len em, List.length_map]
  refine call_set_list (items := xs.toArray) (ns := ns) S.ok.handled (isList_of hx) (by simpa using intsAre_of em) (by simp only [List.size_toArray]; omega) fun h' tk hS hk => ?_
  obtain ⟨o, es, ep, t, ho, hex, hd, _, _, _, hf, hsz⟩ := hS
  have hfm : (firstMet (fun i => ns.getD i 0) xs.toArray.size).length = ns.length := by
    rw [List.size_toArray, hlen]
    refine firstMet_len _ _ fun a b ha hb e => ?_
    simp only [List.getD_eq_getElem?_getD, List.getElem?_eq_getElem ha, List.getElem?_eq_getElem hb, Option.getD_some] at e
    exact (List.getElem_inj hn).mp e
  exact ⟨_, S.new (tk := tk) (fun b o e => hk b o (Heap.lt_size e) e) (Nat.le_refl _) (show Holds prog fx.w _ _ (.raw o) from ho), h _ o (S.fresh (Nat.le_refl _)).1 ⟨es, ep, t, hex, hd, hf, by rw [hsz, hfm]⟩⟩
theorem JV.lenS {a : Addr} {o : Obj} {n : Nat} {Q : Value → OH → Prop} (ha : H a = some (.raw o)) (ho : IsSetObj o n) (hz : n < 2 ^ 60) (h : Q (I n) H) : JV fx Γ H m (call (.builtin "len") [.ref a]) Q := fun s S => by
  obtain ⟨es, ep, t, hex, hd, hf, rfl⟩ := ho
  exact call_len_set (S.own _ _ ha) hex hd hf (by omega) ⟨H, S.tok _, h⟩
end
end Mine
end

section -- JN
open PySem PySem.W PySem.Calls PyProof.Rows PySem.SeqAt
set_option Elab.async false
set_option maxRecDepth 100000
set_option linter.unusedVariables false
namespace Mine
variable {prog : Program} {KF : Params → Frag}

section
variable {fx : Fx prog KF} {Γ Γ' : Amb} {H H' : OH} {m m' : Loc} {s s' : Shared}

theorem nsL_put (name : Str) (hsh : Int) (t : Tok) (v : Value) (y : Str) : ∀ es : List DictEntry, StrKeysL es → nsL (putL name hsh (.str name t) v es) y = if y = name then some v else nsL es y
  | [], _ => by
    unfold putL nsL
    by_cases h : y = name
    · subst h; simp [Value.isStr]
    · simp [Value.isStr, h, Ne.symm h]
  | e :: r, hk => by
    obtain ⟨k, u, hku⟩ := hk e (.head _)
    have ih := nsL_put name hsh t v y r fun x hx => hk x (.tail _ hx)
    unfold nsL at ih
    unfold putL nsL
    by_cases h1 : k = name
    · subst h1
      have a1 : e.key.isStr k = true := by rw [hku]; simp [Value.isStr]
      rw [if_pos a1]
      by_cases h : y = k
      · subst h; simp [List.find?_cons, a1]
      · have a2 : e.key.isStr y = false := by rw [hku]; simp [Value.isStr, Ne.symm h]
        simp [List.find?_cons, a2, h]
    · have a1 : e.key.isStr name = false := by rw [hku]; simp [Value.isStr, h1]
      rw [if_neg (by rw [a1]; simp)]
      rw [List.find?_cons, List.find?_cons]
      by_cases h : y = k
      · subst h
        have a2 : e.key.isStr y = true := by rw [hku]; simp [Value.isStr]
        simp [a2, h1]
      · have a2 : e.key.isStr y = false := by rw [hku]; simp [Value.isStr, Ne.symm h]
        simp only [a2]
        exact ih
theorem putL_keys (name : Str) (hsh : Int) (t : Tok) (v : Value) : ∀ es : List DictEntry, StrKeysL es → StrKeysL (putL name hsh (.str name t) v es) ∧ (putL name hsh (.str name t) v es).length ≤ es.length + 1
  | [], _ => ⟨fun e he => by simp [putL] at he; subst he; exact ⟨_, _, rfl⟩, by simp [putL]⟩
  | e :: r, hk => by
    obtain ⟨i1, i2⟩ := putL_keys name hsh t v r fun x hx => hk x (.tail _ hx)
    unfold putL
    split
    · exact ⟨fun x hx => by rcases List.mem_cons.mp hx with rfl | hx; exact hk e (.head _); exact hk x (.tail _ hx), by simp⟩
    · exact ⟨fun x hx => by rcases List.mem_cons.mp hx with rfl | hx; exact hk _ (.head _); exact i1 x hx, by simp; omega⟩

def AttrSet (K : Frag) (C : Addr) (name : Str) : Prop := findIn K (.ref C) "__setattr__" = some (some (.builtin "object.__setattr__")) ∧ plainOver K C = true ∧ takerIn K C name = some none ∧ hasDictIn K C = true

theorem JU.setAttr {x C d : Addr} {fm : Loc} {n : Nat} {name : Str} {v : Value} {Q : OH → Loc → Prop} (h1 : H x = some (.inst C d)) (h2 : H d = some (.ns fm n)) (hk : AttrSet fx.K C name) (hn : n < 900)
    (h : Q (upd H d (.ns (updL fm name (nz v)) (n + 1))) m) : JU fx Γ H m (PySem.setAttr (.ref x) name v) Q := fun s S => by
  obtain ⟨sl, hx⟩ := S.own x _ h1
  obtain ⟨es, k, hd, hs, hf, hz⟩ := S.own d _ h2
  obtain ⟨k1, k2, k3, k4⟩ := hk
  have X := fx.X.keeps S.base
  have I' : InstAt s.heap x ⟨.ref C, some d, .plain, sl⟩ C (some (dictOf es k)) := ⟨hx, rfl, rfl, hd⟩
  refine set_plain X I' k1 (osa_open (s := { s with toks := s.toks + 1 }) X I' k2 k3 fun b => ?_)
  obtain ⟨cd, hc, hd'⟩ := any_some k4
  have X' : fx.K.In (Shared.heap { s with toks := s.toks + 1 }) := X
  dsimp only
  unfold Builtin.ObjectAttr.storeInOwnDict
  refine wpAny_bind (wpAny_pure (wpAny_bind (wpAny_bind (wpAny_loadPart hx (wpAny_bind ((looks_clsIn X' hc).here ?_))))))
  rw [hd']
  refine wpAny_pure (a := some d) (wpAny_bind (wpAny_pure (wpAny_bind ?_)))
  unfold nsSet
  refine wpAny_bind (wpAny_bind (wpAny_askSetting (wpAny_pure (wpAny_bind (wpAny_mkText (wpAny_bind (wpAny_loadPart hd ?_)))))))
  dsimp only
  have c : (!es.toArray.any (·.key.isStr name) && es.toArray.any (·.refKey)) = false := by
    have : es.toArray.any (·.refKey) = false := by
      rw [List.any_toArray, List.any_eq_false]
      intro e he
      obtain ⟨n, t, h1⟩ := hs e he
      simp [DictEntry.refKey, h1]
    rw [this, Bool.and_false]
  rw [aRefKeyMayBeTheName_at, c]
  refine wpAny_updatePart hd ?_
  have hput : (s.heap.update d (Obj.putName name (PyData.keyHash fx.w.params name) (.str name (s.toks + 1)) v)).get? d = some (dictOf (putL name (PyData.keyHash fx.w.params name) (.str name (s.toks + 1)) v es) (putN name es k)) := by
    rw [← putName_dict]
    exact Heap.get?_update_self _ hd (by rw [putName_dict]; rfl)
  obtain ⟨p1, p2⟩ := putL_keys name (PyData.keyHash fx.w.params name) (s.toks + 1) v es hs
  refine wpAny_bind (wpAny_lookBehind hput (pastItsLine_dict (by rw [List.size_toArray, sizeLine_eq]; omega)) ?_)
  refine wpAny_pure ?_
  refine ⟨_, m, S.put (tk := s.toks + 1 + 1) h2 ((S.own d _ h2).notTup rfl (fun o e => by cases e)) (Heap.SameBut.update ..).extBut (show Holds prog fx.w _ _ (.ns _ _) from ⟨_, _, hput, p1, fun y => ?_, by omega⟩), h⟩
  rw [nsL_put _ _ _ _ _ _ hs]
  unfold updL
  split
  · rfl
  · exact hf y

/-- o.attr = value -/
theorem JS.assignAttr {o value : Expr} {attr : Str} {pos' pos : Pos} {Q : Flow → OH → Loc → Prop}
    (h : JV fx Γ H m (eval value Γ.env) fun v H₁ => JV fx Γ H₁ m (eval o Γ.env) fun ov H₂ => ∃ x C d fm n, ov = .ref x ∧ H₂ x = some (.inst C d) ∧ H₂ d = some (.ns fm n) ∧ AttrSet fx.K C attr ∧ n < 900 ∧ Q .next (upd H₂ d (.ns (updL fm attr v) (n + 1))) m)
    (hs : swapsWith value (some (.Attribute o attr pos')) pos.line Γ.env = pure false := by with_unfolding_all rfl) : JS fx Γ H m (exec (.Assign [.Attribute o attr pos'] value pos) Γ.env) Q := fun s S =>
  plainObj_wpAny_Assign_Attribute (h.run S fun v H₁ s₁ S₁ h₁ => h₁.run S₁ fun ov H₂ s₂ S₂ hh => by
    obtain ⟨x, C, d, fm, n, eo, e1, e2, k, hn, q⟩ := hh
    obtain rfl := nz_ref eo
    exact (JU.setAttr (Q := fun H₃ m₃ => Q .next H₃ m₃) e1 e2 k hn q).run S₂ fun H₃ m₃ s₃ S₃ q₃ => ⟨H₃, m₃, S₃, q₃⟩) hs

/-- a call as the machine runs it -/
def JC (fx : Fx prog KF) (Γ : Amb) (H : OH) (m : Loc) (f : Value) (raws : List Value) (Q : Value → OH → Prop) : Prop :=
  ∀ s, St fx Γ H m s → ∀ R : Result → Shared → Prop, (∀ v H' s', St fx Γ H' m s' → Q (nz v) H' → R (.ok (.ret v)) s') → codeAny (model prog fx.w) Γ.A (.call f ⟨raws, []⟩) R s

theorem JC.fn {f : Addr} {raws : List Value} {Q : Value → OH → Prop} {name qual : Str} {params : Arguments} {body : List Stmt} {scope : Scope} {dV kV doc pm cdv ct oc : Value} {an od : Option Addr} {osl : Array (Option Value)} {binds : List (Str × Value)}
    (ho : fx.K.lookup f = some ⟨oc, od, .func (fnOf name qual params body scope dV kV doc pm an cdv ct), osl⟩) (hcd : codeIn fx.K cdv qual = true)
    (rem : 1 ≤ Γ.rem) (hbind : ∀ s, St fx Γ H m s → BindsTo s (fnOf name qual params body scope dV kV doc pm an cdv ct) ⟨raws, []⟩ binds) (hloc : ∀ y ∈ binds, scope.names.lookup y.1 = some .local)
    (hnd : (binds.map (·.1)).Nodup)
    (h : ∀ (A : Around) (L : Addr) (B : Addr → Option Obj), JS fx ⟨A, envOf qual scope L f cdv, B, Γ.rem - 1⟩ H (binding binds) (execs body (envOf qual scope L f cdv)) fun fl H₁ _ => Q (retOf fl) H₁)
    (hcell : ∀ x ∈ scope.names, x.2 ≠ .cell) (hco : scope.isCoroutine = false) (hgen : scope.isGenerator = false) (hk : scope.kind = .function) :
    JC fx Γ H m (.ref f) raws Q := fun s S R hR => by
  have X := fx.X.keeps S.base
  refine codeAny_call_def (fd := fnOf name qual params body scope dV kV doc pm an cdv ct) (body := body) (binds := binds) (by have := S.ok.depth; omega) (X _ _ ho) rfl (fx.lim.keeps S.base) (codeRec_of X hcd) rfl
    (hbind s S) hcell hloc (fun h₁ hns hk₁ => ?_) hco hgen hk
  have S₁ : St fx ⟨Γ.A.deeper (envOf qual scope s.heap.objs.size f cdv), envOf qual scope s.heap.objs.size f cdv, frozen s.heap (mine H), Γ.rem - 1⟩ H (binding binds) { s with heap := h₁, toks := s.toks + binds.length } := by
    refine ⟨⟨?_, ?_, S.ok.handled, hk, rfl, rfl⟩, fun b o e => hk₁ _ _ (S.base b o e), fun a ao e => (S.own a ao e).keep hk₁, fun a o e => hk₁ _ _ (frz_get e), ⟨_, hns, fun x v _ e => ?_⟩, fun x c e => (nomatch e), S.gens, S.os,
      fun a ao e => ⟨(S.sepH a ao e).1, Nat.ne_of_lt (S.lt e), frz_none (by simp [mine, e]), fun x c e => (nomatch e)⟩, ⟨S.size, frz_new (Nat.le_refl _), fun x c e => (nomatch e)⟩, fun x c e => (nomatch e)⟩
    · show Γ.A.depth + 1 + (Γ.rem - 1) < _; have := S.ok.depth; omega
    · show Γ.A.units + 3 + 12 * (Γ.rem - 1) < _; have := S.ok.units; omega
    · rw [lookup_reverse hnd]; exact e
  refine wpAny_mono (h _ _ _ _ S₁) (fun fl s' ⟨H', m', S', q⟩ => hR _ H' s' (S.back S' rfl) (by cases fl <;> exact q)) fun _ _ e => e.elim

/-- the same state, seen from under a piece of the machine -/
theorem St.under (S : St fx Γ H m s) {c : Code} (rem : 1 ≤ Γ.rem) (h1 : c.weight ≤ 1) (h2 : c.cUnits ≤ 12) : St fx { Γ with A := Γ.A.under c, rem := Γ.rem - 1 } H m s :=
  { S with ok := ⟨by show Γ.A.depth + c.weight + (Γ.rem - 1) < _; have := S.ok.depth; omega, by show Γ.A.units + c.cUnits + 12 * (Γ.rem - 1) < _; have := S.ok.units; omega, S.ok.handled, S.ok.kind, S.ok.glob, S.ok.bns⟩ }
theorem St.over {A' : Around} {r' : Nat} (hΓ : Γ.Ok) (S : St fx { Γ with A := A', rem := r' } H m s) : St fx Γ H m s := { S with ok := hΓ }

theorem type_call_weight (C : Addr) (rest : List Value) (kw : List (Str × Value)) : (Code.builtin "type.__call__" ⟨.ref C :: rest, kw⟩).weight ≤ 1 ∧ (Code.builtin "type.__call__" ⟨.ref C :: rest, kw⟩).cUnits ≤ 12 := by
  have h1 : (Code.builtin "type.__call__" ⟨.ref C :: rest, kw⟩).weight = 1 := by first | rfl | kernel_rfl
  have h2 : (Code.builtin "type.__call__" ⟨.ref C :: rest, kw⟩).cUnits = 1 := by first | rfl | kernel_rfl
  rw [h1, h2]; decide

/-- a new object of a class of the text's -/
theorem JV.make {C fI : Addr} {rest : List Value} {Q : Value → OH → Prop} (hm : makesIn fx.K C = true) (hi : findIn fx.K (.ref C) "__init__" = some (some (.ref fI))) (hf : isFn fx.K (.ref fI) = true) (rem : 1 ≤ Γ.rem)
    (h : ∀ x d (A' : Around), H x = none → H d = none → x ≠ d → JC fx { Γ with A := A', rem := Γ.rem - 1 } (upd (upd H d (.ns (fun _ => none) 0)) x (.inst C d)) m (.ref fI) (.ref x :: rest) fun v H₁ => v = .none ∧ Q (.ref x) H₁) :
    JV fx Γ H m (call (.ref C) rest) Q := fun s S => by
  have X := fx.X.keeps S.base
  refine wpAny_call ?_
  have S₁ : St fx Γ (upd H s.heap.objs.size (.ns (fun _ => none) 0)) m { s with heap := s.heap.push emptyDict, toks := s.toks } :=
    S.new (fun b o e => Heap.get?_push_of_some _ e) (Nat.le_refl _) (show Holds prog fx.w _ _ (.ns _ _) from ⟨[], 0, Heap.get?_push_size _ rfl, (fun e he => by cases he), (fun _ => rfl), Nat.le_refl _⟩)
  have hsz : (s.heap.push emptyDict).objs.size = s.heap.objs.size + 1 := Heap.size_push ..
  have S₂ : St fx Γ (upd (upd H s.heap.objs.size (.ns (fun _ => none) 0)) (s.heap.objs.size + 1) (.inst C s.heap.objs.size)) m { s with heap := (s.heap.push emptyDict).push (instObj C s.heap.objs.size), toks := s.toks } := by
    have := S₁.new (tk := s.toks) (h' := (s.heap.push emptyDict).push (instObj C s.heap.objs.size)) (ao := .inst C s.heap.objs.size) (fun b o e => Heap.get?_push_of_some _ e) (Nat.le_refl _) (show Holds prog fx.w _ _ (.inst _ _) from ⟨_, Heap.get?_push_size _ rfl⟩)
    dsimp only at this
    rw [hsz] at this
    exact this
  refine make_core (makes_of X hm) (looks_findIn X hi) (fun self => bind_fn X self (beq_iff_eq.mp hf)) (.inl rfl) ?_
  obtain ⟨w1, w2⟩ := type_call_weight C rest []
  refine h (s.heap.objs.size + 1) s.heap.objs.size _ (S.fresh (Nat.le_succ _)).1 (S.fresh (Nat.le_refl _)).1 (Nat.ne_of_gt (Nat.lt_succ_self _)) _ (S₂.under rem w1 w2) _ fun v H' s' S' ⟨ev, q⟩ => ?_
  exact ⟨nz_none ev, ⟨H', S'.over S.ok, q⟩⟩
end
end Mine
end

section -- JO
open PySem PySem.W PySem.Calls PyProof.Rows PySem.SeqAt
set_option Elab.async false
set_option maxRecDepth 100000
set_option linter.unusedVariables false
namespace Mine
variable {prog : Program} {KF : Params → Frag}

theorem list_no_keys : typeLookup (.type "list") "keys" = pure none := by rw [typeLookup_type, builtinLookup_eq_fast]; kernel_rfl
theorem entry_dict_update_loop : entryFor table "dict.update.loop" = some Builtin.«dict.update.loop» := entryFor_of_tree (by kernel_rfl)
theorem plain_dict_update_loop : plainId "dict.update.loop" = true := by decide +kernel

set_option maxHeartbeats 4000000 in
theorem keys_miss {w : World} {A : Around} {E : Value → Shared → Prop} {s : Shared} {a : Addr} {xs : Array Value} {k : Nat} {Q : Option Value → Shared → Prop}
    (hx : s.heap.get? a = some ⟨.type "list", none, .seq xs k, #[]⟩) (hA : A.handled = none)
    (h : ∀ h' tk, (∀ b o, s.heap.get? b = some o → h'.get? b = some o) → Q none { s with heap := h', toks := tk }) : wpAny (model prog w) A (getAttr? (.ref a) "keys") Q E s := by
  obtain ⟨hp, g, d, tk, os⟩ := s
  have hT : ∀ tk', (⟨hp, g, d, tk', os⟩ : Shared).TypeIs (.ref a) "list" := fun _ => ⟨_, hx, rfl⟩
  have f1 := sub_AttributeError
  have f3 := PySem.F.slot_list_getattribute.lookup
  have f4 := PySem.F.slot_list_getattribute.bind (.ref a)
  have f5 := am_list_getattr_none
  unfold getAttr? getAttrBy? getAttrBy
  repeat (any_goals (first | assumption | exact hT _ | ((with_reducible show wpAny _ _ (call (Value.builtin "list.__getattribute__") _ _) _ _ _); refine call_meets PySem.F.slot_list_getattribute (hT _) am_entry_list_getattribute (PySem.F.args_list_getattribute_2 _ _) (meets_getattribute_miss_list a xs k #[] "keys" _ list_no_keys (by decide)) ⟨hx, hA, fun h' tk' e hx' => ?_⟩) | wp_step))
  obtain ⟨t', u', he⟩ := hx'.there
  show wpAny _ _ (getattributeRaised _ _ _ _ _ _ _) _ _ _
  unfold getattributeRaised
  repeat (any_goals (first | assumption | wp_step))
  exact h _ _ hx'.keeps

/-- the pairs of a list are laid into a dict, one by one -/
theorem dict_pairs_loop {w : World} {A : Around} {R : Result → Shared → Prop} {d J l : Addr} {xs : List Value} {nl : Nat} {ps : List (Int × Value)} (hh : A.handled = none) (hJd : J ≠ d) (hld : l ≠ d) (hlJ : l ≠ J) (hlen : ps.length = xs.length) (hz : ps.length ≤ sizeLine) :
    ∀ (k i : Nat) (s : Shared) (kvs : List (Int × Value)), i + k = xs.length → s.heap.IsListIter J l i → s.heap.get? l = some ⟨.type "list", none, .seq xs.toArray nl, #[]⟩ → s.heap.DictOf (intKind prog w) d kvs → kvs.length ≤ i →
      (∀ j x, i ≤ j → xs[j]? = some x → ∃ t key n p, x = .ref t ∧ t ≠ d ∧ t ≠ J ∧ ps[j]? = some p ∧ (intKind prog w).is p.1 key = true ∧ s.heap.get? t = some ⟨.type "tuple", none, .seq #[key, p.2] n, #[]⟩) →
      (∀ h' tk, h'.DictOf (intKind prog w) d (merged kvs (ps.drop i)) → (∀ b o, b ≠ d → b ≠ J → s.heap.get? b = some o → h'.get? b = some o) → R (.ok (.ret .none)) { s with heap := h', toks := tk }) →
      codeAny (model prog w) A (.builtin "dict.update.loop" ⟨[.ref d, .ref J, .int i 0, .none], []⟩) R s
  | 0, i, s, kvs, hk, hit, hl, hd, hkl, hx, hR => by
    refine codeAny_builtin entry_dict_update_loop ?_
    rw [Around.under_plainId plain_dict_update_loop _]
    show wpAny _ A.in1 (pyNext (.ref J) >>= _) _ _ s
    refine wpAny_bind (wpAny_pyNext_list_end hh hit ⟨_, hl, rfl, _, rfl⟩ (by simp; omega) fun h' he => ?_)
    show wpAny _ A.in1 (PySem.Builtin.Dict.addKeywords d [] >>= fun _ => ret Value.none) _ _ _
    refine wpAny_bind (wpAny_pure (wpAny_pure ?_))
    have : ps.drop i = [] := List.drop_eq_nil_of_le (by omega)
    rw [this] at hR
    obtain ⟨o, es, ep, ho, r⟩ := hd
    exact hR h' _ ⟨o, es, ep, he _ _ (Ne.symm hJd) ho, r⟩ fun b o _ hb e => he b o hb e
  | k + 1, i, s, kvs, hk, hit, hl, hd, hkl, hx, hR => by
    have hi : i < xs.length := by omega
    refine codeAny_builtin entry_dict_update_loop ?_
    rw [Around.under_plainId plain_dict_update_loop _]
    show wpAny _ A.in1 (pyNext (.ref J) >>= _) _ _ s
    refine wpAny_bind (wpAny_pyNext_list_item hit ⟨_, hl, rfl, _, rfl⟩ (x := xs[i]) (by simp [hi]) fun h₁ hit₁ hs₁ => ?_)
    obtain ⟨t, key, n, p, ex, htd, htJ, hp, hkey, ht⟩ := hx i xs[i] (Nat.le_refl _) (by simp [hi])
    rw [ex]
    have ht₁ := hs₁.extBut _ _ htJ ht
    have hd₁ : h₁.DictOf (intKind prog w) d kvs := by obtain ⟨o, es, ep, ho, r⟩ := hd; exact ⟨o, es, ep, hs₁.extBut _ _ (Ne.symm hJd) ho, r⟩
    have hT : Shared.TypeIs { s with heap := h₁ } (.ref t) "tuple" := ⟨_, ht₁, rfl⟩
    show wpAny _ A.in1 (holding [Value.ref t] _ >>= _) _ _ _
    refine wpAny_bind (wpAny_holding ?_)
    refine wpAny_bind (wpAny_tryCatch ?_)
    show wpAny _ A.in1 (PySem.Builtin.Dict.pairItems (.ref t)) _ _ _
    unfold PySem.Builtin.Dict.pairItems
    refine wpAny_bind (wpAny_typeOf hT ?_)
    simp only [show (Value.type "tuple" == Value.type "list") = false from by decide, show (Value.type "tuple" == Value.type "tuple") = true from by decide, Bool.false_or, if_true]
    refine wpAny_bind (wpAny_seqItems ht₁ rfl (wpAny_pure ?_))
    show wpAny _ A.in1 (holding [key, p.2] (dictSet d key p.2)) _ _ _
    refine wpAny_holding (wpAny_dictSet_pairs hkey hd₁ (fun h₂ hd₂ hs₂ => ?_) (by omega))
    have hJ₂ : h₂.IsListIter J l (i + 1) := hit₁.extBut hs₂.extBut hJd
    have hl₂ := hs₂.extBut _ _ hld (hs₁.extBut _ _ hlJ hl)
    have hdrop : ps.drop i = p :: ps.drop (i + 1) := by
      obtain ⟨h1, h2⟩ := List.getElem?_eq_some_iff.mp hp
      rw [List.drop_eq_getElem_cons h1, h2]
    refine wpAny_pure ⟨plainId_quiet plain_dict_update_loop _, ?_⟩
    have hlen2 : (stored kvs p.1 p.2).length ≤ i + 1 := by
      have := merged_length_le kvs [p]
      simp only [merged, List.foldl_cons, List.foldl_nil, List.length_singleton] at this
      omega
    have ih := dict_pairs_loop hh hJd hld hlJ hlen hz k (i + 1) { s with heap := h₂, toks := s.toks + 1 } (stored kvs p.1 p.2) (by omega) hJ₂ hl₂ hd₂ hlen2 (R := R)
    refine ih (fun j x hj hxj => ?_) (fun h' tk hd' hk' => ?_)
    · obtain ⟨t', key', n', p', e1, e2, e3, e4, e5, e6⟩ := hx j x (by omega) hxj
      exact ⟨t', key', n', p', e1, e2, e3, e4, e5, hs₂.extBut _ _ e2 (hs₁.extBut _ _ e3 e6)⟩
    · refine hR h' tk ?_ fun b o h1 h2 e => hk' b o h1 h2 (hs₂.extBut b o h1 (hs₁.extBut b o h2 e))
      rw [hdrop]; exact hd'
end Mine
end

section -- JP
open PySem PySem.W PySem.Calls PyProof.Rows PySem.SeqAt
set_option Elab.async false
set_option maxRecDepth 100000
set_option linter.unusedVariables false
namespace Mine
variable {prog : Program} {KF : Params → Frag}

section
variable {fx : Fx prog KF} {Γ Γ' : Amb} {H H' : OH} {m m' : Loc} {s s' : Shared}

theorem merged_nz (f : Int × Value → Int × Value) (hf : ∀ p, f p = (p.1, nz p.2)) : ∀ (ps kvs : List (Int × Value)), (merged kvs ps).map f = merged (kvs.map f) (ps.map f)
  | [], _ => rfl
  | p :: r, kvs => by
    have e : f = fun p => (p.1, nz p.2) := funext hf
    show (merged (stored kvs p.1 p.2) r).map f = merged (stored (kvs.map f) (f p).1 (f p).2) (r.map f)
    rw [merged_nz f hf r]
    congr 1
    rw [hf p]
    rw [e]
    exact pairs_stored rfl p.1 p.2

/-- dict(l), l a list of pairs -/
theorem JV.dictOf {l : Addr} {as : List Addr} {ps : List (Int × Value)} {Q : Value → OH → Prop} (hl : H l = some (.list (as.map .ref))) (hlen : as.length = ps.length) (hz : ps.length ≤ sizeLine)
    (hp : ∀ (j : Nat) (a : Addr) (p : Int × Value), as[j]? = some a → ps[j]? = some p → H a = some (.tup [I p.1, p.2])) (h : ∀ d, H d = none → Q (.ref d) (upd H d (.idict (merged [] ps)))) :
    JV fx Γ H m (call (.type "dict") [.ref l]) Q := fun s S => by
  obtain ⟨xs, nl, hx, em⟩ := S.getList hl
  have hxl : xs.length = ps.length := by rw [map_len em, List.length_map, hlen]
  have hxs : xs = as.map .ref := by
    have : ∀ (xs : List Value) (as : List Addr), xs.map nz = as.map .ref → xs = as.map .ref := by
      intro xs
      induction xs with
      | nil => intro as e; cases as with | nil => rfl | cons _ _ => cases e
      | cons x r ih =>
        intro as e
        cases as with
        | nil => cases e
        | cons a q =>
          simp only [List.map_cons, List.cons.injEq] at e ⊢
          exact ⟨nz_ref e.1, ih q e.2⟩
    exact this xs as em
  have hd0 := S.fresh (Nat.le_refl _)
  have hlne : l ≠ s.heap.objs.size := by rintro rfl; rw [hd0.1] at hl; cases hl
  -- the raw pairs
  have raw : ∃ rs : List (Int × Value), rs.map (fun p => (p.1, nz p.2)) = ps ∧ ∀ (j : Nat) (a : Addr), as[j]? = some a → ∃ key n p, rs[j]? = some p ∧ (intKind prog fx.w).is p.1 key = true ∧ s.heap.get? a = some ⟨.type "tuple", none, .seq #[key, p.2] n, #[]⟩ := by
    have gen : ∀ (as : List Addr) (ps : List (Int × Value)), as.length = ps.length → (∀ (j : Nat) (a : Addr) (p : Int × Value), as[j]? = some a → ps[j]? = some p → H a = some (.tup [I p.1, p.2])) →
        ∃ rs : List (Int × Value), rs.map (fun p => (p.1, nz p.2)) = ps ∧ ∀ (j : Nat) (a : Addr), as[j]? = some a → ∃ key n p, rs[j]? = some p ∧ (intKind prog fx.w).is p.1 key = true ∧ s.heap.get? a = some ⟨.type "tuple", none, .seq #[key, p.2] n, #[]⟩ := by
      intro as
      induction as with
      | nil => intro ps e _; cases ps with | nil => exact ⟨[], rfl, fun j a e => by simp at e⟩ | cons _ _ => cases e
      | cons a r ih =>
        intro ps e hq
        cases ps with
        | nil => cases e
        | cons p q =>
          obtain ⟨rs, e1, e2⟩ := ih q (by simpa using e) fun j a p h1 h2 => hq (j + 1) a p (by simpa using h1) (by simpa using h2)
          obtain ⟨ys, n, hy, ey⟩ := S.getTup (hq 0 a p rfl rfl)
          obtain ⟨u, v, rfl, eu, ev⟩ := tup2 ey
          obtain ⟨t, rfl⟩ := nz_int eu
          refine ⟨(p.1, v) :: rs, by simp [e1, ev], fun j b hj => ?_⟩
          cases j with
          | zero => simp at hj; subst hj; exact ⟨.int p.1 t, n, (p.1, v), rfl, intKind_is prog fx.w p.1 t, hy⟩
          | succ j => simp at hj; obtain ⟨key, n, p', h1, h2, h3⟩ := e2 j b hj; exact ⟨key, n, p', by simpa using h1, h2, h3⟩
    exact gen as ps hlen hp
  obtain ⟨rs, ers, hrs⟩ := raw
  have hrl : rs.length = xs.length := by rw [hxl, ← ers, List.length_map]
  refine callType_codes (Q₁ := fun obj s₁ => obj = .ref s.heap.objs.size ∧ s₁ = { s with heap := s.heap.push { cls := .type "dict", data := .dict #[] } }) PySem.F.kt_called_dict (PySem.F.kt_typeCall_dict_1 _) PySem.F.entry_dict_init (kt_code_dict_new _ ⟨rfl, rfl⟩) ?_
  rintro obj s₁ ⟨rfl, rfl⟩
  have hnew : (s.heap.push { cls := .type "dict", data := .dict #[] }).DictOf (intKind prog fx.w) s.heap.objs.size [] := Heap.DictOf.new s.heap
  have hl₁ : (s.heap.push { cls := .type "dict", data := .dict #[] }).get? l = some ⟨.type "list", none, .seq xs.toArray nl, #[]⟩ := Heap.get?_push_of_some _ hx
  have hT : Shared.TypeIs { s with heap := s.heap.push { cls := .type "dict", data := .dict #[] } } (.ref l) "list" := ⟨_, hl₁, rfl⟩
  refine ⟨hnew.typeIs, PySem.F.args_dict_init_2 _ _, ?_⟩
  unfold Builtin.«dict.__init__»
  refine wpAny_bind ?_
  unfold Builtin.Dict.selfAndRest
  refine wpAny_bind (wpAny_notOrdered_dict hnew.typeIs ?_)
  show wpAny _ _ (pure (s.heap.objs.size, [Value.ref l])) _ _ _
  refine wpAny_pure ?_
  show wpAny _ _ (Builtin.Dict.updateFrom "dict.__init__" s.heap.objs.size (.ref l) [] .none) _ _ _
  unfold Builtin.Dict.updateFrom
  refine wpAny_bind (wpAny_typeOf hT ?_)
  rw [if_pos (by decide)]
  refine wpAny_bind (keys_miss hl₁ S.ok.handled fun h₂ tk₂ hk₂ => ?_)
  rw [if_pos (by rfl)]
  refine wpAny_bind (wpAny_rule ?_)
  have hl₂ := hk₂ _ _ hl₁
  refine wpAny_bind (wpAny_pyIter_list ⟨_, hl₂, rfl, _, rfl⟩ ?_)
  dsimp only
  have hsz₁ : (s.heap.push { cls := .type "dict", data := .dict #[] }).objs.size = s.heap.objs.size + 1 := Heap.size_push ..
  have hdlt : s.heap.objs.size < h₂.objs.size := by
    obtain ⟨o, es, ep, ho, _⟩ := hnew
    exact Heap.lt_size (hk₂ _ _ ho)
  have hllt : l < h₂.objs.size := Heap.lt_size hl₂
  refine wpAny_pure ⟨plainId_quiet plain_dict_update_loop _, ?_⟩
  refine dict_pairs_loop (prog := prog) (w := fx.w) (d := s.heap.objs.size) (J := h₂.objs.size) (l := l) (xs := xs) (nl := nl) (ps := rs) (by simpa using S.ok.handled) (Nat.ne_of_gt hdlt) hlne (Nat.ne_of_lt hllt) hrl (by rw [hrl, hxl]; exact hz) xs.length 0 _ [] (by omega) ⟨_, Heap.get?_push_size _ rfl, rfl, rfl⟩ (Heap.get?_push_of_some _ hl₂) ?_ (Nat.le_refl _) ?_ ?_
  · obtain ⟨o, es, ep, ho, r⟩ := hnew
    exact ⟨o, es, ep, Heap.get?_push_of_some _ (hk₂ _ _ ho), r⟩
  · intro j x _ hj
    rw [hxs, List.getElem?_map] at hj
    cases q : as[j]? with
    | none => rw [q] at hj; cases hj
    | some a =>
      rw [q] at hj
      obtain rfl : Value.ref a = x := Option.some.inj hj
      obtain ⟨key, n, p, h1, h2, h3⟩ := hrs j a q
      have hlt := Heap.lt_size h3
      exact ⟨a, key, n, p, rfl, Nat.ne_of_lt hlt, Nat.ne_of_lt (Nat.lt_trans hlt hdlt), h1, h2, Heap.get?_push_of_some _ (hk₂ _ _ (Heap.get?_push_of_some _ h3))⟩
  · intro h' tk hd' hk'
    have keep : ∀ b o, s.heap.get? b = some o → h'.get? b = some o := fun b o e => by
      have hlt := Heap.lt_size e
      exact hk' b o (Nat.ne_of_lt hlt) (Nat.ne_of_lt (Nat.lt_trans hlt hdlt)) (Heap.get?_push_of_some _ (hk₂ _ _ (Heap.get?_push_of_some _ e)))
    refine ⟨rfl, _, S.new (tk := tk) keep (Nat.le_refl _) (show Holds prog fx.w _ _ (.idict _) from ⟨_, hd', ?_⟩), h _ hd0.1⟩
    rw [merged_nz _ (fun _ => rfl), List.drop_zero, ers]; rfl

def itemsObj (d : Addr) : Obj := { cls := .type "dict_items", data := .fields #[.ref d] }
/-- d.items() -/
theorem JV.itemsE {o : Expr} {apos pos : Pos} {pl : Sem Bool} {Q : Value → OH → Prop}
    (h : JV fx Γ H m (eval o Γ.env) fun ov H₁ => ∃ d kvs, ov = .ref d ∧ H₁ d = some (.idict kvs) ∧ ∀ v, H₁ v = none → Q (.ref v) (upd H₁ v (.raw (itemsObj d))))
    (he : eval (.Call (.Attribute o "items" apos) [] [] pos) Γ.env = (do
      let ov ← eval o Γ.env
      standAt apos.atName
      let (f, first) ← holding [ov] (PySem.getMethod ov "items" pl)
      PySem.callWith pos f first (backTo pos (starEach [] Γ.env)) (backToKw pos (keywordEach [] Γ.env))) := by rfl) :
    JV fx Γ H m (eval (.Call (.Attribute o "items" apos) [] [] pos) Γ.env) Q :=
  JV.methB0 PySem.F.plainAttrs_dict PySem.F.slot_dict_items PySem.F.type_dict_items (h.mono fun ov H₁ ⟨d, kvs, e₁, hd, q⟩ => ⟨d, e₁, fun s₁ S₁ => IsIobj S₁ hd, fun s₁ S₁ => by
    obtain ⟨ks, hk, em⟩ := S₁.own _ _ hd
    refine method_meetsIn PySem.F.slot_dict_items PySem.F.entry_dict_items rfl (PySem.evalArgs_none ⟨rfl, hk.typeIs, PySem.F.args_dict_items_1 _, _, meets_dict_items (intKind prog fx.w) d (S₁.ns_mod hd), ⟨ks, hk⟩, ?_⟩)
    exact ⟨_, S₁.new (fun b o e => Heap.get?_push_of_some _ e) (Nat.le_refl _) (show Holds prog fx.w _ _ (.raw _) from Heap.get?_push_size _ rfl), q _ (S₁.fresh (Nat.le_refl _)).1⟩⟩) he

/-- list(d.items()) -/
theorem JV.listItems {r d : Addr} {kvs : List (Int × Value)} {Q : Value → OH → Prop} (hr : H r = some (.raw (itemsObj d))) (hd : H d = some (.idict kvs)) (hz : kvs.length ≤ sizeLine)
    (h : ∀ (H' : OH) (l : Addr) (as : List Addr), (∀ b ao, H b = some ao → H' b = some ao) → H l = none → H' l = some (.list (as.map .ref)) → as.length = kvs.length →
      (∀ (j : Nat) (a : Addr) (p : Int × Value), as[j]? = some a → kvs[j]? = some p → H' a = some (.tup [I p.1, p.2])) → Q (.ref l) H') :
    JV fx Γ H m (call (.type "list") [.ref r]) Q := fun s S => by
  obtain ⟨ks, hk, em⟩ := S.own _ _ hd
  obtain ⟨ep, hda⟩ := hk.dictAt
  have hr' : s.heap.get? r = some (itemsObj d) := S.own _ _ hr
  have hkl : ks.length = kvs.length := by rw [← em, List.length_map]
  refine kdx_call (knd := intKind prog fx.w) (kvs := ks) (ep := ep) S.ok.handled ⟨_, hr', rfl, rfl⟩ hda (by omega) fun h' tk acc c as hkeep hlist hasl hG hacc => ?_
  have hl0 := S.fresh (Nat.le_refl _)
  have acc' : acc = (as.map Value.ref).toArray := by rw [← hacc]
  subst acc'
  -- the new view
  let H' : OH := fun b => if b = s.heap.objs.size then some (.list (as.map .ref)) else if b ∈ as then (match as.idxOf? b with | some j => (kvs[j]?).map fun p => .tup [I p.1, p.2] | none => none) else H b
  have hnd : as.Nodup := hG.rise.imp fun h => Nat.ne_of_lt h
  have hnew : ∀ a ∈ as, s.heap.objs.size < a := hG.above
  have hidx : ∀ (j : Nat) (a : Addr), as[j]? = some a → as.idxOf? a = some j := by
    intro j a hj
    obtain ⟨h1, h2⟩ := List.getElem?_eq_some_iff.mp hj
    rw [List.idxOf?_eq_some_iff]
    refine ⟨h1, by simp [h2], fun i hi => ?_⟩
    intro q
    rw [← h2] at q
    have := (List.getElem_inj hnd).mp q
    omega
  have hH' : ∀ b, b ≠ s.heap.objs.size → b ∉ as → H' b = H b := fun b h1 h2 => by show (if _ then _ else _) = _; rw [if_neg h1, if_neg h2]
  have hHas : ∀ (j : Nat) (a : Addr) (p : Int × Value), as[j]? = some a → kvs[j]? = some p → H' a = some (.tup [I p.1, p.2]) := by
    intro j a p hj hp
    have hm := List.mem_of_getElem? hj
    show (if _ then _ else _) = _
    rw [if_neg (Nat.ne_of_gt (hnew a hm)), if_pos hm, hidx j a hj]; show (kvs[j]?).map _ = _; rw [hp]; rfl
  have S₀ : St fx Γ H m { s with heap := h', toks := tk } := S.keep hkeep
  have holdsT : ∀ (j : Nat) (a : Addr) (p : Int × Value), as[j]? = some a → kvs[j]? = some p → Holds prog fx.w h' a (.tup [I p.1, p.2]) := by
    intro j a p hj hp
    obtain ⟨key, k, x, e1, e2, e3⟩ := hG.pairs j a hj
    have e4 : kvs[j]? = some (k, nz x) := by rw [← em, List.getElem?_map, e1]; rfl
    rw [hp] at e4
    obtain rfl := Option.some.inj e4
    exact ⟨[key, x], 0, e3, by simp [intKind_nz e2]⟩
  refine ⟨H', ?_, h H' s.heap.objs.size as (fun b ao e => ?_) hl0.1 (by show (if _ then _ else _) = _; rw [if_pos rfl]) (by omega) hHas⟩
  · refine { S₀ with own := fun b ao e => ?_, sepH := fun b ao e => ?_ }
    · by_cases h1 : b = s.heap.objs.size
      · subst h1
        have : H' s.heap.objs.size = some (.list (as.map .ref)) := by show (if _ then _ else _) = _; rw [if_pos rfl]
        rw [this] at e; cases e
        exact ⟨as.map .ref, c, hlist, by simp [nz]⟩
      · by_cases h2 : b ∈ as
        · obtain ⟨j, hj⟩ := List.mem_iff_getElem?.mp h2
          have hjl : j < kvs.length := by have := (List.getElem?_eq_some_iff.mp hj).1; omega
          have := hHas j b _ hj (List.getElem?_eq_getElem hjl)
          rw [this] at e; cases e
          exact holdsT j b _ hj (List.getElem?_eq_getElem hjl)
        · rw [hH' b h1 h2] at e; exact S₀.own b ao e
    · have fr : s.heap.objs.size ≤ b → fx.h₀.objs.size ≤ b ∧ b ≠ Γ.L ∧ Γ.B b = none ∧ ∀ x c, Γ.cells.lookup x = some c → b ≠ c := fun q => let ⟨_, f2, f3, f4, f5⟩ := S.fresh q; ⟨f5, f3, f2, f4⟩
      by_cases h1 : b = s.heap.objs.size
      · exact fr (Nat.le_of_eq h1.symm)
      · by_cases h2 : b ∈ as
        · exact fr (Nat.le_of_lt (hnew b h2))
        · rw [hH' b h1 h2] at e; exact S₀.sepH b ao e
  · have h1 : b ≠ s.heap.objs.size := by rintro rfl; rw [hl0.1] at e; cases e
    have h2 : b ∉ as := fun q => by
      rw [(S.fresh (Nat.le_of_lt (hnew b q))).1] at e; cases e
    rw [hH' b h1 h2]; exact e
end
end Mine
end

section -- JQ
open PySem PySem.W PySem.Calls PyProof.Rows PySem.SeqAt
set_option Elab.async false
set_option maxRecDepth 100000
set_option linter.unusedVariables false
namespace Mine
variable {prog : Program} {KF : Params → Frag}

-- the sort's decision tree
def leaves {α : Type} : KasT α → List α
  | .ret a => [a]
  | .ask _ _ k => leaves (k false) ++ leaves (k true)
def asks {α : Type} : KasT α → List (Nat × Nat)
  | .ret _ => []
  | .ask i j k => (i, j) :: (asks (k false) ++ asks (k true))
theorem kas_all {α : Type} {cmp : Nat → Nat → (Bool → Shared → Prop) → Shared → Prop} {Q : α → Shared → Prop} {s : Shared} : ∀ (t : KasT α), (∀ p ∈ asks t, ∀ C : Bool → Shared → Prop, (∀ b, C b s) → cmp p.1 p.2 C s) → (∀ a ∈ leaves t, Q a s) → t.kasWp cmp Q s
  | .ret a, _, hq => hq a (.head _)
  | .ask i j k, hc, hq => hc (i, j) (.head _) _ fun b => by
    cases b with
    | false => exact kas_all (k false) (fun p hp => hc p (.tail _ (List.mem_append_left _ hp))) fun a ha => hq a (List.mem_append_left _ ha)
    | true => exact kas_all (k true) (fun p hp => hc p (.tail _ (List.mem_append_right _ hp))) fun a ha => hq a (List.mem_append_right _ ha)
theorem asks_ok : ∀ n, n = 2 ∨ n = 3 → ∀ p ∈ asks (kas_sort n), p.1 < n ∧ p.2 < n := by
  rintro n (rfl | rfl)
  · have : ((asks (kas_sort 2)).all fun p => decide (p.1 < 2) && decide (p.2 < 2)) = true := by decide +kernel
    intro p hp
    simpa using List.all_eq_true.mp this p hp
  · have : ((asks (kas_sort 3)).all fun p => decide (p.1 < 3) && decide (p.2 < 3)) = true := by decide +kernel
    intro p hp
    simpa using List.all_eq_true.mp this p hp
theorem leaves_ok : ∀ n, n = 2 ∨ n = 3 → ∀ p ∈ leaves (kas_sort n), p.toList.Perm (List.range n) := by
  rintro n (rfl | rfl)
  · have : ((leaves (kas_sort 2)).all fun p => p.toList.isPerm (List.range 2)) = true := by decide +kernel
    intro p hp
    exact List.isPerm_iff.mp (List.all_eq_true.mp this p hp)
  · have : ((leaves (kas_sort 3)).all fun p => p.toList.isPerm (List.range 3)) = true := by decide +kernel
    intro p hp
    exact List.isPerm_iff.mp (List.all_eq_true.mp this p hp)

section
variable {fx : Fx prog KF} {Γ Γ' : Amb} {H H' : OH} {m m' : Loc} {s s' : Shared}

theorem ints_nz {xs : List Value} {ns : List Int} (h : IntsAre xs ns) : xs.map nz = ns.map I := by
  induction h with
  | nil => rfl
  | cons n t _ ih => simp only [List.map_cons, ih, nz, I]

/-- the keys of a dict, collected -/
theorem collect_keys {A : Around} {E : Value → Shared → Prop} (hA : A.handled = none) (S : St fx Γ H m s) {d : Addr} {kvs : List (Int × Value)} (hd : H d = some (.idict kvs)) (hz : kvs.length ≤ sizeLine) {R : List Value → Shared → Prop}
    (h : ∀ h' tk xs, (∀ b o, s.heap.get? b = some o → h'.get? b = some o) → IntsAre xs (kvs.map (·.1)) → R xs { s with heap := h', toks := tk }) : wpAny (model prog fx.w) A (collect (.ref d)) R E s := by
  obtain ⟨ks, hk, em⟩ := S.own _ _ hd
  obtain ⟨ep, hda⟩ := hk.dictAt
  have hkl : ks.length = kvs.length := by rw [← em, List.length_map]
  refine kdu_collect (kdl_dict (knd := intKind prog fx.w) (kvs := ks) (ep := ep) (S.ns_mod hd)) hA hda (by omega) fun h' tk acc hk' hacc => h h' tk _ hk' ?_
  have hfst : kvs.map (·.1) = ks.map (·.1) := by rw [← em, List.map_map]; rfl
  rw [hfst]
  have hl : acc.toList.length = ks.length := by rw [Array.length_toList]; exact hacc.1
  have hat : ∀ (j : Nat) (v : Value), acc.toList[j]? = some v → ∃ k x, ks[j]? = some (k, x) ∧ (intKind prog fx.w).is k v = true := fun j v e => hacc.2 j v (by rw [← Array.getElem?_toList]; exact e)
  generalize acc.toList = xs at hl hat
  clear hacc hda hk em hkl hfst
  induction xs generalizing ks with
  | nil => cases ks with | nil => exact .nil | cons _ _ => cases hl
  | cons x r ih =>
    cases ks with
    | nil => cases hl
    | cons p q =>
      obtain ⟨k, y, e1, e2⟩ := hat 0 x rfl
      simp at e1
      obtain rfl := e1
      obtain ⟨t, rfl⟩ := nz_int (intKind_nz e2)
      exact .cons k t (ih q (by simpa using hl) fun j v e => by simpa using hat (j + 1) v (by simpa using e))

/-- sorted(d), d a dict whose keys are ints -/
theorem JV.sortedD {d : Addr} {kvs : List (Int × Value)} {Q : Value → OH → Prop} (hd : H d = some (.idict kvs)) (hz : kvs.length < 64) (h : ∀ (l : Addr) (ns : List Int), H l = none → ns.Perm (kvs.map (·.1)) → Q (.ref l) (upd H l (.list (ns.map I)))) :
    JV fx Γ H m (call (.builtin "sorted") [.ref d]) Q := fun s S => by
  refine call_function_entry kind_sorted plain_sorted entry_sorted (args_sorted1 _) ?_
  unfold Builtin.«sorted»
  refine wpAny_bind (m := checkCount "sorted" 1 1 _) (wpAny_pure ?_)
  refine wpAny_bind (collect_keys (A := Γ.A.in1) S.ok.handled S hd (by rw [sizeLine_eq]; omega) fun h₁ tk₁ xs hk₁ hi => ?_)
  have hxl : xs.length = kvs.length := by rw [hi.length, List.length_map]
  refine wpAny_bind (wpAny_newList ?_ (by rw [sizeLine_eq]; omega))
  dsimp only
  have hoL : (h₁.push (seqObj "list" xs.toArray 0)).get? h₁.objs.size = some (seqObj "list" xs.toArray 0) := Heap.get?_push_size _ rfl
  refine wpAny_bind (wpAny_holding (wpAny_call_entry slot_list_sort (s := { s with heap := h₁.push (seqObj "list" xs.toArray 0), toks := tk₁ }) ⟨_, hoL, rfl⟩ entry_list_sort (list_sort_tree (s := { s with heap := h₁.push (seqObj "list" xs.toArray 0), toks := tk₁ }) hoL hi (by omega) fun out ns' a1 a2 a3 => ⟨_, rfl, ?_⟩) (args_list_sort _)))
  refine wpAny_pure ⟨_, rfl, ?_⟩
  dsimp only
  obtain ⟨e, he⟩ := sortedHeap_at (out := out) hoL
  have S₁ : St fx Γ H m { s with heap := h₁, toks := tk₁ } := S.keep hk₁
  have hsz : (h₁.push (seqObj "list" xs.toArray 0)).objs.size = h₁.objs.size + 1 := Heap.size_push ..
  exact ⟨_, S₁.new (tk := tk₁) (h' := sortedHeap (h₁.push (seqObj "list" xs.toArray 0)) h₁.objs.size xs out) (fun b o e => by
      have hlt := Heap.lt_size e
      rw [sortedHeap_old (Nat.ne_of_lt hlt) (by rw [hsz]; exact Nat.lt_succ_of_lt hlt)]
      exact Heap.get?_push_of_some _ e) (Nat.le_refl _) (show Holds prog fx.w _ _ (.list _) from ⟨out.toList, e, by rw [Array.toArray_toList]; exact he, ints_nz a1⟩), h _ ns' (S₁.fresh (Nat.le_refl _)).1 a2⟩

/-- what place_of does -/
def PlaceSpec (fx : Fx prog KF) (f : Value) : Prop := ∀ (Γ : Amb) (H : OH) (m : Loc) (v : Value) (k : Int) (Q : Value → OH → Prop), 3 ≤ Γ.rem → nz v = I k → (∀ t, H t = none → Q (.ref t) (upd H t (.tup [I k.natAbs, I k]))) → JV fx Γ H m (call f [v]) Q

theorem typeOf_intV (i : Int) (t : Tok) : typeOf (.int i t) = pure (.type "int") := rfl

theorem cmp_pairs {A : Around} {s : Shared} {x y : Addr} {a b c d : Int} {t1 t2 t3 t4 : Tok} {n k : Nat} {C : Bool → Shared → Prop} {w : World}
    (hx : s.heap.get? x = some ⟨.type "tuple", none, .seq #[.int a t1, .int b t2] n, #[]⟩) (hy : s.heap.get? y = some ⟨.type "tuple", none, .seq #[.int c t3, .int d t4] k, #[]⟩) (hC : ∀ b, C b s) :
    wpAny (model prog w) A (keyLt' (tuples' true) (.ref x) (.ref y)) C (fun _ _ => False) s := by
  refine kat_lt hx rfl hy rfl ?_
  refine kat_cons (EqAt.int_int a t1 c t3 _ _ _ _ ?_)
  refine kat_go (fun _ => kat_yes ?_) (fun _ => kat_no ?_)
  · refine kat_cons (EqAt.int_int b t2 d t4 _ _ _ _ ?_)
    refine kat_go (fun _ => kat_yes ?_) (fun _ => kat_no ?_)
    · exact kat_nil (hC _)
    · exact kat_one _ _ (PyProof.Rows.lt_int (hC _))
  · exact oneLt_int (hC _)

/-- the keys so far: for each value of r the tuple place_of made -/
def KeysAt (H : OH) : List Addr → List Int → Prop
  | [], [] => True
  | a :: as, k :: ks => H a = some (.tup [I k.natAbs, I k]) ∧ KeysAt H as ks
  | _, _ => False
theorem KeysAt.mono (hH : ∀ b ao, H b = some ao → H' b = some ao) : ∀ {as : List Addr} {ks : List Int}, KeysAt H as ks → KeysAt H' as ks
  | [], [], _ => trivial
  | _ :: _, _ :: _, h => ⟨hH _ _ h.1, KeysAt.mono hH h.2⟩
  | [], _ :: _, h => h.elim
  | _ :: _, [], h => h.elim
theorem KeysAt.snoc : ∀ {as : List Addr} {ks : List Int} {a : Addr} {k : Int}, KeysAt H as ks → H a = some (.tup [I k.natAbs, I k]) → KeysAt H (as ++ [a]) (ks ++ [k])
  | [], [], _, _, _, e => ⟨e, trivial⟩
  | _ :: _, _ :: _, _, _, h, e => ⟨h.1, KeysAt.snoc h.2 e⟩
  | [], _ :: _, _, _, h, _ => h.elim
  | _ :: _, [], _, _, h, _ => h.elim
theorem KeysAt.length : ∀ {as : List Addr} {ks : List Int}, KeysAt H as ks → as.length = ks.length
  | [], [], _ => rfl
  | _ :: _, _ :: _, h => by rw [List.length_cons, List.length_cons, KeysAt.length h.2]
  | [], _ :: _, h => h.elim
  | _ :: _, [], h => h.elim
theorem KeysAt.get : ∀ {as : List Addr} {ks : List Int}, KeysAt H as ks → ∀ (i : Nat) (h : i < as.length), ∃ k, H as[i] = some (.tup [I k, I (ks.getD i 0)])
  | [], [], _, i, h => absurd h (Nat.not_lt_zero _)
  | _ :: _, k :: _, h, 0, _ => ⟨_, h.1⟩
  | _ :: _, _ :: _, h, i + 1, hi => by
    obtain ⟨k, e⟩ := KeysAt.get h.2 i (Nat.lt_of_succ_lt_succ hi)
    exact ⟨k, by simpa using e⟩
  | [], _ :: _, h, _, _ => h.elim
  | _ :: _, [], h, _, _ => h.elim
theorem St.pairAt (S : St fx Γ H m s) {a : Addr} {i j : Int} (e : H a = some (.tup [I i, I j])) : ∃ t u n, s.heap.get? a = some ⟨.type "tuple", none, .seq #[.int i t, .int j u] n, #[]⟩ := by
  obtain ⟨xs, n, hx, em⟩ := S.getTup e
  obtain ⟨u, w, rfl, e1, e2⟩ := tup2 em
  obtain ⟨t1, rfl⟩ := nz_int e1
  obtain ⟨t2, rfl⟩ := nz_int e2
  exact ⟨t1, t2, n, hx⟩
theorem katTups_of (S : St fx Γ H m s) : ∀ {as : List Addr} {ks : List Int}, KeysAt H as ks → ∃ fs : List Value, KatTups s.heap (as.map .ref) fs ∧ fs.length = as.length ∧ ∀ v ∈ fs, ∃ i t, v = .int i t
  | [], [], _ => ⟨[], .nil, rfl, fun v hv => nomatch hv⟩
  | a :: as, k :: ks, h => by
    obtain ⟨fs, h1, h2, h3⟩ := katTups_of S h.2
    obtain ⟨t, u, n, hx⟩ := S.pairAt h.1
    refine ⟨.int k.natAbs t :: fs, .cons hx rfl rfl rfl h1, by simp [h2], fun v hv => ?_⟩
    rcases List.mem_cons.mp hv with rfl | hv
    · exact ⟨_, _, rfl⟩
    · exact h3 v hv
  | [], _ :: _, h => h.elim
  | _ :: _, [], h => h.elim

set_option maxHeartbeats 4000000 in
/-- the sort's end: the keys stand, the order is asked for -/
theorem sort_end {A : Around} {D kS : Addr} {xs : List Value} {ks : List Int} {as : List Addr} {e1 c : Nat} {P : PySem.Fin → Shared → Prop} {E : Value → Shared → Prop} (S : St fx Γ H m s) (hi : IntsAre xs ks) (hlen : ks.length ≤ 3)
    (hK : KeysAt H as ks) (oD : Out fx Γ H D) (oK : Out fx Γ H kS) (hDK : D ≠ kS) (hD : s.heap.get? D = some (seqObj "list" #[] e1)) (hkS : s.heap.get? kS = some (seqObj "list" (as.map Value.ref).toArray c))
    (h : ∀ s' (out : List Value) (ns : List Int) (n : Nat), St fx Γ H m s' → s'.heap.get? D = some (seqObj "list" out.toArray n) → IntsAre out ns → ns.Perm ks → P (.done (.ret .none)) s') :
    wpAny (model prog fx.w) A (ksk_end D false xs.toArray e1 (.ref kS) (as.map Value.ref).toArray) P E s := by
  have hxl := hi.length
  have hal := hK.length
  unfold ksk_end
  dsimp only
  simp only [Bool.false_eq_true, if_false]
  -- what the tail does
  have tail : ∀ (st : SortSt) (out : List Value) (ns : List Int), (arrOf st).map (·.2) = out.toArray → failedOf st = none → out.length ≤ 3 → IntsAre out ns → ns.Perm ks → wpAny (model prog fx.w) A (ksk_tail D false e1 (.ref kS) st) P E s := by
    intro st out ns hout hf hol ho hp
    unfold ksk_tail
    dsimp only
    rw [hout]
    refine wpAny_bind (listUpdate_at hkS rfl ?_ (by rw [List.size_toArray, List.length_map, sizeLine_eq]; omega) (Nat.zero_le _))
    refine wpAny_bind (wpAny_letGo ?_)
    have s1 := Heap.SameBut.update s.heap kS (Obj.mapSeq fun _ => (#[] : Array Value))
    have S₁ : St fx Γ H m { s with heap := s.heap.update kS (Obj.mapSeq fun _ => (#[] : Array Value)), toks := s.toks } := S.outside oK (notTup_cls hkS (show Value.type "list" ≠ Value.type "tuple" by decide)) s1.extBut
    have hD₁ := s1.extBut _ _ hDK hD
    refine wpAny_bind (seqEpoch_at hD₁ rfl ?_)
    refine wpAny_bind (listUpdate_at hD₁ rfl ?_ (Nat.zero_le _) (by simp only [Bool.false_eq_true, if_false, List.size_toArray]; rw [sizeLine_eq]; omega))
    rw [hf]
    simp only [bne_self_eq_false, Bool.false_eq_true, if_false]
    have s2 := Heap.SameBut.update (s.heap.update kS (Obj.mapSeq fun _ => (#[] : Array Value))) D (Obj.mapSeq fun _ => out.toArray)
    have S₂ := S₁.outside (tk := s.toks) oD (notTup_cls hD₁ (show Value.type "list" ≠ Value.type "tuple" by decide)) s2.extBut
    refine wpAny_pure (h _ out ns _ S₂ (get?_update_seq hD₁ fun _ => out.toArray) ho hp)
  by_cases h2 : xs.toArray.size < 2
  · rw [if_pos h2, if_pos h2]
    refine wpAny_bind (wpAny_pure ?_)
    rw [StateT.run_pure]
    refine wpAny_bind (wpAny_pure ?_)
    refine tail _ xs ks ?_ rfl (by omega) hi (List.Perm.refl _)
    show (((as.map Value.ref).toArray.zip xs.toArray).map (·.2)) = xs.toArray
    apply Array.toList_inj.mp
    simp only [Array.toList_map, Array.toList_zip, List.toList_toArray]
    exact List.map_snd_zip (by rw [List.length_map]; omega)
  · rw [if_neg h2, if_neg h2]
    have h2' : 2 ≤ xs.length := by simpa using h2
    have hn : xs.length = 2 ∨ xs.length = 3 := by omega
    obtain ⟨fs, t1, t2, t3⟩ := katTups_of S hK
    refine wpAny_bind (kat_kind (T := .type "int") t1 (by omega) (fun v hv => by obtain ⟨i, t, rfl⟩ := t3 v hv; exact Looks.of_pure rfl) rfl ?_)
    have hkl : (as.map Value.ref).length = xs.length := by rw [List.length_map]; omega
    refine wpAny_bind (wpAny_mono (kat_run (Q := fun st' s' => s' = s ∧ ∃ p : Array Nat, p.size = xs.length ∧ arrOf st' = p.map (kas_item ((as.map Value.ref).toArray.zip xs.toArray)) ∧ failedOf st' = none ∧ p.toList.Perm (List.range xs.length))
      (G := fun p s' => s' = s ∧ p.toList.Perm (List.range xs.length)) hkl h2' (by omega) (fun p st' s' a1 a2 a3 a4 => ⟨a4.1, p, a1, a2, a3, a4.2⟩) (kas_all _ (fun p hp C hC => ?_) fun p hp => ⟨rfl, leaves_ok _ hn p hp⟩)) ?_ fun _ _ e => e)
    · obtain ⟨b1, b2⟩ := asks_ok _ hn p hp
      obtain ⟨i, hi'⟩ := hK.get p.1 (by omega)
      obtain ⟨j, hj'⟩ := hK.get p.2 (by omega)
      obtain ⟨u1, u2, n1, hu⟩ := S.pairAt hi'
      obtain ⟨v1, v2, n2, hv⟩ := S.pairAt hj'
      unfold kas_ask
      have g1 : (as.map Value.ref).getD p.1 Value.none = .ref (as[p.1]'(by omega)) := by simp [show p.1 < as.length by omega]
      have g2 : (as.map Value.ref).getD p.2 Value.none = .ref (as[p.2]'(by omega)) := by simp [show p.2 < as.length by omega]
      rw [g1, g2]
      exact cmp_pairs hu hv hC
    · rintro ⟨⟨⟩, st'⟩ s' ⟨rfl, p, hps, har, hf, hperm⟩
      dsimp only
      have hout := kat_snds hkl har
      have hpl : p.toList.length = xs.length := by rw [Array.length_toList, hps]
      -- the ints in the new order
      have key : ∀ (q : List Nat), (∀ i ∈ q, i < xs.length) → IntsAre (q.map fun i => xs.getD i Value.none) (q.map fun i => ks.getD i 0) := by
        intro q
        induction q with
        | nil => intro _; exact .nil
        | cons i r ih =>
          intro hq
          obtain ⟨t, ht⟩ := IntsAre.int_at hi i (xs.getD i Value.none) (by
            have := hq i (.head _)
            simp [this])
          show IntsAre (xs.getD i Value.none :: _) (ks.getD i 0 :: _)
          rw [ht]
          exact .cons _ t (ih fun j hj => hq j (.tail _ hj))
      refine tail st' _ (p.toList.map fun i => ks.getD i 0) hout hf (by rw [List.length_map]; omega) (key _ fun i hi' => List.mem_range.mp (hperm.mem_iff.mp hi')) ?_
      refine (hperm.map _).trans ?_
      have : (List.range xs.length).map (fun i => ks.getD i 0) = ks := by
        apply List.ext_getElem
        · simp [hxl]
        · intro i h1 h2; simp [h2]
      rw [this]
end
end Mine
end

section -- JR
open PySem PySem.W PySem.Calls PyProof.Rows PySem.SeqAt
set_option Elab.async false
set_option maxRecDepth 100000
set_option linter.unusedVariables false
namespace Mine
variable {prog : Program} {KF : Params → Frag}

section
variable {fx : Fx prog KF} {Γ Γ' : Amb} {H H' : OH} {m m' : Loc} {s s' : Shared}

theorem St.shift (S : St fx Γ H m s) {A' : Around} {r' : Nat} (ok : Amb.Ok { Γ with A := A', rem := r' }) : St fx { Γ with A := A', rem := r' } H m s := { S with ok := ok }

theorem in2_ok (hΓ : Γ.Ok) (rem : 1 ≤ Γ.rem) : Amb.Ok { Γ with A := Γ.A.in1.in1, rem := Γ.rem - 1 } :=
  ⟨by show Γ.A.depth + (Γ.rem - 1) < _; have := hΓ.depth; omega, by show Γ.A.units + 1 + 1 + 12 * (Γ.rem - 1) < _; have := hΓ.units; omega, hΓ.handled, hΓ.kind, hΓ.glob, hΓ.bns⟩

/-- the keys are made, one by one -/
theorem keys_loop {D kS : Addr} {e1 : Nat} {f : Value} (hf : PlaceSpec fx f) (rem : 4 ≤ Γ.rem) {H₀ : OH} {body : Value → PUnit → Sem (ForInStep PUnit)} {Q' : PUnit → Shared → Prop} {E : Value → Shared → Prop} (hDK : D ≠ kS)
    (hbody : ∀ x (s : Shared) (P : ForInStep PUnit → Shared → Prop), wpAny (model prog fx.w) Γ.A.in1.in1 (call f [x]) (fun k s' => wpAny (model prog fx.w) Γ.A.in1.in1 (Builtin.List.listUpdate (.ref kS) (·.push k)) (fun _ s'' => P (.yield ⟨⟩) s'') E s') noE s →
      wpAny (model prog fx.w) Γ.A.in1.in1 (body x ⟨⟩) P E s) :
    ∀ (r : List Value) (kr done : List Int) (as : List Addr) (c : Nat) (H : OH) (s : Shared), IntsAre r kr → St fx Γ H m s → (∀ b ao, H₀ b = some ao → H b = some ao) → KeysAt H as done → Out fx Γ H D → Out fx Γ H kS → done.length + r.length ≤ 3 →
      s.heap.get? D = some (seqObj "list" #[] e1) → s.heap.get? kS = some (seqObj "list" (as.map Value.ref).toArray c) →
      (∀ s' H' as c, St fx Γ H' m s' → (∀ b ao, H₀ b = some ao → H' b = some ao) → KeysAt H' as (done ++ kr) → Out fx Γ H' D → Out fx Γ H' kS → s'.heap.get? D = some (seqObj "list" #[] e1) → s'.heap.get? kS = some (seqObj "list" (as.map Value.ref).toArray c) → Q' ⟨⟩ s') →
      wpAny (model prog fx.w) Γ.A.in1.in1 (forIn r PUnit.unit body) Q' E s
  | [], kr, done, as, c, H, s, hi, S, hx, hK, oD, oK, hlen, hD, hkS, hQ => by
    cases hi
    rw [List.forIn_nil]
    exact wpAny_pure (hQ s H as c S hx (by rw [List.append_nil]; exact hK) oD oK hD hkS)
  | v :: r, kr, done, as, c, H, s, hi, S, hx, hK, oD, oK, hlen, hD, hkS, hQ => by
    cases hi with
    | cons k t hi' =>
      rename_i kr'
      rw [List.forIn_cons]
      refine wpAny_bind (hbody _ s _ ?_)
      have S₁ : St fx { Γ with B := frozen s.heap (loose Γ H), A := Γ.A.in1.in1, rem := Γ.rem - 1 } H m s := S.into.shift (in2_ok S.into.ok (by show 1 ≤ Γ.rem; omega))
      refine (hf _ H m (.int k t) k (fun r H₁ => ∃ b, r = .ref b ∧ H b = none ∧ H₁ = upd H b (.tup [I k.natAbs, I k])) (by show 3 ≤ Γ.rem - 1; omega) rfl (fun b hb => ⟨b, rfl, hb, rfl⟩)).run S₁ fun rk H₁ s₁ S₂ ⟨b, eb, hb, eH⟩ => ?_
      obtain rfl := nz_ref eb
      subst eH
      have S₃ : St fx { Γ with B := frozen s.heap (loose Γ H) } (upd H b (.tup [I k.natAbs, I k])) m s₁ := St.over (Γ := { Γ with B := frozen s.heap (loose Γ H) }) S.into.ok S₂
      obtain ⟨oD₁, hD₁⟩ := oD.over hD S₃
      obtain ⟨oK₁, hK₁⟩ := oK.over hkS S₃
      have S₄ := S.outof S₃
      have hal := hK.length
      simp only [List.length_cons] at hlen
      refine listUpdate_at hK₁ rfl ?_ (by rw [List.size_toArray, List.length_map, sizeLine_eq]; omega) (by rw [Array.size_push, List.size_toArray, List.length_map, sizeLine_eq]; omega)
      have s1 := Heap.SameBut.update s₁.heap kS (Obj.mapSeq (·.push (Value.ref b)))
      have S₅ := S₄.outside (tk := s₁.toks) oK₁ (notTup_cls hK₁ (show Value.type "list" ≠ Value.type "tuple" by decide)) s1.extBut
      have hext : ∀ a ao, H a = some ao → upd H b (.tup [I k.natAbs, I k]) a = some ao := fun a ao e => by rw [upd_ne _ _ (by rintro rfl; rw [hb] at e; cases e)]; exact e
      have ea : (as.map Value.ref).toArray.push (Value.ref b) = ((as ++ [b]).map Value.ref).toArray := by simp
      obtain ⟨c2, hc2⟩ : ∃ c2, (s₁.heap.update kS (Obj.mapSeq (·.push (Value.ref b)))).get? kS = some (seqObj "list" ((as ++ [b]).map Value.ref).toArray c2) := ⟨_, by rw [← ea]; exact get?_update_seq hK₁ (·.push (Value.ref b))⟩
      refine keys_loop hf rem hDK hbody r kr' (done ++ [k]) (as ++ [b]) c2 _ _ hi' S₅ (fun a ao e => hext a ao (hx a ao e)) ((hK.mono hext).snoc (upd_self _ _ _)) oD₁ oK₁ (by rw [List.length_append, List.length_singleton]; omega) (s1.extBut _ _ hDK hD₁) hc2 ?_
      intro s' H' as' c' a1 a2 a3 a4 a5 a6 a7
      exact hQ s' H' as' c' a1 a2 (by rw [List.append_assoc] at a3; exact a3) a4 a5 a6 a7

set_option maxHeartbeats 4000000 in
/-- sorted(d, key=place_of), d a dict whose keys are ints, few of them -/
theorem JV.sortedKD {d f : Addr} {kvs : List (Int × Value)} {Q : Value → OH → Prop} (hd : H d = some (.idict kvs)) (hz : kvs.length ≤ 3) (rem : 4 ≤ Γ.rem) (hf : PlaceSpec fx (.ref f))
    (h : ∀ (H' : OH) (l : Addr) (ns : List Int), (∀ b ao, H b = some ao → H' b = some ao) → H l = none → H' l = some (.list (ns.map I)) → ns.Perm (kvs.map (·.1)) → Q (.ref l) H') :
    JV fx Γ H m (call (.builtin "sorted") [.ref d] [(Str.ofString "key", .ref f)]) Q := fun s S => by
  refine call_function_entry_kw kind_sorted plain_sorted entry_sorted (ksk_s1 _ _) ?_
  unfold Builtin.«sorted»
  refine wpAny_bind (m := checkCount "sorted" 1 1 _) (wpAny_pure ?_)
  refine wpAny_bind (collect_keys (A := Γ.A.in1) S.ok.handled S hd (by rw [sizeLine_eq]; omega) fun h₁ tk₁ xs hk₁ hi => ?_)
  have hxl : xs.length = kvs.length := by rw [hi.length, List.length_map]
  refine wpAny_bind (wpAny_newList ?_ (by rw [sizeLine_eq]; omega))
  dsimp only
  have hoL : (h₁.push (seqObj "list" xs.toArray 0)).get? h₁.objs.size = some (seqObj "list" xs.toArray 0) := Heap.get?_push_size _ rfl
  refine wpAny_bind (wpAny_holding (wpAny_call_entry_kw slot_list_sort (s := { s with heap := h₁.push (seqObj "list" xs.toArray 0), toks := tk₁ }) ⟨_, hoL, rfl⟩ entry_list_sort ?_ (ksk_l1 _ _)))
  show wpAny (model prog fx.w) Γ.A.in1.in1 (Builtin.«list.sort» ⟨[.ref h₁.objs.size], [(Str.ofString "key", .ref f)]⟩) _ _ _
  rw [ksk_t1]
  unfold ksk_tree
  have S₀ : St fx Γ H m { s with heap := h₁, toks := tk₁ } := S.keep hk₁
  have oD : Out fx Γ H h₁.objs.size := S₀.out (Nat.le_refl _)
  have S₁ : St fx Γ H m { s with heap := h₁.push (seqObj "list" xs.toArray 0), toks := tk₁ } := S₀.keep fun b o e => Heap.get?_push_of_some _ e
  refine wpAny_bind (listItems_at hoL rfl ?_)
  refine wpAny_bind (listUpdate_at hoL rfl ?_ (by rw [List.size_toArray, sizeLine_eq]; omega) (Nat.zero_le _))
  have s1 := Heap.SameBut.update (h₁.push (seqObj "list" xs.toArray 0)) h₁.objs.size (Obj.mapSeq fun _ => (#[] : Array Value))
  have S₂ := S₁.outside (tk := tk₁) oD (notTup_cls hoL (show Value.type "list" ≠ Value.type "tuple" by decide)) s1.extBut
  obtain ⟨e1, ho1⟩ : ∃ e1, ((h₁.push (seqObj "list" xs.toArray 0)).update h₁.objs.size (Obj.mapSeq fun _ => (#[] : Array Value))).get? h₁.objs.size = some (seqObj "list" #[] e1) := ⟨_, get?_update_seq hoL fun _ => #[]⟩
  refine wpAny_bind (seqEpoch_at ho1 rfl ?_)
  refine wpAny_bind (wpAny_newTuple ?_ (by show xs.length ≤ _; rw [sizeLine_eq]; omega))
  refine wpAny_bind (wpAny_newList ?_ (Nat.zero_le _))
  refine wpAny_holding ?_
  dsimp only
  have S₃ := (S₂.keep (tk := tk₁) (h' := ((h₁.push (seqObj "list" xs.toArray 0)).update h₁.objs.size (Obj.mapSeq fun _ => (#[] : Array Value))).push (seqObj "tuple" xs.toArray 0)) fun b o e => Heap.get?_push_of_some _ e)
  have oK : Out fx Γ H (((h₁.push (seqObj "list" xs.toArray 0)).update h₁.objs.size (Obj.mapSeq fun _ => (#[] : Array Value))).push (seqObj "tuple" xs.toArray 0)).objs.size := S₃.out (Nat.le_refl _)
  have hDK : h₁.objs.size ≠ (((h₁.push (seqObj "list" xs.toArray 0)).update h₁.objs.size (Obj.mapSeq fun _ => (#[] : Array Value))).push (seqObj "tuple" xs.toArray 0)).objs.size := by
    rw [size_push', Heap.size_update, size_push']; exact Nat.ne_of_lt (Nat.lt_succ_of_lt (Nat.lt_succ_self _))
  have S₄ := (S₃.keep (tk := tk₁) (h' := (((h₁.push (seqObj "list" xs.toArray 0)).update h₁.objs.size (Obj.mapSeq fun _ => (#[] : Array Value))).push (seqObj "tuple" xs.toArray 0)).push (seqObj "list" #[] 0)) fun b o e => Heap.get?_push_of_some _ e)
  have hD₄ : ((((h₁.push (seqObj "list" xs.toArray 0)).update h₁.objs.size (Obj.mapSeq fun _ => (#[] : Array Value))).push (seqObj "tuple" xs.toArray 0)).push (seqObj "list" #[] 0)).get? h₁.objs.size = some (seqObj "list" #[] e1) := Heap.get?_push_of_some _ (Heap.get?_push_of_some _ ho1)
  generalize hkS : (((h₁.push (seqObj "list" xs.toArray 0)).update h₁.objs.size (Obj.mapSeq fun _ => (#[] : Array Value))).push (seqObj "tuple" xs.toArray 0)).objs.size = kS at oK hDK
  have hK₄ : ((((h₁.push (seqObj "list" xs.toArray 0)).update h₁.objs.size (Obj.mapSeq fun _ => (#[] : Array Value))).push (seqObj "tuple" xs.toArray 0)).push (seqObj "list" #[] 0)).get? kS = some (seqObj "list" (([] : List Addr).map Value.ref).toArray 0) := by
    rw [← hkS]; exact Heap.get?_push_size _ rfl
  unfold ksk_rest
  refine wpAny_bind (wpAny_rule ?_)
  first
    | rw [List.forIn_toArray]
    | (rw [← Array.forIn_toList]; simp only [List.toList_toArray])
    | rw [← Array.forIn_toList]
  refine wpAny_bind (keys_loop (H₀ := H) hf rem hDK (fun x s₅ P hx => ?_) xs (kvs.map (·.1)) [] [] 0 H _ hi S₄ (fun _ _ e => e) trivial oD oK (by simp; omega) hD₄ hK₄ fun s₅ H₅ as c S₅ x₅ k₅ oD₅ oK₅ hD₅ hK₅ => ?_)
  · refine wpAny_bind (wpAny_attempt (wpAny_mono hx (fun k s'' hk => ?_) fun _ _ hF => hF.elim))
    dsimp only
    exact wpAny_bind (wpAny_mono hk (fun _ s3 h3 => wpAny_pure h3) fun _ _ e => e)
  · refine wpAny_bind (listItems_at hK₅ rfl ?_)
    refine sort_end S₅ hi (by rw [List.length_map]; exact hz) (by simpa using k₅) oD₅ oK₅ hDK hD₅ hK₅ fun s₆ out ns n S₆ hD₆ ho hp => ?_
    refine ⟨_, rfl, wpAny_pure ⟨_, rfl, ?_⟩⟩
    have S₇ := S₆.take oD₅ (show Holds prog fx.w _ _ (.list (ns.map I)) from ⟨out, n, hD₆, ints_nz ho⟩)
    refine ⟨_, S₇, h _ _ ns (fun b ao e => ?_) oD.h (upd_self _ _ _) hp⟩
    rw [upd_ne _ _ (by rintro rfl; rw [oD.h] at e; cases e)]
    exact x₅ b ao e

/-- a builtin called with one argument and one keyword -/
theorem JV.callKw {func e ke : Expr} {name : Str} {kpos pos : Pos} {Q : Value → OH → Prop}
    (h : JV fx Γ H m (eval func Γ.env) fun f H₁ => ∃ id, f = .builtin id ∧ JV fx Γ H₁ m (eval e Γ.env) fun v H₂ => JV fx Γ H₂ m (eval ke Γ.env) fun k H₃ => ∀ rv rk, nz rv = v → nz rk = k → JV fx Γ H₃ m (call (.builtin id) [rv] [(name, rk)]) Q)
    (he : eval (.Call func [e] [⟨some name, ke, kpos⟩] pos) Γ.env = (do PySem.callWith pos (← eval func Γ.env) [] (backTo pos (starEach [e] Γ.env)) (backToKw pos (keywordEach [⟨some name, ke, kpos⟩] Γ.env))) := by rfl)
    (he2 : backTo pos (starEach [e] Γ.env) = (false, eval e Γ.env) :: backTo pos (starEach [] Γ.env) := by rfl)
    (hk : backToKw pos (keywordEach [⟨some name, ke, kpos⟩] Γ.env) = [(some name, do let v ← eval ke Γ.env; standAt pos; pure v)] := by rfl) :
    JV fx Γ H m (eval (.Call func [e] [⟨some name, ke, kpos⟩] pos) Γ.env) Q := fun s S => by
  rw [he]
  refine wpAny_bind (h.run S fun f H₁ s₁ S₁ ⟨id, ef, q⟩ => ?_)
  obtain rfl := nz_builtin ef
  refine callWith_kw ?_ he2 (by rw [he2]; rfl) (by rw [hk]; rfl) (by rw [hk]; rfl)
  rw [he2]
  refine spliced_cons (q.run S₁ fun v H₂ s₂ S₂ q₂ => spliced_nil ?_)
  rw [hk]
  refine evalAll_cons (wpAny_bind (q₂.run S₂ fun k H₃ s₃ S₃ q₃ => wpAny_bind (wpAny_standAt (wpAny_pure (evalAll_nil ?_)))))
  exact q₃ v k rfl rfl s₃ S₃
end
end Mine
end

section -- FA
open PySem PySem.W PySem.Calls PyProof.Rows PySem.SeqAt
set_option Elab.async false
set_option maxRecDepth 100000
set_option linter.unusedVariables false
namespace Mine

abbrev PG : Program := PySem.Challenge.pw_nz0385_01
abbrev FX := Fx PG heap

theorem prime : (fun (_ : OpenLaw) (_ : Params → Frag) => True) PySem.Challenge.rw_nz0385_01 Mine.heap := by
  k_fill
  trivial

/-- nothing known changes but at W -/
def Ext (W : List Addr) (H H' : OH) : Prop := ∀ a ao, H a = some ao → a ∉ W → H' a = some ao
theorem Ext.refl {W : List Addr} {H : OH} : Ext W H H := fun _ _ e _ => e
theorem Ext.trans {W : List Addr} {H H₁ H₂ : OH} (x : Ext W H H₁) (y : Ext W H₁ H₂) : Ext W H H₂ := fun a ao e n => y a ao (x a ao e n) n
theorem Ext.wide {W V : List Addr} {H H₁ : OH} (x : Ext W H H₁) (h : ∀ a ∈ W, a ∈ V) : Ext V H H₁ := fun a ao e n => x a ao e fun q => n (h a q)
theorem Ext.of_all {W : List Addr} {H H₁ : OH} (x : ∀ a ao, H a = some ao → H₁ a = some ao) : Ext W H H₁ := fun a ao e _ => x a ao e
theorem Ext.fresh {W : List Addr} {H H₁ : OH} {a : Addr} {ao : AO} (x : Ext W H H₁) (h : H₁ a = none) : Ext W H (upd H₁ a ao) := fun b bo e n => by
  have := x b bo e n
  rw [upd_ne _ _ (by rintro rfl; rw [h] at this; cases this)]; exact this
theorem Ext.write {W : List Addr} {H H₁ : OH} {a : Addr} {ao : AO} (x : Ext W H H₁) (h : a ∈ W) : Ext W H (upd H₁ a ao) := fun b bo e n => by
  rw [upd_ne _ _ (by rintro rfl; exact n h)]; exact x b bo e n
/-- a write at an address that was new at H -/
theorem Ext.own {W : List Addr} {H H₁ : OH} {a : Addr} {ao : AO} (x : Ext W H H₁) (h : H a = none) : Ext W H (upd H₁ a ao) := fun b bo e n => by
  rw [upd_ne _ _ (by rintro rfl; rw [h] at e; cases e)]; exact x b bo e n

theorem ne_of_kind {H : OH} {a b : Addr} {x y : AO} (ha : H a = some x) (hb : H b = some y) (n : x ≠ y) : a ≠ b := by
  rintro rfl; rw [ha] at hb; exact n (Option.some.inj hb)
theorem ne_new {H : OH} {a b : Addr} {x : AO} (ha : H a = some x) (hb : H b = none) : a ≠ b := by
  rintro rfl; rw [ha] at hb; cases hb

inductive Gate where
  | input
  | and (a b : Int)
  deriving DecidableEq

structure CA where
  c : Addr
  dc : Addr
  ka : Addr
  pa : Addr
  kn : Addr

def str (x : String) : Value := .str (Str.ofString x) 0
def Gate.kind : Gate → Value
  | .input => str "input"
  | .and _ _ => str "and"
def Gate.parts : Gate → List Value
  | .input => []
  | .and a b => [I a, I b]
def kindsOf (C : List Gate) : List Value := str "" :: str "true" :: C.map Gate.kind
def partsOf (C : List Gate) : List (List Value) := [] :: [] :: C.map Gate.parts
def circM (A : CA) : Loc := updL (updL (updL (fun _ => none) (Str.ofString "kinds") (.ref A.ka)) (Str.ofString "parts_now") (.ref A.pa)) (Str.ofString "known") (.ref A.kn)

/-- a literal of a circuit with so many gates -/
def LitOK (C : List Gate) (x : Int) : Prop := 1 ≤ x.natAbs ∧ x.natAbs ≤ C.length + 1
def PartOK (x : Int) (n : Nat) : Prop := 2 ≤ x.natAbs ∧ x.natAbs < n
def WF (C : List Gate) : Prop := ∀ i a b, C[i]? = some (.and a b) → PartOK a (i + 2) ∧ PartOK b (i + 2) ∧ a ≠ b ∧ a ≠ -b

structure CircH (H : OH) (A : CA) (C : List Gate) : Prop where
  inst : H A.c = some (.inst 224 A.dc)
  dict : H A.dc = some (.ns (circM A) 3)
  kinds : H A.ka = some (.list (kindsOf C))
  parts : ∃ ts : List Addr, H A.pa = some (.list (ts.map .ref)) ∧ ts.length = C.length + 2 ∧ ∀ (i : Nat) (t : Addr), ts[i]? = some t → ∃ p, (partsOf C)[i]? = some p ∧ H t = some (.tup p)
  known : ∃ kvs, H A.kn = some (.tdict kvs) ∧ kvs.length ≤ C.length ∧ ∀ p ∈ kvs, ∃ n : Nat, p.2 = I n ∧ 2 ≤ n ∧ n < C.length + 2
  ne : A.ka ≠ A.pa
  wf : WF C

abbrev CA.W (A : CA) : List Addr := [A.ka, A.pa, A.kn]

theorem CircH.io {H : OH} {A : CA} {C : List Gate} (h : CircH H A C) : InstOf H A.c 224 (circM A) := ⟨_, _, h.inst, h.dict⟩
theorem CircH.ext {H H' : OH} {A : CA} {C : List Gate} {W : List Addr} (h : CircH H A C) (x : Ext W H H') (h1 : A.c ∉ W) (h2 : A.dc ∉ W) (h3 : A.ka ∉ W) (h4 : A.pa ∉ W) (h5 : A.kn ∉ W) (ht : ∀ t p, H t = some (.tup p) → t ∉ W) : CircH H' A C where
  inst := x _ _ h.inst h1
  dict := x _ _ h.dict h2
  kinds := x _ _ h.kinds h3
  parts := let ⟨ts, a, b, c⟩ := h.parts; ⟨ts, x _ _ a h4, b, fun i t e => let ⟨p, q1, q2⟩ := c i t e; ⟨p, q1, x _ _ q2 (ht t p q2)⟩⟩
  known := let ⟨kvs, a, b⟩ := h.known; ⟨kvs, x _ _ a h5, b⟩
  ne := h.ne
  wf := h.wf
theorem CircH.keep {H H' : OH} {A : CA} {C : List Gate} (h : CircH H A C) (x : Ext [] H H') : CircH H' A C := h.ext x (by simp) (by simp) (by simp) (by simp) (by simp) (by simp)

theorem k_kinds (P : Params) : AttrK (heap P) 224 (Str.ofString "kinds") := ⟨by k_is, by k_is, _, by k_is, by k_is⟩
theorem k_parts (P : Params) : AttrK (heap P) 224 (Str.ofString "parts_now") := ⟨by k_is, by k_is, _, by k_is, by k_is⟩
theorem k_known (P : Params) : AttrK (heap P) 224 (Str.ofString "known") := ⟨by k_is, by k_is, _, by k_is, by k_is⟩
theorem k_new_gate (P : Params) : MethK (heap P) 224 (Str.ofString "new_gate") 160 := ⟨by k_is, by k_is, by k_is, by k_is⟩

theorem args1 {raws : List Value} {a : Value} (h : raws.map nz = [a]) : ∃ x, raws = [x] ∧ nz x = a := by
  obtain ⟨x, r, e1, e2, e3⟩ := List.map_eq_cons_iff.mp h
  exact ⟨x, by rw [e1, List.map_eq_nil_iff.mp e3], e2⟩
theorem args2 {raws : List Value} {a b : Value} (h : raws.map nz = [a, b]) : ∃ x y, raws = [x, y] ∧ nz x = a ∧ nz y = b := by
  obtain ⟨x, r, e1, e2, e3⟩ := List.map_eq_cons_iff.mp h
  obtain ⟨y, e4, e5⟩ := args1 e3
  exact ⟨x, y, by rw [e1, e4], e2, e5⟩
theorem args3 {raws : List Value} {a b c : Value} (h : raws.map nz = [a, b, c]) : ∃ x y z, raws = [x, y, z] ∧ nz x = a ∧ nz y = b ∧ nz z = c := by
  obtain ⟨x, r, e1, e2, e3⟩ := List.map_eq_cons_iff.mp h
  obtain ⟨y, z, e4, e5, e6⟩ := args2 e3
  exact ⟨x, y, z, by rw [e1, e4], e2, e5, e6⟩
theorem args4 {raws : List Value} {a b c d : Value} (h : raws.map nz = [a, b, c, d]) : ∃ x y z u, raws = [x, y, z, u] ∧ nz x = a ∧ nz y = b ∧ nz z = c ∧ nz u = d := by
  obtain ⟨x, r, e1, e2, e3⟩ := List.map_eq_cons_iff.mp h
  obtain ⟨y, z, u, e4, e5, e6, e7⟩ := args3 e3
  exact ⟨x, y, z, u, by rw [e1, e4], e2, e5, e6, e7⟩
theorem mp {x : Value} {raws vs : List Value} (h : raws.map nz = vs) : (x :: raws).map nz = nz x :: vs := congrArg (List.cons (nz x)) h
/-- room in a call's frame -/
theorem rm {n k j : Nat} (h : j ≤ n) (d : Nat.ble (k + 1) j = true := by rfl) : k ≤ n - 1 := Nat.le_sub_of_add_le (Nat.le_trans (Nat.le_of_ble_eq_true d) h)
theorem updL_s {m : Loc} {x : Str} {v : Value} : updL m x v x = some v := by unfold updL; rw [if_pos rfl]
theorem updL_k {m : Loc} {x y : Str} {v w : Value} (h : (y == x) = false) (e : m y = some w) : updL m x v y = some w := by
  unfold updL
  rw [if_neg (by simpa using h)]
  exact e

section
variable {fx : FX} {Γ : Amb} {H : OH} {m : Loc} {A : CA} {C : List Gate}
set_option maxHeartbeats 4000000

theorem size_spec {raws : List Value} {Q : Value → OH → Prop} (rem : 1 ≤ Γ.rem) (hC : CircH H A C) (hz : C.length < 2 ^ 20) (hr : raws.map nz = [.ref A.c]) (h : Q (I ((C.length : Int) + 1)) H) : JV fx Γ H m (call (.ref 139) raws) Q := by
  obtain ⟨r1, rfl, e1⟩ := args1 hr
  obtain rfl := nz_ref e1
  refine' JV.fn (fx := fx) (binds := [(Str.ofString "self", .ref A.c)]) ?ho ?hcd ?hrem ?hbind ?hloc ?hnd ?h ?hcell ?h1 ?h2 ?h3
  case ho => show List.lookup _ (Mine.heap _) = _; k_is
  case hcd => show codeIn (Mine.heap _) _ _ = _; k_is
  case hrem => first | omega | (dsimp only; omega)
  case hbind => intro s S; first | exact BindsTo.of_eq rfl | exact binds_K (fx.X.keeps S.base) rfl (by show List.lookup _ (Mine.heap _) = _; k_is) rfl rfl rfl
  case hloc => exact locs rfl
  case hnd => exact (by decide : [Str.ofString "self"].Nodup)
  case hcell => decide
  case h1 => rfl
  case h2 => rfl
  case h3 => rfl
  intro A' L B
  refine JS.cons (JS.ret (JV.sub (JV.callN (JV.nameB (by show nsIn (Mine.heap _) _ _ = _; k_is) (by boot_by_name) (⟨by exact trivial, JL.cons (JV.attr (JV.nameL rfl ⟨A.c, 224, circM A, .ref A.ka, rfl, hC.io, k_kinds _, rfl, trivial, JL.nil ?_⟩))⟩)))))
  intro raws hr
  obtain ⟨r1, rfl, e1⟩ := args1 hr
  obtain rfl := nz_ref e1
  refine JV.lenL hC.kinds (by simp [kindsOf] <;> omega) (JV.cint ⟨_, _, rfl, rfl, ?_⟩)
  have : ((kindsOf C).length : Int) - 1 = (C.length : Int) + 1 := by simp [kindsOf] <;> omega
  rw [this]; exact h

theorem kind_spec {g : Int} {raws : List Value} {Q : Value → OH → Prop} (rem : 1 ≤ Γ.rem) (hC : CircH H A C) {v : Value} (hg : (kindsOf C)[g.natAbs]? = some v) (hz : C.length < 2 ^ 20)
    (hr : raws.map nz = [.ref A.c, I g]) (h : Q v H) : JV fx Γ H m (call (.ref 146) raws) Q := by
  obtain ⟨r1, r2, rfl, e1, e2⟩ := args2 hr
  obtain rfl := nz_ref e1
  obtain ⟨t, rfl⟩ := nz_int e2
  refine' JV.fn (fx := fx) (binds := [(Str.ofString "self", .ref A.c), (Str.ofString "g", .int g t)]) ?ho ?hcd ?hrem ?hbind ?hloc ?hnd ?h ?hcell ?h1 ?h2 ?h3
  case ho => show List.lookup _ (Mine.heap _) = _; k_is
  case hcd => show codeIn (Mine.heap _) _ _ = _; k_is
  case hrem => first | omega | (dsimp only; omega)
  case hbind => intro s S; first | exact BindsTo.of_eq rfl | exact binds_K (fx.X.keeps S.base) rfl (by show List.lookup _ (Mine.heap _) = _; k_is) rfl rfl rfl
  case hloc => exact locs rfl
  case hnd => exact (by decide : [Str.ofString "self", Str.ofString "g"].Nodup)
  case hcell => decide
  case h1 => rfl
  case h2 => rfl
  case h3 => rfl
  intro A' L B
  refine JS.cons (JS.ret (JV.itemL (JV.attr (JV.nameL rfl ⟨A.c, 224, circM A, .ref A.ka, rfl, hC.io, k_kinds _, rfl, trivial, JV.callN (JV.nameB (by show nsIn (Mine.heap _) _ _ = _; k_is) (by boot_by_name) (⟨by exact trivial, JL.cons (JV.nameL rfl (JL.nil ?_))⟩))⟩))))
  intro raws hr
  obtain ⟨r1, rfl, e1⟩ := args1 hr
  refine JV.abs e1 ⟨A.ka, kindsOf C, g.natAbs, v, rfl, rfl, hC.kinds, by omega, ?_, hg, h⟩
  have := (List.getElem?_eq_some_iff.mp hg).1
  simp [kindsOf] at this
  omega

theorem parts_spec {g : Int} {raws : List Value} {Q : Value → OH → Prop} (rem : 1 ≤ Γ.rem) (hC : CircH H A C) (hz : C.length < 2 ^ 20) {p : List Value} (hp : (partsOf C)[g.natAbs]? = some p)
    (hr : raws.map nz = [.ref A.c, I g]) (h : ∀ t, H t = some (.tup p) → Q (.ref t) H) : JV fx Γ H m (call (.ref 153) raws) Q := by
  obtain ⟨r1, r2, rfl, e1, e2⟩ := args2 hr
  obtain rfl := nz_ref e1
  obtain ⟨t, rfl⟩ := nz_int e2
  obtain ⟨ts, q1, q2, q3⟩ := hC.parts
  have hlt : g.natAbs < ts.length := by
    have := (List.getElem?_eq_some_iff.mp hp).1
    simp [partsOf] at this
    omega
  obtain ⟨p', e3, e4⟩ := q3 g.natAbs ts[g.natAbs] (List.getElem?_eq_getElem hlt)
  rw [hp] at e3
  obtain rfl := Option.some.inj e3
  refine' JV.fn (fx := fx) (binds := [(Str.ofString "self", .ref A.c), (Str.ofString "g", .int g t)]) ?ho ?hcd ?hrem ?hbind ?hloc ?hnd ?h ?hcell ?h1 ?h2 ?h3
  case ho => show List.lookup _ (Mine.heap _) = _; k_is
  case hcd => show codeIn (Mine.heap _) _ _ = _; k_is
  case hrem => first | omega | (dsimp only; omega)
  case hbind => intro s S; first | exact BindsTo.of_eq rfl | exact binds_K (fx.X.keeps S.base) rfl (by show List.lookup _ (Mine.heap _) = _; k_is) rfl rfl rfl
  case hloc => exact locs rfl
  case hnd => exact (by decide : [Str.ofString "self", Str.ofString "g"].Nodup)
  case hcell => decide
  case h1 => rfl
  case h2 => rfl
  case h3 => rfl
  intro A' L B
  refine JS.cons (JS.ret (JV.itemL (JV.attr (JV.nameL rfl ⟨A.c, 224, circM A, .ref A.pa, rfl, hC.io, k_parts _, rfl, trivial, JV.callN (JV.nameB (by show nsIn (Mine.heap _) _ _ = _; k_is) (by boot_by_name) (⟨by exact trivial, JL.cons (JV.nameL rfl (JL.nil ?_))⟩))⟩))))
  intro raws hr
  obtain ⟨r1, rfl, e1⟩ := args1 hr
  refine JV.abs e1 ⟨A.pa, ts.map .ref, g.natAbs, .ref ts[g.natAbs], rfl, rfl, q1, by omega, by omega, by simp [hlt], h _ e4⟩
end
end Mine
end

section -- FB
open PySem PySem.W PySem.Calls PyProof.Rows PySem.SeqAt
set_option Elab.async false
set_option maxRecDepth 100000
set_option linter.unusedVariables false
namespace Mine
theorem primeFB : (fun (_ : OpenLaw) (_ : Params → Frag) => True) PySem.Challenge.rw_nz0385_01 Mine.heap := by
  k_fill
  trivial

theorem kindsOf_snoc (C : List Gate) (g : Gate) : kindsOf (C ++ [g]) = kindsOf C ++ [g.kind] := by simp [kindsOf]
theorem partsOf_snoc (C : List Gate) (g : Gate) : partsOf (C ++ [g]) = partsOf C ++ [g.parts] := by simp [partsOf]
theorem partsOf_len (C : List Gate) : (partsOf C).length = C.length + 2 := by simp [partsOf]
theorem kindsOf_len (C : List Gate) : (kindsOf C).length = C.length + 2 := by simp [kindsOf]

/-- what a circuit grows by -/
def Grow (k : Nat) (C C' : List Gate) : Prop := ∃ D, C' = C ++ D ∧ D.length ≤ k ∧ ∀ g ∈ D, g ≠ .input
theorem Grow.refl {k : Nat} {C : List Gate} : Grow k C C := ⟨[], by simp, by simp, by simp⟩
theorem Grow.trans {k l : Nat} {C C₁ C₂ : List Gate} (x : Grow k C C₁) (y : Grow l C₁ C₂) : Grow (k + l) C C₂ := by
  obtain ⟨D, rfl, a, b⟩ := x
  obtain ⟨D', rfl, c, d⟩ := y
  exact ⟨D ++ D', by simp, by simp; omega, fun g hg => (List.mem_append.mp hg).elim (b g) (d g)⟩
theorem Grow.le {k l : Nat} {C C₁ : List Gate} (x : Grow k C C₁) (h : k ≤ l) : Grow l C C₁ := let ⟨D, a, b, c⟩ := x; ⟨D, a, Nat.le_trans b h, c⟩
theorem Grow.len {k : Nat} {C C₁ : List Gate} (x : Grow k C C₁) : C.length ≤ C₁.length ∧ C₁.length ≤ C.length + k := by
  obtain ⟨D, rfl, a, b⟩ := x; simp; omega
theorem LitOK.grow {k : Nat} {C C₁ : List Gate} {x : Int} (h : LitOK C x) (g : Grow k C C₁) : LitOK C₁ x := ⟨h.1, Nat.le_trans h.2 (by have := g.len; omega)⟩
theorem LitOK.neg {C : List Gate} {x : Int} (h : LitOK C x) : LitOK C (-x) := by unfold LitOK at *; rw [Int.natAbs_neg]; exact h

section
variable {fx : FX} {Γ : Amb} {H : OH} {m : Loc} {A : CA} {C : List Gate}
set_option maxHeartbeats 4000000

theorem CircH.grow (hC : CircH H A C) {g : Gate} {t : Addr} {ts : List Addr} (hw : WF (C ++ [g])) (ht : H t = some (.tup g.parts)) (h1 : H A.pa = some (.list (ts.map .ref))) (h2 : ts.length = C.length + 2)
    (h3 : ∀ (i : Nat) (t : Addr), ts[i]? = some t → ∃ p, (partsOf C)[i]? = some p ∧ H t = some (.tup p)) :
    CircH (upd (upd H A.ka (.list (kindsOf C ++ [g.kind]))) A.pa (.list (ts.map .ref ++ [.ref t]))) A (C ++ [g]) where
  inst := by rw [upd_ne _ _ (ne_of_kind hC.inst h1 (by simp)), upd_ne _ _ (ne_of_kind hC.inst hC.kinds (by simp))]; exact hC.inst
  dict := by rw [upd_ne _ _ (ne_of_kind hC.dict h1 (by simp)), upd_ne _ _ (ne_of_kind hC.dict hC.kinds (by simp))]; exact hC.dict
  kinds := by rw [upd_ne _ _ hC.ne, upd_self, kindsOf_snoc]
  parts := by
    have keep : ∀ u p, H u = some (.tup p) → (upd (upd H A.ka (.list (kindsOf C ++ [g.kind]))) A.pa (.list (ts.map .ref ++ [.ref t]))) u = some (.tup p) := fun u p e => by
      rw [upd_ne _ _ (ne_of_kind e h1 (by simp)), upd_ne _ _ (ne_of_kind e hC.kinds (by simp))]; exact e
    refine ⟨ts ++ [t], by rw [upd_self]; simp, by simp; omega, fun i u hu => ?_⟩
    rw [partsOf_snoc]
    by_cases hi : i < ts.length
    · rw [List.getElem?_append_left hi] at hu
      obtain ⟨p, e1, e2⟩ := h3 i u hu
      exact ⟨p, by rw [List.getElem?_append_left (by rw [partsOf_len]; omega)]; exact e1, keep u p e2⟩
    · rw [List.getElem?_append_right (by omega)] at hu
      have : i - ts.length = 0 := by
        have := (List.getElem?_eq_some_iff.mp hu).1
        simp at this; omega
      rw [this] at hu
      simp at hu
      subst hu
      exact ⟨g.parts, by rw [List.getElem?_append_right (by rw [partsOf_len]; omega), partsOf_len]; rw [show i - (C.length + 2) = 0 by omega]; rfl, keep _ _ ht⟩
  known := by
    obtain ⟨kvs, a, b, c⟩ := hC.known
    refine ⟨kvs, by rw [upd_ne _ _ (ne_of_kind a h1 (by simp)), upd_ne _ _ (ne_of_kind a hC.kinds (by simp))]; exact a, by simp; omega, fun p hp => ?_⟩
    obtain ⟨n, q1, q2, q3⟩ := c p hp
    exact ⟨n, q1, q2, by simp; omega⟩
  ne := hC.ne
  wf := hw

theorem new_gate_spec {g : Gate} {t : Addr} {raws : List Value} {Q : Value → OH → Prop} (rem : 1 ≤ Γ.rem) (hC : CircH H A C) (hz : C.length < 2 ^ 20) (hw : WF (C ++ [g])) (ht : H t = some (.tup g.parts))
    (hr : raws.map nz = [.ref A.c, g.kind, .ref t]) (h : ∀ H', CircH H' A (C ++ [g]) → Ext [A.ka, A.pa] H H' → Q (I ((C.length : Int) + 2)) H') : JV fx Γ H m (call (.ref 160) raws) Q := by
  obtain ⟨r1, r2, r3, rfl, e1, e2, e3⟩ := args3 hr
  obtain rfl := nz_ref e1
  obtain rfl := nz_ref e3
  obtain ⟨ts, q1, q2, q3⟩ := hC.parts
  refine' JV.fn (fx := fx) (binds := [(Str.ofString "self", .ref A.c), (Str.ofString "kind", r2), (Str.ofString "parts", .ref t)]) ?ho ?hcd ?hrem ?hbind ?hloc ?hnd ?h ?hcell ?h1 ?h2 ?h3
  case ho => show List.lookup _ (Mine.heap _) = _; k_is
  case hcd => show codeIn (Mine.heap _) _ _ = _; k_is
  case hrem => first | omega | (dsimp only; omega)
  case hbind => intro s S; first | exact BindsTo.of_eq rfl | exact binds_K (fx.X.keeps S.base) rfl (by show List.lookup _ (Mine.heap _) = _; k_is) rfl rfl rfl
  case hloc => exact locs rfl
  case hnd => exact (by decide : [Str.ofString "self", Str.ofString "kind", Str.ofString "parts"].Nodup)
  case hcell => decide
  case h1 => rfl
  case h2 => rfl
  case h3 => rfl
  intro A' L B
  have zl : sizeLine = 2 ^ 24 := rfl
  refine JS.cons (JS.expr (JV.appendE (JV.attr (JV.nameL rfl ⟨A.c, 224, circM A, .ref A.ka, rfl, hC.io, k_kinds _, rfl, trivial, A.ka, _, rfl, hC.kinds, JV.nameL rfl ⟨_, hC.kinds, by rw [kindsOf_len, zl]; omega, trivial, ?_⟩⟩))))
  dsimp only
  rw [e2]
  have C1 : (upd H A.ka (.list (kindsOf C ++ [g.kind]))) A.c = some (.inst 224 A.dc) := by rw [upd_ne _ _ (ne_of_kind hC.inst hC.kinds (by simp))]; exact hC.inst
  have C2 : (upd H A.ka (.list (kindsOf C ++ [g.kind]))) A.dc = some (.ns (circM A) 3) := by rw [upd_ne _ _ (ne_of_kind hC.dict hC.kinds (by simp))]; exact hC.dict
  have C3 : (upd H A.ka (.list (kindsOf C ++ [g.kind]))) A.pa = some (.list (ts.map .ref)) := by rw [upd_ne _ _ (Ne.symm hC.ne)]; exact q1
  refine JS.cons (JS.expr (JV.appendE (JV.attr (JV.nameL rfl ⟨A.c, 224, circM A, .ref A.pa, rfl, ⟨_, _, C1, C2⟩, k_parts _, rfl, trivial, A.pa, _, rfl, C3, JV.nameL rfl ⟨_, C3, by rw [List.length_map, q2, zl]; omega, trivial, ?_⟩⟩))))
  dsimp only
  have hN := hC.grow hw ht q1 q2 q3
  refine JS.cons (JS.ret (JV.sub (JV.callN (JV.nameB (by show nsIn (Mine.heap _) _ _ = _; k_is) (by boot_by_name) (⟨by exact trivial, JL.cons (JV.attr (JV.nameL rfl ⟨A.c, 224, circM A, .ref A.ka, rfl, hN.io, k_kinds _, rfl, trivial, JL.nil ?_⟩))⟩)))))
  intro raws hr
  obtain ⟨r1, rfl, e1⟩ := args1 hr
  obtain rfl := nz_ref e1
  refine JV.lenL hN.kinds (by rw [kindsOf_len]; simp; omega) (JV.cint ⟨_, _, rfl, rfl, ?_⟩)
  have : ((kindsOf (C ++ [g])).length : Int) - 1 = (C.length : Int) + 2 := by rw [kindsOf_len]; simp; omega
  rw [this]
  exact h _ hN ((Ext.refl.write (by simp)).write (by simp))

theorem WF.input (h : WF C) : WF (C ++ [.input]) := fun i a b e => by
  by_cases hi : i < C.length
  · rw [List.getElem?_append_left hi] at e; exact h i a b e
  · rw [List.getElem?_append_right (by omega)] at e
    have := (List.getElem?_eq_some_iff.mp e).1
    simp at this
    rw [show i - C.length = 0 by omega] at e
    simp at e

theorem new_input_spec {raws : List Value} {Q : Value → OH → Prop} (rem : 2 ≤ Γ.rem) (hC : CircH H A C) (hz : C.length < 2 ^ 20)
    (hr : raws.map nz = [.ref A.c]) (h : ∀ H', CircH H' A (C ++ [.input]) → Ext [A.ka, A.pa] H H' → Q (I ((C.length : Int) + 2)) H') : JV fx Γ H m (call (.ref 167) raws) Q := by
  obtain ⟨r1, rfl, e1⟩ := args1 hr
  obtain rfl := nz_ref e1
  refine' JV.fn (fx := fx) (binds := [(Str.ofString "self", .ref A.c)]) ?ho ?hcd ?hrem ?hbind ?hloc ?hnd ?h ?hcell ?h1 ?h2 ?h3
  case ho => show List.lookup _ (Mine.heap _) = _; k_is
  case hcd => show codeIn (Mine.heap _) _ _ = _; k_is
  case hrem => first | omega | (dsimp only; omega)
  case hbind => intro s S; first | exact BindsTo.of_eq rfl | exact binds_K (fx.X.keeps S.base) rfl (by show List.lookup _ (Mine.heap _) = _; k_is) rfl rfl rfl
  case hloc => exact locs rfl
  case hnd => exact (by decide : [Str.ofString "self"].Nodup)
  case hcell => decide
  case h1 => rfl
  case h2 => rfl
  case h3 => rfl
  intro A' L B
  refine JS.cons (JS.ret (JV.methN (JV.nameL rfl ⟨A.c, 224, circM A, 160, rfl, hC.io, k_new_gate _, rfl, JL.cons (JV.cstr (JL.cons (JV.tupE (JL.nil ⟨by decide, fun t ht => JL.nil ?_⟩))))⟩)))
  intro raws hr
  have hK : CircH (upd H t (.tup [])) A C := hC.keep (Ext.refl.fresh ht)
  exact new_gate_spec (g := .input) (t := t) (rm rem) hK hz hC.wf.input (upd_self _ _ _) (by simp [hr, nz, Gate.kind, str]) fun H' a b => h H' a (((Ext.refl.fresh ht).trans b))
end
end Mine
end

section -- FC
open PySem PySem.W PySem.Calls PyProof.Rows PySem.SeqAt
set_option Elab.async false
set_option maxRecDepth 100000
set_option linter.unusedVariables false
namespace Mine
theorem primeFC : (fun (_ : OpenLaw) (_ : Params → Frag) => True) PySem.Challenge.rw_nz0385_01 Mine.heap := by
  k_fill
  trivial

theorem iteT {P R : Prop} (h : P) : (if (true : Bool) = true then P else R) := h
theorem iteF {P R : Prop} (h : R) : (if (false : Bool) = true then P else R) := h
theorem upd_upd (H : OH) (a : Addr) (x y : AO) : upd (upd H a x) a y = upd H a y := by
  funext b; unfold upd; split <;> rfl

section
variable {prog : Program} {KF : Params → Frag} {fx : Fx prog KF}
theorem Src.seq {t : Addr} {vs : List Value} {ao : AO} (h : ao = .list vs ∨ ao = .tup vs) : ∃ At, Src fx t (fun H => H t = some ao) vs At := by
  rcases h with rfl | rfl
  · exact ⟨_, Src.list⟩
  · exact ⟨_, Src.tup⟩
end

/-- a dict that only marks ints -/
def marks (fs : List Int) : List (Int × Value) := fs.map fun f => (f, .bool true)
theorem marks_at (fs : List Int) (k : Int) : (valueAt (marks fs) k).isSome = decide (k ∈ fs) := by
  unfold valueAt marks
  rw [Option.isSome_map, Bool.eq_iff_iff, List.find?_isSome]
  simp only [List.mem_map, decide_eq_true_eq]
  exact ⟨fun ⟨x, ⟨a, ha, e⟩, q⟩ => by subst e; exact q ▸ ha, fun q => ⟨_, ⟨k, q, rfl⟩, rfl⟩⟩
theorem marks_put (fs : List Int) (k : Int) : stored (marks fs) k (.bool true) = marks (if k ∈ fs then fs else fs ++ [k]) := by
  unfold stored marks
  have : ((fs.map fun f => (f, Value.bool true)).any fun kv => decide (kv.1 = k)) = decide (k ∈ fs) := by
    rw [Bool.eq_iff_iff, List.any_eq_true]
    simp only [List.mem_map, decide_eq_true_eq]
    exact ⟨fun ⟨x, ⟨a, ha, e⟩, q⟩ => by subst e; exact q ▸ ha, fun q => ⟨_, ⟨k, q, rfl⟩, rfl⟩⟩
  rw [this]
  by_cases h : k ∈ fs
  · simp only [h, decide_true, if_true, List.map_map]
    refine List.map_congr_left fun f _ => ?_
    simp only [Function.comp]
    split <;> rfl
  · simp [h]
theorem marks_keys (fs : List Int) : (marks fs).map (·.1) = fs := by unfold marks; rw [List.map_map]; exact List.map_id fs
theorem marks_len (fs : List Int) : (marks fs).length = fs.length := by unfold marks; rw [List.length_map]

theorem stored_get {K : Type} [DecidableEq K] (kvs : List (K × Value)) (k : K) (v : Value) : valueAt (stored kvs k v) k = some v := by
  unfold valueAt stored
  split
  · rename_i h
    induction kvs with
    | nil => simp at h
    | cons p r ih =>
      rw [List.map_cons, List.find?_cons]
      by_cases q : p.1 = k
      · simp [q]
      · simp only [q, if_false, decide_false]
        exact ih (by simpa [q] using h)
  · rename_i h
    rw [List.find?_append]
    have : kvs.find? (fun kv => decide (kv.1 = k)) = none := by
      rw [List.find?_eq_none]
      intro x hx q
      exact h (List.any_eq_true.mpr ⟨x, hx, q⟩)
    rw [this]; simp
theorem stored_mem {K : Type} [DecidableEq K] {kvs : List (K × Value)} {k : K} {v : Value} {p : K × Value} (h : p ∈ stored kvs k v) : p.2 = v ∨ p ∈ kvs := by
  unfold stored at h
  split at h
  · obtain ⟨q, hq, e⟩ := List.mem_map.mp h
    split at e
    · left; rw [← e]
    · right; rw [← e]; exact hq
  · rcases List.mem_append.mp h with h | h
    · exact .inr h
    · rw [List.mem_singleton] at h; rw [h]; exact .inl rfl
theorem stored_len {K : Type} [DecidableEq K] (kvs : List (K × Value)) (k : K) (v : Value) : (stored kvs k v).length ≤ kvs.length + 1 := by
  unfold stored
  split <;> simp
theorem WF.and {C : List Gate} (h : WF C) {a b : Int} (ha : PartOK a (C.length + 2)) (hb : PartOK b (C.length + 2)) (n1 : a ≠ b) (n2 : a ≠ -b) : WF (C ++ [.and a b]) := fun i x y e => by
  by_cases hi : i < C.length
  · rw [List.getElem?_append_left hi] at e; exact h i x y e
  · rw [List.getElem?_append_right (by omega)] at e
    have := (List.getElem?_eq_some_iff.mp e).1
    simp at this
    rw [show i - C.length = 0 by omega] at e
    simp at e
    obtain ⟨rfl, rfl⟩ := e
    rw [show i = C.length by omega]
    exact ⟨ha, hb, n1, n2⟩
theorem CircH.put {H : OH} {A : CA} {C : List Gate} (hC : CircH H A C) {kvs : List (List Int × Value)} {ks : List Int} {n : Nat} (hk : H A.kn = some (.tdict kvs)) (hl : kvs.length + 1 ≤ C.length) (h2 : 2 ≤ n) (hn : n < C.length + 2) :
    CircH (upd H A.kn (.tdict (stored kvs ks (I n)))) A C where
  inst := by rw [upd_ne _ _ (ne_of_kind hC.inst hk (by simp))]; exact hC.inst
  dict := by rw [upd_ne _ _ (ne_of_kind hC.dict hk (by simp))]; exact hC.dict
  kinds := by rw [upd_ne _ _ (ne_of_kind hC.kinds hk (by simp))]; exact hC.kinds
  parts := by
    obtain ⟨ts, a, b, c⟩ := hC.parts
    refine ⟨ts, by rw [upd_ne _ _ (ne_of_kind a hk (by simp))]; exact a, b, fun i t e => ?_⟩
    obtain ⟨p, q1, q2⟩ := c i t e
    exact ⟨p, q1, by rw [upd_ne _ _ (ne_of_kind q2 hk (by simp))]; exact q2⟩
  known := by
    obtain ⟨kvs', a, b, c⟩ := hC.known
    rw [hk] at a; cases a
    refine ⟨_, upd_self _ _ _, Nat.le_trans (stored_len _ _ _) hl, fun p hp => ?_⟩
    rcases stored_mem hp with e | e
    · exact ⟨n, e, h2, hn⟩
    · exact c p e
  ne := hC.ne
  wf := hC.wf

section
variable {fx : FX} {Γ : Amb} {H : OH} {m : Loc} {A : CA} {C : List Gate}
set_option maxHeartbeats 4000000

theorem all_of_spec {t : Addr} {ao : AO} {x y : Int} {raws : List Value} {Q : Value → OH → Prop} (rem : 4 ≤ Γ.rem) (hC : CircH H A C) (hz : C.length + 1 < 2 ^ 20) (hg : H t = some ao) (hao : ao = .list [I x, I y] ∨ ao = .tup [I x, I y])
    (hx : LitOK C x) (hy : LitOK C y) (hr : raws.map nz = [.ref A.c, .ref t]) (h : ∀ r C' H', LitOK C' r → Grow 1 C C' → CircH H' A C' → Ext A.W H H' → Q (I r) H') : JV fx Γ H m (call (.ref 174) raws) Q := by
  obtain ⟨r1, r2, rfl, e1, e2⟩ := args2 hr
  obtain rfl := nz_ref e1
  obtain rfl := nz_ref e2
  obtain ⟨At, src⟩ := Src.seq (fx := fx) (t := t) hao
  refine' JV.fn (fx := fx) (binds := [(Str.ofString "self", .ref A.c), (Str.ofString "gates", .ref t)]) ?ho ?hcd ?hrem ?hbind ?hloc ?hnd ?h ?hcell ?h1 ?h2 ?h3
  case ho => show List.lookup _ (Mine.heap _) = _; k_is
  case hcd => show codeIn (Mine.heap _) _ _ = _; k_is
  case hrem => first | omega | (dsimp only; omega)
  case hbind => intro s S; first | exact BindsTo.of_eq rfl | exact binds_K (fx.X.keeps S.base) rfl (by show List.lookup _ (Mine.heap _) = _; k_is) rfl rfl rfl
  case hloc => exact locs rfl
  case hnd => exact (by decide : [Str.ofString "self", Str.ofString "gates"].Nodup)
  case hcell => decide
  case h1 => rfl
  case h2 => rfl
  case h3 => rfl
  intro A' L B
  refine JS.cons (JS.assignL (JV.dictI0 fun d hd => ?_))
  dsimp only
  have dne : t ≠ d := ne_new hg hd
  refine JS.cons (JS.forE (JV.nameL rfl ⟨t, rfl, _, [I x, I y], At, fun i H' m' => ∃ fs : List Int, H' = upd H d (.idict (marks fs)) ∧ fs.Nodup ∧ (∀ f ∈ fs, LitOK C f ∧ f ≠ 1 ∧ f ≠ -1) ∧ (∀ f ∈ fs, -f ∉ fs) ∧ fs.length ≤ i ∧
    m' (Str.ofString "self") = some (.ref A.c) ∧ m' (Str.ofString "found") = some (.ref d), src, ⟨[], rfl, by simp, by simp, by simp, by simp, rfl, rfl⟩, ?_, ?_, ?_⟩))
  · rintro i H' m' ⟨fs, rfl, _⟩
    rw [upd_ne _ _ dne]; exact hg
  · rintro i v H₁ m₁ hv ⟨fs, rfl, f1, f2, f3, f4, f5, f6⟩ B' rv hrv
    obtain ⟨k, rfl, hk⟩ : ∃ k, v = I k ∧ LitOK C k := by
      match i, hv with
      | 0, hv => simp at hv; exact ⟨x, hv.symm, hx⟩
      | 1, hv => simp at hv; exact ⟨y, hv.symm, hy⟩
    have hi2 : i < 2 := by have := (List.getElem?_eq_some_iff.mp hv).1; simpa using this
    refine JU.nameL ?_
    rw [hrv]
    have g0 : updL m₁ (Str.ofString "g") (I k) (Str.ofString "g") = some (I k) := updL_s
    have g1 : updL m₁ (Str.ofString "g") (I k) (Str.ofString "found") = some (.ref d) := updL_k rfl f6
    have g2 : updL m₁ (Str.ofString "g") (I k) (Str.ofString "self") = some (.ref A.c) := updL_k rfl f5
    refine JS.cons (JS.ite (JB.or (JB.cmpOk (JV.nameL g0 (JV.neg (JV.cint ⟨1, rfl, _, CmpOk.eqI, ?_⟩))))))
    split
    · refine iteT (JS.cons (JS.ret (JV.neg (JV.cint ⟨1, rfl, ?_⟩))))
      exact h (-1) C _ ⟨by decide, by simp⟩ Grow.refl (hC.keep (Ext.refl.fresh hd)) (Ext.refl.fresh hd)
    · rename_i hk1
      refine JB.or1 (JB.cmpOk (JV.neg (JV.nameL g0 ⟨k, rfl, JV.nameL g1 ⟨_, CmpOk.inI (upd_self _ _ _), ?_⟩⟩)))
      rw [marks_at]
      split
      · refine JS.cons (JS.ret (JV.neg (JV.cint ⟨1, rfl, ?_⟩)))
        exact h (-1) C _ ⟨by decide, by simp⟩ Grow.refl (hC.keep (Ext.refl.fresh hd)) (Ext.refl.fresh hd)
      · rename_i hk2
        have hk2' : -k ∉ fs := by simpa using hk2
        refine JS.nil ?_
        refine JS.cons (JS.ite (JB.cmpOk (JV.nameL g0 (JV.cint ⟨_, CmpOk.neI, ?_⟩))))
        split
        · rename_i hk3
          refine JS.cons (JS.putI (JV.cbool (JV.nameL g1 (JV.nameL g0 ⟨d, _, k, rfl, rfl, upd_self _ _ _, by rw [marks_len]; have : sizeLine = 2 ^ 24 := rfl; omega, ?_⟩))))
          dsimp only
          refine JS.nil (JS.nil ?_)
          rw [upd_upd, marks_put]
          refine ⟨_, rfl, ?_, ?_, ?_, ?_, g2, g1⟩
          · split
            · exact f1
            · rename_i q; rw [List.nodup_append]; exact ⟨f1, by simp, fun a ha b hb => by simp at hb; rintro rfl; exact q (hb ▸ ha)⟩
          · intro f hf
            split at hf
            · exact f2 f hf
            · rcases List.mem_append.mp hf with hf | hf
              · exact f2 f hf
              · simp at hf; subst hf; exact ⟨hk, by simpa using hk3, by simpa using hk1⟩
          · intro f hf hn
            split at hf
            · rename_i q; rw [if_pos q] at hn; exact f3 f hf hn
            · rename_i q
              rw [if_neg q] at hn
              rcases List.mem_append.mp hf with a1 | a1 <;> rcases List.mem_append.mp hn with a2 | a2
              · exact f3 f a1 a2
              · rw [List.mem_singleton] at a2; exact hk2' (by rw [← a2, Int.neg_neg]; exact a1)
              · rw [List.mem_singleton] at a1; exact hk2' (by rw [← a1]; exact a2)
              · rw [List.mem_singleton] at a1 a2; have := hk.1; omega
          · split
            · omega
            · simp; omega
        · refine JS.nil (JS.nil ⟨fs, rfl, f1, f2, f3, by omega, g2, g1⟩)
  · rintro H₁ m₁ ⟨fs, rfl, f1, f2, f3, f4, f5, f6⟩
    dsimp only
    simp only [List.length_cons, List.length_nil] at f4
    have hC1 : CircH (upd H d (.idict (marks fs))) A C := hC.keep (Ext.refl.fresh hd)
    refine JS.cons (JS.assignL (JV.callN (JV.nameB (by show nsIn (Mine.heap _) _ _ = _; k_is) (by boot_by_name) (⟨by exact trivial, JL.cons (JV.callN (JV.nameB (by show nsIn (Mine.heap _) _ _ = _; k_is) (by boot_by_name) (⟨by exact trivial, JL.cons (JV.nameL f6 (JL.nil ?_))⟩)))⟩))))
    intro raws hr
    obtain ⟨r1, rfl, e1⟩ := args1 hr
    obtain rfl := nz_ref e1
    refine JV.sortedD (upd_self _ _ _) (by rw [marks_len]; omega) fun l ns hl hp => ?_
    rw [marks_keys] at hp
    refine JL.nil ?_
    intro raws hr
    obtain ⟨r1, rfl, e1⟩ := args1 hr
    obtain rfl := nz_ref e1
    have hlen := hp.length_eq
    have zl : sizeLine = 2 ^ 24 := rfl
    refine JV.tupleOf (upd_self _ _ _) (by rw [List.length_map, zl]; omega) fun p hpn => ?_
    dsimp only
    have x2 : Ext A.W H (upd (upd (upd H d (.idict (marks fs))) l (.list (ns.map I))) p (.tup (ns.map I))) := ((Ext.refl.fresh hd).fresh hl).fresh hpn
    have hC2 : CircH (upd (upd (upd H d (.idict (marks fs))) l (.list (ns.map I))) p (.tup (ns.map I))) A C := ((hC1.keep (Ext.refl.fresh hl)).keep (Ext.refl.fresh hpn))
    have tp : (upd (upd (upd H d (.idict (marks fs))) l (.list (ns.map I))) p (.tup (ns.map I))) p = some (.tup (ns.map I)) := upd_self _ _ _
    generalize (upd (upd (upd H d (.idict (marks fs))) l (.list (ns.map I))) p (.tup (ns.map I))) = H2 at x2 hC2 tp
    have mp : updL m₁ (Str.ofString "parts") (.ref p) (Str.ofString "parts") = some (.ref p) := updL_s
    have ms : updL m₁ (Str.ofString "parts") (.ref p) (Str.ofString "self") = some (.ref A.c) := updL_k rfl f5
    generalize updL m₁ (Str.ofString "parts") (.ref p) = m2 at mp ms
    refine JS.cons (JS.ite (JB.cmpOk (JV.callN (JV.nameB (by show nsIn (Mine.heap _) _ _ = _; k_is) (by boot_by_name) (⟨by exact trivial, JL.cons (JV.nameL mp (JL.nil ?_))⟩)))))
    intro raws hr
    obtain ⟨r1, rfl, e1⟩ := args1 hr
    obtain rfl := nz_ref e1
    refine JV.lenT tp (by rw [List.length_map]; omega) (JV.cint ⟨_, CmpOk.ltI, ?_⟩)
    rw [List.length_map]
    split
    · refine JS.cons (JS.ret (JV.ife (JB.cmpOk (JV.callN (JV.nameB (by show nsIn (Mine.heap _) _ _ = _; k_is) (by boot_by_name) (⟨by exact trivial, JL.cons (JV.nameL mp (JL.nil ?_))⟩))))))
      intro raws hr
      obtain ⟨r1, rfl, e1⟩ := args1 hr
      obtain rfl := nz_ref e1
      refine JV.lenT tp (by rw [List.length_map]; omega) (JV.cint ⟨_, CmpOk.eqI, ?_⟩)
      rw [List.length_map]
      split
      · rename_i q
        have q' : ns.length = 1 := by
          have q2 : (ns.length : Int) = 1 := by simpa using q
          omega
        obtain ⟨f, rfl⟩ := List.length_eq_one_iff.mp q'
        refine JV.itemT (JV.nameL mp (JV.cint ⟨p, _, 0, I f, rfl, rfl, tp, by omega, by omega, rfl, ?_⟩))
        exact h f C H2 (f2 f (hp.mem_iff.mp (by simp))).1 Grow.refl hC2 x2
      · refine JV.cint ?_
        exact h 1 C H2 ⟨by decide, by simp⟩ Grow.refl hC2 x2
    · rename_i q
      have q' : ns.length = 2 := by simp at q; omega
      obtain ⟨a, b, rfl⟩ : ∃ a b, ns = [a, b] := by
        match ns, q' with
        | [a, b], _ => exact ⟨a, b, rfl⟩
      have hab := hp.nodup_iff.mpr f1
      have ha := f2 a (hp.mem_iff.mp (by simp))
      have hb := f2 b (hp.mem_iff.mp (by simp))
      have hne : a ≠ b := by simpa using hab
      have hneg : a ≠ -b := by
        intro e
        exact f3 b (hp.mem_iff.mp (by simp)) (hp.mem_iff.mp (by simp [e]))
      refine JS.nil ?_
      obtain ⟨kvs, k1, k2, k3⟩ := hC2.known
      refine JS.cons (JS.ite (JB.cmpOk (JV.nameL mp (JV.attr (JV.nameL ms ⟨A.c, 224, circM A, .ref A.kn, rfl, hC2.io, k_known _, rfl, trivial, _, CmpOk.notInT (ks := [a, b]) tp k1 (rm rem), ?_⟩)))))
      split
      · rename_i hk
        have hk' : valueAt kvs [a, b] = none := by simpa using hk
        have hw : WF (C ++ [.and a b]) := hC.wf.and ⟨by have := ha.1.1; have := ha.2.1; have := ha.2.2; omega, by have := ha.1.2; omega⟩ ⟨by have := hb.1.1; have := hb.2.1; have := hb.2.2; omega, by have := hb.1.2; omega⟩ hne hneg
        refine JS.cons (JS.putT (JV.methN (JV.nameL ms ⟨A.c, 224, circM A, 160, rfl, hC2.io, k_new_gate _, rfl, JL.cons (JV.cstr (JL.cons (JV.nameL mp (JL.nil ?_))))⟩)))
        intro raws hr
        refine new_gate_spec (g := .and a b) (t := p) (rm rem) hC2 (by omega) hw tp (by simp [hr, nz, Gate.kind, str]) fun H3 hC3 x3 => ?_
        have k1' : H3 A.kn = some (.tdict kvs) := x3 _ _ k1 (by simp only [List.mem_cons, List.not_mem_nil, or_false, not_or]; exact ⟨ne_of_kind k1 hC2.kinds (by simp), by obtain ⟨ts, q, _⟩ := hC2.parts; exact ne_of_kind k1 q (by simp)⟩)
        have tp' : H3 p = some (.tup ([a, b].map I)) := x3 _ _ tp (by simp only [List.mem_cons, List.not_mem_nil, or_false, not_or]; exact ⟨ne_of_kind tp hC2.kinds (by simp), by obtain ⟨ts, q, _⟩ := hC2.parts; exact ne_of_kind tp q (by simp)⟩)
        refine JV.attr (JV.nameL ms ⟨A.c, 224, circM A, .ref A.kn, rfl, hC3.io, k_known _, rfl, trivial, JV.nameL mp ⟨A.kn, p, kvs, [a, b], rfl, rfl, k1', tp', by rw [zl]; omega, rm rem, ?_⟩⟩)
        dsimp only
        have hC4 := hC3.put (ks := [a, b]) (n := C.length + 2) k1' (by simp; omega) (by omega) (by simp)
        have k4 : (upd H3 A.kn (.tdict (stored kvs [a, b] (I ((C.length : Int) + 2))))) A.kn = some (.tdict (stored kvs [a, b] (I ((C.length : Int) + 2)))) := upd_self _ _ _
        have tp4 : (upd H3 A.kn (.tdict (stored kvs [a, b] (I ((C.length : Int) + 2))))) p = some (.tup ([a, b].map I)) := by rw [upd_ne _ _ (ne_of_kind tp' k1' (by simp))]; exact tp'
        refine JS.nil (JS.cons (JS.ret (JV.itemTd (JV.attr (JV.nameL ms ⟨A.c, 224, circM A, .ref A.kn, rfl, hC4.io, k_known _, rfl, trivial, JV.nameL mp ⟨A.kn, p, _, [a, b], _, rfl, rfl, k4, tp4, stored_get _ _ _, rm rem, ?_⟩⟩)))))
        dsimp only
        exact h ((C.length : Int) + 2) _ _ ⟨by omega, by simp; omega⟩ ⟨[.and a b], rfl, by simp, by simp⟩ hC4 ((x2.trans (x3.wide (by simp))).write (by simp))
      · rename_i hk
        have hk' : (valueAt kvs [a, b]).isSome = true := by simpa only [Bool.not_eq_true', Bool.not_eq_false] using hk
        obtain ⟨v, hv⟩ := Option.isSome_iff_exists.mp hk'
        refine JS.nil (JS.cons (JS.ret (JV.itemTd (JV.attr (JV.nameL ms ⟨A.c, 224, circM A, .ref A.kn, rfl, hC2.io, k_known _, rfl, trivial, JV.nameL mp ⟨A.kn, p, kvs, [a, b], v, rfl, rfl, k1, tp, hv, rm rem, ?_⟩⟩)))))
        dsimp only
        obtain ⟨n, n1, n2, n3⟩ := k3 ([a, b], v) (by
          unfold valueAt at hv
          obtain ⟨q, hq, e⟩ := Option.map_eq_some_iff.mp hv
          have := List.find?_some hq
          simp at this
          have hm := List.mem_of_find?_eq_some hq
          rw [← this, ← e]; exact hm)
        dsimp only at n1
        subst n1
        exact h n C H2 ⟨by omega, by omega⟩ Grow.refl hC2 x2
end
end Mine
end

section -- FD
open PySem PySem.W PySem.Calls PyProof.Rows PySem.SeqAt
set_option Elab.async false
set_option maxRecDepth 100000
set_option linter.unusedVariables false
namespace Mine
theorem primeFD : (fun (_ : OpenLaw) (_ : Params → Frag) => True) PySem.Challenge.rw_nz0385_01 Mine.heap := by
  k_fill
  trivial

theorem bits_small {x : Int} (h : x.natAbs < 2 ^ 64) : Builtin.Int.intBits x ≤ 64 := by
  unfold Builtin.Int.intBits
  split
  · exact Nat.zero_le _
  · rename_i q
    have hx : x.natAbs ≠ 0 := by intro e; exact q (by simpa using e)
    exact (Nat.log2_lt hx).mpr h

theorem k_all_of (P : Params) : MethK (heap P) 224 (Str.ofString "all_of") 174 := ⟨by k_is, by k_is, by k_is, by k_is⟩
theorem k_any_of (P : Params) : MethK (heap P) 224 (Str.ofString "any_of") 179 := ⟨by k_is, by k_is, by k_is, by k_is⟩
theorem k_implies (P : Params) : MethK (heap P) 224 (Str.ofString "implies") 200 := ⟨by k_is, by k_is, by k_is, by k_is⟩
theorem k_iff (P : Params) : MethK (heap P) 224 (Str.ofString "iff") 207 := ⟨by k_is, by k_is, by k_is, by k_is⟩
theorem k_unlike (P : Params) : MethK (heap P) 224 (Str.ofString "unlike") 214 := ⟨by k_is, by k_is, by k_is, by k_is⟩
theorem k_choose (P : Params) : MethK (heap P) 224 (Str.ofString "choose") 221 := ⟨by k_is, by k_is, by k_is, by k_is⟩

section
variable {fx : FX} {Γ : Amb} {H : OH} {m : Loc} {A : CA} {C : List Gate}
set_option maxHeartbeats 4000000

theorem implies_spec {x y : Int} {raws : List Value} {Q : Value → OH → Prop} (rem : 5 ≤ Γ.rem) (hC : CircH H A C) (hz : C.length + 1 < 2 ^ 20) (hx : LitOK C x) (hy : LitOK C y)
    (hr : raws.map nz = [.ref A.c, I x, I y]) (h : ∀ r C' H', LitOK C' r → Grow 1 C C' → CircH H' A C' → Ext A.W H H' → Q (I r) H') : JV fx Γ H m (call (.ref 200) raws) Q := by
  obtain ⟨r1, r2, r3, rfl, e1, e2, e3⟩ := args3 hr
  obtain rfl := nz_ref e1
  refine' JV.fn (fx := fx) (binds := [(Str.ofString "self", .ref A.c), (Str.ofString "a", r2), (Str.ofString "b", r3)]) ?ho ?hcd ?hrem ?hbind ?hloc ?hnd ?h ?hcell ?h1 ?h2 ?h3
  case ho => show List.lookup _ (Mine.heap _) = _; k_is
  case hcd => show codeIn (Mine.heap _) _ _ = _; k_is
  case hrem => first | omega | (dsimp only; omega)
  case hbind => intro s S; first | exact BindsTo.of_eq rfl | exact binds_K (fx.X.keeps S.base) rfl (by show List.lookup _ (Mine.heap _) = _; k_is) rfl rfl rfl
  case hloc => exact locs rfl
  case hnd => exact (by decide : [Str.ofString "self", Str.ofString "a", Str.ofString "b"].Nodup)
  case hcell => decide
  case h1 => rfl
  case h2 => rfl
  case h3 => rfl
  intro A' L B
  refine JS.cons (JS.ret (JV.neg (JV.methN (JV.nameL rfl ⟨A.c, 224, circM A, 174, rfl, hC.io, k_all_of _, rfl, JL.cons (JV.tupE (JL.cons (JV.nameL rfl (JL.cons (JV.neg (JV.nameL rfl ⟨y, e3, JL.nil ⟨by show 2 ≤ sizeLine; decide, fun t ht => JL.nil ?_⟩⟩))))))⟩))))
  intro raws hr
  rw [e2] at *
  refine all_of_spec (x := x) (y := -y) (t := t) (rm rem) (hC.keep (Ext.refl.fresh ht)) hz (upd_self _ _ _) (.inr rfl) hx hy.neg (by first | exact hr | exact mp hr) fun r C' H' a b c d => ⟨r, rfl, ?_⟩
  exact h (-r) C' H' a.neg b c ((Ext.refl.fresh ht).trans d)

theorem any_of_spec {t : Addr} {x y : Int} {raws : List Value} {Q : Value → OH → Prop} (rem : 5 ≤ Γ.rem) (hC : CircH H A C) (hz : C.length + 1 < 2 ^ 20) (hg : H t = some (.list [I x, I y])) (hx : LitOK C x) (hy : LitOK C y)
    (hr : raws.map nz = [.ref A.c, .ref t]) (h : ∀ r C' H', LitOK C' r → Grow 1 C C' → CircH H' A C' → Ext A.W H H' → Q (I r) H') : JV fx Γ H m (call (.ref 179) raws) Q := by
  obtain ⟨r1, r2, rfl, e1, e2⟩ := args2 hr
  obtain rfl := nz_ref e1
  obtain rfl := nz_ref e2
  refine' JV.fn (fx := fx) (binds := [(Str.ofString "self", .ref A.c), (Str.ofString "gates", .ref t)]) ?ho ?hcd ?hrem ?hbind ?hloc ?hnd ?h ?hcell ?h1 ?h2 ?h3
  case ho => show List.lookup _ (Mine.heap _) = _; k_is
  case hcd => show codeIn (Mine.heap _) _ _ = _; k_is
  case hrem => first | omega | (dsimp only; omega)
  case hbind => intro s S; first | exact BindsTo.of_eq rfl | exact binds_K (fx.X.keeps S.base) rfl (by show List.lookup _ (Mine.heap _) = _; k_is) rfl rfl rfl
  case hloc => exact locs rfl
  case hnd => exact (by decide : [Str.ofString "self", Str.ofString "gates"].Nodup)
  case hcell => decide
  case h1 => rfl
  case h2 => rfl
  case h3 => rfl
  intro A' L B
  refine JS.cons (JS.ret (JV.neg (JV.methN (JV.nameL rfl ⟨A.c, 224, circM A, 174, rfl, hC.io, k_all_of _, rfl, JL.cons (JV.comp [] (JV.nameL rfl ⟨t, rfl, _, [I x, I y], _, fun i H' acc => H' = H ∧ acc = ([I (-x), I (-y)]).take i, Src.list, (by show 2 ≤ sizeLine; decide), ⟨rfl, rfl⟩, ?_, ?_, ?_⟩))⟩))))
  · rintro i H' acc ⟨rfl, rfl⟩; exact hg
  · rintro i v H₁ acc hv ⟨rfl, rfl⟩ Cc Bc rv hrv
    refine JU.nameL ⟨mcap_updL rfl, JB.tests0 (iteT (JV.neg (JV.nameL (updL_s.trans (congrArg some hrv)) ?_)))⟩
    match i, hv with
    | 0, hv => simp at hv; subst hv; exact ⟨x, rfl, rfl, rfl⟩
    | 1, hv => simp at hv; subst hv; exact ⟨y, rfl, rfl, rfl⟩
  · rintro H₁ acc ⟨rfl, rfl⟩ D hD
    refine JL.nil ?_
    intro raws hr
    refine all_of_spec (x := -x) (y := -y) (t := D) (rm rem) (hC.keep (Ext.refl.fresh hD)) hz (upd_self _ _ _) (.inl rfl) hx.neg hy.neg (by first | exact hr | exact mp hr) fun r C' H' a b c d => ⟨r, rfl, ?_⟩
    exact h (-r) C' H' a.neg b c ((Ext.refl.fresh hD).trans d)

theorem iff_spec {x y : Int} {raws : List Value} {Q : Value → OH → Prop} (rem : 6 ≤ Γ.rem) (hC : CircH H A C) (hz : C.length + 3 < 2 ^ 20) (hx : LitOK C x) (hy : LitOK C y)
    (hr : raws.map nz = [.ref A.c, I x, I y]) (h : ∀ r C' H', LitOK C' r → Grow 3 C C' → CircH H' A C' → Ext A.W H H' → Q (I r) H') : JV fx Γ H m (call (.ref 207) raws) Q := by
  obtain ⟨r1, r2, r3, rfl, e1, e2, e3⟩ := args3 hr
  obtain rfl := nz_ref e1
  refine' JV.fn (fx := fx) (binds := [(Str.ofString "self", .ref A.c), (Str.ofString "a", r2), (Str.ofString "b", r3)]) ?ho ?hcd ?hrem ?hbind ?hloc ?hnd ?h ?hcell ?h1 ?h2 ?h3
  case ho => show List.lookup _ (Mine.heap _) = _; k_is
  case hcd => show codeIn (Mine.heap _) _ _ = _; k_is
  case hrem => first | omega | (dsimp only; omega)
  case hbind => intro s S; first | exact BindsTo.of_eq rfl | exact binds_K (fx.X.keeps S.base) rfl (by show List.lookup _ (Mine.heap _) = _; k_is) rfl rfl rfl
  case hloc => exact locs rfl
  case hnd => exact (by decide : [Str.ofString "self", Str.ofString "a", Str.ofString "b"].Nodup)
  case hcell => decide
  case h1 => rfl
  case h2 => rfl
  case h3 => rfl
  intro A' L B
  refine JS.cons (JS.ret (JV.methN (JV.nameL rfl ⟨A.c, 224, circM A, 174, rfl, hC.io, k_all_of _, rfl, JL.cons (JV.tupE (JL.cons (JV.methN (JV.nameL rfl ⟨A.c, 224, circM A, 200, rfl, hC.io, k_implies _, rfl, JL.cons (JV.nameL rfl (JL.cons (JV.nameL rfl (JL.nil ?_))))⟩))))⟩)))
  intro raws hr
  rw [e2, e3] at hr
  refine implies_spec (x := x) (y := y) (rm rem) hC (by omega) hx hy (by first | exact hr | exact mp hr) fun p C₁ H₁ a₁ b₁ c₁ d₁ => ?_
  refine JL.cons (JV.methN (JV.nameL rfl ⟨A.c, 224, circM A, 200, rfl, c₁.io, k_implies _, rfl, JL.cons (JV.nameL rfl (JL.cons (JV.nameL rfl (JL.nil ?_))))⟩))
  intro raws hr
  rw [e2, e3] at hr
  have g1 := b₁.len
  refine implies_spec (x := y) (y := x) (rm rem) c₁ (by omega) (hy.grow b₁) (hx.grow b₁) (by first | exact hr | exact mp hr) fun q C₂ H₂ a₂ b₂ c₂ d₂ => ?_
  have g2 := b₂.len
  refine JL.nil ⟨by show 2 ≤ sizeLine; decide, fun t ht => JL.nil ?_⟩
  intro raws hr
  refine all_of_spec (x := p) (y := q) (t := t) (rm rem) (c₂.keep (Ext.refl.fresh ht)) (by omega) (upd_self _ _ _) (.inr rfl) (a₁.grow b₂) a₂ (by first | exact hr | exact mp hr) fun r C' H' a b c d => ?_
  exact h r C' H' a ((b₁.trans b₂).trans b) c ((d₁.trans d₂).trans ((Ext.refl.fresh ht).trans d))

theorem unlike_spec {x y : Int} {raws : List Value} {Q : Value → OH → Prop} (rem : 7 ≤ Γ.rem) (hC : CircH H A C) (hz : C.length + 3 < 2 ^ 20) (hx : LitOK C x) (hy : LitOK C y)
    (hr : raws.map nz = [.ref A.c, I x, I y]) (h : ∀ r C' H', LitOK C' r → Grow 3 C C' → CircH H' A C' → Ext A.W H H' → Q (I r) H') : JV fx Γ H m (call (.ref 214) raws) Q := by
  obtain ⟨r1, r2, r3, rfl, e1, e2, e3⟩ := args3 hr
  obtain rfl := nz_ref e1
  refine' JV.fn (fx := fx) (binds := [(Str.ofString "self", .ref A.c), (Str.ofString "a", r2), (Str.ofString "b", r3)]) ?ho ?hcd ?hrem ?hbind ?hloc ?hnd ?h ?hcell ?h1 ?h2 ?h3
  case ho => show List.lookup _ (Mine.heap _) = _; k_is
  case hcd => show codeIn (Mine.heap _) _ _ = _; k_is
  case hrem => first | omega | (dsimp only; omega)
  case hbind => intro s S; first | exact BindsTo.of_eq rfl | exact binds_K (fx.X.keeps S.base) rfl (by show List.lookup _ (Mine.heap _) = _; k_is) rfl rfl rfl
  case hloc => exact locs rfl
  case hnd => exact (by decide : [Str.ofString "self", Str.ofString "a", Str.ofString "b"].Nodup)
  case hcell => decide
  case h1 => rfl
  case h2 => rfl
  case h3 => rfl
  intro A' L B
  refine JS.cons (JS.ret (JV.neg (JV.methN (JV.nameL rfl ⟨A.c, 224, circM A, 207, rfl, hC.io, k_iff _, rfl, JL.cons (JV.nameL rfl (JL.cons (JV.nameL rfl (JL.nil ?_))))⟩))))
  intro raws hr
  rw [e2, e3] at hr
  exact iff_spec (x := x) (y := y) (rm rem) hC hz hx hy (by first | exact hr | exact mp hr) fun r C' H' a b c d => ⟨r, rfl, h (-r) C' H' a.neg b c d⟩

theorem choose_spec {x y z : Int} {raws : List Value} {Q : Value → OH → Prop} (rem : 6 ≤ Γ.rem) (hC : CircH H A C) (hz : C.length + 3 < 2 ^ 20) (hx : LitOK C x) (hy : LitOK C y) (hzz : LitOK C z)
    (hr : raws.map nz = [.ref A.c, I x, I y, I z]) (h : ∀ r C' H', LitOK C' r → Grow 3 C C' → CircH H' A C' → Ext A.W H H' → Q (I r) H') : JV fx Γ H m (call (.ref 221) raws) Q := by
  obtain ⟨r1, r2, r3, r4, rfl, e1, e2, e3, e4⟩ := args4 hr
  obtain rfl := nz_ref e1
  refine' JV.fn (fx := fx) (binds := [(Str.ofString "self", .ref A.c), (Str.ofString "c", r2), (Str.ofString "a", r3), (Str.ofString "b", r4)]) ?ho ?hcd ?hrem ?hbind ?hloc ?hnd ?h ?hcell ?h1 ?h2 ?h3
  case ho => show List.lookup _ (Mine.heap _) = _; k_is
  case hcd => show codeIn (Mine.heap _) _ _ = _; k_is
  case hrem => first | omega | (dsimp only; omega)
  case hbind => intro s S; first | exact BindsTo.of_eq rfl | exact binds_K (fx.X.keeps S.base) rfl (by show List.lookup _ (Mine.heap _) = _; k_is) rfl rfl rfl
  case hloc => exact locs rfl
  case hnd => exact (by decide : [Str.ofString "self", Str.ofString "c", Str.ofString "a", Str.ofString "b"].Nodup)
  case hcell => decide
  case h1 => rfl
  case h2 => rfl
  case h3 => rfl
  intro A' L B
  refine JS.cons (JS.ret (JV.methN (JV.nameL rfl ⟨A.c, 224, circM A, 174, rfl, hC.io, k_all_of _, rfl, JL.cons (JV.tupE (JL.cons (JV.methN (JV.nameL rfl ⟨A.c, 224, circM A, 200, rfl, hC.io, k_implies _, rfl, JL.cons (JV.nameL rfl (JL.cons (JV.nameL rfl (JL.nil ?_))))⟩))))⟩)))
  intro raws hr
  rw [e2, e3] at hr
  refine implies_spec (x := x) (y := y) (rm rem) hC (by omega) hx hy (by first | exact hr | exact mp hr) fun p C₁ H₁ a₁ b₁ c₁ d₁ => ?_
  refine JL.cons (JV.methN (JV.nameL rfl ⟨A.c, 224, circM A, 200, rfl, c₁.io, k_implies _, rfl, JL.cons (JV.neg (JV.nameL rfl ⟨x, e2, JL.cons (JV.nameL rfl (JL.nil ?_))⟩))⟩))
  intro raws hr
  rw [e4] at hr
  have g1 := b₁.len
  refine implies_spec (x := -x) (y := z) (rm rem) c₁ (by omega) (hx.grow b₁).neg (hzz.grow b₁) (by first | exact hr | exact mp hr) fun q C₂ H₂ a₂ b₂ c₂ d₂ => ?_
  have g2 := b₂.len
  refine JL.nil ⟨by show 2 ≤ sizeLine; decide, fun t ht => JL.nil ?_⟩
  intro raws hr
  refine all_of_spec (x := p) (y := q) (t := t) (rm rem) (c₂.keep (Ext.refl.fresh ht)) (by omega) (upd_self _ _ _) (.inr rfl) (a₁.grow b₂) a₂ (by first | exact hr | exact mp hr) fun r C' H' a b c d => ?_
  exact h r C' H' a ((b₁.trans b₂).trans b) c ((d₁.trans d₂).trans ((Ext.refl.fresh ht).trans d))
end
end Mine
end

section -- FE
open PySem PySem.W PySem.Calls PyProof.Rows PySem.SeqAt
set_option Elab.async false
set_option maxRecDepth 100000
set_option linter.unusedVariables false
namespace Mine
theorem primeFE : (fun (_ : OpenLaw) (_ : Params → Frag) => True) PySem.Challenge.rw_nz0385_01 Mine.heap := by
  k_fill
  trivial

structure FA where
  d : Addr
  cl : Addr

/-- the feed, read no more than n times -/
def FeedH (H : OH) (F : FA) (n : Nat) : Prop := ∃ (k : Nat) (cs : List Int), H F.d = some (.sdict [(Str.ofString "cells", .ref F.cl), (Str.ofString "spot", I k)]) ∧ H F.cl = some (.list (cs.map I)) ∧ k ≤ n ∧ cs.length < 2 ^ 20
theorem FeedH.ext {H H' : OH} {F : FA} {n : Nat} {W : List Addr} (h : FeedH H F n) (x : Ext W H H') (h1 : F.d ∉ W) (h2 : F.cl ∉ W) : FeedH H' F n :=
  let ⟨k, cs, a, b, c⟩ := h; ⟨k, cs, x _ _ a h1, x _ _ b h2, c⟩

section
variable {fx : FX} {Γ : Amb} {H : OH} {m : Loc} {A : CA} {C : List Gate} {F : FA}
set_option maxHeartbeats 4000000

theorem next_spec {n : Nat} {wide : Int} {raws : List Value} {Q : Value → OH → Prop} (rem : 1 ≤ Γ.rem) (hF : FeedH H F n) (hn : n < 2 ^ 20) (hw : 0 < wide)
    (hr : raws.map nz = [.ref F.d, I wide]) (h : ∀ v H', 0 ≤ v → v < wide → FeedH H' F (n + 1) → Ext [F.d] H H' → Q (I v) H') : JV fx Γ H m (call (.ref 235) raws) Q := by
  obtain ⟨r1, r2, rfl, e1, e2⟩ := args2 hr
  obtain rfl := nz_ref e1
  obtain ⟨k, cs, f1, f2, f3, f4⟩ := hF
  refine' JV.fn (fx := fx) (binds := [(Str.ofString "feed", .ref F.d), (Str.ofString "wide", r2)]) ?ho ?hcd ?hrem ?hbind ?hloc ?hnd ?h ?hcell ?h1 ?h2 ?h3
  case ho => show List.lookup _ (Mine.heap _) = _; k_is
  case hcd => show codeIn (Mine.heap _) _ _ = _; k_is
  case hrem => first | omega | (dsimp only; omega)
  case hbind => intro s S; first | exact BindsTo.of_eq rfl | exact binds_K (fx.X.keeps S.base) rfl (by show List.lookup _ (Mine.heap _) = _; k_is) rfl rfl rfl
  case hloc => exact locs rfl
  case hnd => exact (by decide : [Str.ofString "feed", Str.ofString "wide"].Nodup)
  case hcell => decide
  case h1 => rfl
  case h2 => rfl
  case h3 => rfl
  intro A' L B
  have zl : sizeLine = 2 ^ 24 := rfl
  refine JS.cons (JS.assignL (JV.itemS (JV.nameL rfl (JV.cstr ⟨F.d, _, Str.ofString "spot", I k, rfl, rfl, f1, rfl, ?_⟩))))
  dsimp only
  refine JS.cons (JS.putS (JV.add (JV.nameL rfl (JV.cint ⟨k, 1, rfl, rfl, JV.nameL rfl (JV.cstr ⟨F.d, _, Str.ofString "spot", rfl, rfl, f1, by show 2 ≤ sizeLine; decide, ?_⟩)⟩))))
  dsimp only
  have hst : stored [(Str.ofString "cells", Value.ref F.cl), (Str.ofString "spot", I k)] (Str.ofString "spot") (I ((k : Int) + 1)) = [(Str.ofString "cells", .ref F.cl), (Str.ofString "spot", I ((k + 1 : Nat) : Int))] := rfl
  rw [hst]
  have g1 : upd H F.d (.sdict [(Str.ofString "cells", .ref F.cl), (Str.ofString "spot", I ((k + 1 : Nat) : Int))]) F.d = some (.sdict [(Str.ofString "cells", .ref F.cl), (Str.ofString "spot", I ((k + 1 : Nat) : Int))]) := upd_self _ _ _
  have g2 : upd H F.d (.sdict [(Str.ofString "cells", .ref F.cl), (Str.ofString "spot", I ((k + 1 : Nat) : Int))]) F.cl = some (.list (cs.map I)) := by rw [upd_ne _ _ (ne_of_kind f2 f1 (by simp))]; exact f2
  have gx : Ext [F.d] H (upd H F.d (.sdict [(Str.ofString "cells", .ref F.cl), (Str.ofString "spot", I ((k + 1 : Nat) : Int))])) := Ext.refl.write (by simp)
  generalize upd H F.d (.sdict [(Str.ofString "cells", .ref F.cl), (Str.ofString "spot", I ((k + 1 : Nat) : Int))]) = H1 at g1 g2 gx
  have hF1 : FeedH H1 F (n + 1) := ⟨k + 1, cs, g1, g2, by omega, f4⟩
  refine JS.cons (JS.ite (JB.cmpOk (JV.nameL rfl (JV.callN (JV.nameB (by show nsIn (Mine.heap _) _ _ = _; k_is) (by boot_by_name) (⟨by exact trivial, JL.cons (JV.itemS (JV.nameL rfl (JV.cstr ⟨F.d, _, Str.ofString "cells", .ref F.cl, rfl, rfl, g1, rfl, JL.nil ?_⟩)))⟩))))))
  intro raws hr
  obtain ⟨r1, rfl, e1⟩ := args1 hr
  obtain rfl := nz_ref e1
  refine JV.lenL g2 (by rw [List.length_map]; omega) ⟨_, CmpOk.ltI, ?_⟩
  rw [List.length_map]
  split
  · rename_i q
    have q' : k < cs.length := by have := of_decide_eq_true q; omega
    refine JS.cons (JS.ret (JV.mod (JV.itemL (JV.itemS (JV.nameL rfl (JV.cstr ⟨F.d, _, Str.ofString "cells", .ref F.cl, rfl, rfl, g1, rfl, JV.nameL rfl ⟨F.cl, cs.map I, k, I cs[k], rfl, rfl, g2, by omega, by omega, by simp [q'], JV.nameL rfl ⟨_, wide, rfl, e2, by omega, ?_⟩⟩⟩))))))
    exact h _ H1 (Int.fmod_nonneg_of_pos _ hw) (Int.fmod_lt_of_pos _ hw) hF1 gx
  · refine JS.nil ?_
    have mul1 : IntMulOk 5 (k : Int) := IntMulOk.of_left (bits_small (by decide))
    have mul2 : IntMulOk (5 * (k : Int)) (k : Int) := IntMulOk.of_left (bits_small (by omega))
    have mul3 : IntMulOk 7 (k : Int) := IntMulOk.of_left (bits_small (by decide))
    have mul4 : IntMulOk 3 (cs.length : Int) := IntMulOk.of_left (bits_small (by decide))
    refine JS.cons (JS.ret (JV.mod (JV.mod ?_)))
    refine JV.add (JV.add (JV.add (JV.mul (JV.mul (JV.cint (JV.nameL rfl ⟨5, k, rfl, rfl, mul1, ?_⟩))))))
    refine JV.nameL rfl ⟨_, k, rfl, rfl, mul2, ?_⟩
    refine JV.mul (JV.cint (JV.nameL rfl ⟨7, k, rfl, rfl, mul3, ?_⟩))
    refine ⟨_, _, rfl, rfl, JV.cint ⟨_, 4, rfl, rfl, ?_⟩⟩
    refine JV.mul (JV.cint (JV.callN (JV.nameB (by show nsIn (Mine.heap _) _ _ = _; k_is) (by boot_by_name) (⟨by exact trivial, JL.cons (JV.itemS (JV.nameL rfl (JV.cstr ⟨F.d, _, Str.ofString "cells", .ref F.cl, rfl, rfl, g1, rfl, JL.nil ?_⟩)))⟩))))
    intro raws hr
    obtain ⟨r1, rfl, e1⟩ := args1 hr
    obtain rfl := nz_ref e1
    refine JV.lenL g2 (by rw [List.length_map]; omega) ?_
    rw [List.length_map]
    refine ⟨3, cs.length, rfl, rfl, mul4, _, _, rfl, rfl, JV.cint ⟨_, 103, rfl, rfl, by decide, JV.nameL rfl ⟨_, wide, rfl, e2, by omega, ?_⟩⟩⟩
    exact h _ H1 (Int.fmod_nonneg_of_pos _ hw) (Int.fmod_lt_of_pos _ hw) hF1 gx
end
end Mine
end

section -- FF
open PySem PySem.W PySem.Calls PyProof.Rows PySem.SeqAt
set_option Elab.async false
set_option maxRecDepth 100000
set_option linter.unusedVariables false
namespace Mine
theorem primeFF : (fun (_ : OpenLaw) (_ : Params → Frag) => True) PySem.Challenge.rw_nz0385_01 Mine.heap := by
  k_fill
  trivial

theorem two_le {k c : Nat} (h : c = 2 ∨ c = 3) (e : k = c) : 2 ≤ k := by
  rw [e]; exact h.elim (fun q => Nat.le_of_eq q.symm) fun q => by rw [q]; decide
theorem cnt2 {c : Nat} {v : Int} (h : c = 2 ∨ c = 3) (i : c = 3 ↔ v = 4) (l : v < 2) : c = 2 := h.elim id fun q => by rw [i.mp q] at l; exact absurd l (by decide)
theorem lt63 {k : Nat} (h : Nat.ble k 9 = true := by rfl) : ((k : Nat) : Int) < 2 ^ 63 := by
  have := Nat.le_of_ble_eq_true h
  omega
theorem locC {names : List (Str × NameKind)} (h : ((cellsFrom 0 names []).all fun p => !(names.lookup p.1 == some .local)) = true) : ∀ y, ((cellsFrom 0 names []).lookup y).isSome = true → names.lookup y ≠ some .local := fun y hy e => by
  obtain ⟨c, hc⟩ := Option.isSome_iff_exists.mp hy
  have := List.all_eq_true.mp h (y, c) (mem_of_lookup hc)
  rw [show names.lookup (y, c).1 = some .local from e] at this
  exact absurd this (by decide)
theorem nloc {names : List (Str × NameKind)} {binds : List (Str × Value)} (h : (binds.all fun y => ((cellsFrom 0 names []).lookup y.1).isSome || (names.lookup y.1 == some .local)) = true) : ∀ y ∈ binds, ((cellsFrom 0 names []).lookup y.1).isSome = false → names.lookup y.1 = some .local := fun y hy e => by
  have := List.all_eq_true.mp h y hy
  rw [e, Bool.false_or] at this
  simpa using this
theorem not_mem1 {a b : Addr} (h : a ≠ b) : a ∉ [b] := by simpa using h
theorem FeedH.le {H : OH} {F : FA} {n k : Nat} (h : FeedH H F n) (x : n ≤ k) : FeedH H F k := let ⟨i, cs, a, b, c, d⟩ := h; ⟨i, cs, a, b, Nat.le_trans c x, d⟩
theorem FeedH.keep {H H' : OH} {F : FA} {n : Nat} (h : FeedH H F n) (x : Ext [] H H') : FeedH H' F n := h.ext x (by simp) (by simp)
theorem FeedH.dk {H : OH} {F : FA} {n : Nat} (h : FeedH H F n) : ∃ kvs, H F.d = some (.sdict kvs) := let ⟨k, cs, a, _⟩ := h; ⟨_, a⟩
theorem FeedH.ck {H : OH} {F : FA} {n : Nat} (h : FeedH H F n) : ∃ vs, H F.cl = some (.list vs) := let ⟨k, cs, _, a, _⟩ := h; ⟨_, a⟩
theorem CircH.feed {H H' : OH} {A : CA} {C : List Gate} {F : FA} {n : Nat} (h : CircH H A C) (hF : FeedH H F n) (x : Ext [F.d] H H') : CircH H' A C := by
  obtain ⟨kvs, hd⟩ := hF.dk
  obtain ⟨ts, p1, _⟩ := h.parts
  obtain ⟨ks, k1, _⟩ := h.known
  exact h.ext x (not_mem1 (ne_of_kind h.inst hd (by simp))) (not_mem1 (ne_of_kind h.dict hd (by simp))) (not_mem1 (ne_of_kind h.kinds hd (by simp))) (not_mem1 (ne_of_kind p1 hd (by simp))) (not_mem1 (ne_of_kind k1 hd (by simp))) fun t p e => not_mem1 (ne_of_kind e hd (by simp))
theorem not_W {H : OH} {A : CA} {C : List Gate} (h : CircH H A C) {a : Addr} {ao : AO} (ha : H a = some ao) (h1 : a ≠ A.ka) (h2 : a ≠ A.pa) (h3 : ∀ kvs, ao ≠ .tdict kvs) : a ∉ A.W := by
  obtain ⟨ks, k1, _⟩ := h.known
  simp only [List.mem_cons, List.not_mem_nil, or_false, not_or]
  exact ⟨h1, h2, ne_of_kind ha k1 (h3 _)⟩
/-- what is no list and no such table is not written by a circuit -/
theorem not_W' {H : OH} {A : CA} {C : List Gate} (h : CircH H A C) {a : Addr} {ao : AO} (ha : H a = some ao) (h1 : ∀ vs, ao ≠ .list vs) (h3 : ∀ kvs, ao ≠ .tdict kvs) : a ∉ A.W := by
  obtain ⟨ts, p1, _⟩ := h.parts
  exact not_W h ha (ne_of_kind ha h.kinds (h1 _)) (ne_of_kind ha p1 (h1 _)) h3
theorem FeedH.circ {H H' : OH} {A : CA} {C : List Gate} {F : FA} {n : Nat} (hF : FeedH H F n) (h : CircH H A C) (n1 : F.cl ≠ A.ka) (n2 : F.cl ≠ A.pa) (x : Ext A.W H H') : FeedH H' F n := by
  obtain ⟨kvs, hd⟩ := hF.dk
  obtain ⟨vs, hc⟩ := hF.ck
  exact hF.ext x (not_W' h hd (by simp) (by simp)) (not_W h hc n1 n2 (by simp))

section
variable {fx : FX} {Γ : Amb} {H : OH} {m : Loc} {A : CA} {C : List Gate} {F : FA}
set_option maxHeartbeats 4000000

theorem pick_spec {n : Nat} {pl : Addr} {ps : List Int} {raws : List Value} {Q : Value → OH → Prop} (rem : 2 ≤ Γ.rem) (hF : FeedH H F n) (hn : n + 1 < 2 ^ 20) (hp : H pl = some (.list (ps.map I))) (hps : ∀ p ∈ ps, LitOK C p) (hl : 0 < ps.length) (hl2 : ps.length < 2 ^ 20)
    (hr : raws.map nz = [.ref F.d, .ref pl]) (h : ∀ r H', LitOK C r → FeedH H' F (n + 2) → Ext [F.d] H H' → Q (I r) H') : JV fx Γ H m (call (.ref 242) raws) Q := by
  obtain ⟨r1, r2, rfl, e1, e2⟩ := args2 hr
  obtain rfl := nz_ref e1
  obtain rfl := nz_ref e2
  obtain ⟨kvs, hd⟩ := hF.dk
  refine' JV.fn (fx := fx) (binds := [(Str.ofString "feed", .ref F.d), (Str.ofString "pool", .ref pl)]) ?ho ?hcd ?hrem ?hbind ?hloc ?hnd ?h ?hcell ?h1 ?h2 ?h3
  case ho => show List.lookup _ (Mine.heap _) = _; k_is
  case hcd => show codeIn (Mine.heap _) _ _ = _; k_is
  case hrem => first | omega | (dsimp only; omega)
  case hbind => intro s S; first | exact BindsTo.of_eq rfl | exact binds_K (fx.X.keeps S.base) rfl (by show List.lookup _ (Mine.heap _) = _; k_is) rfl rfl rfl
  case hloc => exact locs rfl
  case hnd => exact (by decide : [Str.ofString "feed", Str.ofString "pool"].Nodup)
  case hcell => decide
  case h1 => rfl
  case h2 => rfl
  case h3 => rfl
  intro A' L B
  refine JS.cons (JS.assignL (JV.itemL (JV.nameL rfl (JV.sub (JV.sub (JV.callN (JV.nameB (by show nsIn (Mine.heap _) _ _ = _; k_is) (by boot_by_name) (⟨by exact trivial, JL.cons (JV.nameL rfl (JL.nil ?_))⟩))))))))
  intro raws hr
  obtain ⟨r1, rfl, e1⟩ := args1 hr
  obtain rfl := nz_ref e1
  refine JV.lenL hp (by rw [List.length_map]; omega) (JV.cint ⟨_, 1, rfl, rfl, JV.callN (JV.nameG (by show nsIn (Mine.heap _) _ _ = _; k_is) (⟨by show keepIn (Mine.heap _) _ = _; k_is, JL.cons (JV.nameL rfl (JL.cons (JV.callN (JV.nameB (by show nsIn (Mine.heap _) _ _ = _; k_is) (by boot_by_name) (⟨by exact trivial, JL.cons (JV.nameL rfl (JL.nil ?_))⟩)))))⟩))⟩)
  intro raws hr
  obtain ⟨r1, rfl, e1⟩ := args1 hr
  obtain rfl := nz_ref e1
  refine JV.lenL hp (by rw [List.length_map]; omega) (JL.nil ?_)
  intro raws hr
  rw [List.length_map] at hr
  refine next_spec (n := n) (wide := ps.length) (rm rem) hF (by omega) (by omega) (by first | exact hr | exact mp hr) fun v H₁ v0 v1 hF₁ x₁ => ?_
  have hp₁ : H₁ pl = some (.list (ps.map I)) := x₁ _ _ hp (not_mem1 (ne_of_kind hp hd (by simp)))
  rw [List.length_map]
  have hlt : ((ps.length : Int) - 1 - v).toNat < ps.length := by omega
  refine ⟨_, v, rfl, rfl, pl, ps.map I, _, I (ps[((ps.length : Int) - 1 - v).toNat]'hlt), rfl, rfl, hp₁, by omega, by omega, by simp [hlt], ?_⟩
  dsimp only
  have hk := hps _ (List.getElem_mem hlt)
  generalize ps[((ps.length : Int) - 1 - v).toNat]'hlt = g at hk
  refine JS.cons (JS.ret (JV.ife (JB.cmpOk (JV.callN (JV.nameG (by show nsIn (Mine.heap _) _ _ = _; k_is) (⟨by show keepIn (Mine.heap _) _ = _; k_is, JL.cons (JV.nameL rfl (JL.cons (JV.cint (JL.nil ?_))))⟩))))))
  intro raws hr
  refine next_spec (n := n + 1) (wide := 2) (rm rem) hF₁ (by omega) (by omega) (by first | exact hr | exact mp hr) fun v H₂ v0 v1 hF₂ x₂ => ?_
  refine JV.cint ⟨_, CmpOk.eqI, ?_⟩
  split
  · refine JV.nameL rfl ?_
    exact h g H₂ hk hF₂ (x₁.trans x₂)
  · refine JV.neg (JV.nameL rfl ⟨g, rfl, ?_⟩)
    exact h (-g) H₂ hk.neg hF₂ (x₁.trans x₂)

theorem made_spec {n : Nat} {pl : Addr} {ps : List Int} {raws : List Value} {Q : Value → OH → Prop} (rem : 9 ≤ Γ.rem) (hF : FeedH H F n) (hn : n + 9 < 2 ^ 20) (hC : CircH H A C) (hz : C.length + 3 < 2 ^ 20) (n1 : F.cl ≠ A.ka) (n2 : F.cl ≠ A.pa)
    (hp : H pl = some (.list (ps.map I))) (hps : ∀ p ∈ ps, LitOK C p) (hl : 0 < ps.length) (hl2 : ps.length < 2 ^ 20)
    (hr : raws.map nz = [.ref F.d, .ref A.c, .ref pl]) (h : ∀ r C' H', LitOK C' r → Grow 3 C C' → CircH H' A C' → FeedH H' F (n + 7) → Ext (F.d :: A.W) H H' → Q (I r) H') : JV fx Γ H m (call (.ref 247) raws) Q := by
  obtain ⟨r1, r2, r3, rfl, e1, e2, e3⟩ := args3 hr
  obtain rfl := nz_ref e1
  obtain rfl := nz_ref e2
  obtain rfl := nz_ref e3
  obtain ⟨kvs, hd⟩ := hF.dk
  refine' JV.fnC (fx := fx) (binds := [(Str.ofString "feed", .ref F.d), (Str.ofString "circuit", .ref A.c), (Str.ofString "pool", .ref pl)]) ?ho ?hcd ?hrem ?hbind ?hkind ?hloc ?hnc ?hnd ?h ?h1 ?h2 ?h3
  case ho => show List.lookup _ (Mine.heap _) = _; k_is
  case hcd => show codeIn (Mine.heap _) _ _ = _; k_is
  case hrem => first | omega | (dsimp only; omega)
  case hbind => rfl
  case hkind => rfl
  case hloc => exact locC rfl
  case hnc => exact nloc rfl
  case hnd => exact (by decide : [Str.ofString "feed", Str.ofString "circuit", Str.ofString "pool"].Nodup)
  case h1 => rfl
  case h2 => rfl
  case h3 => rfl
  intro A' L B
  refine JS.cons (JS.assignL (JV.callN (JV.nameG (by show nsIn (Mine.heap _) _ _ = _; k_is) (⟨by show keepIn (Mine.heap _) _ = _; k_is, JL.cons (JV.nameC rfl (JL.cons (JV.cint (JL.nil ?_))))⟩))))
  intro raws hr
  refine next_spec (n := n) (wide := 6) (rm rem) hF (by omega) (by omega) (by first | exact hr | exact mp hr) fun v H₁ v0 v1 hF₁ x₁ => ?_
  dsimp only
  have hp₁ : H₁ pl = some (.list (ps.map I)) := x₁ _ _ hp (not_mem1 (ne_of_kind hp hd (by simp)))
  have hC₁ : CircH H₁ A C := hC.feed hF x₁
  refine JS.cons (JS.assignComp [Str.ofString "pool", Str.ofString "feed"] (JV.callN (JV.nameB (by show nsIn (Mine.heap _) _ _ = _; k_is) (by boot_by_name) (⟨by exact trivial, JL.cons (JV.mono (Q := fun c H' => ∃ cnt : Nat, (cnt = 2 ∨ cnt = 3) ∧ (cnt = 3 ↔ v = 4) ∧ c = I cnt ∧ H' = H₁) (JV.ife (JB.cmpOk (JV.nameL rfl (JV.cint ⟨_, CmpOk.eqI, ?_⟩)))) fun c H' hcnt => JL.nil ?_)⟩))) (fun B H₂ m₂ v => JU.nameL ⟨rfl, rfl⟩))
  · split
    · rename_i q
      exact JV.cint ⟨3, .inr rfl, by simpa using q, rfl, rfl⟩
    · rename_i q
      exact JV.cint ⟨2, .inl rfl, by simpa using q, rfl, rfl⟩
  · obtain ⟨cnt, c1, c2, rfl, rfl⟩ := hcnt
    intro raws hr
    obtain ⟨r1, rfl, e1⟩ := args1 hr
    refine JV.range1 e1 fun r t u w hrn => ⟨r, rfl, _, rangeVals 0 cnt, _, fun i H' acc => H' r = some (.raw (rangeObj 0 cnt t u w)) ∧ ∃ xs : List Int, acc = xs.map I ∧ xs.length = i ∧ (∀ x ∈ xs, LitOK C x) ∧ FeedH H' F (n + 1 + 2 * i) ∧ CircH H' A C ∧ Ext [F.d] H' H' ∧ Ext [F.d] H H', Src.range (a := 0) (b := cnt) (n := cnt) (t := t) (u := u) (v := w) (by omega) (by decide) (by decide) (by omega) (by omega), by simp [rangeVals]; have : sizeLine = 2 ^ 24 := rfl; omega, ?_, ?_, ?_, ?_⟩
    · refine ⟨upd_self _ _ _, [], rfl, rfl, by simp, hF₁.keep (Ext.refl.fresh hrn), hC₁.keep (Ext.refl.fresh hrn), Ext.refl, x₁.fresh hrn⟩
    · exact fun i H' acc hh => hh.1
    · rintro i v₂ H₂ acc hv₂ ⟨hr₂, xs, rfl, q1, q2, q3, q4, q5, q6⟩ Cc Bc rv hrv
      refine JU.nameL ⟨mcap_updL rfl, JB.tests0 (iteT ?_)⟩
      refine JV.callN (JV.nameG (by show nsIn (Mine.heap _) _ _ = _; k_is) (⟨by show keepIn (Mine.heap _) _ = _; k_is, JL.cons (JV.nameC rfl (JL.cons (JV.nameC rfl (JL.nil ?_))))⟩))
      intro raws hr
      obtain ⟨kvs₂, hd₂⟩ := q3.dk
      have hi : i < cnt := by have := (List.getElem?_eq_some_iff.mp hv₂).1; simpa [rangeVals] using this
      refine pick_spec (n := n + 1 + 2 * i) (pl := pl) (ps := ps) (rm rem) q3 (by omega) (q6 _ _ hp (not_mem1 (ne_of_kind hp hd (by simp)))) hps hl hl2 (by first | exact hr | exact mp hr) fun r' H' a b c => ?_
      refine ⟨c _ _ hr₂ (not_mem1 (ne_of_kind hr₂ hd₂ (by simp))), xs ++ [r'], by simp, by simp [q1], fun x hx => ?_, b, q4.feed q3 c, Ext.refl, q6.trans c⟩
      rcases List.mem_append.mp hx with hx | hx
      · exact q2 x hx
      · rw [List.mem_singleton] at hx; subst hx; exact a
    · rintro H₂ acc ⟨hr₂, xs, rfl, q1, q2, q3, q4, q5, q6⟩ D hD
      have q1' : xs.length = cnt := by rw [q1]; simp [rangeVals]
      have hnn : n + 1 + 2 * (rangeVals 0 cnt).length ≤ n + 7 := by simp [rangeVals]; omega
      have hF₃ : FeedH (upd H₂ D (.list (xs.map I))) F (n + 7) := (q3.le hnn).keep (Ext.refl.fresh hD)
      have hC₃ : CircH (upd H₂ D (.list (xs.map I))) A C := q4.keep (Ext.refl.fresh hD)
      have x₃ : Ext [F.d] H (upd H₂ D (.list (xs.map I))) := q6.fresh hD
      have hD₃ : (upd H₂ D (.list (xs.map I))) D = some (.list (xs.map I)) := upd_self _ _ _
      generalize upd H₂ D (.list (xs.map I)) = H₃ at hF₃ hC₃ x₃ hD₃
      dsimp only
      have fin : ∀ k : Nat, k ≤ 3 → ∀ r C' H', LitOK C' r → Grow k C C' → CircH H' A C' → Ext A.W H₃ H' → Q (I r) H' := fun k hk r C' H' a b c d =>
        h r C' H' a (b.le hk) c (hF₃.circ hC₃ n1 n2 d) ((x₃.wide (by simp)).trans (d.wide (by simp)))
      have it : ∀ (i : Nat) (hi : i < xs.length), (xs.map I)[((i : Int)).toNat]? = some (I xs[i]) := fun i hi => by simp [hi]
      have ok : ∀ (i : Nat) (hi : i < xs.length), LitOK C xs[i] := fun i hi => q2 _ (List.getElem_mem hi)
      have h2 : 2 ≤ xs.length := two_le c1 q1'
      have l0 : 0 < xs.length := Nat.lt_of_lt_of_le (by decide) h2
      have l1 : 1 < xs.length := h2
      have hz1 : C.length + 1 < 2 ^ 20 := Nat.lt_of_le_of_lt (Nat.add_le_add_left (by decide) _) hz
      refine JS.cons (JS.ite (JB.cmpOk (JV.nameL rfl (JV.cint ⟨_, CmpOk.ltI, ?_⟩))))
      split
      · rename_i qk
        have hv2 : v < 2 := of_decide_eq_true qk
        obtain ⟨x, y, rfl⟩ : ∃ x y, xs = [x, y] := by
          have : xs.length = 2 := q1'.trans (cnt2 c1 c2 hv2)
          match xs, this with
          | [x, y], _ => exact ⟨x, y, rfl⟩
        refine JS.cons (JS.ret (JV.ife (JB.cmpOk (JV.nameL rfl (JV.cint ⟨_, CmpOk.eqI, ?_⟩)))))
        split
        · refine JV.methN (JV.nameL rfl ⟨A.c, 224, circM A, 174, rfl, hC₃.io, k_all_of _, rfl, JL.cons (JV.nameL rfl (JL.nil ?_))⟩)
          intro raws hr
          exact all_of_spec (x := x) (y := y) (t := D) (rm rem) hC₃ hz1 hD₃ (.inl rfl) (q2 x (by simp)) (q2 y (by simp)) (by first | exact hr | exact mp hr) (fin 1 (by decide))
        · refine JV.methN (JV.nameL rfl ⟨A.c, 224, circM A, 179, rfl, hC₃.io, k_any_of _, rfl, JL.cons (JV.nameL rfl (JL.nil ?_))⟩)
          intro raws hr
          exact any_of_spec (x := x) (y := y) (t := D) (rm rem) hC₃ hz1 hD₃ (q2 x (by simp)) (q2 y (by simp)) (by first | exact hr | exact mp hr) (fin 1 (by decide))
      · refine JS.nil (JS.cons (JS.ite (JB.cmpOk (JV.nameL rfl (JV.cint ⟨_, CmpOk.ltI, ?_⟩)))))
        split
        · refine JS.cons (JS.ret (JV.ife (JB.cmpOk (JV.nameL rfl (JV.cint ⟨_, CmpOk.eqI, ?_⟩)))))
          split
          · refine JV.methN (JV.nameL rfl ⟨A.c, 224, circM A, 207, rfl, hC₃.io, k_iff _, rfl, JL.cons (JV.itemL (JV.nameL rfl (JV.cint ⟨D, _, (0 : Nat), _, rfl, rfl, hD₃, Int.natCast_nonneg _, lt63, it 0 l0, JL.cons (JV.itemL (JV.nameL rfl (JV.cint ⟨D, _, (1 : Nat), _, rfl, rfl, hD₃, Int.natCast_nonneg _, lt63, it 1 l1, JL.nil ?_⟩)))⟩)))⟩)
            intro raws hr
            exact iff_spec (x := xs[0]) (y := xs[1]) (rm rem) hC₃ hz (ok 0 l0) (ok 1 l1) (by first | exact hr | exact mp hr) (fin 3 (by decide))
          · refine JV.methN (JV.nameL rfl ⟨A.c, 224, circM A, 214, rfl, hC₃.io, k_unlike _, rfl, JL.cons (JV.itemL (JV.nameL rfl (JV.cint ⟨D, _, (0 : Nat), _, rfl, rfl, hD₃, Int.natCast_nonneg _, lt63, it 0 l0, JL.cons (JV.itemL (JV.nameL rfl (JV.cint ⟨D, _, (1 : Nat), _, rfl, rfl, hD₃, Int.natCast_nonneg _, lt63, it 1 l1, JL.nil ?_⟩)))⟩)))⟩)
            intro raws hr
            exact unlike_spec (x := xs[0]) (y := xs[1]) (rm rem) hC₃ hz (ok 0 l0) (ok 1 l1) (by first | exact hr | exact mp hr) (fin 3 (by decide))
        · refine JS.nil (JS.cons (JS.ret (JV.ife (JB.cmpOk (JV.nameL rfl (JV.cint ⟨_, CmpOk.eqI, ?_⟩))))))
          split
          · rename_i qk
            have hv4 : v = 4 := by simpa using qk
            have h3 : xs.length = 3 := by rw [q1']; exact c2.mpr hv4
            have l2 : 2 < xs.length := Nat.lt_of_lt_of_le (by decide) (Nat.le_of_eq h3.symm)
            refine JV.methN (JV.nameL rfl ⟨A.c, 224, circM A, 221, rfl, hC₃.io, k_choose _, rfl, JL.cons (JV.itemL (JV.nameL rfl (JV.cint ⟨D, _, (0 : Nat), _, rfl, rfl, hD₃, Int.natCast_nonneg _, lt63, it 0 l0, JL.cons (JV.itemL (JV.nameL rfl (JV.cint ⟨D, _, (1 : Nat), _, rfl, rfl, hD₃, Int.natCast_nonneg _, lt63, it 1 l1, JL.cons (JV.itemL (JV.nameL rfl (JV.cint ⟨D, _, (2 : Nat), _, rfl, rfl, hD₃, Int.natCast_nonneg _, lt63, it 2 l2, JL.nil ?_⟩)))⟩)))⟩)))⟩)
            intro raws hr
            exact choose_spec (x := xs[0]) (y := xs[1]) (z := xs[2]) (rm rem) hC₃ hz (ok 0 l0) (ok 1 l1) (ok 2 l2) (by first | exact hr | exact mp hr) (fin 3 (by decide))
          · refine JV.methN (JV.nameL rfl ⟨A.c, 224, circM A, 200, rfl, hC₃.io, k_implies _, rfl, JL.cons (JV.itemL (JV.nameL rfl (JV.cint ⟨D, _, (0 : Nat), _, rfl, rfl, hD₃, Int.natCast_nonneg _, lt63, it 0 l0, JL.cons (JV.itemL (JV.nameL rfl (JV.cint ⟨D, _, (1 : Nat), _, rfl, rfl, hD₃, Int.natCast_nonneg _, lt63, it 1 l1, JL.nil ?_⟩)))⟩)))⟩)
            intro raws hr
            exact implies_spec (x := xs[0]) (y := xs[1]) (rm rem) hC₃ hz1 (ok 0 l0) (ok 1 l1) (by first | exact hr | exact mp hr) (fin 1 (by decide))
end
end Mine
end

section -- FG
open PySem PySem.W PySem.Calls PyProof.Rows PySem.SeqAt
set_option Elab.async false
set_option maxRecDepth 100000
set_option linter.unusedVariables false
namespace Mine
theorem primeFG : (fun (_ : OpenLaw) (_ : Params → Frag) => True) PySem.Challenge.rw_nz0385_01 Mine.heap := by
  k_fill
  trivial

structure KA where
  c : Addr
  dc : Addr
  cl : Addr
  gl : Addr
  nu : Addr
  op : Addr
  wa : Addr

structure KSt where
  vars : List Int
  opened : List Int
  waiting : List Int
  clauses : List (List Int)
  tups : List Addr

def numFrom : Nat → List Int → List (Int × Value)
  | _, [] => []
  | n, v :: r => (v, I n) :: numFrom (n + 1) r
def numsOf (vs : List Int) : List (Int × Value) := numFrom 1 vs
theorem numFrom_keys : ∀ (vs : List Int) (n : Nat), (numFrom n vs).map (·.1) = vs
  | [], _ => rfl
  | v :: r, n => by simp [numFrom, numFrom_keys r (n + 1)]
theorem numFrom_at : ∀ (vs : List Int) (n : Nat) (v : Int), vs.Nodup → ∀ i, vs[i]? = some v → valueAt (numFrom n vs) v = some (I ((n + i : Nat) : Int))
  | [], _, _, _, i, h => by simp at h
  | x :: r, n, v, hn, i, h => by
    rw [List.nodup_cons] at hn
    cases i with
    | zero =>
      simp at h; subst h
      simp [valueAt, numFrom]
    | succ i =>
      have hm : v ∈ r := List.mem_of_getElem? (by simpa using h)
      have ne : x ≠ v := by rintro rfl; exact hn.1 hm
      have := numFrom_at r (n + 1) v hn.2 i (by simpa using h)
      unfold valueAt at this ⊢
      rw [numFrom, List.find?_cons]
      simp only [ne, decide_false]
      rw [this, show n + 1 + i = n + (i + 1) by omega]
theorem valueAt_some {K : Type} [DecidableEq K] (kvs : List (K × Value)) (k : K) : (valueAt kvs k).isSome = decide (k ∈ kvs.map (·.1)) := by
  unfold valueAt
  rw [Option.isSome_map, Bool.eq_iff_iff, List.find?_isSome]
  simp
theorem stored_new {K : Type} [DecidableEq K] {kvs : List (K × Value)} {k : K} (h : k ∉ kvs.map (·.1)) (v : Value) : stored kvs k v = kvs ++ [(k, v)] := by
  unfold stored
  rw [if_neg]
  simp only [List.any_eq_true, decide_eq_true_eq, not_exists, not_and]
  rintro p hp rfl
  exact h (List.mem_map_of_mem (f := (·.1)) hp)
theorem numFrom_snoc : ∀ (vs : List Int) (n : Nat) (v : Int), numFrom n (vs ++ [v]) = numFrom n vs ++ [(v, I ((n + vs.length : Nat) : Int))]
  | [], n, v => by simp [numFrom]
  | x :: r, n, v => by
    rw [List.cons_append, numFrom, numFrom_snoc r (n + 1) v, numFrom, List.cons_append]
    simp; omega
theorem nums_len (vs : List Int) : (numsOf vs).length = vs.length := by rw [← List.length_map (f := (·.1)), numsOf, numFrom_keys]

def clM (K : KA) (A : CA) (whole : Int) : Loc := updL (updL (updL (updL (updL (updL (updL (fun _ => none) (Str.ofString "circuit") (.ref A.c)) (Str.ofString "whole") (I whole)) (Str.ofString "clauses") (.ref K.cl)) (Str.ofString "gates") (.ref K.gl)) (Str.ofString "numbers") (.ref K.nu)) (Str.ofString "opened") (.ref K.op)) (Str.ofString "waiting") (.ref K.wa)

structure KH (H : OH) (K : KA) (A : CA) (whole : Int) (S : KSt) : Prop where
  inst : H K.c = some (.inst 114 K.dc)
  dict : H K.dc = some (.ns (clM K A whole) 7)
  clauses : H K.cl = some (.list (S.tups.map .ref))
  tups : ∀ (i : Nat) (t : Addr), S.tups[i]? = some t → ∃ c, S.clauses[i]? = some c ∧ H t = some (.tup (c.map I))
  gates : H K.gl = some (.list (I 0 :: S.vars.map I))
  numbers : H K.nu = some (.idict (numsOf S.vars))
  opened : H K.op = some (.idict (marks S.opened))
  waiting : H K.wa = some (.list (S.waiting.map I))
  n1 : K.cl ≠ K.gl
  n2 : K.cl ≠ K.wa
  n3 : K.gl ≠ K.wa
  n4 : K.nu ≠ K.op

abbrev KA.W (K : KA) : List Addr := [K.cl, K.gl, K.nu, K.op, K.wa]

theorem KH.io {H : OH} {K : KA} {A : CA} {whole : Int} {S : KSt} (h : KH H K A whole S) : InstOf H K.c 114 (clM K A whole) := ⟨_, _, h.inst, h.dict⟩
theorem KH.ext {H H' : OH} {K : KA} {A : CA} {whole : Int} {S : KSt} {W : List Addr} (h : KH H K A whole S) (x : Ext W H H') (h1 : K.c ∉ W) (h2 : K.dc ∉ W) (h3 : K.cl ∉ W) (h4 : K.gl ∉ W) (h5 : K.nu ∉ W) (h6 : K.op ∉ W) (h7 : K.wa ∉ W)
    (ht : ∀ t p, H t = some (.tup p) → t ∉ W) : KH H' K A whole S where
  inst := x _ _ h.inst h1
  dict := x _ _ h.dict h2
  clauses := x _ _ h.clauses h3
  tups := fun i t e => let ⟨c, a, b⟩ := h.tups i t e; ⟨c, a, x _ _ b (ht _ _ b)⟩
  gates := x _ _ h.gates h4
  numbers := x _ _ h.numbers h5
  opened := x _ _ h.opened h6
  waiting := x _ _ h.waiting h7
  n1 := h.n1
  n2 := h.n2
  n3 := h.n3
  n4 := h.n4
theorem KH.keep {H H' : OH} {K : KA} {A : CA} {whole : Int} {S : KSt} (h : KH H K A whole S) (x : Ext [] H H') : KH H' K A whole S := h.ext x (by simp) (by simp) (by simp) (by simp) (by simp) (by simp) (by simp) (by simp)

def addVar (S : KSt) (g : Int) : KSt := if g ∈ S.vars then S else { S with vars := S.vars ++ [g] }
def openS (S : KSt) (s : Int) : KSt := if s ∈ S.opened then S else { S with opened := S.opened ++ [s], waiting := S.waiting ++ [s] }
def sidesOf (whole g : Int) : List Int := if whole > 0 then [(g.natAbs : Int), -(g.natAbs : Int)] else [g]
def enterS (whole : Int) (S : KSt) (g : Int) : KSt := (sidesOf whole g).foldl openS (addVar S g.natAbs)
/-- x is the literal that stands for g -/
def LitIs (vars : List Int) (g x : Int) : Prop := ∃ n : Nat, vars[n]? = some (g.natAbs : Int) ∧ x = if g > 0 then (n : Int) + 1 else -((n : Int) + 1)

theorem k_numbers (P : Params) : AttrK (heap P) 114 (Str.ofString "numbers") := ⟨by k_is, by k_is, _, by k_is, by k_is⟩
theorem k_gates (P : Params) : AttrK (heap P) 114 (Str.ofString "gates") := ⟨by k_is, by k_is, _, by k_is, by k_is⟩
theorem k_opened (P : Params) : AttrK (heap P) 114 (Str.ofString "opened") := ⟨by k_is, by k_is, _, by k_is, by k_is⟩
theorem k_waiting (P : Params) : AttrK (heap P) 114 (Str.ofString "waiting") := ⟨by k_is, by k_is, _, by k_is, by k_is⟩
theorem k_clauses (P : Params) : AttrK (heap P) 114 (Str.ofString "clauses") := ⟨by k_is, by k_is, _, by k_is, by k_is⟩
theorem k_whole (P : Params) : AttrK (heap P) 114 (Str.ofString "whole") := ⟨by k_is, by k_is, _, by k_is, by k_is⟩
theorem k_circuit (P : Params) : AttrK (heap P) 114 (Str.ofString "circuit") := ⟨by k_is, by k_is, _, by k_is, by k_is⟩
theorem k_number_of (P : Params) : MethK (heap P) 114 (Str.ofString "number_of") 64 := ⟨by k_is, by k_is, by k_is, by k_is⟩

section
variable {fx : FX} {Γ : Amb} {H : OH} {m : Loc} {A : CA} {C : List Gate} {K : KA} {whole : Int} {S : KSt}
set_option maxHeartbeats 4000000

theorem KH.var (h : KH H K A whole S) {g : Int} (hg : g ∉ S.vars) : KH (upd (upd H K.nu (.idict (numsOf (S.vars ++ [g])))) K.gl (.list (I 0 :: (S.vars ++ [g]).map I))) K A whole { S with vars := S.vars ++ [g] } where
  inst := by rw [upd_ne _ _ (ne_of_kind h.inst h.gates (by simp)), upd_ne _ _ (ne_of_kind h.inst h.numbers (by simp))]; exact h.inst
  dict := by rw [upd_ne _ _ (ne_of_kind h.dict h.gates (by simp)), upd_ne _ _ (ne_of_kind h.dict h.numbers (by simp))]; exact h.dict
  clauses := by rw [upd_ne _ _ h.n1, upd_ne _ _ (ne_of_kind h.clauses h.numbers (by simp))]; exact h.clauses
  tups := fun i t e => by
    obtain ⟨c, a, b⟩ := h.tups i t e
    exact ⟨c, a, by rw [upd_ne _ _ (ne_of_kind b h.gates (by simp)), upd_ne _ _ (ne_of_kind b h.numbers (by simp))]; exact b⟩
  gates := upd_self _ _ _
  numbers := by rw [upd_ne _ _ (ne_of_kind h.numbers h.gates (by simp)), upd_self]
  opened := by rw [upd_ne _ _ (ne_of_kind h.opened h.gates (by simp)), upd_ne _ _ (Ne.symm h.n4)]; exact h.opened
  waiting := by rw [upd_ne _ _ (Ne.symm h.n3), upd_ne _ _ (ne_of_kind h.waiting h.numbers (by simp))]; exact h.waiting
  n1 := h.n1
  n2 := h.n2
  n3 := h.n3
  n4 := h.n4

theorem KH.side (h : KH H K A whole S) {s : Int} : KH (upd (upd H K.op (.idict (marks (S.opened ++ [s])))) K.wa (.list ((S.waiting ++ [s]).map I))) K A whole { S with opened := S.opened ++ [s], waiting := S.waiting ++ [s] } where
  inst := by rw [upd_ne _ _ (ne_of_kind h.inst h.waiting (by simp)), upd_ne _ _ (ne_of_kind h.inst h.opened (by simp))]; exact h.inst
  dict := by rw [upd_ne _ _ (ne_of_kind h.dict h.waiting (by simp)), upd_ne _ _ (ne_of_kind h.dict h.opened (by simp))]; exact h.dict
  clauses := by rw [upd_ne _ _ h.n2, upd_ne _ _ (ne_of_kind h.clauses h.opened (by simp))]; exact h.clauses
  tups := fun i t e => by
    obtain ⟨c, a, b⟩ := h.tups i t e
    exact ⟨c, a, by rw [upd_ne _ _ (ne_of_kind b h.waiting (by simp)), upd_ne _ _ (ne_of_kind b h.opened (by simp))]; exact b⟩
  gates := by rw [upd_ne _ _ h.n3, upd_ne _ _ (ne_of_kind h.gates h.opened (by simp))]; exact h.gates
  numbers := by rw [upd_ne _ _ (ne_of_kind h.numbers h.waiting (by simp)), upd_ne _ _ h.n4]; exact h.numbers
  opened := by rw [upd_ne _ _ (ne_of_kind h.opened h.waiting (by simp)), upd_self]
  waiting := upd_self _ _ _
  n1 := h.n1
  n2 := h.n2
  n3 := h.n3
  n4 := h.n4

theorem number_of_spec {g : Int} {raws : List Value} {Q : Value → OH → Prop} (rem : 1 ≤ Γ.rem) (hK : KH H K A whole S) (hn : S.vars.Nodup) (hz : S.vars.length < 2 ^ 20)
    (hr : raws.map nz = [.ref K.c, I g]) (h : ∀ (n : Nat) H', (addVar S g).vars[n]? = some g → (addVar S g).vars.Nodup → KH H' K A whole (addVar S g) → Ext K.W H H' → Q (I ((n : Int) + 1)) H') : JV fx Γ H m (call (.ref 64) raws) Q := by
  obtain ⟨r1, r2, rfl, e1, e2⟩ := args2 hr
  obtain rfl := nz_ref e1
  refine' JV.fn (fx := fx) (binds := [(Str.ofString "self", .ref K.c), (Str.ofString "gate", r2)]) ?ho ?hcd ?hrem ?hbind ?hloc ?hnd ?h ?hcell ?h1 ?h2 ?h3
  case ho => show List.lookup _ (Mine.heap _) = _; k_is
  case hcd => show codeIn (Mine.heap _) _ _ = _; k_is
  case hrem => first | omega | (dsimp only; omega)
  case hbind => intro s S; first | exact BindsTo.of_eq rfl | exact binds_K (fx.X.keeps S.base) rfl (by show List.lookup _ (Mine.heap _) = _; k_is) rfl rfl rfl
  case hloc => exact locs rfl
  case hnd => exact (by decide : [Str.ofString "self", Str.ofString "gate"].Nodup)
  case hcell => decide
  case h1 => rfl
  case h2 => rfl
  case h3 => rfl
  intro A' L B
  have zl : sizeLine = 2 ^ 24 := rfl
  have bg : binding [(Str.ofString "self", Value.ref K.c), (Str.ofString "gate", r2)] (Str.ofString "gate") = some (I g) := by rw [← e2]; rfl
  have hsome : (valueAt (numsOf S.vars) g).isSome = decide (g ∈ S.vars) := by rw [valueAt_some, numsOf, numFrom_keys]
  refine JS.cons (JS.mono (Q := fun fl H₂ m₂ => fl = .next ∧ KH H₂ K A whole (addVar S g) ∧ Ext K.W H H₂ ∧ (addVar S g).vars.Nodup ∧ g ∈ (addVar S g).vars ∧ m₂ (Str.ofString "self") = some (.ref K.c) ∧ m₂ (Str.ofString "gate") = some (I g))
    (JS.ite (JB.cmpOk (JV.nameL bg (JV.attr (JV.nameL rfl ⟨K.c, 114, clM K A whole, .ref K.nu, rfl, hK.io, k_numbers _, rfl, trivial, _, CmpOk.notInI hK.numbers, ?_⟩))))) ?_)
  · rw [hsome]
    by_cases hg : g ∈ S.vars
    · rw [show addVar S g = S from if_pos hg, show (!decide (g ∈ S.vars)) = false by simp [hg]]
      exact iteF (JS.nil ⟨rfl, hK, Ext.refl, hn, hg, rfl, bg⟩)
    · rw [show addVar S g = { S with vars := S.vars ++ [g] } from if_neg hg, show (!decide (g ∈ S.vars)) = true by simp [hg]]
      refine iteT ?_
      refine JS.cons (JS.putI (JV.callN (JV.nameB (by show nsIn (Mine.heap _) _ _ = _; k_is) (by boot_by_name) (⟨by exact trivial, JL.cons (JV.attr (JV.nameL rfl ⟨K.c, 114, clM K A whole, .ref K.gl, rfl, hK.io, k_gates _, rfl, trivial, JL.nil ?_⟩))⟩))))
      intro raws hr
      obtain ⟨r1, rfl, e1⟩ := args1 hr
      obtain rfl := nz_ref e1
      refine JV.lenL hK.gates (by simp; omega) (JV.attr (JV.nameL rfl ⟨K.c, 114, clM K A whole, .ref K.nu, rfl, hK.io, k_numbers _, rfl, trivial, JV.nameL bg ⟨K.nu, numsOf S.vars, g, rfl, rfl, hK.numbers, by rw [nums_len, zl]; omega, ?_⟩⟩))
      have hst : stored (numsOf S.vars) g (I ((I 0 :: S.vars.map I).length)) = numsOf (S.vars ++ [g]) := by
        rw [stored_new (by rw [numsOf, numFrom_keys]; exact hg), numsOf, numsOf, numFrom_snoc]
        simp; omega
      rw [hst]
      dsimp only
      have g1 : (upd H K.nu (.idict (numsOf (S.vars ++ [g])))) K.c = some (.inst 114 K.dc) := by rw [upd_ne _ _ (ne_of_kind hK.inst hK.numbers (by simp))]; exact hK.inst
      have g2 : (upd H K.nu (.idict (numsOf (S.vars ++ [g])))) K.dc = some (.ns (clM K A whole) 7) := by rw [upd_ne _ _ (ne_of_kind hK.dict hK.numbers (by simp))]; exact hK.dict
      have g3 : (upd H K.nu (.idict (numsOf (S.vars ++ [g])))) K.gl = some (.list (I 0 :: S.vars.map I)) := by rw [upd_ne _ _ (ne_of_kind hK.gates hK.numbers (by simp))]; exact hK.gates
      refine JS.cons (JS.expr (JV.appendE (JV.attr (JV.nameL rfl ⟨K.c, 114, clM K A whole, .ref K.gl, rfl, ⟨_, _, g1, g2⟩, k_gates _, rfl, trivial, K.gl, _, rfl, g3, JV.nameL bg ⟨_, g3, by simp [zl]; omega, trivial, ?_⟩⟩))))
      dsimp only
      have hl : (I 0 :: S.vars.map I) ++ [I g] = I 0 :: (S.vars ++ [g]).map I := by simp
      rw [hl]
      refine JS.nil ⟨rfl, hK.var hg, (Ext.refl.write (by simp)).write (by simp), ?_, by simp, rfl, bg⟩
      rw [List.nodup_append]; exact ⟨hn, by simp, fun a ha b hb => by simp at hb; rintro rfl; exact hg (hb ▸ ha)⟩
  · rintro fl H₂ m₂ ⟨rfl, k₂, x₂, nd, hm, s₂, g₂⟩
    dsimp only
    obtain ⟨n, hn⟩ := List.mem_iff_getElem?.mp hm
    refine JS.cons (JS.ret (JV.itemI (JV.attr (JV.nameL s₂ ⟨K.c, 114, clM K A whole, .ref K.nu, rfl, k₂.io, k_numbers _, rfl, trivial, JV.nameL g₂ ⟨K.nu, _, g, _, rfl, rfl, k₂.numbers, numFrom_at _ 1 g nd n hn, ?_⟩⟩))))
    have : ((1 + n : Nat) : Int) = (n : Int) + 1 := by omega
    rw [this]
    exact h n H₂ hn nd k₂ x₂
end
end Mine
end

section -- FH
open PySem PySem.W PySem.Calls PyProof.Rows PySem.SeqAt
set_option Elab.async false
set_option maxRecDepth 100000
set_option linter.unusedVariables false
namespace Mine
theorem primeFH : (fun (_ : OpenLaw) (_ : Params → Frag) => True) PySem.Challenge.rw_nz0385_01 Mine.heap := by
  k_fill
  trivial

theorem openS_len (S : KSt) (s : Int) : (openS S s).opened.length ≤ S.opened.length + 1 ∧ (openS S s).waiting.length ≤ S.waiting.length + 1 ∧ (openS S s).vars = S.vars := by
  unfold openS; split <;> simp
theorem updL_same {m : Loc} {x : Str} {v : Value} : updL m x v x = some v := by unfold updL; rw [if_pos rfl]
theorem updL_other {m : Loc} {x y : Str} {v : Value} (h : y ≠ x) : updL m x v y = m y := by unfold updL; rw [if_neg h]

section
variable {fx : FX} {Γ : Amb} {H : OH} {m : Loc} {A : CA} {C : List Gate} {K : KA} {whole : Int} {S : KSt}
set_option maxHeartbeats 4000000

theorem many_spec {raws : List Value} {Q : Value → OH → Prop} (rem : 1 ≤ Γ.rem) (hK : KH H K A whole S) (hz : S.vars.length < 2 ^ 20)
    (hr : raws.map nz = [.ref K.c]) (h : Q (I S.vars.length) H) : JV fx Γ H m (call (.ref 57) raws) Q := by
  obtain ⟨r1, rfl, e1⟩ := args1 hr
  obtain rfl := nz_ref e1
  refine' JV.fn (fx := fx) (binds := [(Str.ofString "self", .ref K.c)]) ?ho ?hcd ?hrem ?hbind ?hloc ?hnd ?h ?hcell ?h1 ?h2 ?h3
  case ho => show List.lookup _ (Mine.heap _) = _; k_is
  case hcd => show codeIn (Mine.heap _) _ _ = _; k_is
  case hrem => first | omega | (dsimp only; omega)
  case hbind => intro s S; first | exact BindsTo.of_eq rfl | exact binds_K (fx.X.keeps S.base) rfl (by show List.lookup _ (Mine.heap _) = _; k_is) rfl rfl rfl
  case hloc => exact locs rfl
  case hnd => exact (by decide : [Str.ofString "self"].Nodup)
  case hcell => decide
  case h1 => rfl
  case h2 => rfl
  case h3 => rfl
  intro A' L B
  refine JS.cons (JS.ret (JV.sub (JV.callN (JV.nameB (by show nsIn (Mine.heap _) _ _ = _; k_is) (by boot_by_name) (⟨by exact trivial, JL.cons (JV.attr (JV.nameL rfl ⟨K.c, 114, clM K A whole, .ref K.gl, rfl, hK.io, k_gates _, rfl, trivial, JL.nil ?_⟩))⟩)))))
  intro raws hr
  obtain ⟨r1, rfl, e1⟩ := args1 hr
  obtain rfl := nz_ref e1
  refine JV.lenL hK.gates (by simp; omega) (JV.cint ⟨_, _, rfl, rfl, ?_⟩)
  have : ((I 0 :: S.vars.map I).length : Int) - 1 = (S.vars.length : Int) := by simp
  rw [this]; exact h

theorem gate_of_spec {n : Nat} {g : Int} {raws : List Value} {Q : Value → OH → Prop} (rem : 1 ≤ Γ.rem) (hK : KH H K A whole S) (hz : S.vars.length < 2 ^ 20) (hg : S.vars[n]? = some g)
    (hr : raws.map nz = [.ref K.c, I ((n : Int) + 1)]) (h : Q (I g) H) : JV fx Γ H m (call (.ref 71) raws) Q := by
  obtain ⟨r1, r2, rfl, e1, e2⟩ := args2 hr
  obtain rfl := nz_ref e1
  have hlt := (List.getElem?_eq_some_iff.mp hg).1
  refine' JV.fn (fx := fx) (binds := [(Str.ofString "self", .ref K.c), (Str.ofString "number", r2)]) ?ho ?hcd ?hrem ?hbind ?hloc ?hnd ?h ?hcell ?h1 ?h2 ?h3
  case ho => show List.lookup _ (Mine.heap _) = _; k_is
  case hcd => show codeIn (Mine.heap _) _ _ = _; k_is
  case hrem => first | omega | (dsimp only; omega)
  case hbind => intro s S; first | exact BindsTo.of_eq rfl | exact binds_K (fx.X.keeps S.base) rfl (by show List.lookup _ (Mine.heap _) = _; k_is) rfl rfl rfl
  case hloc => exact locs rfl
  case hnd => exact (by decide : [Str.ofString "self", Str.ofString "number"].Nodup)
  case hcell => decide
  case h1 => rfl
  case h2 => rfl
  case h3 => rfl
  intro A' L B
  refine JS.cons (JS.ret (JV.itemL (JV.attr (JV.nameL rfl ⟨K.c, 114, clM K A whole, .ref K.gl, rfl, hK.io, k_gates _, rfl, trivial, JV.nameL rfl ⟨K.gl, _, (n : Int) + 1, I g, rfl, e2, hK.gates, by omega, by omega, ?_, h⟩⟩))))
  rw [show ((n : Int) + 1).toNat = n + 1 by omega]
  simp [hg]

theorem enter_spec {g : Int} {raws : List Value} {Q : Value → OH → Prop} (rem : 2 ≤ Γ.rem) (hK : KH H K A whole S) (hn : S.vars.Nodup) (hz : S.vars.length < 2 ^ 20) (ho : S.opened.length < 2 ^ 22) (hw : S.waiting.length < 2 ^ 22)
    (hr : raws.map nz = [.ref K.c, I g]) (h : ∀ x H', LitIs (enterS whole S g).vars g x → KH H' K A whole (enterS whole S g) → Ext K.W H H' → Q (I x) H') : JV fx Γ H m (call (.ref 78) raws) Q := by
  obtain ⟨r1, r2, rfl, e1, e2⟩ := args2 hr
  obtain rfl := nz_ref e1
  refine' JV.fn (fx := fx) (binds := [(Str.ofString "self", .ref K.c), (Str.ofString "gate", r2)]) ?ho ?hcd ?hrem ?hbind ?hloc ?hnd ?h ?hcell ?h1 ?h2 ?h3
  case ho => show List.lookup _ (Mine.heap _) = _; k_is
  case hcd => show codeIn (Mine.heap _) _ _ = _; k_is
  case hrem => first | omega | (dsimp only; omega)
  case hbind => intro s S; first | exact BindsTo.of_eq rfl | exact binds_K (fx.X.keeps S.base) rfl (by show List.lookup _ (Mine.heap _) = _; k_is) rfl rfl rfl
  case hloc => exact locs rfl
  case hnd => exact (by decide : [Str.ofString "self", Str.ofString "gate"].Nodup)
  case hcell => decide
  case h1 => rfl
  case h2 => rfl
  case h3 => rfl
  intro A' L B
  have zl : sizeLine = 2 ^ 24 := rfl
  have bg : binding [(Str.ofString "self", Value.ref K.c), (Str.ofString "gate", r2)] (Str.ofString "gate") = some (I g) := by rw [← e2]; rfl
  refine JS.cons (JS.assignL (JV.callN (JV.nameB (by show nsIn (Mine.heap _) _ _ = _; k_is) (by boot_by_name) (⟨by exact trivial, JL.cons (JV.nameL bg (JL.nil ?_))⟩))))
  intro raws hr
  obtain ⟨r1, rfl, e1⟩ := args1 hr
  refine JV.abs e1 ?_
  dsimp only
  refine JS.cons (JS.assignL (JV.methN (JV.nameL rfl ⟨K.c, 114, clM K A whole, 64, rfl, hK.io, k_number_of _, rfl, JL.cons (JV.nameL rfl (JL.nil ?_))⟩)))
  intro raws hr
  refine number_of_spec (g := g.natAbs) (rm rem) hK hn hz (by first | exact hr | exact mp hr) fun n H₁ hnum nd k₁ x₁ => ?_
  dsimp only
  have b0 : updL (updL (binding [(Str.ofString "self", Value.ref K.c), (Str.ofString "gate", r2)]) (Str.ofString "base") (I g.natAbs)) (Str.ofString "number") (I ((n : Int) + 1)) (Str.ofString "self") = some (.ref K.c) := rfl
  have b1 : updL (updL (binding [(Str.ofString "self", Value.ref K.c), (Str.ofString "gate", r2)]) (Str.ofString "base") (I g.natAbs)) (Str.ofString "number") (I ((n : Int) + 1)) (Str.ofString "gate") = some (I g) := updL_k rfl (updL_k rfl bg)
  have b2 : updL (updL (binding [(Str.ofString "self", Value.ref K.c), (Str.ofString "gate", r2)]) (Str.ofString "base") (I g.natAbs)) (Str.ofString "number") (I ((n : Int) + 1)) (Str.ofString "base") = some (I g.natAbs) := rfl
  have b3 : updL (updL (binding [(Str.ofString "self", Value.ref K.c), (Str.ofString "gate", r2)]) (Str.ofString "base") (I g.natAbs)) (Str.ofString "number") (I ((n : Int) + 1)) (Str.ofString "number") = some (I ((n : Int) + 1)) := rfl
  generalize updL (updL (binding [(Str.ofString "self", Value.ref K.c), (Str.ofString "gate", r2)]) (Str.ofString "base") (I g.natAbs)) (Str.ofString "number") (I ((n : Int) + 1)) = m1 at b0 b1 b2 b3
  have hsl : (sidesOf whole g).length ≤ 2 := by unfold sidesOf; split <;> simp
  have lens : ∀ (l : List Int) (S : KSt), (l.foldl openS S).opened.length ≤ S.opened.length + l.length ∧ (l.foldl openS S).waiting.length ≤ S.waiting.length + l.length ∧ (l.foldl openS S).vars = S.vars := by
    intro l
    induction l with
    | nil => intro S; simp
    | cons s r ih =>
      intro S
      obtain ⟨a, b, c⟩ := ih (openS S s)
      obtain ⟨d, e, f⟩ := openS_len S s
      simp only [List.foldl_cons, List.length_cons]
      exact ⟨by omega, by omega, c.trans f⟩
  have av : (addVar S g.natAbs).opened = S.opened ∧ (addVar S g.natAbs).waiting = S.waiting := by unfold addVar; split <;> exact ⟨rfl, rfl⟩
  refine JS.cons (JS.forE (JV.mono (Q := fun v H₂ => ∃ t, v = .ref t ∧ H₁ t = none ∧ H₂ = upd H₁ t (.tup ((sidesOf whole g).map I))) (JV.ife (JB.cmpOk (JV.attr (JV.nameL b0 ⟨K.c, 114, clM K A whole, I whole, rfl, k₁.io, k_whole _, rfl, trivial, JV.cint ⟨_, CmpOk.gtI, ?_⟩⟩)))) ?_))
  · unfold sidesOf
    split
    · rename_i q
      have q' : whole > 0 := of_decide_eq_true q
      rw [if_pos q']
      refine JV.tupE (JL.cons (JV.nameL b2 (JL.cons (JV.neg (JV.nameL b2 ⟨g.natAbs, rfl, JL.nil ⟨by show 2 ≤ sizeLine; decide, fun t ht => ⟨t, rfl, ht, rfl⟩⟩⟩)))))
    · rename_i q
      have q' : ¬ whole > 0 := fun x => q (decide_eq_true x)
      rw [if_neg q']
      exact JV.tupE (JL.cons (JV.nameL b1 (JL.nil ⟨by show 1 ≤ sizeLine; decide, fun t ht => ⟨t, rfl, ht, rfl⟩⟩)))
  · rintro v H₂ ⟨t, rfl, ht, rfl⟩
    refine ⟨t, rfl, _, (sidesOf whole g).map I, _, fun i H' m' => H' t = some (.tup ((sidesOf whole g).map I)) ∧ (∃ S₂, S₂ = ((sidesOf whole g).take i).foldl openS (addVar S g.natAbs) ∧ KH H' K A whole S₂) ∧ Ext K.W H H' ∧ m' (Str.ofString "self") = some (.ref K.c) ∧ m' (Str.ofString "gate") = some (I g) ∧ m' (Str.ofString "number") = some (I ((n : Int) + 1)),
      Src.tup, ⟨upd_self _ _ _, ⟨_, rfl, k₁.keep (Ext.refl.fresh ht)⟩, x₁.fresh ht, b0, b1, b3⟩, fun i H' m' hh => hh.1, ?_, ?_⟩
    · rintro i v H₂ m₂ hv ⟨ht₂, ⟨S₂, eS, k₂⟩, x₂, s₂, g₂, n₂⟩ B' rv hrv
      rw [List.getElem?_map] at hv
      obtain ⟨s, hs, rfl⟩ := Option.map_eq_some_iff.mp hv
      have htake : (sidesOf whole g).take (i + 1) = (sidesOf whole g).take i ++ [s] := by rw [List.take_add_one, hs]; rfl
      have hstep : ((sidesOf whole g).take (i + 1)).foldl openS (addVar S g.natAbs) = openS (((sidesOf whole g).take i).foldl openS (addVar S g.natAbs)) s := by rw [htake, List.foldl_append]; rfl
      rw [← eS] at hstep
      obtain ⟨l1, l2, l3⟩ := lens ((sidesOf whole g).take i) (addVar S g.natAbs)
      rw [av.1] at l1
      rw [av.2] at l2
      have htl : ((sidesOf whole g).take i).length ≤ 2 := Nat.le_trans (List.length_take_le' ..) hsl
      rw [← eS] at l1 l2 l3
      refine JU.nameL ?_
      rw [hrv]
      have c0 : updL m₂ (Str.ofString "side") (I s) (Str.ofString "self") = some (.ref K.c) := updL_k rfl s₂
      have c1 : updL m₂ (Str.ofString "side") (I s) (Str.ofString "gate") = some (I g) := updL_k rfl g₂
      have c2 : updL m₂ (Str.ofString "side") (I s) (Str.ofString "number") = some (I ((n : Int) + 1)) := updL_k rfl n₂
      have c3 : updL m₂ (Str.ofString "side") (I s) (Str.ofString "side") = some (I s) := updL_same
      generalize updL m₂ (Str.ofString "side") (I s) = m₃ at c0 c1 c2 c3
      refine JS.cons (JS.ite (JB.cmpOk (JV.nameL c3 (JV.attr (JV.nameL c0 ⟨K.c, 114, clM K A whole, .ref K.op, rfl, k₂.io, k_opened _, rfl, trivial, _, CmpOk.notInI k₂.opened, ?_⟩)))))
      rw [marks_at]
      by_cases hso : s ∈ S₂.opened
      · rw [show (!decide (s ∈ S₂.opened)) = false by simp [hso]]
        exact iteF (JS.nil (JS.nil ⟨ht₂, ⟨S₂, by rw [hstep]; exact (if_pos hso).symm, k₂⟩, x₂, c0, c1, c2⟩))
      · rw [show (!decide (s ∈ S₂.opened)) = true by simp [hso]]
        refine iteT ?_
        refine JS.cons (JS.putI (JV.cbool (JV.attr (JV.nameL c0 ⟨K.c, 114, clM K A whole, .ref K.op, rfl, k₂.io, k_opened _, rfl, trivial, JV.nameL c3 ⟨K.op, _, s, rfl, rfl, k₂.opened, by rw [marks_len, zl]; omega, ?_⟩⟩))))
        dsimp only
        rw [marks_put, if_neg hso]
        have g1 : (upd H₂ K.op (.idict (marks (S₂.opened ++ [s])))) K.c = some (.inst 114 K.dc) := by rw [upd_ne _ _ (ne_of_kind k₂.inst k₂.opened (by simp))]; exact k₂.inst
        have g2 : (upd H₂ K.op (.idict (marks (S₂.opened ++ [s])))) K.dc = some (.ns (clM K A whole) 7) := by rw [upd_ne _ _ (ne_of_kind k₂.dict k₂.opened (by simp))]; exact k₂.dict
        have g3 : (upd H₂ K.op (.idict (marks (S₂.opened ++ [s])))) K.wa = some (.list (S₂.waiting.map I)) := by rw [upd_ne _ _ (ne_of_kind k₂.waiting k₂.opened (by simp))]; exact k₂.waiting
        refine JS.cons (JS.expr (JV.appendE (JV.attr (JV.nameL c0 ⟨K.c, 114, clM K A whole, .ref K.wa, rfl, ⟨_, _, g1, g2⟩, k_waiting _, rfl, trivial, K.wa, _, rfl, g3, JV.nameL c3 ⟨_, g3, by rw [List.length_map, zl]; omega, trivial, ?_⟩⟩))))
        dsimp only
        have hl : S₂.waiting.map I ++ [I s] = (S₂.waiting ++ [s]).map I := by simp
        rw [hl]
        refine JS.nil (JS.nil ⟨?_, ⟨_, by rw [hstep]; exact (if_neg hso).symm, k₂.side⟩, x₂.trans ((Ext.refl.write (by simp)).write (by simp)), c0, c1, c2⟩)
        rw [upd_ne _ _ (ne_of_kind ht₂ k₂.waiting (by simp)), upd_ne _ _ (ne_of_kind ht₂ k₂.opened (by simp))]; exact ht₂
    · rintro H₂ m₂ ⟨ht₂, ⟨S₂, eS, k₂⟩, x₂, s₂, g₂, n₂⟩
      dsimp only
      rw [List.length_map, List.take_length] at eS
      subst eS
      have hvars : (enterS whole S g).vars = (addVar S g.natAbs).vars := (lens _ _).2.2
      refine JS.cons (JS.ret (JV.ife (JB.cmpOk (JV.nameL g₂ (JV.cint ⟨_, CmpOk.gtI, ?_⟩)))))
      split
      · rename_i q
        have q' : g > 0 := of_decide_eq_true q
        exact JV.nameL n₂ (h _ H₂ ⟨n, by rw [hvars]; exact hnum, by rw [if_pos q']⟩ k₂ x₂)
      · rename_i q
        have q' : ¬ g > 0 := fun x => q (decide_eq_true x)
        exact JV.neg (JV.nameL n₂ ⟨_, rfl, h _ H₂ ⟨n, by rw [hvars]; exact hnum, by rw [if_neg q']⟩ k₂ x₂⟩)
end
end Mine
end

section -- FI
open PySem PySem.W PySem.Calls PyProof.Rows PySem.SeqAt
set_option Elab.async false
set_option maxRecDepth 100000
set_option linter.unusedVariables false
namespace Mine
theorem primeFI : (fun (_ : OpenLaw) (_ : Params → Frag) => True) PySem.Challenge.rw_nz0385_01 Mine.heap := by
  k_fill
  trivial

/-- a clause of these literals was told -/
def Told (S S' : KSt) (ls : List Int) : Prop := ∃ (c : List Int) (t : Addr), S' = { S with clauses := S.clauses ++ [c], tups := S.tups ++ [t] } ∧ (∀ x, x ∈ c ↔ x ∈ ls) ∧ c.Nodup ∧ c.length ≤ 3

section
variable {fx : FX} {Γ : Amb} {H : OH} {m : Loc} {A : CA} {C : List Gate} {K : KA} {whole : Int} {S : KSt}
set_option maxHeartbeats 4000000

theorem place_spec : PlaceSpec fx (.ref 35) := fun Γ H m v k Q rem hv h => by
  refine' JV.fn (fx := fx) (binds := [(Str.ofString "literal", v)]) ?ho ?hcd ?hrem ?hbind ?hloc ?hnd ?h ?hcell ?h1 ?h2 ?h3
  case ho => show List.lookup _ (Mine.heap _) = _; k_is
  case hcd => show codeIn (Mine.heap _) _ _ = _; k_is
  case hrem => first | omega | (dsimp only; omega)
  case hbind => intro s S; first | exact BindsTo.of_eq rfl | exact binds_K (fx.X.keeps S.base) rfl (by show List.lookup _ (Mine.heap _) = _; k_is) rfl rfl rfl
  case hloc => exact locs rfl
  case hnd => exact (by decide : [Str.ofString "literal"].Nodup)
  case hcell => decide
  case h1 => rfl
  case h2 => rfl
  case h3 => rfl
  intro A' L B
  have b0 : binding [(Str.ofString "literal", v)] (Str.ofString "literal") = some (I k) := by rw [← hv]; rfl
  refine JS.cons (JS.ret (JV.tupE (JL.cons (JV.callN (JV.nameB (by show nsIn (Mine.heap _) _ _ = _; k_is) (by boot_by_name) (⟨by exact trivial, JL.cons (JV.nameL b0 (JL.nil ?_))⟩))))))
  intro raws hr
  obtain ⟨r1, rfl, e1⟩ := args1 hr
  refine JV.abs e1 (JL.cons (JV.nameL b0 (JL.nil ⟨by show 2 ≤ sizeLine; decide, h⟩)))

theorem clause_of_spec {l : Addr} {ls : List Int} {raws : List Value} {Q : Value → OH → Prop} (rem : 6 ≤ Γ.rem) (hl : H l = some (.list (ls.map I))) (h3 : ls.length ≤ 3) (hno : ∀ x ∈ ls, -x ∉ ls)
    (hr : raws.map nz = [.ref l]) (h : ∀ (t : Addr) (c : List Int) (H' : OH), H' t = some (.tup (c.map I)) → Ext [] H H' → (∀ x, x ∈ c ↔ x ∈ ls) → c.Nodup → c.length ≤ 3 → Q (.ref t) H') : JV fx Γ H m (call (.ref 28) raws) Q := by
  obtain ⟨r1, rfl, e1⟩ := args1 hr
  obtain rfl := nz_ref e1
  refine' JV.fn (fx := fx) (binds := [(Str.ofString "literals", .ref l)]) ?ho ?hcd ?hrem ?hbind ?hloc ?hnd ?h ?hcell ?h1 ?h2 ?h3
  case ho => show List.lookup _ (Mine.heap _) = _; k_is
  case hcd => show codeIn (Mine.heap _) _ _ = _; k_is
  case hrem => first | omega | (dsimp only; omega)
  case hbind => intro s S; first | exact BindsTo.of_eq rfl | exact binds_K (fx.X.keeps S.base) rfl (by show List.lookup _ (Mine.heap _) = _; k_is) rfl rfl rfl
  case hloc => exact locs rfl
  case hnd => exact (by decide : [Str.ofString "literals"].Nodup)
  case hcell => decide
  case h1 => rfl
  case h2 => rfl
  case h3 => rfl
  intro A' L B
  have zl : sizeLine = 2 ^ 24 := rfl
  refine JS.cons (JS.assignL (JV.dictI0 fun d hd => ?_))
  dsimp only
  have dne : l ≠ d := ne_new hl hd
  refine JS.cons (JS.forE (JV.nameL rfl ⟨l, rfl, _, ls.map I, _, fun i H' m' => ∃ fs : List Int, H' = upd H d (.idict (marks fs)) ∧ fs.Nodup ∧ (∀ x, x ∈ fs ↔ x ∈ ls.take i) ∧ fs.length ≤ i ∧ m' (Str.ofString "kept") = some (.ref d), Src.list, ⟨[], rfl, by simp, by simp, by simp, rfl⟩, ?_, ?_, ?_⟩))
  · rintro i H' m' ⟨fs, rfl, _⟩
    rw [upd_ne _ _ dne]; exact hl
  · rintro i v H₁ m₁ hv ⟨fs, rfl, f1, f2, f3, f4⟩ B' rv hrv
    rw [List.getElem?_map] at hv
    obtain ⟨k, hk, rfl⟩ := Option.map_eq_some_iff.mp hv
    have hi := (List.getElem?_eq_some_iff.mp hk).1
    have hkm : k ∈ ls := List.mem_of_getElem? hk
    have htake : ls.take (i + 1) = ls.take i ++ [k] := by rw [List.take_add_one, hk]; rfl
    refine JU.nameL ?_
    rw [hrv]
    have g0 : updL m₁ (Str.ofString "literal") (I k) (Str.ofString "literal") = some (I k) := updL_same
    have g1 : updL m₁ (Str.ofString "literal") (I k) (Str.ofString "kept") = some (.ref d) := updL_k rfl f4
    generalize updL m₁ (Str.ofString "literal") (I k) = m₂ at g0 g1
    refine JS.cons (JS.ite (JB.cmpOk (JV.neg (JV.nameL g0 ⟨k, rfl, JV.nameL g1 ⟨_, CmpOk.inI (upd_self _ _ _), ?_⟩⟩))))
    rw [marks_at]
    have hnk : -k ∉ fs := fun q => hno k hkm (List.mem_of_mem_take ((f2 _).mp q))
    rw [show decide (-k ∈ fs) = false by simp [hnk]]
    refine iteF (JS.nil (JS.cons (JS.putI (JV.cbool (JV.nameL g1 (JV.nameL g0 ⟨d, _, k, rfl, rfl, upd_self _ _ _, by rw [marks_len, zl]; omega, ?_⟩))))))
    dsimp only
    refine JS.nil ?_
    rw [upd_upd, marks_put]
    refine ⟨_, rfl, ?_, fun x => ?_, ?_, g1⟩
    · split
      · exact f1
      · rename_i q; rw [List.nodup_append]; exact ⟨f1, by simp, fun a ha b hb => by simp at hb; rintro rfl; exact q (hb ▸ ha)⟩
    · rw [htake, List.mem_append, List.mem_singleton]
      split
      · rename_i q
        rw [f2]
        exact ⟨fun h => .inl h, fun h => h.elim id fun e => by rw [e]; exact (f2 k).mp q⟩
      · rw [List.mem_append, List.mem_singleton, f2]
    · split
      · omega
      · simp; omega
  · rintro H₁ m₁ ⟨fs, rfl, f1, f2, f3, f4⟩
    dsimp only
    rw [List.length_map, List.take_length] at f2
    rw [List.length_map] at f3
    refine JS.cons (JS.ret (JV.callN (JV.nameB (by show nsIn (Mine.heap _) _ _ = _; k_is) (by boot_by_name) (⟨by exact trivial, JL.cons (JV.callKw (JV.nameB (by show nsIn (Mine.heap _) _ _ = _; k_is) (by boot_by_name) (⟨_, rfl, JV.nameL f4 (JV.nameG (by show nsIn (Mine.heap _) _ _ = _; k_is) (?_))⟩)))⟩))))
    intro rv rk hv hk
    obtain rfl := nz_ref hv
    obtain rfl := nz_ref hk
    refine JV.sortedKD (upd_self _ _ _) (by rw [marks_len]; omega) (rm rem) place_spec fun H₂ l₂ ns x₂ hl₂ hl₂' hp => ?_
    rw [marks_keys] at hp
    refine JL.nil ?_
    intro raws hr
    obtain ⟨r1, rfl, e1⟩ := args1 hr
    obtain rfl := nz_ref e1
    have hlen := hp.length_eq
    refine JV.tupleOf hl₂' (by rw [List.length_map, zl]; omega) fun t ht => ?_
    refine h t ns _ (upd_self _ _ _) (((Ext.refl.fresh hd).trans (Ext.of_all x₂)).fresh ht) (fun x => ?_) (hp.nodup_iff.mpr f1) (by omega)
    rw [hp.mem_iff, f2]

theorem k_tell (P : Params) : MethK (heap P) 114 (Str.ofString "tell") 85 := ⟨by k_is, by k_is, by k_is, by k_is⟩
theorem k_enter (P : Params) : MethK (heap P) 114 (Str.ofString "enter") 78 := ⟨by k_is, by k_is, by k_is, by k_is⟩
theorem k_kind (P : Params) : MethK (heap P) 224 (Str.ofString "kind") 146 := ⟨by k_is, by k_is, by k_is, by k_is⟩
theorem k_partsM (P : Params) : MethK (heap P) 224 (Str.ofString "parts") 153 := ⟨by k_is, by k_is, by k_is, by k_is⟩

theorem KH.clause (h : KH H K A whole S) (hlen : S.tups.length = S.clauses.length) {c : List Int} {t : Addr} (ht : H t = some (.tup (c.map I))) : KH (upd H K.cl (.list ((S.tups ++ [t]).map .ref))) K A whole { S with clauses := S.clauses ++ [c], tups := S.tups ++ [t] } where
  inst := by rw [upd_ne _ _ (ne_of_kind h.inst h.clauses (by simp))]; exact h.inst
  dict := by rw [upd_ne _ _ (ne_of_kind h.dict h.clauses (by simp))]; exact h.dict
  clauses := upd_self _ _ _
  tups := fun i u e => by
    dsimp only at e ⊢
    by_cases hi : i < S.tups.length
    · rw [List.getElem?_append_left hi] at e
      obtain ⟨c', a, b⟩ := h.tups i u e
      exact ⟨c', by rw [List.getElem?_append_left (by omega)]; exact a, by rw [upd_ne _ _ (ne_of_kind b h.clauses (by simp))]; exact b⟩
    · rw [List.getElem?_append_right (by omega)] at e
      have := (List.getElem?_eq_some_iff.mp e).1
      simp at this
      rw [show i - S.tups.length = 0 by omega] at e
      simp at e; subst e
      refine ⟨c, ?_, by rw [upd_ne _ _ (ne_of_kind ht h.clauses (by simp))]; exact ht⟩
      rw [List.getElem?_append_right (by omega), show i - S.clauses.length = 0 by omega]; rfl
  gates := by rw [upd_ne _ _ (Ne.symm h.n1)]; exact h.gates
  numbers := by rw [upd_ne _ _ (ne_of_kind h.numbers h.clauses (by simp))]; exact h.numbers
  opened := by rw [upd_ne _ _ (ne_of_kind h.opened h.clauses (by simp))]; exact h.opened
  waiting := by rw [upd_ne _ _ (Ne.symm h.n2)]; exact h.waiting
  n1 := h.n1
  n2 := h.n2
  n3 := h.n3
  n4 := h.n4

theorem tell_spec {l : Addr} {ls : List Int} {raws : List Value} {Q : Value → OH → Prop} (rem : 7 ≤ Γ.rem) (hK : KH H K A whole S) (hlen : S.tups.length = S.clauses.length) (hz : S.clauses.length < 2 ^ 23) (hl : H l = some (.list (ls.map I))) (h3 : ls.length ≤ 3) (hno : ∀ x ∈ ls, -x ∉ ls)
    (hr : raws.map nz = [.ref K.c, .ref l]) (h : ∀ S' H', Told S S' ls → KH H' K A whole S' → Ext K.W H H' → Q .none H') : JV fx Γ H m (call (.ref 85) raws) Q := by
  obtain ⟨r1, r2, rfl, e1, e2⟩ := args2 hr
  obtain rfl := nz_ref e1
  obtain rfl := nz_ref e2
  refine' JV.fn (fx := fx) (binds := [(Str.ofString "self", .ref K.c), (Str.ofString "literals", .ref l)]) ?ho ?hcd ?hrem ?hbind ?hloc ?hnd ?h ?hcell ?h1 ?h2 ?h3
  case ho => show List.lookup _ (Mine.heap _) = _; k_is
  case hcd => show codeIn (Mine.heap _) _ _ = _; k_is
  case hrem => first | omega | (dsimp only; omega)
  case hbind => intro s S; first | exact BindsTo.of_eq rfl | exact binds_K (fx.X.keeps S.base) rfl (by show List.lookup _ (Mine.heap _) = _; k_is) rfl rfl rfl
  case hloc => exact locs rfl
  case hnd => exact (by decide : [Str.ofString "self", Str.ofString "literals"].Nodup)
  case hcell => decide
  case h1 => rfl
  case h2 => rfl
  case h3 => rfl
  intro A' L B
  have zl : sizeLine = 2 ^ 24 := rfl
  refine JS.cons (JS.assignL (JV.callN (JV.nameG (by show nsIn (Mine.heap _) _ _ = _; k_is) (⟨by show keepIn (Mine.heap _) _ = _; k_is, JL.cons (JV.nameL rfl (JL.nil ?_))⟩))))
  intro raws hr
  refine clause_of_spec (l := l) (ls := ls) (rm rem) hl h3 hno (by first | exact hr | exact mp hr) fun t c H₁ ht x₁ hc nd lc => ?_
  dsimp only
  have k₁ := hK.keep x₁
  refine JS.cons (JS.ite (JB.cmpOk (JV.nameL rfl (JV.cnone ⟨_, CmpOk.isNotN, ?_⟩))))
  refine iteT (JS.cons (JS.expr (JV.appendE (JV.attr (JV.nameL rfl ⟨K.c, 114, clM K A whole, .ref K.cl, rfl, k₁.io, k_clauses _, rfl, trivial, K.cl, _, rfl, k₁.clauses, JV.nameL rfl ⟨_, k₁.clauses, by rw [List.length_map, hlen, zl]; omega, trivial, ?_⟩⟩)))))
  dsimp only
  have e : S.tups.map Value.ref ++ [Value.ref t] = (S.tups ++ [t]).map .ref := by simp
  rw [e]
  exact JS.nil (JS.nil (h _ _ ⟨c, t, rfl, hc, nd, lc⟩ (k₁.clause hlen ht) ((x₁.wide (by simp)).write (by simp))))
end
end Mine
end

section -- FJ
open PySem PySem.W PySem.Calls PyProof.Rows PySem.SeqAt
set_option Elab.async false
set_option maxRecDepth 100000
set_option linter.unusedVariables false
namespace Mine
theorem primeFJ : (fun (_ : OpenLaw) (_ : Params → Frag) => True) PySem.Challenge.rw_nz0385_01 Mine.heap := by
  k_fill
  trivial

/-- room for k more of each -/
structure Room (S : KSt) (k : Nat) : Prop where
  nodup : S.vars.Nodup
  vars : S.vars.length + k < 2 ^ 20
  opened : S.opened.length + k < 2 ^ 21
  waiting : S.waiting.length + k < 2 ^ 21
  clauses : S.clauses.length + k < 2 ^ 21
  tups : S.tups.length = S.clauses.length

theorem addVar_vars (S : KSt) (g : Int) : ∃ D, (addVar S g).vars = S.vars ++ D ∧ D.length ≤ 1 ∧ ∀ v ∈ D, v = g := by
  unfold addVar; split
  · exact ⟨[], by simp, by simp, by simp⟩
  · exact ⟨[g], rfl, by simp, by simp⟩
theorem addVar_nodup {S : KSt} {g : Int} (h : S.vars.Nodup) : (addVar S g).vars.Nodup := by
  unfold addVar; split
  · exact h
  · rename_i q
    rw [List.nodup_append]; exact ⟨h, by simp, fun a ha b hb => by simp at hb; rintro rfl; exact q (hb ▸ ha)⟩
theorem foldOpen (l : List Int) : ∀ S : KSt, (l.foldl openS S).opened.length ≤ S.opened.length + l.length ∧ (l.foldl openS S).waiting.length ≤ S.waiting.length + l.length ∧ (l.foldl openS S).vars = S.vars ∧ (l.foldl openS S).clauses = S.clauses ∧ (l.foldl openS S).tups = S.tups := by
  induction l with
  | nil => intro S; simp
  | cons s r ih =>
    intro S
    obtain ⟨a, b, c, d, e⟩ := ih (openS S s)
    obtain ⟨f, g, h⟩ := openS_len S s
    have cc : (openS S s).clauses = S.clauses ∧ (openS S s).tups = S.tups := by unfold openS; split <;> exact ⟨rfl, rfl⟩
    simp only [List.foldl_cons, List.length_cons]
    exact ⟨by omega, by omega, c.trans h, d.trans cc.1, e.trans cc.2⟩
theorem sides_len (whole g : Int) : (sidesOf whole g).length ≤ 2 := by unfold sidesOf; split <;> simp
theorem addVar_rest (S : KSt) (g : Int) : (addVar S g).opened = S.opened ∧ (addVar S g).waiting = S.waiting ∧ (addVar S g).clauses = S.clauses ∧ (addVar S g).tups = S.tups := by
  unfold addVar; split <;> exact ⟨rfl, rfl, rfl, rfl⟩
theorem enterS_vars (whole : Int) (S : KSt) (g : Int) : (enterS whole S g).vars = (addVar S g.natAbs).vars := (foldOpen _ _).2.2.1
theorem enterS_clauses (whole : Int) (S : KSt) (g : Int) : (enterS whole S g).clauses = S.clauses ∧ (enterS whole S g).tups = S.tups :=
  ⟨(foldOpen _ _).2.2.2.1.trans (addVar_rest S g.natAbs).2.2.1, (foldOpen _ _).2.2.2.2.trans (addVar_rest S g.natAbs).2.2.2⟩
theorem Room.enter {S : KSt} {k : Nat} (h : Room S (k + 2)) (whole g : Int) : Room (enterS whole S g) k := by
  obtain ⟨a, b, c, d, e⟩ := foldOpen (sidesOf whole g) (addVar S g.natAbs)
  obtain ⟨r1, r2, r3, r4⟩ := addVar_rest S g.natAbs
  obtain ⟨D, v1, v2, _⟩ := addVar_vars S g.natAbs
  have sl := sides_len whole g
  rw [r1] at a
  rw [r2] at b
  have hv := h.vars
  have ho := h.opened
  have hw := h.waiting
  have hc := h.clauses
  refine ⟨by rw [enterS_vars]; exact addVar_nodup h.nodup, ?_, ?_, ?_, ?_, ?_⟩
  · rw [enterS_vars, v1, List.length_append]; omega
  · show ((sidesOf whole g).foldl openS (addVar S g.natAbs)).opened.length + k < _; omega
  · show ((sidesOf whole g).foldl openS (addVar S g.natAbs)).waiting.length + k < _; omega
  · rw [(enterS_clauses whole S g).1]; omega
  · rw [(enterS_clauses whole S g).1, (enterS_clauses whole S g).2]; exact h.tups
theorem Room.told {S S' : KSt} {k : Nat} {ls : List Int} (h : Room S (k + 1)) (t : Told S S' ls) : Room S' k := by
  obtain ⟨c, t, rfl, _⟩ := t
  have hv := h.vars
  have ho := h.opened
  have hw := h.waiting
  have hc := h.clauses
  exact ⟨h.nodup, by show S.vars.length + k < _; omega, by show S.opened.length + k < _; omega, by show S.waiting.length + k < _; omega, by show (S.clauses ++ [c]).length + k < _; simp; omega, by show (S.tups ++ [t]).length = (S.clauses ++ [c]).length; simp [h.tups]⟩
theorem Room.le {S : KSt} {k l : Nat} (h : Room S k) (x : l ≤ k) : Room S l := ⟨h.nodup, by have := h.vars; omega, by have := h.opened; omega, by have := h.waiting; omega, by have := h.clauses; omega, h.tups⟩
theorem enter_at {whole g : Int} {S : KSt} {n : Nat} {v : Int} (h : S.vars[n]? = some v) : (enterS whole S g).vars[n]? = some v := by
  obtain ⟨D, v1, _⟩ := addVar_vars S g.natAbs
  have hlt := (List.getElem?_eq_some_iff.mp h).1
  rw [enterS_vars, v1, List.getElem?_append_left hlt]; exact h
theorem told_vars {S S' : KSt} {ls : List Int} (t : Told S S' ls) : S'.vars = S.vars := by obtain ⟨c, t, rfl, _⟩ := t; rfl
theorem LitIs.at {vars vars' : List Int} {g x : Int} (h : LitIs vars g x) (k : ∀ (n : Nat) v, vars[n]? = some v → vars'[n]? = some v) : LitIs vars' g x := let ⟨n, a, b⟩ := h; ⟨n, k n _ a, b⟩

/-- what the opening of a side s leaves -/
def OpenRel (C : List Gate) (whole s : Int) (S S' : KSt) : Prop := ∃ n : Nat, S.vars[n]? = some (s.natAbs : Int) ∧
  ((s.natAbs = 1 ∧ Told S S' [(n : Int) + 1]) ∨
   (∃ k, s.natAbs = k + 2 ∧ C[k]? = some .input ∧ S' = S) ∨
   (∃ k a b x y S₂, s.natAbs = k + 2 ∧ C[k]? = some (.and a b) ∧ s > 0 ∧ LitIs (enterS whole S a).vars a x ∧ Told (enterS whole S a) S₂ [-((n : Int) + 1), x] ∧ LitIs (enterS whole S₂ b).vars b y ∧ Told (enterS whole S₂ b) S' [-((n : Int) + 1), y]) ∨
   (∃ k a b x y, s.natAbs = k + 2 ∧ C[k]? = some (.and a b) ∧ s < 0 ∧ LitIs (enterS whole S (-a)).vars (-a) x ∧ LitIs (enterS whole (enterS whole S (-a)) (-b)).vars (-b) y ∧
     Told (enterS whole (enterS whole S (-a)) (-b)) S' [(n : Int) + 1, x, y]))

structure Apart (A : CA) (K : KA) : Prop where
  k1 : A.ka ≠ K.cl
  k2 : A.ka ≠ K.gl
  k3 : A.ka ≠ K.wa
  p1 : A.pa ≠ K.cl
  p2 : A.pa ≠ K.gl
  p3 : A.pa ≠ K.wa

theorem not_KW {H : OH} {K : KA} {A : CA} {whole : Int} {S : KSt} (h : KH H K A whole S) {a : Addr} {ao : AO} (ha : H a = some ao) (h1 : a ≠ K.cl) (h2 : a ≠ K.gl) (h3 : a ≠ K.wa) (h4 : ∀ kvs, ao ≠ .idict kvs) : a ∉ K.W := by
  simp only [List.mem_cons, List.not_mem_nil, or_false, not_or]
  exact ⟨h1, h2, ne_of_kind ha h.numbers (h4 _), ne_of_kind ha h.opened (h4 _), h3⟩
theorem not_KW' {H : OH} {K : KA} {A : CA} {whole : Int} {S : KSt} (h : KH H K A whole S) {a : Addr} {ao : AO} (ha : H a = some ao) (h1 : ∀ vs, ao ≠ .list vs) (h4 : ∀ kvs, ao ≠ .idict kvs) : a ∉ K.W :=
  not_KW h ha (ne_of_kind ha h.clauses (h1 _)) (ne_of_kind ha h.gates (h1 _)) (ne_of_kind ha h.waiting (h1 _)) h4
theorem new_KW {H H₁ : OH} {K : KA} {A : CA} {whole : Int} {S : KSt} (h : KH H K A whole S) {a : Addr} (ha : H a = none) : a ∉ K.W := by
  simp only [List.mem_cons, List.not_mem_nil, or_false, not_or]
  exact ⟨(ne_new h.clauses ha).symm, (ne_new h.gates ha).symm, (ne_new h.numbers ha).symm, (ne_new h.opened ha).symm, (ne_new h.waiting ha).symm⟩
theorem CircH.cls {H H' : OH} {K : KA} {A : CA} {C : List Gate} {whole : Int} {S : KSt} (hC : CircH H A C) (h : KH H K A whole S) (ap : Apart A K) (x : Ext K.W H H') : CircH H' A C := by
  obtain ⟨ts, p1, _⟩ := hC.parts
  obtain ⟨ks, k1, _⟩ := hC.known
  exact hC.ext x (not_KW' h hC.inst (by simp) (by simp)) (not_KW' h hC.dict (by simp) (by simp)) (not_KW h hC.kinds ap.k1 ap.k2 ap.k3 (by simp)) (not_KW h p1 ap.p1 ap.p2 ap.p3 (by simp)) (not_KW' h k1 (by simp) (by simp)) fun t p e => not_KW' h e (by simp) (by simp)

section
variable {fx : FX} {Γ : Amb} {H : OH} {m : Loc} {A : CA} {C : List Gate} {K : KA} {whole : Int} {S : KSt}
set_option maxHeartbeats 4000000

theorem neg_ne {a b : Int} (h : a.natAbs ≠ b.natAbs) : -a ≠ b := fun e => h (by rw [← e, Int.natAbs_neg])
theorem neg_self {a : Int} {n : Nat} (h : a.natAbs = n + 1) : -a ≠ a := by omega
theorem abs_lit {j : Nat} {x : Int} (h : x = (j : Int) + 1 ∨ x = -((j : Int) + 1)) : x.natAbs = j + 1 := by omega
theorem apart {a b : Int} {n j : Nat} (ha : a.natAbs = n + 1) (hb : b.natAbs = j + 1) (h : n ≠ j) : a.natAbs ≠ b.natAbs := fun e => h (Nat.succ.inj (ha.symm.trans (e.trans hb)))
theorem lits2' {n j : Nat} {u x : Int} (hu : u.natAbs = n + 1) (hx : x.natAbs = j + 1) (d : n ≠ j) : ∀ z ∈ [u, x], -z ∉ [u, x] := by
  intro z hz hm
  simp only [List.mem_cons, List.not_mem_nil, or_false] at hz hm
  have d1 := apart hu hx d
  rcases hz with rfl | rfl <;> rcases hm with e | e
  · exact neg_self hu e
  · exact neg_ne d1 e
  · exact neg_ne d1.symm e
  · exact neg_self hx e
theorem lits2 {vars : List Int} {n j : Nat} {u v : Int} {x : Int} (hn : vars[n]? = some u) (hj : vars[j]? = some v) (huv : u ≠ v) (hx : x = (j : Int) + 1 ∨ x = -((j : Int) + 1)) : ∀ z ∈ [-((n : Int) + 1), x], -z ∉ [-((n : Int) + 1), x] :=
  lits2' (abs_lit (.inr rfl)) (abs_lit hx) fun e => huv (by rw [e, hj] at hn; exact (Option.some.inj hn).symm)
theorem lits3 {n j k : Nat} {x y : Int} (d1 : n ≠ j) (d2 : n ≠ k) (d3 : j ≠ k) (ex : x = (j : Int) + 1 ∨ x = -((j : Int) + 1)) (ey : y = (k : Int) + 1 ∨ y = -((k : Int) + 1)) : ∀ z ∈ [(n : Int) + 1, x, y], -z ∉ [(n : Int) + 1, x, y] := by
  intro z hz hm
  have hu : ((n : Int) + 1).natAbs = n + 1 := abs_lit (.inl rfl)
  have hx := abs_lit ex
  have hy := abs_lit ey
  clear ex ey
  generalize (n : Int) + 1 = u at hz hm hu
  simp only [List.mem_cons, List.not_mem_nil, or_false] at hz hm
  have a1 := apart hu hx d1
  have a2 := apart hu hy d2
  have a3 := apart hx hy d3
  rcases hz with rfl | rfl | rfl <;> rcases hm with e | e | e
  · exact neg_self hu e
  · exact neg_ne a1 e
  · exact neg_ne a2 e
  · exact neg_ne a1.symm e
  · exact neg_self hx e
  · exact neg_ne a3 e
  · exact neg_ne a2.symm e
  · exact neg_ne a3.symm e
  · exact neg_self hy e

theorem open_gate_spec {s : Int} {raws : List Value} {Q : Value → OH → Prop} (rem : 9 ≤ Γ.rem) (hK : KH H K A whole S) (hC : CircH H A C) (ap : Apart A K) (room : Room S 8) (hs : LitOK C s) (hzC : C.length < 2 ^ 20) {n : Nat} (hn : S.vars[n]? = some (s.natAbs : Int))
    (hr : raws.map nz = [.ref K.c, I s]) (h : ∀ S' H', OpenRel C whole s S S' → KH H' K A whole S' → Ext K.W H H' → Q .none H') : JV fx Γ H m (call (.ref 90) raws) Q := by
  obtain ⟨r1, r2, rfl, e1, e2⟩ := args2 hr
  obtain rfl := nz_ref e1
  obtain ⟨tk, rfl⟩ := nz_int e2
  refine' JV.fnC (fx := fx) (binds := [(Str.ofString "self", .ref K.c), (Str.ofString "gate", .int s tk)]) ?ho ?hcd ?hrem ?hbind ?hkind ?hloc ?hnc ?hnd ?h ?h1 ?h2 ?h3
  case ho => show List.lookup _ (Mine.heap _) = _; k_is
  case hcd => show codeIn (Mine.heap _) _ _ = _; k_is
  case hrem => first | omega | (dsimp only; omega)
  case hbind => rfl
  case hkind => rfl
  case hloc => exact locC rfl
  case hnc => exact nloc rfl
  case hnd => exact (by decide : [Str.ofString "self", Str.ofString "gate"].Nodup)
  case h1 => rfl
  case h2 => rfl
  case h3 => rfl
  intro A' L B
  have zl : sizeLine = 2 ^ 24 := rfl
  obtain ⟨kv, hkv⟩ : ∃ kv, (kindsOf C)[s.natAbs]? = some kv := ⟨_, List.getElem?_eq_getElem (by rw [kindsOf_len]; have := hs.2; omega)⟩
  refine JS.cons (JS.assign2 Stores.l Stores.l (by decide) (JV.tupE (JL.cons (JV.methN (JV.attr (JV.nameC rfl ⟨K.c, 114, clM K A whole, .ref A.c, rfl, hK.io, k_circuit _, rfl, trivial, A.c, 224, circM A, 146, rfl, hC.io, k_kind _, rfl, JL.cons (JV.callN (JV.nameB (by show nsIn (Mine.heap _) _ _ = _; k_is) (by boot_by_name) (⟨by exact trivial, JL.cons (JV.nameL rfl (JL.nil ?_))⟩)))⟩))))) (by first | exact .inl rfl | exact .inr rfl))
  intro raws hr
  obtain ⟨r1, rfl, e1⟩ := args1 hr
  refine JV.abs e1 (JL.nil ?_)
  intro raws hr
  refine kind_spec (g := s.natAbs) (v := kv) (rm rem) hC (by simpa using hkv) hzC (by first | exact hr | exact mp hr) ?_
  refine JL.cons (JV.itemI (JV.attr (JV.nameC rfl ⟨K.c, 114, clM K A whole, .ref K.nu, rfl, hK.io, k_numbers _, rfl, trivial, JV.callN (JV.nameB (by show nsIn (Mine.heap _) _ _ = _; k_is) (by boot_by_name) (⟨by exact trivial, JL.cons (JV.nameL rfl (JL.nil ?_))⟩))⟩)))
  intro raws hr
  obtain ⟨r1, rfl, e1⟩ := args1 hr
  refine JV.abs e1 ⟨K.nu, _, s.natAbs, _, rfl, rfl, hK.numbers, numFrom_at _ 1 _ room.nodup n hn, JL.nil ⟨by show 2 ≤ sizeLine; decide, fun t ht => ⟨t, _, _, rfl, upd_self _ _ _, ?_⟩⟩⟩
  have enum : ((1 + n : Nat) : Int) = (n : Int) + 1 := by omega
  rw [enum]
  dsimp only
  have k0 : KH (upd H t (.tup [kv, I ((n : Int) + 1)])) K A whole S := hK.keep (Ext.refl.fresh ht)
  have c0 : CircH (upd H t (.tup [kv, I ((n : Int) + 1)])) A C := hC.keep (Ext.refl.fresh ht)
  have x0 : Ext K.W H (upd H t (.tup [kv, I ((n : Int) + 1)])) := Ext.refl.fresh ht
  generalize upd H t (.tup [kv, I ((n : Int) + 1)]) = H₀ at k0 c0 x0
  have m0 : updL (updL (binding [(Str.ofString "self", Value.ref K.c), (Str.ofString "gate", .int s tk)]) (Str.ofString "kind") kv) (Str.ofString "number") (I ((n : Int) + 1)) (Str.ofString "self") = some (.ref K.c) := rfl
  have m1 : updL (updL (binding [(Str.ofString "self", Value.ref K.c), (Str.ofString "gate", .int s tk)]) (Str.ofString "kind") kv) (Str.ofString "number") (I ((n : Int) + 1)) (Str.ofString "gate") = some (I s) := rfl
  have m2 : updL (updL (binding [(Str.ofString "self", Value.ref K.c), (Str.ofString "gate", .int s tk)]) (Str.ofString "kind") kv) (Str.ofString "number") (I ((n : Int) + 1)) (Str.ofString "kind") = some kv := rfl
  have m3 : updL (updL (binding [(Str.ofString "self", Value.ref K.c), (Str.ofString "gate", .int s tk)]) (Str.ofString "kind") kv) (Str.ofString "number") (I ((n : Int) + 1)) (Str.ofString "number") = some (I ((n : Int) + 1)) := rfl
  generalize updL (updL (binding [(Str.ofString "self", Value.ref K.c), (Str.ofString "gate", .int s tk)]) (Str.ofString "kind") kv) (Str.ofString "number") (I ((n : Int) + 1)) = mm at m0 m1 m2 m3
  -- the kinds
  have kd : (s.natAbs = 1 ∧ kv = str "true") ∨ (∃ k g, s.natAbs = k + 2 ∧ C[k]? = some g ∧ kv = g.kind) := by
    have h1 := hs.1
    by_cases q : s.natAbs = 1
    · left
      rw [q] at hkv
      exact ⟨q, by simpa [kindsOf] using hkv.symm⟩
    · right
      obtain ⟨k, hk⟩ : ∃ k, s.natAbs = k + 2 := ⟨s.natAbs - 2, by omega⟩
      rw [hk] at hkv
      simp only [kindsOf, List.getElem?_cons_succ, List.getElem?_map] at hkv
      obtain ⟨g, hg, e⟩ := Option.map_eq_some_iff.mp hkv
      exact ⟨k, g, hk, hg, e.symm⟩
  refine JS.cons (JS.ite (JB.cmpOk (JV.nameL m2 (JV.cstr ?_))))
  rcases kd with ⟨hs1, rfl⟩ | ⟨k, g, hk, hg, rfl⟩
  · refine ⟨_, CmpOk.eqS, ?_⟩
    refine iteT (JS.cons (JS.expr (JV.methN (JV.nameC m0 ⟨K.c, 114, clM K A whole, 85, rfl, k0.io, k_tell _, rfl, JL.cons (JV.listE (JL.cons (JV.nameL m3 (JL.nil ⟨by show 1 ≤ sizeLine; decide, fun l hl => JL.nil ?_⟩))))⟩))))
    intro raws hr
    refine tell_spec (l := l) (ls := [(n : Int) + 1]) (rm rem) (k0.keep (Ext.refl.fresh hl)) room.tups (by have := room.clauses; omega) (upd_self _ _ _) (by simp) (by intro z hz; simp at hz ⊢; omega) (by first | exact hr | exact mp hr) fun S' H' a b c => ⟨trivial, ?_⟩
    exact JS.nil (JS.nil (h S' H' ⟨n, hn, .inl ⟨hs1, a⟩⟩ b ((x0.fresh hl).trans c)))
  · cases g with
    | input =>
      refine ⟨_, CmpOk.eqS, iteF (JS.cons (JS.ite (JB.and (JB.cmpOk (JV.nameL m2 (JV.cstr ⟨_, CmpOk.eqS, iteF (iteF ?_)⟩)))))) ⟩
      refine JS.cons (JS.ite (JB.cmpOk (JV.nameL m2 (JV.cstr ⟨_, CmpOk.eqS, iteF ?_⟩))))
      exact JS.nil (JS.nil (JS.nil (JS.nil (h S H₀ ⟨n, hn, .inr (.inl ⟨k, hk, hg, rfl⟩)⟩ k0 x0))))
    | and a b =>
      have hwf := hC.wf k a b hg
      have hpart : (partsOf C)[s.natAbs]? = some [I a, I b] := by
        rw [hk]
        simp only [partsOf, List.getElem?_cons_succ, List.getElem?_map, hg]; rfl
      refine ⟨_, CmpOk.eqS, iteF (JS.cons (JS.ite (JB.and (JB.cmpOk (JV.nameL m2 (JV.cstr ⟨_, CmpOk.eqS, iteT (JB.and1 (JB.cmpOk (JV.nameL m1 (JV.cint ⟨_, CmpOk.gtI, ?_⟩)))) ⟩)))))) ⟩
      split
      · rename_i qs
        have qs' : s > 0 := of_decide_eq_true qs
        refine JS.cons (JS.forE (JV.methN (JV.attr (JV.nameC m0 ⟨K.c, 114, clM K A whole, .ref A.c, rfl, k0.io, k_circuit _, rfl, trivial, A.c, 224, circM A, 153, rfl, c0.io, k_partsM _, rfl, JL.cons (JV.nameL m1 (JL.nil ?_))⟩))))
        intro raws hr
        refine parts_spec (g := s) (rm rem) c0 hzC hpart (by first | exact hr | exact mp hr) fun tp htp => ?_
        refine ⟨tp, rfl, _, [I a, I b], _, fun i H' m' => H' tp = some (.tup [I a, I b]) ∧ m' (Str.ofString "self") = some (.ref K.c) ∧ m' (Str.ofString "number") = some (I ((n : Int) + 1)) ∧ Ext K.W H H' ∧ ∃ S₁, KH H' K A whole S₁ ∧
          ((i = 0 ∧ S₁ = S) ∨ (i = 1 ∧ ∃ x, LitIs (enterS whole S a).vars a x ∧ Told (enterS whole S a) S₁ [-((n : Int) + 1), x]) ∨ (i = 2 ∧ OpenRel C whole s S S₁)),
          Src.tup, ⟨htp, m0, m3, x0, S, k0, .inl ⟨rfl, rfl⟩⟩, fun i H' m' hh => hh.1, ?_, ?_⟩
        · rintro i v H₁ m₁ hv ⟨ht₁, s₁, n₁, x₁, S₁, k₁, hcase⟩ B' rv hrv
          have hi2 : i < 2 := by have := (List.getElem?_eq_some_iff.mp hv).1; simpa using this
          obtain ⟨p, rfl, hpn, room₁, hn₁, fin⟩ : ∃ p, v = I p ∧ ((s.natAbs : Int) ≠ (p.natAbs : Int)) ∧ Room S₁ 5 ∧ S₁.vars[n]? = some (s.natAbs : Int) ∧ (∀ x S', LitIs (enterS whole S₁ p).vars p x → Told (enterS whole S₁ p) S' [-((n : Int) + 1), x] →
              ((i + 1 = 0 ∧ S' = S) ∨ (i + 1 = 1 ∧ ∃ x, LitIs (enterS whole S a).vars a x ∧ Told (enterS whole S a) S' [-((n : Int) + 1), x]) ∨ (i + 1 = 2 ∧ OpenRel C whole s S S'))) := by
            rcases hcase with ⟨rfl, rfl⟩ | ⟨rfl, x, hx, ht⟩ | ⟨rfl, _⟩
            · simp at hv
              exact ⟨a, hv.symm, by have := hwf.1.2; omega, room.le (by omega), hn, fun x S' a1 a2 => .inr (.inl ⟨rfl, x, a1, a2⟩)⟩
            · simp at hv
              refine ⟨b, hv.symm, by have := hwf.2.1.2; omega, (room.enter (k := 6) whole a).told ht, by rw [told_vars ht]; exact enter_at hn, fun y S' a1 a2 => .inr (.inr ⟨rfl, n, hn, .inr (.inr (.inl ⟨k, a, b, x, y, S₁, hk, hg, qs', hx, ht, a1, a2⟩))⟩)⟩
            · omega
          refine JU.nameL ?_
          rw [hrv]
          have c1 : updL m₁ (Str.ofString "part") (I p) (Str.ofString "self") = some (.ref K.c) := updL_k rfl s₁
          have c2 : updL m₁ (Str.ofString "part") (I p) (Str.ofString "number") = some (I ((n : Int) + 1)) := updL_k rfl n₁
          have c3 : updL m₁ (Str.ofString "part") (I p) (Str.ofString "part") = some (I p) := updL_same
          generalize updL m₁ (Str.ofString "part") (I p) = m₂ at c1 c2 c3
          refine JS.cons (JS.expr (JV.methN (JV.nameC c1 ⟨K.c, 114, clM K A whole, 85, rfl, k₁.io, k_tell _, rfl, JL.cons (JV.listE (JL.cons (JV.neg (JV.nameL c2 ⟨_, rfl, JL.cons (JV.methN (JV.nameC c1 ⟨K.c, 114, clM K A whole, 78, rfl, k₁.io, k_enter _, rfl, JL.cons (JV.nameL c3 (JL.nil ?_))⟩))⟩))))⟩)))
          intro raws hr
          refine enter_spec (g := p) (rm rem) k₁ room₁.nodup (by have := room₁.vars; omega) (by have := room₁.opened; omega) (by have := room₁.waiting; omega) (by first | exact hr | exact mp hr) fun x H₂ hx k₂ x₂ => ?_
          refine JL.nil ⟨by show 2 ≤ sizeLine; decide, fun l hl => JL.nil ?_⟩
          intro raws hr
          have room₂ := room₁.enter (k := 3) whole p
          obtain ⟨j, hj, ex⟩ := id hx
          refine tell_spec (l := l) (ls := [-((n : Int) + 1), x]) (rm rem) (k₂.keep (Ext.refl.fresh hl)) room₂.tups (by have := room₂.clauses; omega) (upd_self _ _ _) (by simp) (lits2 (enter_at hn₁) hj hpn (by rw [ex]; split <;> simp)) (by first | exact hr | exact mp hr) fun S' H' a1 b1 c4 => ⟨trivial, ?_⟩
          have xx : Ext K.W H₁ H' := (x₂.fresh hl).trans c4
          exact JS.nil ⟨xx _ _ ht₁ (not_KW' k₁ ht₁ (by simp) (by simp)), c1, c2, x₁.trans xx, S', b1, fin x S' hx a1⟩
        · rintro H₁ m₁ ⟨ht₁, s₁, n₁, x₁, S₁, k₁, hcase⟩
          rcases hcase with ⟨e, _⟩ | ⟨e, _⟩ | ⟨_, ho⟩
          · simp at e
          · simp at e
          · exact JS.nil (JS.nil (JS.nil (h S₁ H₁ ho k₁ x₁)))
      · rename_i qs
        have qs' : s < 0 := by have := hs.1; have : ¬ s > 0 := fun x => qs (decide_eq_true x); omega
        refine JS.cons (JS.ite (JB.cmpOk (JV.nameL m2 (JV.cstr ⟨_, CmpOk.eqS, iteT ?_⟩))))
        refine JS.cons (JS.expr (JV.methN (JV.nameC m0 ⟨K.c, 114, clM K A whole, 85, rfl, k0.io, k_tell _, rfl, JL.cons (JV.addL (JV.listE (JL.cons (JV.nameL m3 (JL.nil ⟨by show 1 ≤ sizeLine; decide, fun l0 hl0 => ?_⟩)))))⟩)))
        have k1 : KH (upd H₀ l0 (.list [I ((n : Int) + 1)])) K A whole S := k0.keep (Ext.refl.fresh hl0)
        have c1 : CircH (upd H₀ l0 (.list [I ((n : Int) + 1)])) A C := c0.keep (Ext.refl.fresh hl0)
        have x1 : Ext K.W H (upd H₀ l0 (.list [I ((n : Int) + 1)])) := x0.fresh hl0
        have hl1 : (upd H₀ l0 (.list [I ((n : Int) + 1)])) l0 = some (.list [I ((n : Int) + 1)]) := upd_self _ _ _
        have nl0 : l0 ∉ K.W := new_KW (H₁ := H₀) k0 hl0
        generalize upd H₀ l0 (.list [I ((n : Int) + 1)]) = H₁ at k1 c1 x1 hl1
        refine JV.comp [Str.ofString "self"] (JV.methN (JV.attr (JV.nameC m0 ⟨K.c, 114, clM K A whole, .ref A.c, rfl, k1.io, k_circuit _, rfl, trivial, A.c, 224, circM A, 153, rfl, c1.io, k_partsM _, rfl, JL.cons (JV.neg (JV.nameL m1 ⟨s, rfl, JL.nil ?_⟩))⟩)))
        intro raws hr
        refine parts_spec (g := -s) (rm rem) c1 hzC (by rw [Int.natAbs_neg]; exact hpart) (by first | exact hr | exact mp hr) fun tp htp => ?_
        refine ⟨tp, rfl, _, [I a, I b], _, fun i H' acc => H' tp = some (.tup [I a, I b]) ∧ Ext K.W H₁ H' ∧ ∃ S₁, KH H' K A whole S₁ ∧
          ((i = 0 ∧ S₁ = S ∧ acc = []) ∨ (i = 1 ∧ ∃ x, LitIs (enterS whole S (-a)).vars (-a) x ∧ S₁ = enterS whole S (-a) ∧ acc = [I x]) ∨
           (i = 2 ∧ ∃ x y, LitIs (enterS whole S (-a)).vars (-a) x ∧ LitIs (enterS whole (enterS whole S (-a)) (-b)).vars (-b) y ∧ S₁ = enterS whole (enterS whole S (-a)) (-b) ∧ acc = [I x, I y])),
          Src.tup, (by show 2 ≤ sizeLine; decide), ⟨htp, Ext.refl, S, k1, .inl ⟨rfl, rfl, rfl⟩⟩, fun i H' acc hh => hh.1, ?_, ?_⟩
        · rintro i v H₂ acc hv ⟨ht₂, x₂, S₁, k₂, hcase⟩ Cc Bc rv hrv
          have hi2 : i < 2 := by have := (List.getElem?_eq_some_iff.mp hv).1; simpa using this
          obtain ⟨p, rfl, room₁, fin⟩ : ∃ p, v = I p ∧ Room S₁ 6 ∧ (∀ x, LitIs (enterS whole S₁ (-p)).vars (-p) x →
              ((i + 1 = 0 ∧ enterS whole S₁ (-p) = S ∧ acc ++ [I x] = []) ∨ (i + 1 = 1 ∧ ∃ x', LitIs (enterS whole S (-a)).vars (-a) x' ∧ enterS whole S₁ (-p) = enterS whole S (-a) ∧ acc ++ [I x] = [I x']) ∨
               (i + 1 = 2 ∧ ∃ x' y, LitIs (enterS whole S (-a)).vars (-a) x' ∧ LitIs (enterS whole (enterS whole S (-a)) (-b)).vars (-b) y ∧ enterS whole S₁ (-p) = enterS whole (enterS whole S (-a)) (-b) ∧ acc ++ [I x] = [I x', I y]))) := by
            rcases hcase with ⟨rfl, rfl, rfl⟩ | ⟨rfl, x, hx, rfl, rfl⟩ | ⟨rfl, _⟩
            · simp at hv
              exact ⟨a, hv.symm, room.le (by omega), fun x a1 => .inr (.inl ⟨rfl, x, a1, rfl, rfl⟩)⟩
            · simp at hv
              exact ⟨b, hv.symm, room.enter (k := 6) whole (-a), fun y a1 => .inr (.inr ⟨rfl, x, y, hx, a1, rfl, rfl⟩)⟩
            · omega
          refine JU.nameL ⟨mcap_updL rfl, JB.tests0 (iteT ?_)⟩
          refine JV.methN (JV.nameC (updL_k rfl m0) ⟨K.c, 114, clM K A whole, 78, rfl, k₂.io, k_enter _, rfl, JL.cons (JV.neg (JV.nameL (by rw [updL_same, hrv]) ⟨p, rfl, JL.nil ?_⟩))⟩)
          intro raws hr
          refine enter_spec (g := -p) (rm rem) k₂ room₁.nodup (by have := room₁.vars; omega) (by have := room₁.opened; omega) (by have := room₁.waiting; omega) (by first | exact hr | exact mp hr) fun x H₃ hx k₃ x₃ => ?_
          exact ⟨x₃ _ _ ht₂ (not_KW' k₂ ht₂ (by simp) (by simp)), x₂.trans x₃, _, k₃, fin x hx⟩
        · rintro H₂ acc ⟨ht₂, x₂, S₁, k₂, hcase⟩ D hD
          rcases hcase with ⟨e, _⟩ | ⟨e, _⟩ | ⟨_, x, y, hx, hy, rfl, rfl⟩
          · simp at e
          · simp at e
          · have hl2 : (upd H₂ D (.list [I x, I y])) l0 = some (.list [I ((n : Int) + 1)]) := by
              rw [upd_ne _ _ (ne_new (x₂ _ _ hl1 nl0) hD)]; exact x₂ _ _ hl1 nl0
            refine ⟨l0, D, _, _, rfl, rfl, hl2, upd_self _ _ _, by show 3 ≤ sizeLine; decide, fun c hc => JL.nil ?_⟩
            intro raws hr
            have room₂ : Room (enterS whole (enterS whole S (-a)) (-b)) 4 := (room.enter (k := 6) whole (-a)).enter whole (-b)
            obtain ⟨j1, hj1, ex⟩ := id hx
            obtain ⟨j2, hj2, ey⟩ := id hy
            rw [Int.natAbs_neg] at hj1 hj2
            have q1 : (enterS whole (enterS whole S (-a)) (-b)).vars[n]? = some (s.natAbs : Int) := enter_at (enter_at hn)
            have q2 : (enterS whole (enterS whole S (-a)) (-b)).vars[j1]? = some (a.natAbs : Int) := enter_at hj1
            have d1 : n ≠ j1 := by rintro rfl; rw [q1] at q2; have := Option.some.inj q2; have := hwf.1.2; omega
            have d2 : n ≠ j2 := by rintro rfl; rw [q1] at hj2; have := Option.some.inj hj2; have := hwf.2.1.2; omega
            have d3 : j1 ≠ j2 := by rintro rfl; rw [q2] at hj2; have := Option.some.inj hj2; have := hwf.2.2.1; have := hwf.2.2.2; omega
            have ex' : x = (j1 : Int) + 1 ∨ x = -((j1 : Int) + 1) := by rw [ex]; split <;> simp
            have ey' : y = (j2 : Int) + 1 ∨ y = -((j2 : Int) + 1) := by rw [ey]; split <;> simp
            refine tell_spec (l := c) (ls := [(n : Int) + 1, x, y]) (rm rem) ((k₂.keep (Ext.refl.fresh hD)).keep (Ext.refl.fresh hc)) room₂.tups (by have := room₂.clauses; omega) (upd_self _ _ _) (by simp) (lits3 d1 d2 d3 ex' ey') (by first | exact hr | exact mp hr) fun S' H' a1 b1 c4 => ⟨trivial, ?_⟩
            exact JS.nil (JS.nil (JS.nil (JS.nil (h S' H' ⟨n, hn, .inr (.inr (.inr ⟨k, a, b, x, y, hk, hg, qs', hx, hy, a1⟩))⟩ b1 (((x1.trans x₂).fresh hD).fresh hc |>.trans c4)))))
end
end Mine
end

section -- PA
open PySem PySem.W PySem.Calls PyProof.Rows PySem.SeqAt
set_option Elab.async false
set_option maxRecDepth 100000
set_option linter.unusedVariables false
namespace Mine

theorem pigeon {α : Type} [DecidableEq α] : ∀ (l L : List α), l.Nodup → (∀ x ∈ l, x ∈ L) → l.length ≤ L.length
  | [], _, _, _ => Nat.zero_le _
  | x :: r, L, hn, hs => by
    rw [List.nodup_cons] at hn
    have hx := hs x (.head _)
    have := pigeon r (L.erase x) hn.2 fun y hy => (List.mem_erase_of_ne (by rintro rfl; exact hn.1 hy)).mpr (hs y (.tail _ hy))
    rw [List.length_erase_of_mem hx] at this
    have hl := List.length_pos_of_mem hx
    simp only [List.length_cons]
    omega
theorem pigeonV {l : List Int} {N : Nat} (hn : l.Nodup) (h : ∀ x ∈ l, 1 ≤ x ∧ x ≤ N) : l.length ≤ N := by
  have := pigeon l ((List.range N).map fun (i : Nat) => (i : Int) + 1) hn fun x hx => by
    obtain ⟨a, b⟩ := h x hx
    exact List.mem_map.mpr ⟨(x - 1).toNat, List.mem_range.mpr (by omega), by omega⟩
  simpa using this
theorem pigeonS {l : List Int} {N : Nat} (hn : l.Nodup) (h : ∀ x ∈ l, 1 ≤ x.natAbs ∧ x.natAbs ≤ N) : l.length ≤ 2 * N := by
  have := pigeon l (((List.range N).map fun (i : Nat) => (i : Int) + 1) ++ (List.range N).map fun (i : Nat) => -((i : Int) + 1)) hn fun x hx => by
    obtain ⟨a, b⟩ := h x hx
    rw [List.mem_append]
    by_cases q : x > 0
    · exact .inl (List.mem_map.mpr ⟨x.natAbs - 1, List.mem_range.mpr (by omega), by omega⟩)
    · exact .inr (List.mem_map.mpr ⟨x.natAbs - 1, List.mem_range.mpr (by omega), by omega⟩)
  simp at this
  omega

/-- what a literal of a circuit is worth -/
def gl (T : Nat → Bool) (a : Int) : Bool := T a.natAbs == decide (a > 0)
def ModelOf (C : List Gate) (T : Nat → Bool) : Prop := T 1 = true ∧ ∀ k a b, C[k]? = some (.and a b) → T (k + 2) = (gl T a && gl T b)
/-- a clause's literal is true -/
def clT (T : Nat → Bool) (vars : List Int) (l : Int) : Prop := ∃ (j : Nat) (v : Int), vars[j]? = some v ∧ ((l = (j : Int) + 1 ∧ T v.natAbs = true) ∨ (l = -((j : Int) + 1) ∧ T v.natAbs = false))
theorem LitIs.truth {T : Nat → Bool} {vars : List Int} {g x : Int} (h : LitIs vars g x) (hg : gl T g = true) : clT T vars x := by
  obtain ⟨n, a, b⟩ := h
  refine ⟨n, _, a, ?_⟩
  unfold gl at hg
  rw [Int.natAbs_natCast]
  split at b
  · rename_i q; left; simp [q] at hg; exact ⟨b, hg⟩
  · rename_i q; right; simp [q] at hg; exact ⟨b, hg⟩

def ClOK (C : List Gate) (vars : List Int) (c : List Int) : Prop :=
  c.Nodup ∧ (∀ l ∈ c, ∃ (j : Nat) (v : Int), vars[j]? = some v ∧ (l = (j : Int) + 1 ∨ l = -((j : Int) + 1))) ∧ ∀ T, ModelOf C T → ∃ l ∈ c, clT T vars l

structure SLe (S S' : KSt) : Prop where
  vars : ∃ D, S'.vars = S.vars ++ D
  opened : ∀ s ∈ S.opened, s ∈ S'.opened
  clauses : ∃ D, S'.clauses = S.clauses ++ D
  tups : ∃ D, S'.tups = S.tups ++ D
  bal : S'.opened.length + S.waiting.length = S.opened.length + S'.waiting.length

theorem SLe.refl {S : KSt} : SLe S S := ⟨⟨[], by simp⟩, fun _ h => h, ⟨[], by simp⟩, ⟨[], by simp⟩, rfl⟩
theorem SLe.trans {S S₁ S₂ : KSt} (x : SLe S S₁) (y : SLe S₁ S₂) : SLe S S₂ := by
  obtain ⟨⟨D1, e1⟩, o1, ⟨D2, e2⟩, ⟨D3, e3⟩, b1⟩ := x
  obtain ⟨⟨D4, e4⟩, o2, ⟨D5, e5⟩, ⟨D6, e6⟩, b2⟩ := y
  exact ⟨⟨D1 ++ D4, by rw [e4, e1, List.append_assoc]⟩, fun s h => o2 s (o1 s h), ⟨D2 ++ D5, by rw [e5, e2, List.append_assoc]⟩, ⟨D3 ++ D6, by rw [e6, e3, List.append_assoc]⟩, by omega⟩
theorem SLe.at {S S' : KSt} (x : SLe S S') {n : Nat} {v : Int} (h : S.vars[n]? = some v) : S'.vars[n]? = some v := by
  obtain ⟨D, e⟩ := x.vars
  rw [e, List.getElem?_append_left (List.getElem?_eq_some_iff.mp h).1]; exact h
theorem SLe.lit {S S' : KSt} (x : SLe S S') {g l : Int} (h : LitIs S.vars g l) : LitIs S'.vars g l := h.at fun _ _ => x.at
theorem SLe.cl {S S' : KSt} (x : SLe S S') {c : List Int} (h : c ∈ S.clauses) : c ∈ S'.clauses := by
  obtain ⟨D, e⟩ := x.clauses; rw [e]; exact List.mem_append_left _ h
theorem ClOK.mono {C : List Gate} {vars vars' : List Int} {c : List Int} (h : ClOK C vars c) (k : ∀ (n : Nat) v, vars[n]? = some v → vars'[n]? = some v) : ClOK C vars' c :=
  ⟨h.1, fun l hl => let ⟨j, v, a, b⟩ := h.2.1 l hl; ⟨j, v, k j v a, b⟩, fun T hT => let ⟨l, hl, j, v, a, b⟩ := h.2.2 T hT; ⟨l, hl, j, v, k j v a, b⟩⟩

def DoneSide (C : List Gate) (S : KSt) (s : Int) : Prop :=
  (s.natAbs = 1 → ∃ n : Nat, S.vars[n]? = some 1 ∧ ∃ c ∈ S.clauses, ∀ l, l ∈ c ↔ l = (n : Int) + 1) ∧
  ∀ k a b, s.natAbs = k + 2 → C[k]? = some (.and a b) → ∃ n : Nat, S.vars[n]? = some (s.natAbs : Int) ∧
    (s > 0 → ∀ p, (p = a ∨ p = b) → p ∈ S.opened ∧ ∃ x, LitIs S.vars p x ∧ ∃ c ∈ S.clauses, ∀ l, l ∈ c ↔ (l = -((n : Int) + 1) ∨ l = x)) ∧
    (s < 0 → -a ∈ S.opened ∧ -b ∈ S.opened ∧ ∃ x y, LitIs S.vars (-a) x ∧ LitIs S.vars (-b) y ∧ ∃ c ∈ S.clauses, ∀ l, l ∈ c ↔ (l = (n : Int) + 1 ∨ l = x ∨ l = y))
theorem DoneSide.mono {C : List Gate} {S S' : KSt} {s : Int} (h : DoneSide C S s) (x : SLe S S') : DoneSide C S' s := by
  refine ⟨fun e => ?_, fun k a b e1 e2 => ?_⟩
  · obtain ⟨n, a, c, hc, hl⟩ := h.1 e
    exact ⟨n, x.at a, c, x.cl hc, hl⟩
  · obtain ⟨n, a1, a2, a3⟩ := h.2 k a b e1 e2
    refine ⟨n, x.at a1, fun hs p hp => ?_, fun hs => ?_⟩
    · obtain ⟨b1, y, b2, c, b3, b4⟩ := a2 hs p hp
      exact ⟨x.opened p b1, y, x.lit b2, c, x.cl b3, b4⟩
    · obtain ⟨b1, b2, y, z, b3, b4, c, b5, b6⟩ := a3 hs
      exact ⟨x.opened _ b1, x.opened _ b2, y, z, x.lit b3, x.lit b4, c, x.cl b5, b6⟩

structure CInv (C : List Gate) (S : KSt) (X : Int → Prop) (e : Nat) : Prop where
  vars : ∀ v ∈ S.vars, 1 ≤ v ∧ v ≤ (C.length : Int) + 1
  nodup : S.vars.Nodup
  opn : S.opened.Nodup
  op : ∀ s ∈ S.opened, LitOK C s ∧ (s.natAbs : Int) ∈ S.vars
  wait : ∀ s ∈ S.waiting, s ∈ S.opened
  tups : S.tups.length = S.clauses.length
  count : S.clauses.length + 2 * S.waiting.length + e ≤ 2 * S.opened.length
  sound : ∀ c ∈ S.clauses, ClOK C S.vars c
  done : ∀ s ∈ S.opened, s ∉ S.waiting → ¬ X s → DoneSide C S s

theorem CInv.oplen {C : List Gate} {S : KSt} {X : Int → Prop} {e : Nat} (h : CInv C S X e) : S.opened.length ≤ 2 * (C.length + 1) :=
  pigeonS h.opn fun s hs => (h.op s hs).1
theorem CInv.vlen {C : List Gate} {S : KSt} {X : Int → Prop} {e : Nat} (h : CInv C S X e) : S.vars.length ≤ C.length + 1 :=
  pigeonV h.nodup fun v hv => by have := h.vars v hv; omega
theorem CInv.room {C : List Gate} {S : KSt} {X : Int → Prop} {e : Nat} (h : CInv C S X e) (hz : C.length < 2 ^ 16) : Room S 8 := by
  have a := h.oplen
  have b := h.vlen
  have c := h.count
  exact ⟨h.nodup, by omega, by omega, by omega, by omega, h.tups⟩

def Full (whole : Int) (S : KSt) : Prop := whole > 0 → ∀ s ∈ S.opened, -s ∈ S.opened

theorem openS_iff {S : KSt} {s t : Int} : t ∈ (openS S s).opened ↔ t ∈ S.opened ∨ t = s := by
  unfold openS
  split
  · exact ⟨.inl, fun h => h.elim id fun e => by rw [e]; assumption⟩
  · simp
theorem CInv.openS {C : List Gate} {S : KSt} {X : Int → Prop} {e : Nat} {s : Int} (h : CInv C S X e) (hs : LitOK C s) (hv : (s.natAbs : Int) ∈ S.vars) : CInv C (Mine.openS S s) X e ∧ SLe S (Mine.openS S s) := by
  unfold Mine.openS
  split
  · exact ⟨h, SLe.refl⟩
  · rename_i q
    have le : SLe S { S with opened := S.opened ++ [s], waiting := S.waiting ++ [s] } := ⟨⟨[], by simp⟩, fun t ht => List.mem_append_left _ ht, ⟨[], by simp⟩, ⟨[], by simp⟩, by simp; omega⟩
    refine ⟨⟨h.vars, h.nodup, ?_, fun t ht => ?_, fun t ht => ?_, h.tups, ?_, h.sound, fun t ht hw hx => ?_⟩, le⟩
    · rw [List.nodup_append]; exact ⟨h.opn, by simp, fun a ha b hb => by simp at hb; rintro rfl; exact q (hb ▸ ha)⟩
    · rcases List.mem_append.mp ht with ht | ht
      · exact h.op t ht
      · rw [List.mem_singleton] at ht; subst ht; exact ⟨hs, hv⟩
    · rcases List.mem_append.mp ht with ht | ht
      · exact List.mem_append_left _ (h.wait t ht)
      · exact List.mem_append_right _ ht
    · have := h.count
      simp only [List.length_append, List.length_singleton]; omega
    · dsimp only at ht hw
      rw [List.mem_append, not_or] at hw
      rcases List.mem_append.mp ht with ht | ht
      · exact (h.done t ht hw.1 hx).mono le
      · exact absurd ht hw.2
theorem CInv.addVar {C : List Gate} {S : KSt} {X : Int → Prop} {e : Nat} {g : Int} (h : CInv C S X e) (h1 : 1 ≤ g) (h2 : g ≤ (C.length : Int) + 1) : CInv C (Mine.addVar S g) X e ∧ SLe S (Mine.addVar S g) ∧ g ∈ (Mine.addVar S g).vars := by
  unfold Mine.addVar
  split
  · rename_i q; exact ⟨h, SLe.refl, q⟩
  · rename_i q
    have le : SLe S { S with vars := S.vars ++ [g] } := ⟨⟨[g], rfl⟩, fun _ h => h, ⟨[], by simp⟩, ⟨[], by simp⟩, rfl⟩
    refine ⟨⟨fun v hv => ?_, ?_, h.opn, fun t ht => ⟨(h.op t ht).1, List.mem_append_left _ (h.op t ht).2⟩, h.wait, h.tups, h.count, fun c hc => (h.sound c hc).mono fun _ _ => le.at, fun t ht hw hx => (h.done t ht hw hx).mono le⟩, le, by simp⟩
    · rcases List.mem_append.mp hv with hv | hv
      · exact h.vars v hv
      · rw [List.mem_singleton] at hv; subst hv; exact ⟨h1, h2⟩
    · rw [List.nodup_append]; exact ⟨h.nodup, by simp, fun a ha b hb => by simp at hb; rintro rfl; exact q (hb ▸ ha)⟩
theorem CInv.enter {C : List Gate} {whole : Int} {S : KSt} {X : Int → Prop} {e : Nat} {g : Int} (h : CInv C S X e) (hg : LitOK C g) (hF : Full whole S) :
    CInv C (enterS whole S g) X e ∧ SLe S (enterS whole S g) ∧ g ∈ (enterS whole S g).opened ∧ Full whole (enterS whole S g) ∧ (∀ t ∈ (enterS whole S g).opened, t ∈ S.opened ∨ t ∈ (enterS whole S g).waiting) := by
  have g1 := hg.1
  have g2 := hg.2
  obtain ⟨a1, a2, a3⟩ := h.addVar (g := g.natAbs) (by omega) (by omega)
  obtain ⟨r1, r2, _⟩ := addVar_rest S g.natAbs
  have new : ∀ (S : KSt) (s t : Int), t ∈ (Mine.openS S s).opened → t ∈ S.opened ∨ t ∈ (Mine.openS S s).waiting := fun S s t ht => by
    unfold Mine.openS at ht ⊢
    split at ht
    · exact .inl ht
    · rename_i q
      rcases List.mem_append.mp ht with ht | ht
      · exact .inl ht
      · right; rw [if_neg q]; exact List.mem_append_right _ ht
  have keepw : ∀ (S : KSt) (s t : Int), t ∈ S.waiting → t ∈ (Mine.openS S s).waiting := fun S s t ht => by
    unfold Mine.openS; split
    · exact ht
    · exact List.mem_append_left _ ht
  unfold enterS sidesOf
  split
  · rename_i hw
    simp only [List.foldl_cons, List.foldl_nil]
    obtain ⟨b1, b2⟩ := a1.openS (s := (g.natAbs : Int)) ⟨by omega, by omega⟩ (by rw [Int.natAbs_natCast]; exact a3)
    have hv2 : ((-(g.natAbs : Int)).natAbs : Int) ∈ (Mine.openS (Mine.addVar S g.natAbs) g.natAbs).vars := by
      obtain ⟨D, e⟩ := b2.vars
      rw [e, Int.natAbs_neg, Int.natAbs_natCast]; exact List.mem_append_left _ a3
    obtain ⟨c1, c2⟩ := b1.openS (s := -(g.natAbs : Int)) ⟨by omega, by omega⟩ hv2
    refine ⟨c1, (a2.trans b2).trans c2, ?_, fun _ t ht => ?_, fun t ht => ?_⟩
    · rw [openS_iff, openS_iff]
      omega
    · rw [openS_iff, openS_iff, r1] at ht ⊢
      rcases ht with (ht | rfl) | rfl
      · exact .inl (.inl (hF hw t ht))
      · exact .inr rfl
      · left; right; omega
    · rcases new _ _ t ht with q | q
      · rcases new _ _ t q with q | q
        · rw [r1] at q; exact .inl q
        · exact .inr (keepw _ _ _ q)
      · exact .inr q
  · rename_i hw
    simp only [List.foldl_cons, List.foldl_nil]
    obtain ⟨b1, b2⟩ := a1.openS hg a3
    refine ⟨b1, a2.trans b2, by rw [openS_iff]; exact .inr rfl, fun x => absurd x hw, fun t ht => ?_⟩
    rcases new _ _ t ht with q | q
    · rw [r1] at q; exact .inl q
    · exact .inr q
/-- entered again, nothing moves -/
theorem enter_again {C : List Gate} {whole : Int} {S : KSt} {X : Int → Prop} {e : Nat} {g : Int} (h : CInv C S X e) (hF : Full whole S) (hg : g ∈ S.opened) : enterS whole S g = S := by
  have hv := (h.op g hg).2
  have e1 : Mine.addVar S g.natAbs = S := if_pos hv
  unfold enterS sidesOf
  rw [e1]
  split
  · rename_i hw
    simp only [List.foldl_cons, List.foldl_nil]
    have hn := hF hw g hg
    have h1 : (g.natAbs : Int) ∈ S.opened := by
      by_cases q : g ≥ 0
      · rw [show (g.natAbs : Int) = g by omega]; exact hg
      · rw [show (g.natAbs : Int) = -g by omega]; exact hn
    have h2 : -(g.natAbs : Int) ∈ S.opened := hF hw _ h1
    rw [show Mine.openS S g.natAbs = S from if_pos h1]
    exact if_pos h2
  · simp only [List.foldl_cons, List.foldl_nil]
    exact if_pos hg

theorem CInv.told {C : List Gate} {S S' : KSt} {X : Int → Prop} {e : Nat} {ls : List Int} (h : CInv C S X (e + 1)) (t : Told S S' ls)
    (hl : ∀ l ∈ ls, ∃ (j : Nat) (v : Int), S.vars[j]? = some v ∧ (l = (j : Int) + 1 ∨ l = -((j : Int) + 1))) (hT : ∀ T, ModelOf C T → ∃ l ∈ ls, clT T S.vars l) :
    CInv C S' X e ∧ SLe S S' ∧ ∃ c ∈ S'.clauses, ∀ x, x ∈ c ↔ x ∈ ls := by
  obtain ⟨c, u, rfl, hc, nd, lc⟩ := t
  have le : SLe S { S with clauses := S.clauses ++ [c], tups := S.tups ++ [u] } := ⟨⟨[], by simp⟩, fun _ h => h, ⟨[c], rfl⟩, ⟨[u], rfl⟩, rfl⟩
  refine ⟨⟨h.vars, h.nodup, h.opn, h.op, h.wait, by simp [h.tups], by have := h.count; simp only [List.length_append, List.length_singleton]; omega, fun c' hc' => ?_, fun t ht hw hx => (h.done t ht hw hx).mono le⟩, le, c, by simp, hc⟩
  rcases List.mem_append.mp hc' with q | q
  · exact h.sound c' q
  · rw [List.mem_singleton] at q; subst q
    exact ⟨nd, fun l hl' => hl l ((hc l).mp hl'), fun T hT' => let ⟨l, a, b⟩ := hT T hT'; ⟨l, (hc l).mpr a, b⟩⟩

theorem gl_neg {T : Nat → Bool} {a : Int} (h : a ≠ 0) : gl T (-a) = !gl T a := by
  unfold gl
  rw [Int.natAbs_neg]
  have : decide (-a > 0) = !decide (a > 0) := by
    by_cases q : a > 0
    · simp [q]; omega
    · simp [q]; omega
  rw [this]
  cases T a.natAbs <;> cases decide (a > 0) <;> rfl

theorem CInv.weakX {C : List Gate} {S : KSt} {X Y : Int → Prop} {e : Nat} (h : CInv C S X e) (k : ∀ s ∈ S.opened, X s → Y s ∨ DoneSide C S s) : CInv C S Y e := by
  refine ⟨h.vars, h.nodup, h.opn, h.op, h.wait, h.tups, h.count, h.sound, fun s hs hw hy => ?_⟩
  by_cases hx : X s
  · exact (k s hs hx).resolve_left hy
  · exact h.done s hs hw hx

theorem open_ok {C : List Gate} {whole : Int} {S S' : KSt} {s : Int} (hwf : WF C) (h : CInv C S (· = s) 2) (hF : Full whole S) (hs : s ∈ S.opened) (r : OpenRel C whole s S S') :
    CInv C S' (fun _ => False) 0 ∧ SLe S S' ∧ Full whole S' := by
  obtain ⟨n, hn, hr⟩ := r
  have hsl := (h.op s hs).1
  have h2 : ∀ {S : KSt} {X : Int → Prop} {e : Nat}, CInv C S X (e + 1) → CInv C S X e := fun q => { q with count := by have := q.count; omega }
  rcases hr with ⟨h1, t⟩ | ⟨k, hk, hg, rfl⟩ | ⟨k, a, b, x, y, S₂, hk, hg, hp, hx, t₁, hy, t₂⟩ | ⟨k, a, b, x, y, hk, hg, hp, hx, hy, t⟩
  · rw [h1] at hn
    obtain ⟨c1, c2, c, hc, hc'⟩ := h.told t (by intro l hl; rw [List.mem_singleton] at hl; exact ⟨n, _, hn, .inl hl⟩)
      (fun T hT => ⟨_, by simp, n, _, hn, .inl ⟨rfl, hT.1⟩⟩)
    have hF' : Full whole S' := by obtain ⟨c, u, rfl, _⟩ := t; exact hF
    refine ⟨(h2 c1).weakX fun u hu e => .inr ?_, c2, hF'⟩
    subst e
    refine ⟨fun _ => ⟨n, c2.at hn, c, hc, fun l => by rw [hc']; simp⟩, fun k a b e1 _ => by omega⟩
  · refine ⟨(h2 (h2 h)).weakX fun u hu e => .inr ?_, SLe.refl, hF⟩
    subst e
    refine ⟨fun e => by omega, fun k' a b e1 e2 => ?_⟩
    have : k' = k := by omega
    subst this
    rw [hg] at e2; cases e2
  · have wf := hwf k a b hg
    have la : LitOK C a := ⟨by have := wf.1.1; omega, by have := wf.1.2; have := hsl.2; omega⟩
    have lb : LitOK C b := ⟨by have := wf.2.1.1; omega, by have := wf.2.1.2; have := hsl.2; omega⟩
    obtain ⟨a1, a2, a3, a4, a5⟩ := h.enter la hF
    -- the first clause
    have val : ∀ T, ModelOf C T → T s.natAbs = (gl T a && gl T b) := fun T hT => by rw [hk]; exact hT.2 k a b hg
    have cl : ∀ (S₁ : KSt) (p z : Int), S₁.vars[n]? = some (s.natAbs : Int) → LitIs S₁.vars p z → (∀ T, ModelOf C T → T s.natAbs = true → gl T p = true) →
        (∀ l ∈ [-((n : Int) + 1), z], ∃ (j : Nat) (v : Int), S₁.vars[j]? = some v ∧ (l = (j : Int) + 1 ∨ l = -((j : Int) + 1))) ∧ ∀ T, ModelOf C T → ∃ l ∈ [-((n : Int) + 1), z], clT T S₁.vars l := by
      intro S₁ p z hn₁ hz hv
      obtain ⟨j, hj, ez⟩ := id hz
      refine ⟨fun l hl => ?_, fun T hT => ?_⟩
      · simp only [List.mem_cons, List.not_mem_nil, or_false] at hl
        rcases hl with rfl | rfl
        · exact ⟨n, _, hn₁, .inr rfl⟩
        · exact ⟨j, _, hj, by rw [ez]; split <;> simp⟩
      · cases q : T s.natAbs with
        | false => exact ⟨_, by simp, n, _, hn₁, .inr ⟨rfl, by simpa using q⟩⟩
        | true => exact ⟨z, by simp, hz.truth (hv T hT q)⟩
    obtain ⟨q1, q2⟩ := cl _ a x (a2.at hn) hx fun T hT e => by rw [val T hT, Bool.and_eq_true] at e; exact e.1
    obtain ⟨b1, b2, c₁, b3, b4⟩ := a1.told t₁ q1 q2
    have hF₂ : Full whole S₂ := by obtain ⟨c, u, rfl, _⟩ := t₁; exact a4
    obtain ⟨d1, d2, d3, d4, d5⟩ := b1.enter lb hF₂
    obtain ⟨q3, q4⟩ := cl _ b y (((a2.trans b2).trans d2).at hn) hy fun T hT e => by rw [val T hT, Bool.and_eq_true] at e; exact e.2
    obtain ⟨f1, f2, c₂, f3, f4⟩ := d1.told t₂ q3 q4
    have hF' : Full whole S' := by obtain ⟨c, u, rfl, _⟩ := t₂; exact d4
    have le : SLe S S' := ((a2.trans b2).trans d2).trans f2
    refine ⟨f1.weakX fun u hu e => .inr ?_, le, hF'⟩
    subst e
    refine ⟨fun e => by omega, fun k' a' b' e1 e2 => ?_⟩
    have : k' = k := by omega
    subst this
    rw [hg] at e2
    cases e2
    refine ⟨n, le.at hn, fun _ p hp' => ?_, fun hneg => by omega⟩
    rcases hp' with rfl | rfl
    · exact ⟨f2.opened _ (d2.opened _ (b2.opened _ a3)), x, f2.lit (d2.lit (b2.lit hx)), c₁, f2.cl (d2.cl b3), fun l => by rw [b4]; simp⟩
    · exact ⟨f2.opened _ d3, y, f2.lit hy, c₂, f3, fun l => by rw [f4]; simp⟩
  · have wf := hwf k a b hg
    have la : LitOK C (-a) := ⟨by have := wf.1.1; omega, by have := wf.1.2; have := hsl.2; omega⟩
    have lb : LitOK C (-b) := ⟨by have := wf.2.1.1; omega, by have := wf.2.1.2; have := hsl.2; omega⟩
    obtain ⟨a1, a2, a3, a4, a5⟩ := h.enter la hF
    obtain ⟨d1, d2, d3, d4, d5⟩ := a1.enter lb a4
    have hx' := d2.lit hx
    obtain ⟨j1, hj1, ex⟩ := id hx'
    obtain ⟨j2, hj2, ey⟩ := id hy
    have hn' := (a2.trans d2).at hn
    obtain ⟨f1, f2, c₂, f3, f4⟩ := d1.told t (fun l hl => by
      simp only [List.mem_cons, List.not_mem_nil, or_false] at hl
      rcases hl with rfl | rfl | rfl
      · exact ⟨n, _, hn', .inl rfl⟩
      · exact ⟨j1, _, hj1, by rw [ex]; split <;> simp⟩
      · exact ⟨j2, _, hj2, by rw [ey]; split <;> simp⟩) (fun T hT => by
      have val : T s.natAbs = (gl T a && gl T b) := by rw [hk]; exact hT.2 k a b hg
      cases qa : gl T a with
      | false => exact ⟨x, by simp, hx'.truth (by rw [gl_neg (by have := wf.1.1; omega), qa]; rfl)⟩
      | true =>
        cases qb : gl T b with
        | false => exact ⟨y, by simp, hy.truth (by rw [gl_neg (by have := wf.2.1.1; omega), qb]; rfl)⟩
        | true => exact ⟨_, by simp, n, _, hn', .inl ⟨rfl, by rw [Int.natAbs_natCast, val, qa, qb]; rfl⟩⟩)
    have hF' : Full whole S' := by obtain ⟨c, u, rfl, _⟩ := t; exact d4
    have le : SLe S S' := (a2.trans d2).trans f2
    refine ⟨(h2 f1).weakX fun u hu e => .inr ?_, le, hF'⟩
    subst e
    refine ⟨fun e => by omega, fun k' a' b' e1 e2 => ?_⟩
    have : k' = k := by omega
    subst this
    rw [hg] at e2
    cases e2
    exact ⟨n, le.at hn, fun hpos => by omega, fun _ => ⟨f2.opened _ (d2.opened _ a3), f2.opened _ d3, x, y, f2.lit hx', f2.lit hy, c₂, f3, fun l => by rw [f4]; simp⟩⟩
end Mine
end

section -- FK
open PySem PySem.W PySem.Calls PyProof.Rows PySem.SeqAt
set_option Elab.async false
set_option maxRecDepth 100000
set_option linter.unusedVariables false
namespace Mine
theorem primeFK : (fun (_ : OpenLaw) (_ : Params → Frag) => True) PySem.Challenge.rw_nz0385_01 Mine.heap := by
  k_fill
  trivial

/-- no less stands in S' -/
structure Older (S S' : KSt) : Prop where
  vars : ∃ D, S'.vars = S.vars ++ D
  opened : ∀ s ∈ S.opened, s ∈ S'.opened
  clauses : ∃ D, S'.clauses = S.clauses ++ D
  tups : ∃ D, S'.tups = S.tups ++ D
theorem Older.refl {S : KSt} : Older S S := ⟨⟨[], by simp⟩, fun _ h => h, ⟨[], by simp⟩, ⟨[], by simp⟩⟩
theorem Older.trans {S S₁ S₂ : KSt} (x : Older S S₁) (y : Older S₁ S₂) : Older S S₂ := by
  obtain ⟨⟨D1, e1⟩, o1, ⟨D2, e2⟩, ⟨D3, e3⟩⟩ := x
  obtain ⟨⟨D4, e4⟩, o2, ⟨D5, e5⟩, ⟨D6, e6⟩⟩ := y
  exact ⟨⟨D1 ++ D4, by rw [e4, e1, List.append_assoc]⟩, fun s h => o2 s (o1 s h), ⟨D2 ++ D5, by rw [e5, e2, List.append_assoc]⟩, ⟨D3 ++ D6, by rw [e6, e3, List.append_assoc]⟩⟩
theorem SLe.older {S S' : KSt} (x : SLe S S') : Older S S' := ⟨x.vars, x.opened, x.clauses, x.tups⟩
theorem Older.at {S S' : KSt} (x : Older S S') {n : Nat} {v : Int} (h : S.vars[n]? = some v) : S'.vars[n]? = some v := by
  obtain ⟨D, e⟩ := x.vars
  rw [e, List.getElem?_append_left (List.getElem?_eq_some_iff.mp h).1]; exact h
theorem Older.lit {S S' : KSt} (x : Older S S') {g l : Int} (h : LitIs S.vars g l) : LitIs S'.vars g l := h.at fun _ _ => x.at
abbrev Nope : Int → Prop := fun _ => False
theorem k_open_gate (P : Params) : MethK (heap P) 114 (Str.ofString "open_gate") 90 := ⟨by k_is, by k_is, by k_is, by k_is⟩
theorem k_flush (P : Params) : MethK (heap P) 114 (Str.ofString "flush") 97 := ⟨by k_is, by k_is, by k_is, by k_is⟩

section
variable {fx : FX} {Γ : Amb} {H : OH} {m : Loc} {A : CA} {C : List Gate} {K : KA} {whole : Int} {S : KSt}
set_option maxHeartbeats 4000000

theorem KH.pop (h : KH H K A whole S) {ws : List Int} : KH (upd H K.wa (.list (ws.map I))) K A whole { S with waiting := ws } where
  inst := by rw [upd_ne _ _ (ne_of_kind h.inst h.waiting (by simp))]; exact h.inst
  dict := by rw [upd_ne _ _ (ne_of_kind h.dict h.waiting (by simp))]; exact h.dict
  clauses := by rw [upd_ne _ _ h.n2]; exact h.clauses
  tups := fun i t e => by
    obtain ⟨c, a, b⟩ := h.tups i t e
    exact ⟨c, a, by rw [upd_ne _ _ (ne_of_kind b h.waiting (by simp))]; exact b⟩
  gates := by rw [upd_ne _ _ h.n3]; exact h.gates
  numbers := by rw [upd_ne _ _ (ne_of_kind h.numbers h.waiting (by simp))]; exact h.numbers
  opened := by rw [upd_ne _ _ (ne_of_kind h.opened h.waiting (by simp))]; exact h.opened
  waiting := upd_self _ _ _
  n1 := h.n1
  n2 := h.n2
  n3 := h.n3
  n4 := h.n4

theorem pop_ok {ws : List Int} {s : Int} (h : CInv C S Nope 0) (e : S.waiting = ws ++ [s]) : CInv C { S with waiting := ws } (· = s) 2 ∧ s ∈ S.opened := by
  have hs : s ∈ S.opened := h.wait s (by rw [e]; simp)
  refine ⟨⟨h.vars, h.nodup, h.opn, h.op, fun t ht => h.wait t (by rw [e]; exact List.mem_append_left _ ht), h.tups, ?_, h.sound, fun t ht hw hx => ?_⟩, hs⟩
  · have := h.count
    rw [e] at this
    simp only [List.length_append, List.length_singleton] at this
    show S.clauses.length + 2 * ws.length + 2 ≤ 2 * S.opened.length
    omega
  · exact h.done t ht (by rw [e, List.mem_append, List.mem_singleton, not_or]; exact ⟨hw, hx⟩) (fun x => x)

theorem flush_spec {raws : List Value} {Q : Value → OH → Prop} (rem : 10 ≤ Γ.rem) (hK : KH H K A whole S) (hC : CircH H A C) (ap : Apart A K) (hz : C.length < 2 ^ 16) (hI : CInv C S Nope 0) (hF : Full whole S)
    (hr : raws.map nz = [.ref K.c]) (h : ∀ S' H', CInv C S' Nope 0 → Full whole S' → S'.waiting = [] → Older S S' → (S.waiting = [] → S' = S) → KH H' K A whole S' → Ext K.W H H' → Q .none H') : JV fx Γ H m (call (.ref 97) raws) Q := by
  obtain ⟨r1, rfl, e1⟩ := args1 hr
  obtain rfl := nz_ref e1
  refine' JV.fn (fx := fx) (binds := [(Str.ofString "self", .ref K.c)]) ?ho ?hcd ?hrem ?hbind ?hloc ?hnd ?h ?hcell ?h1 ?h2 ?h3
  case ho => show List.lookup _ (Mine.heap _) = _; k_is
  case hcd => show codeIn (Mine.heap _) _ _ = _; k_is
  case hrem => first | omega | (dsimp only; omega)
  case hbind => intro s S; first | exact BindsTo.of_eq rfl | exact binds_K (fx.X.keeps S.base) rfl (by show List.lookup _ (Mine.heap _) = _; k_is) rfl rfl rfl
  case hloc => exact locs rfl
  case hnd => exact (by decide : [Str.ofString "self"].Nodup)
  case hcell => decide
  case h1 => rfl
  case h2 => rfl
  case h3 => rfl
  intro A' L B
  refine JS.cons (JS.whileE (fun n H' m' => ∃ S₁, KH H' K A whole S₁ ∧ CInv C S₁ Nope 0 ∧ Full whole S₁ ∧ Older S S₁ ∧ 2 * (C.length + 1) + S₁.waiting.length = n + S₁.opened.length ∧ Ext K.W H H' ∧ (S.waiting = [] → S₁ = S) ∧ m' (Str.ofString "self") = some (.ref K.c))
    (2 * (C.length + 1) + S.waiting.length - S.opened.length) ⟨S, hK, hI, hF, Older.refl, ?_, Ext.refl, fun _ => rfl, rfl⟩ ?_)
  · have := hI.oplen
    omega
  · rintro n H₁ m₁ ⟨S₁, k₁, i₁, f₁, l₁, n₁, x₁, y₁, s₁⟩
    refine JB.cmpOk (JV.callN (JV.nameB (by show nsIn (Mine.heap _) _ _ = _; k_is) (by boot_by_name) (⟨by exact trivial, JL.cons (JV.attr (JV.nameL s₁ ⟨K.c, 114, clM K A whole, .ref K.wa, rfl, k₁.io, k_waiting _, rfl, trivial, JL.nil ?_⟩))⟩)))
    intro raws hr
    obtain ⟨r1, rfl, e1⟩ := args1 hr
    obtain rfl := nz_ref e1
    have room := i₁.room hz
    refine JV.lenL k₁.waiting (by rw [List.length_map]; have := room.waiting; omega) (JV.cint ⟨_, CmpOk.gtI, ?_⟩)
    rw [List.length_map]
    split
    · rename_i q
      have q' : 0 < S₁.waiting.length := by have := of_decide_eq_true q; omega
      obtain ⟨ws, s, es⟩ : ∃ ws s, S₁.waiting = ws ++ [s] := by
        rcases List.eq_nil_or_concat S₁.waiting with e | ⟨L, b, e⟩
        · rw [e] at q'; simp at q'
        · exact ⟨L, b, by rw [e, List.concat_eq_append]⟩
      have hw₁ : H₁ K.wa = some (.list (ws.map I ++ [I s])) := by rw [k₁.waiting, es]; simp
      obtain ⟨p₁, p₂⟩ := pop_ok i₁ es
      obtain ⟨o1, o2⟩ := i₁.op s p₂
      obtain ⟨j, hj⟩ := List.mem_iff_getElem?.mp o2
      have hwl := room.waiting
      rw [es] at hwl
      simp only [List.length_append, List.length_singleton] at hwl
      refine JS.cons (JS.expr (JV.methN (JV.nameL s₁ ⟨K.c, 114, clM K A whole, 90, rfl, k₁.io, k_open_gate _, rfl, JL.cons (JV.popE (JV.attr (JV.nameL s₁ ⟨K.c, 114, clM K A whole, .ref K.wa, rfl, k₁.io, k_waiting _, rfl, trivial, K.wa, ws.map I, I s, rfl, hw₁, by rw [List.length_map]; have : sizeLine = 2 ^ 24 := rfl; omega, JL.nil ?_⟩)))⟩)))
      intro raws hr
      have x₂ : Ext K.W H₁ (upd H₁ K.wa (.list (ws.map I))) := Ext.refl.write (by simp)
      have room₂ : Room { S₁ with waiting := ws } 8 := ⟨room.nodup, room.vars, room.opened, by show ws.length + 8 < _; omega, room.clauses, room.tups⟩
      refine open_gate_spec (s := s) (n := j) (rm rem) (k₁.pop (ws := ws)) (hC.cls hK ap (x₁.trans x₂)) ap room₂ o1 (by omega) hj (by first | exact hr | exact mp hr) fun S' H' a b c => ⟨trivial, ?_⟩
      obtain ⟨g1, g2, g3⟩ := open_ok hC.wf p₁ f₁ p₂ a
      refine JS.nil ⟨n - 1, ?_, S', b, g1, g3, ?_, ?_, (x₁.trans x₂).trans c, ?_, s₁⟩
      · have := i₁.oplen
        omega
      · exact l₁.trans ⟨g2.vars, g2.opened, g2.clauses, g2.tups⟩
      · have := g2.bal
        have h1 := g1.oplen
        have h2 := i₁.oplen
        dsimp only at this
        rw [es] at n₁
        simp only [List.length_append, List.length_singleton] at n₁
        omega
      · intro e
        have := y₁ e
        rw [this, e] at es
        simp at es
    · rename_i q
      have q' : S₁.waiting = [] := by
        have : ¬ (0 : Int) < S₁.waiting.length := fun x => q (decide_eq_true x)
        exact List.length_eq_zero_iff.mp (by omega)
      exact JS.nil (h S₁ H₁ i₁ f₁ q' l₁ y₁ k₁ x₁)

theorem literal_of_spec {g : Int} {raws : List Value} {Q : Value → OH → Prop} (rem : 11 ≤ Γ.rem) (hK : KH H K A whole S) (hC : CircH H A C) (ap : Apart A K) (hz : C.length < 2 ^ 16) (hI : CInv C S Nope 0) (hF : Full whole S) (hw : S.waiting = []) (hg : LitOK C g)
    (hr : raws.map nz = [.ref K.c, I g]) (h : ∀ x S' H', CInv C S' Nope 0 → Full whole S' → S'.waiting = [] → Older S S' → (g ∈ S.opened → S' = S) → LitIs S'.vars g x → g ∈ S'.opened → KH H' K A whole S' → Ext K.W H H' → Q (I x) H') : JV fx Γ H m (call (.ref 104) raws) Q := by
  obtain ⟨r1, r2, rfl, e1, e2⟩ := args2 hr
  obtain rfl := nz_ref e1
  refine' JV.fn (fx := fx) (binds := [(Str.ofString "self", .ref K.c), (Str.ofString "gate", r2)]) ?ho ?hcd ?hrem ?hbind ?hloc ?hnd ?h ?hcell ?h1 ?h2 ?h3
  case ho => show List.lookup _ (Mine.heap _) = _; k_is
  case hcd => show codeIn (Mine.heap _) _ _ = _; k_is
  case hrem => first | omega | (dsimp only; omega)
  case hbind => intro s S; first | exact BindsTo.of_eq rfl | exact binds_K (fx.X.keeps S.base) rfl (by show List.lookup _ (Mine.heap _) = _; k_is) rfl rfl rfl
  case hloc => exact locs rfl
  case hnd => exact (by decide : [Str.ofString "self", Str.ofString "gate"].Nodup)
  case hcell => decide
  case h1 => rfl
  case h2 => rfl
  case h3 => rfl
  intro A' L B
  have room := hI.room hz
  refine JS.cons (JS.assignL (JV.methN (JV.nameL rfl ⟨K.c, 114, clM K A whole, 78, rfl, hK.io, k_enter _, rfl, JL.cons (JV.nameL rfl (JL.nil ?_))⟩)))
  intro raws hr
  rw [e2] at hr
  obtain ⟨a1, a2, a3, a4, a5⟩ := hI.enter hg hF
  refine enter_spec (g := g) (rm rem) hK room.nodup (by have := room.vars; omega) (by have := room.opened; omega) (by have := room.waiting; omega) (by first | exact hr | exact mp hr) fun x H₁ hx k₁ x₁ => ?_
  dsimp only
  refine JS.cons (JS.expr (JV.meth0 (JV.nameL rfl ⟨K.c, 114, clM K A whole, 97, rfl, k₁.io, k_flush _, rfl, ?_⟩)))
  refine flush_spec (rm rem) k₁ (hC.cls hK ap x₁) ap hz a1 a4 rfl fun S' H' b1 b2 b3 b4 b5 b6 b7 => ⟨trivial, ?_⟩
  refine JS.cons (JS.ret (JV.nameL rfl ?_))
  refine h x S' H' b1 b2 b3 (a2.older.trans b4) (fun q => ?_) (b4.lit hx) (b4.opened g a3) b6 (x₁.trans b7)
  have e := enter_again hI hF q
  rw [e] at b5
  exact b5 hw
end
end Mine
end

section -- FL
open PySem PySem.W PySem.Calls PyProof.Rows PySem.SeqAt
set_option Elab.async false
set_option maxRecDepth 100000
set_option linter.unusedVariables false
namespace Mine
theorem primeFL : (fun (_ : OpenLaw) (_ : Params → Frag) => True) PySem.Challenge.rw_nz0385_01 Mine.heap := by
  k_fill
  trivial

theorem s_kinds (P : Params) : AttrSet (heap P) 224 (Str.ofString "kinds") := ⟨by k_is, by k_is, by k_is, by k_is⟩
theorem s_parts (P : Params) : AttrSet (heap P) 224 (Str.ofString "parts_now") := ⟨by k_is, by k_is, by k_is, by k_is⟩
theorem s_known (P : Params) : AttrSet (heap P) 224 (Str.ofString "known") := ⟨by k_is, by k_is, by k_is, by k_is⟩
theorem s_circuit (P : Params) : AttrSet (heap P) 114 (Str.ofString "circuit") := ⟨by k_is, by k_is, by k_is, by k_is⟩
theorem s_whole (P : Params) : AttrSet (heap P) 114 (Str.ofString "whole") := ⟨by k_is, by k_is, by k_is, by k_is⟩
theorem s_clauses (P : Params) : AttrSet (heap P) 114 (Str.ofString "clauses") := ⟨by k_is, by k_is, by k_is, by k_is⟩
theorem s_gates (P : Params) : AttrSet (heap P) 114 (Str.ofString "gates") := ⟨by k_is, by k_is, by k_is, by k_is⟩
theorem s_numbers (P : Params) : AttrSet (heap P) 114 (Str.ofString "numbers") := ⟨by k_is, by k_is, by k_is, by k_is⟩
theorem s_opened (P : Params) : AttrSet (heap P) 114 (Str.ofString "opened") := ⟨by k_is, by k_is, by k_is, by k_is⟩
theorem s_waiting (P : Params) : AttrSet (heap P) 114 (Str.ofString "waiting") := ⟨by k_is, by k_is, by k_is, by k_is⟩
theorem k_size (P : Params) : MethK (heap P) 224 (Str.ofString "size") 139 := ⟨by k_is, by k_is, by k_is, by k_is⟩

section
variable {fx : FX} {Γ : Amb} {H : OH} {m : Loc} {A : CA} {C : List Gate} {K : KA} {whole : Int} {S : KSt}
set_option maxHeartbeats 4000000

structure Own (H : OH) (x C d : Addr) (fm : Loc) (n : Nat) : Prop where
  i : H x = some (.inst C d)
  d : H d = some (.ns fm n)
theorem Own.keep {H H₁ : OH} {x C d : Addr} {fm : Loc} {n : Nat} (o : Own H x C d fm n) (e : Ext [] H H₁) : Own H₁ x C d fm n := ⟨e _ _ o.i (by simp), e _ _ o.d (by simp)⟩
theorem Own.ne {H : OH} {x C d : Addr} {fm : Loc} {n : Nat} (o : Own H x C d fm n) : x ≠ d := ne_of_kind o.i o.d (by simp)
theorem Own.set {H : OH} {x C d : Addr} {fm : Loc} {n : Nat} (o : Own H x C d fm n) (fm' : Loc) (n' : Nat) : Own (upd H d (.ns fm' n')) x C d fm' n' := ⟨by rw [upd_ne _ _ o.ne]; exact o.i, upd_self _ _ _⟩
theorem Own.io {H : OH} {x C d : Addr} {fm : Loc} {n : Nat} (o : Own H x C d fm n) : InstOf H x C fm := ⟨d, n, o.i, o.d⟩

theorem JS.initAttr {x C' d : Addr} {fm : Loc} {n : Nat} {value : Expr} {attr : Str} {p pos' pos : Pos} {Q : Flow → OH → Loc → Prop} (own : Own H x C' d fm n) (hm : m (Str.ofString "self") = some (.ref x)) (hk : AttrSet fx.K C' attr) (hn : n < 900)
    (h : JV fx Γ H m (eval value Γ.env) fun v H₁ => Ext [] H H₁ ∧ Q .next (upd H₁ d (.ns (updL fm attr v) (n + 1))) m)
    (hl : Γ.env.kindOf (Str.ofString "self") = some .local := by rfl) (hc : Γ.env.cells.lookup (Str.ofString "self") = none := by rfl)
    (hs : swapsWith value (some (.Attribute (.Name (Str.ofString "self") p) attr pos')) pos.line Γ.env = pure false := by with_unfolding_all rfl) :
    JS fx Γ H m (exec (.Assign [.Attribute (.Name (Str.ofString "self") p) attr pos'] value pos) Γ.env) Q :=
  JS.assignAttr (h.mono fun v H₁ ⟨e, q⟩ => JV.nameL hm ⟨x, C', d, fm, n, rfl, (own.keep e).i, (own.keep e).d, hk, hn, q⟩ hl hc) hs

theorem fresh_of {H H₁ : OH} {W : List Addr} {a : Addr} (x : Ext W H H₁) (hW : a ∉ W) (h : H₁ a = none) : H a = none := by
  cases q : H a with
  | none => rfl
  | some ao => have := x _ _ q hW; rw [h] at this; cases this

theorem circ_make {Q : Value → OH → Prop} (rem : 3 ≤ Γ.rem) (h : ∀ A H', CircH H' A [] → Ext [] H H' → H A.ka = none → H A.pa = none → Q (.ref A.c) H') : JV fx Γ H m (call (.ref 224) []) Q := by
  refine JV.make (fI := 132) (by show makesIn (Mine.heap _) _ = _; k_is) (by show findIn (Mine.heap _) _ _ = _; k_is) (by show isFn (Mine.heap _) _ = _; k_is) (by omega) fun x d A' hx hd' hxd => ?_
  have o0 : Own (upd (upd H d (.ns (fun _ => none) 0)) x (.inst 224 d)) x 224 d (fun _ => none) 0 := ⟨upd_self _ _ _, by rw [upd_ne _ _ (Ne.symm hxd), upd_self]⟩
  have x0 : Ext [] H (upd (upd H d (.ns (fun _ => none) 0)) x (.inst 224 d)) := (Ext.refl.fresh hd').own hx
  generalize upd (upd H d (.ns (fun _ => none) 0)) x (.inst 224 d) = H₀ at o0 x0
  refine' JC.fn (fx := fx) (binds := [(Str.ofString "self", .ref x)]) ?ho ?hcd ?hrem ?hbind ?hloc ?hnd ?h ?hcell ?h1 ?h2 ?h3
  case ho => show List.lookup _ (Mine.heap _) = _; k_is
  case hcd => show codeIn (Mine.heap _) _ _ = _; k_is
  case hrem => first | omega | (dsimp only; omega)
  case hbind => intro s S; first | exact BindsTo.of_eq rfl | exact binds_K (fx.X.keeps S.base) rfl (by show List.lookup _ (Mine.heap _) = _; k_is) rfl rfl rfl
  case hloc => exact locs rfl
  case hnd => exact (by decide : [Str.ofString "self"].Nodup)
  case hcell => decide
  case h1 => rfl
  case h2 => rfl
  case h3 => rfl
  intro A' L B
  refine JS.cons (JS.initAttr o0 rfl (s_kinds _) (by decide) (JV.listE (JL.cons (JV.cstr (JL.cons (JV.cstr (JL.nil ⟨by show 2 ≤ sizeLine; decide, fun ka hka => ⟨Ext.refl.fresh hka, ?_⟩⟩)))))))
  dsimp only
  have o1 := (o0.keep (Ext.refl.fresh (ao := .list [.str (Str.ofString "") 0, .str (Str.ofString "true") 0]) hka)).set (updL (fun _ => none) (Str.ofString "kinds") (.ref ka)) (0 + 1)
  have q1 : (upd (upd H₀ ka (.list [.str (Str.ofString "") 0, .str (Str.ofString "true") 0])) d (.ns (updL (fun _ => none) (Str.ofString "kinds") (.ref ka)) (0 + 1))) ka = some (.list [.str (Str.ofString "") 0, .str (Str.ofString "true") 0]) := by
    rw [upd_ne _ _ (Ne.symm (ne_new o0.d hka)), upd_self]
  have x1 : Ext [] H (upd (upd H₀ ka (.list [.str (Str.ofString "") 0, .str (Str.ofString "true") 0])) d (.ns (updL (fun _ => none) (Str.ofString "kinds") (.ref ka)) (0 + 1))) := (x0.fresh hka).own hd'
  have f1 := fresh_of x0 (by simp) hka
  generalize upd (upd H₀ ka (.list [.str (Str.ofString "") 0, .str (Str.ofString "true") 0])) d (.ns (updL (fun _ => none) (Str.ofString "kinds") (.ref ka)) (0 + 1)) = H₁ at o1 q1 x1
  refine JS.cons (JS.initAttr o1 rfl (s_parts _) (by decide) (JV.listE (JL.cons (JV.tupE (JL.nil ⟨Nat.zero_le _, fun t₁ ht₁ => JL.cons (JV.tupE (JL.nil ⟨Nat.zero_le _, fun t₂ ht₂ => JL.nil ⟨by show 2 ≤ sizeLine; decide, fun pa hpa => ⟨((Ext.refl.fresh ht₁).fresh ht₂).fresh hpa, ?_⟩⟩⟩))⟩)))))
  dsimp only
  have y2 : Ext [] H₁ (upd (upd (upd H₁ t₁ (.tup [])) t₂ (.tup [])) pa (.list [.ref t₁, .ref t₂])) := ((Ext.refl.fresh ht₁).fresh ht₂).fresh hpa
  have f2 := fresh_of (x1.trans ((Ext.refl.fresh ht₁).fresh ht₂)) (by simp) hpa
  have r0 : (upd (upd (upd H₁ t₁ (.tup [])) t₂ (.tup [])) pa (.list [.ref t₁, .ref t₂])) pa = some (.list [.ref t₁, .ref t₂]) := upd_self _ _ _
  have r1 : (upd (upd (upd H₁ t₁ (.tup [])) t₂ (.tup [])) pa (.list [.ref t₁, .ref t₂])) t₁ = some (.tup []) := ((Ext.refl.fresh ht₂).fresh hpa : Ext [] _ _) _ _ (upd_self _ _ _) (by simp)
  have r2 : (upd (upd (upd H₁ t₁ (.tup [])) t₂ (.tup [])) pa (.list [.ref t₁, .ref t₂])) t₂ = some (.tup []) := (Ext.refl.fresh hpa : Ext [] _ _) _ _ (upd_self _ _ _) (by simp)
  generalize upd (upd (upd H₁ t₁ (.tup [])) t₂ (.tup [])) pa (.list [.ref t₁, .ref t₂]) = H₂ at y2 r0 r1 r2
  have o2 := (o1.keep y2)
  have q2 := y2 _ _ q1 (by simp)
  have x2 := x1.trans y2
  refine JS.cons (JS.initAttr (o2.set _ _) rfl (s_known _) (by decide) (JV.dictT0 fun kn hkn => ⟨Ext.refl.fresh hkn, ?_⟩))
  dsimp only
  refine JS.nil ⟨rfl, ?_⟩
  have y3 : Ext [d] H₂ (upd (upd (upd H₂ d (.ns (updL (updL (fun _ => none) (Str.ofString "kinds") (.ref ka)) (Str.ofString "parts_now") (.ref pa)) (0 + 1 + 1))) kn (.tdict [])) d (.ns (updL (updL (updL (fun _ => none) (Str.ofString "kinds") (.ref ka)) (Str.ofString "parts_now") (.ref pa)) (Str.ofString "known") (.ref kn)) (0 + 1 + 1 + 1))) :=
    ((Ext.refl.write (by simp)).fresh hkn).write (by simp)
  have nk : kn ≠ d := by rintro rfl; rw [upd_self] at hkn; cases hkn
  refine h ⟨x, d, ka, pa, kn⟩ _ ⟨?_, ?_, ?_, ?_, ?_, ?_, ?_⟩ ?_ f1 f2
  · exact y3 _ _ o2.i (by simpa using o2.ne)
  · exact upd_self _ _ _
  · exact y3 _ _ q2 (by simpa using ne_of_kind q2 o2.d (by simp))
  · refine ⟨[t₁, t₂], y3 _ _ r0 (by simpa using ne_of_kind r0 o2.d (by simp)), rfl, fun i t e => ?_⟩
    match i, e with
    | 0, e => simp at e; subst e; exact ⟨[], rfl, y3 _ _ r1 (by simpa using ne_of_kind r1 o2.d (by simp))⟩
    | 1, e => simp at e; subst e; exact ⟨[], rfl, y3 _ _ r2 (by simpa using ne_of_kind r2 o2.d (by simp))⟩
  · exact ⟨[], by show upd _ _ _ kn = _; rw [upd_ne _ _ nk, upd_self], Nat.zero_le _, by simp⟩
  · exact ne_of_kind q2 r0 (by simp)
  · intro i a b e; simp at e
  · intro a ao ha _
    exact y3 _ _ (x2 _ _ ha (by simp)) (by simpa using ne_new ha hd')
end
end Mine
end

section -- FM
open PySem PySem.W PySem.Calls PyProof.Rows PySem.SeqAt
set_option Elab.async false
set_option maxRecDepth 100000
set_option linter.unusedVariables false
namespace Mine
theorem primeFM : (fun (_ : OpenLaw) (_ : Params → Frag) => True) PySem.Challenge.rw_nz0385_01 Mine.heap := by
  k_fill
  trivial

theorem Own.step {H : OH} {x C d a : Addr} {fm : Loc} {n : Nat} {ao : AO} (o : Own H x C d fm n) (ha : H a = none) (fm' : Loc) (n' : Nat) :
    Own (upd (upd H a ao) d (.ns fm' n')) x C d fm' n' ∧ (upd (upd H a ao) d (.ns fm' n')) a = some ao ∧ Ext [d] H (upd (upd H a ao) d (.ns fm' n')) := by
  refine ⟨(o.keep (Ext.refl.fresh ha)).set _ _, ?_, (Ext.refl.fresh ha).write (by simp)⟩
  rw [upd_ne _ _ (by rintro rfl; rw [o.d] at ha; cases ha), upd_self]

/-- the inputs of a circuit, from a gate on -/
def inputsFrom : Nat → List Gate → List Int
  | _, [] => []
  | n, .input :: r => (n : Int) :: inputsFrom (n + 1) r
  | n, .and _ _ :: r => inputsFrom (n + 1) r
theorem inputsFrom_snoc : ∀ (C : List Gate) (n : Nat) (g : Gate), inputsFrom n (C ++ [g]) = inputsFrom n C ++ (match g with | .input => [((n + C.length : Nat) : Int)] | _ => [])
  | [], n, .input => by simp [inputsFrom]
  | [], n, .and a b => by simp [inputsFrom]
  | .input :: r, n, g => by
    rw [List.cons_append, inputsFrom, inputsFrom_snoc r (n + 1) g, inputsFrom, List.cons_append]
    cases g <;> simp; omega
  | .and a b :: r, n, g => by
    rw [List.cons_append, inputsFrom, inputsFrom_snoc r (n + 1) g, inputsFrom]
    cases g <;> simp; omega
theorem inputsFrom_bound : ∀ (C : List Gate) (n : Nat) (v : Int), v ∈ inputsFrom n C → (n : Int) ≤ v ∧ v < (n + C.length : Nat)
  | [], n, v, h => by simp [inputsFrom] at h
  | .input :: r, n, v, h => by
    rw [inputsFrom] at h
    rcases List.mem_cons.mp h with rfl | h
    · simp; omega
    · have := inputsFrom_bound r (n + 1) v h; simp at *; omega
  | .and a b :: r, n, v, h => by
    rw [inputsFrom] at h
    have := inputsFrom_bound r (n + 1) v h; simp at *; omega
theorem inputsFrom_nodup : ∀ (C : List Gate) (n : Nat), (inputsFrom n C).Nodup
  | [], n => by simp [inputsFrom]
  | .input :: r, n => by
    rw [inputsFrom, List.nodup_cons]
    exact ⟨fun h => by have := inputsFrom_bound r (n + 1) _ h; omega, inputsFrom_nodup r (n + 1)⟩
  | .and a b :: r, n => by rw [inputsFrom]; exact inputsFrom_nodup r (n + 1)
theorem inputsFrom_len : ∀ (C : List Gate) (n : Nat), (inputsFrom n C).length ≤ C.length
  | [], n => by simp [inputsFrom]
  | .input :: r, n => by rw [inputsFrom]; have := inputsFrom_len r (n + 1); simp; omega
  | .and a b :: r, n => by rw [inputsFrom]; have := inputsFrom_len r (n + 1); simp; omega
def startS (vars : List Int) : KSt := ⟨vars, [], [], [], []⟩

section
variable {fx : FX} {Γ : Amb} {H : OH} {m : Loc} {A : CA} {C : List Gate} {K : KA} {whole : Int} {S : KSt}
set_option maxHeartbeats 8000000

theorem cls_make {raws : List Value} {Q : Value → OH → Prop} (rem : 4 ≤ Γ.rem) (hC : CircH H A C) (hz : C.length < 2 ^ 16) (hr : raws.map nz = [.ref A.c, I whole])
    (h : ∀ K H', KH H' K A whole (startS (inputsFrom 2 C)) → Ext [] H H' → H K.cl = none → H K.gl = none → H K.wa = none → Q (.ref K.c) H') : JV fx Γ H m (call (.ref 114) raws) Q := by
  obtain ⟨r1, r2, rfl, e1, e2⟩ := args2 hr
  obtain rfl := nz_ref e1
  refine JV.make (fI := 50) (by show makesIn (Mine.heap _) _ = _; k_is) (by show findIn (Mine.heap _) _ _ = _; k_is) (by show isFn (Mine.heap _) _ = _; k_is) (by omega) fun x d A' hx hd' hxd => ?_
  have o0 : Own (upd (upd H d (.ns (fun _ => none) 0)) x (.inst 114 d)) x 114 d (fun _ => none) 0 := ⟨upd_self _ _ _, by rw [upd_ne _ _ (Ne.symm hxd), upd_self]⟩
  have x0 : Ext [] H (upd (upd H d (.ns (fun _ => none) 0)) x (.inst 114 d)) := (Ext.refl.fresh hd').own hx
  generalize upd (upd H d (.ns (fun _ => none) 0)) x (.inst 114 d) = H₀ at o0 x0
  refine' JC.fn (fx := fx) (binds := [(Str.ofString "self", .ref x), (Str.ofString "circuit", .ref A.c), (Str.ofString "whole", r2)]) ?ho ?hcd ?hrem ?hbind ?hloc ?hnd ?h ?hcell ?h1 ?h2 ?h3
  case ho => show List.lookup _ (Mine.heap _) = _; k_is
  case hcd => show codeIn (Mine.heap _) _ _ = _; k_is
  case hrem => first | omega | (dsimp only; omega)
  case hbind => intro s S; first | exact BindsTo.of_eq rfl | exact binds_K (fx.X.keeps S.base) rfl (by show List.lookup _ (Mine.heap _) = _; k_is) rfl rfl rfl
  case hloc => exact locs rfl
  case hnd => exact (by decide : [Str.ofString "self", Str.ofString "circuit", Str.ofString "whole"].Nodup)
  case hcell => decide
  case h1 => rfl
  case h2 => rfl
  case h3 => rfl
  intro A' L B
  have bw : binding [(Str.ofString "self", Value.ref x), (Str.ofString "circuit", .ref A.c), (Str.ofString "whole", r2)] (Str.ofString "whole") = some (I whole) := by rw [← e2]; rfl
  have hnd : ∀ {a ao}, H a = some ao → a ≠ d := fun q => ne_new q hd'
  refine JS.cons (JS.initAttr o0 rfl (s_circuit _) (by decide) (JV.nameL rfl ⟨Ext.refl, ?_⟩))
  dsimp only
  refine JS.cons (JS.initAttr (o0.set _ _) rfl (s_whole _) (by decide) (JV.nameL bw ⟨Ext.refl, ?_⟩))
  dsimp only
  rw [upd_upd]
  have o2 := o0.set (updL (updL (fun _ => none) (Str.ofString "circuit") (nz (.ref A.c))) (Str.ofString "whole") (I whole)) (0 + 1 + 1)
  have x2 : Ext [] H (upd H₀ d (.ns (updL (updL (fun _ => none) (Str.ofString "circuit") (nz (.ref A.c))) (Str.ofString "whole") (I whole)) (0 + 1 + 1))) := x0.own hd'
  generalize upd H₀ d (.ns (updL (updL (fun _ => none) (Str.ofString "circuit") (nz (.ref A.c))) (Str.ofString "whole") (I whole)) (0 + 1 + 1)) = H₂ at o2 x2
  refine JS.cons (JS.initAttr o2 rfl (s_clauses _) (by decide) (JV.listE (JL.nil ⟨Nat.zero_le _, fun cl hcl => ⟨Ext.refl.fresh hcl, ?_⟩⟩)))
  dsimp only
  obtain ⟨o3, p3, y3⟩ := o2.step (ao := .list []) hcl (updL (updL (updL (fun _ => none) (Str.ofString "circuit") (nz (.ref A.c))) (Str.ofString "whole") (I whole)) (Str.ofString "clauses") (.ref cl)) (0 + 1 + 1 + 1)
  have fcl := fresh_of x2 (by simp) hcl
  have x3 : Ext [] H _ := fun a ao q _ => y3 _ _ (x2 _ _ q (by simp)) (by simpa using hnd q)
  generalize upd (upd H₂ cl (.list [])) d (.ns (updL (updL (updL (fun _ => none) (Str.ofString "circuit") (nz (.ref A.c))) (Str.ofString "whole") (I whole)) (Str.ofString "clauses") (.ref cl)) (0 + 1 + 1 + 1)) = H₃ at o3 p3 y3 x3
  refine JS.cons (JS.initAttr o3 rfl (s_gates _) (by decide) (JV.listE (JL.cons (JV.cint (JL.nil ⟨by show 1 ≤ sizeLine; decide, fun ga hga => ⟨Ext.refl.fresh hga, ?_⟩⟩)))))
  dsimp only
  obtain ⟨o4, p4, y4⟩ := o3.step (ao := .list [I 0]) hga (updL (updL (updL (updL (fun _ => none) (Str.ofString "circuit") (nz (.ref A.c))) (Str.ofString "whole") (I whole)) (Str.ofString "clauses") (.ref cl)) (Str.ofString "gates") (.ref ga)) (0 + 1 + 1 + 1 + 1)
  have fga := fresh_of x3 (by simp) hga
  have x4 : Ext [] H _ := fun a ao q _ => y4 _ _ (x3 _ _ q (by simp)) (by simpa using hnd q)
  have n1 : cl ≠ ga := ne_new p3 hga
  have p3' := y4 _ _ p3 (by simpa using ne_of_kind p3 o3.d (by simp))
  generalize upd (upd H₃ ga (.list [I 0])) d (.ns (updL (updL (updL (updL (fun _ => none) (Str.ofString "circuit") (nz (.ref A.c))) (Str.ofString "whole") (I whole)) (Str.ofString "clauses") (.ref cl)) (Str.ofString "gates") (.ref ga)) (0 + 1 + 1 + 1 + 1)) = H₄ at o4 p4 y4 x4 p3'
  refine JS.cons (JS.initAttr o4 rfl (s_numbers _) (by decide) (JV.dictI0 fun nu hnu => ⟨Ext.refl.fresh hnu, ?_⟩))
  dsimp only
  obtain ⟨o5, p5, y5⟩ := o4.step (ao := .idict []) hnu (updL (updL (updL (updL (updL (fun _ => none) (Str.ofString "circuit") (nz (.ref A.c))) (Str.ofString "whole") (I whole)) (Str.ofString "clauses") (.ref cl)) (Str.ofString "gates") (.ref ga)) (Str.ofString "numbers") (.ref nu)) (0 + 1 + 1 + 1 + 1 + 1)
  have fnu := fresh_of x4 (by simp) hnu
  have x5 : Ext [] H _ := fun a ao q _ => y5 _ _ (x4 _ _ q (by simp)) (by simpa using hnd q)
  have p3'' := y5 _ _ p3' (by simpa using ne_of_kind p3' o4.d (by simp))
  have p4' := y5 _ _ p4 (by simpa using ne_of_kind p4 o4.d (by simp))
  generalize upd (upd H₄ nu (.idict [])) d (.ns (updL (updL (updL (updL (updL (fun _ => none) (Str.ofString "circuit") (nz (.ref A.c))) (Str.ofString "whole") (I whole)) (Str.ofString "clauses") (.ref cl)) (Str.ofString "gates") (.ref ga)) (Str.ofString "numbers") (.ref nu)) (0 + 1 + 1 + 1 + 1 + 1)) = H₅ at o5 p5 y5 x5 p3'' p4'
  refine JS.cons (JS.initAttr o5 rfl (s_opened _) (by decide) (JV.dictI0 fun op hop => ⟨Ext.refl.fresh hop, ?_⟩))
  dsimp only
  obtain ⟨o6, p6, y6⟩ := o5.step (ao := .idict []) hop (updL (updL (updL (updL (updL (updL (fun _ => none) (Str.ofString "circuit") (nz (.ref A.c))) (Str.ofString "whole") (I whole)) (Str.ofString "clauses") (.ref cl)) (Str.ofString "gates") (.ref ga)) (Str.ofString "numbers") (.ref nu)) (Str.ofString "opened") (.ref op)) (0 + 1 + 1 + 1 + 1 + 1 + 1)
  have fop := fresh_of x5 (by simp) hop
  have x6 : Ext [] H _ := fun a ao q _ => y6 _ _ (x5 _ _ q (by simp)) (by simpa using hnd q)
  have n4 : nu ≠ op := ne_new p5 hop
  have q3 := y6 _ _ p3'' (by simpa using ne_of_kind p3'' o5.d (by simp))
  have q4 := y6 _ _ p4' (by simpa using ne_of_kind p4' o5.d (by simp))
  have q5 := y6 _ _ p5 (by simpa using ne_of_kind p5 o5.d (by simp))
  generalize upd (upd H₅ op (.idict [])) d (.ns (updL (updL (updL (updL (updL (updL (fun _ => none) (Str.ofString "circuit") (nz (.ref A.c))) (Str.ofString "whole") (I whole)) (Str.ofString "clauses") (.ref cl)) (Str.ofString "gates") (.ref ga)) (Str.ofString "numbers") (.ref nu)) (Str.ofString "opened") (.ref op)) (0 + 1 + 1 + 1 + 1 + 1 + 1)) = H₆ at o6 p6 y6 x6 q3 q4 q5
  refine JS.cons (JS.initAttr o6 rfl (s_waiting _) (by decide) (JV.listE (JL.nil ⟨Nat.zero_le _, fun wa hwa => ⟨Ext.refl.fresh hwa, ?_⟩⟩)))
  dsimp only
  obtain ⟨o7, p7, y7⟩ := o6.step (ao := .list []) hwa (clM ⟨x, d, cl, ga, nu, op, wa⟩ A whole) (0 + 1 + 1 + 1 + 1 + 1 + 1 + 1)
  have fwa := fresh_of x6 (by simp) hwa
  have x7 : Ext [] H _ := fun a ao q _ => y7 _ _ (x6 _ _ q (by simp)) (by simpa using hnd q)
  have n2 : cl ≠ wa := ne_new q3 hwa
  have n3 : ga ≠ wa := ne_new q4 hwa
  have k7 : KH (upd (upd H₆ wa (.list [])) d (.ns (clM ⟨x, d, cl, ga, nu, op, wa⟩ A whole) (0 + 1 + 1 + 1 + 1 + 1 + 1 + 1))) ⟨x, d, cl, ga, nu, op, wa⟩ A whole (startS (inputsFrom 2 (C.take 0))) :=
    ⟨o7.i, o7.d, y7 _ _ q3 (by simpa using ne_of_kind q3 o6.d (by simp)), (fun i t e => by simp [startS] at e), y7 _ _ q4 (by simpa using ne_of_kind q4 o6.d (by simp)), y7 _ _ q5 (by simpa using ne_of_kind q5 o6.d (by simp)), y7 _ _ p6 (by simpa using ne_of_kind p6 o6.d (by simp)), p7, n1, n2, n3, n4⟩
  show JS fx _ (upd (upd H₆ wa (.list [])) d (.ns (clM ⟨x, d, cl, ga, nu, op, wa⟩ A whole) (0 + 1 + 1 + 1 + 1 + 1 + 1 + 1))) _ _ _
  generalize upd (upd H₆ wa (.list [])) d (.ns (clM ⟨x, d, cl, ga, nu, op, wa⟩ A whole) (0 + 1 + 1 + 1 + 1 + 1 + 1 + 1)) = H₇ at o7 p7 y7 x7 k7
  have hC7 := hC.keep x7
  have outW : ∀ a ao, H a = some ao → a ∉ (KA.W ⟨x, d, cl, ga, nu, op, wa⟩) := fun a ao q => by
    simp only [List.mem_cons, List.not_mem_nil, or_false, not_or]
    exact ⟨ne_new q fcl, ne_new q fga, ne_new q fnu, ne_new q fop, ne_new q fwa⟩
  refine JS.cons (JS.forE (JV.callN (JV.nameB (by show nsIn (Mine.heap _) _ _ = _; k_is) (by boot_by_name) (⟨by exact trivial, JL.cons (JV.cint (JL.cons (JV.add (JV.meth0 (JV.nameL rfl ⟨A.c, 224, circM A, 139, rfl, hC7.io, k_size _, rfl, size_spec (by dsimp only; omega) hC7 (by omega) rfl (JV.cint ⟨_, 1, rfl, rfl, JL.nil ?_⟩)⟩)))))⟩))))
  intro raws hr
  obtain ⟨r1, r3, rfl, e1, e3⟩ := args2 hr
  refine JV.range2 e1 e3 fun r t u w hrn => ⟨r, rfl, _, rangeVals 2 C.length, _, fun i H' m' => H' r = some (.raw (rangeObj 2 ((C.length : Int) + 1 + 1) t u w)) ∧ KH H' ⟨x, d, cl, ga, nu, op, wa⟩ A whole (startS (inputsFrom 2 (C.take i))) ∧ Ext [] H H' ∧ m' (Str.ofString "self") = some (.ref x) ∧ m' (Str.ofString "circuit") = some (.ref A.c),
    Src.range (a := 2) (b := (C.length : Int) + 1 + 1) (n := C.length) (t := t) (u := u) (v := w) (by omega) (by decide) (by decide) (by omega) (by omega), ⟨upd_self _ _ _, k7.keep (Ext.refl.fresh hrn), x7.fresh hrn, rfl, rfl⟩, fun i H' m' hh => hh.1, ?_, ?_⟩
  · rintro i v H₁ m₁ hv ⟨hr₁, k₁, x₁, s₁, c₁⟩ B' rv hrv
    have hi : i < C.length := by have := (List.getElem?_eq_some_iff.mp hv).1; simpa [rangeVals] using this
    have hv' : v = I ((i + 2 : Nat) : Int) := by
      have : (rangeVals 2 C.length)[i]? = some (I (2 + (i : Int))) := by simp [rangeVals, hi]
      rw [this] at hv; rw [← Option.some.inj hv]; congr 1; omega
    subst hv'
    have htake : C.take (i + 1) = C.take i ++ [C[i]] := by rw [List.take_add_one, List.getElem?_eq_getElem hi]; rfl
    have hstep : inputsFrom 2 (C.take (i + 1)) = inputsFrom 2 (C.take i) ++ (match C[i] with | .input => [((i + 2 : Nat) : Int)] | _ => []) := by
      rw [htake, inputsFrom_snoc, List.length_take, Nat.min_eq_left (Nat.le_of_lt hi), Nat.add_comm 2 i]
    have hC₁ := hC.keep x₁
    refine JU.nameL ?_
    rw [hrv]
    have d0 : updL m₁ (Str.ofString "gate") (I ((i + 2 : Nat) : Int)) (Str.ofString "self") = some (.ref x) := updL_k rfl s₁
    have d1 : updL m₁ (Str.ofString "gate") (I ((i + 2 : Nat) : Int)) (Str.ofString "circuit") = some (.ref A.c) := updL_k rfl c₁
    have d2 : updL m₁ (Str.ofString "gate") (I ((i + 2 : Nat) : Int)) (Str.ofString "gate") = some (I ((i + 2 : Nat) : Int)) := updL_same
    generalize updL m₁ (Str.ofString "gate") (I ((i + 2 : Nat) : Int)) = m₂ at d0 d1 d2
    have hkind : (kindsOf C)[(((i + 2 : Nat) : Int)).natAbs]? = some (C[i]).kind := by
      rw [Int.natAbs_natCast]; simp [kindsOf, hi]
    refine JS.cons (JS.ite (JB.cmpOk (JV.methN (JV.nameL d1 ⟨A.c, 224, circM A, 146, rfl, hC₁.io, k_kind _, rfl, JL.cons (JV.nameL d2 (JL.nil ?_))⟩))))
    intro raws hr
    refine kind_spec (g := ((i + 2 : Nat) : Int)) (v := (C[i]).kind) (by dsimp only; omega) hC₁ hkind (by omega) (by first | exact hr | exact mp hr) (JV.cstr ?_)
    cases hg : C[i] with
    | input =>
      rw [hg] at hstep
      refine ⟨_, CmpOk.eqS, iteT ?_⟩
      refine JS.cons (JS.expr (JV.methN (JV.nameL d0 ⟨x, 114, clM ⟨x, d, cl, ga, nu, op, wa⟩ A whole, 64, rfl, k₁.io, k_number_of _, rfl, JL.cons (JV.nameL d2 (JL.nil ?_))⟩)))
      intro raws hr
      have hnot : ((i + 2 : Nat) : Int) ∉ (startS (inputsFrom 2 (C.take i))).vars := fun q => by
        have := (inputsFrom_bound _ _ _ q).2
        rw [List.length_take, Nat.min_eq_left (Nat.le_of_lt hi)] at this
        omega
      have hlen := inputsFrom_len (C.take i) 2
      rw [List.length_take, Nat.min_eq_left (Nat.le_of_lt hi)] at hlen
      refine number_of_spec (g := ((i + 2 : Nat) : Int)) (by dsimp only; omega) k₁ (inputsFrom_nodup _ _) (by show (inputsFrom 2 (C.take i)).length < _; omega) (by first | exact hr | exact mp hr) fun n H₂ a1 a2 a3 a4 => ⟨trivial, JS.nil (JS.nil ?_)⟩
      have hadd : addVar (startS (inputsFrom 2 (C.take i))) ((i + 2 : Nat) : Int) = startS (inputsFrom 2 (C.take (i + 1))) := by
        rw [show addVar (startS (inputsFrom 2 (C.take i))) ((i + 2 : Nat) : Int) = { startS (inputsFrom 2 (C.take i)) with vars := (startS (inputsFrom 2 (C.take i))).vars ++ [((i + 2 : Nat) : Int)] } from if_neg hnot, hstep]
        rfl
      rw [hadd] at a3
      exact ⟨a4 _ _ hr₁ (not_KW' k₁ hr₁ (by simp) (by simp)), a3, fun a ao q _ => a4 _ _ (x₁ _ _ q (by simp)) (outW a ao q), d0, d1⟩
    | and a b =>
      rw [hg] at hstep
      refine ⟨_, CmpOk.eqS, iteF (JS.nil (JS.nil ?_))⟩
      have hadd : inputsFrom 2 (C.take (i + 1)) = inputsFrom 2 (C.take i) := by rw [hstep]; simp
      exact ⟨hr₁, by rw [hadd]; exact k₁, x₁, d0, d1⟩
  · rintro H₁ m₁ ⟨hr₁, k₁, x₁, s₁, c₁⟩
    have e : C.take (rangeVals 2 C.length).length = C := by simp [rangeVals]
    rw [e] at k₁
    exact JS.nil ⟨rfl, h _ H₁ k₁ x₁ fcl fga fwa⟩
end
end Mine
end

section -- FN
open PySem PySem.W PySem.Calls PyProof.Rows PySem.SeqAt
set_option Elab.async false
set_option maxRecDepth 100000
set_option linter.unusedVariables false
namespace Mine
theorem primeFN : (fun (_ : OpenLaw) (_ : Params → Frag) => True) PySem.Challenge.rw_nz0385_01 Mine.heap := by
  k_fill
  trivial

/-- a table of truths, from a gate on -/
def tabFrom : Nat → List Bool → List (Int × Value)
  | _, [] => []
  | n, b :: r => ((n : Int), .bool b) :: tabFrom (n + 1) r
theorem tabFrom_keys : ∀ (bs : List Bool) (n : Nat) (k : Int), k ∈ (tabFrom n bs).map (·.1) → (n : Int) ≤ k ∧ k < (n + bs.length : Nat)
  | [], n, k, h => by simp [tabFrom] at h
  | b :: r, n, k, h => by
    rw [tabFrom, List.map_cons] at h
    rcases List.mem_cons.mp h with rfl | h
    · simp; omega
    · have := tabFrom_keys r (n + 1) k h; simp at *; omega
theorem tabFrom_at : ∀ (bs : List Bool) (n i : Nat) (b : Bool), bs[i]? = some b → valueAt (tabFrom n bs) ((n + i : Nat) : Int) = some (.bool b)
  | [], n, i, b, h => by simp at h
  | c :: r, n, i, b, h => by
    unfold valueAt
    rw [tabFrom, List.find?_cons]
    cases i with
    | zero => simp at h; subst h; simp
    | succ i =>
      have ne : ¬ ((n : Int) = ((n + (i + 1) : Nat) : Int)) := by omega
      simp only [ne, decide_false]
      have := tabFrom_at r (n + 1) i b (by simpa using h)
      unfold valueAt at this
      rw [show n + (i + 1) = n + 1 + i by omega]; exact this
theorem tabFrom_snoc : ∀ (bs : List Bool) (n : Nat) (b : Bool), tabFrom n (bs ++ [b]) = tabFrom n bs ++ [(((n + bs.length : Nat) : Int), .bool b)]
  | [], n, b => by simp [tabFrom]
  | c :: r, n, b => by
    rw [List.cons_append, tabFrom, tabFrom_snoc r (n + 1) b, tabFrom, List.cons_append]
    simp; omega
theorem tab_len : ∀ (bs : List Bool) (n : Nat), (tabFrom n bs).length = bs.length
  | [], _ => rfl
  | b :: r, n => by simp [tabFrom, tab_len r (n + 1)]
theorem tab_put (bs : List Bool) (b : Bool) : stored (tabFrom 1 bs) ((bs.length + 1 : Nat) : Int) (.bool b) = tabFrom 1 (bs ++ [b]) := by
  rw [stored_new (fun h => by have := (tabFrom_keys bs 1 _ h).2; omega), tabFrom_snoc, Nat.add_comm 1]

/-- the truths that a table tells -/
def Tof (bs : List Bool) (g : Nat) : Bool := bs.getD (g - 1) false
theorem Tof_snoc {bs : List Bool} {b : Bool} {g : Nat} (h1 : 1 ≤ g) (h : g ≤ bs.length) : Tof (bs ++ [b]) g = Tof bs g := by
  unfold Tof
  simp only [List.getD_eq_getElem?_getD]
  rw [List.getElem?_append_left (by omega)]
theorem Tof_at {bs : List Bool} {g : Nat} (h1 : 1 ≤ g) (h : g ≤ bs.length) : valueAt (tabFrom 1 bs) (g : Int) = some (.bool (Tof bs g)) := by
  have hb : bs[g - 1]? = some (Tof bs g) := by
    unfold Tof
    simp only [List.getD_eq_getElem?_getD]
    rw [List.getElem?_eq_getElem (show g - 1 < bs.length by omega)]; rfl
  have := tabFrom_at bs 1 (g - 1) _ hb
  rw [show 1 + (g - 1) = g by omega] at this
  exact this
theorem gl_congr {T T' : Nat → Bool} {a : Int} (h : T a.natAbs = T' a.natAbs) : gl T a = gl T' a := by unfold gl; rw [h]

theorem gl_ne (T : Nat → Bool) (p : Int) : (T p.natAbs != decide (0 < p)) = !gl T p := by
  unfold gl
  cases T p.natAbs <;> cases h : decide (0 < p) <;> simp_all
theorem isEmpty_parts (T : Nat → Bool) (a b : Int) : (([a, b].filter fun p => !gl T p).map I).isEmpty = (gl T a && gl T b) := by
  simp only [List.filter_cons, List.filter_nil]
  cases gl T a <;> cases gl T b <;> rfl

section
variable {fx : FX} {Γ : Amb} {H : OH} {m : Loc} {A : CA} {C : List Gate} {K : KA} {whole : Int} {S : KSt}
set_option maxHeartbeats 8000000

theorem truths_spec {row : Int} {raws : List Value} {Q : Value → OH → Prop} (rem : 4 ≤ Γ.rem) (hC : CircH H A C) (hz : C.length < 2 ^ 16) (hr : raws.map nz = [.ref A.c, I row])
    (h : ∀ d H' kvs T, Ext [] H H' → H d = none → H' d = some (.idict kvs) → ModelOf C T → (∀ g : Nat, 1 ≤ g → g ≤ C.length + 1 → valueAt kvs (g : Int) = some (.bool (T g))) → Q (.ref d) H') : JV fx Γ H m (call (.ref 252) raws) Q := by
  obtain ⟨r1, r2, rfl, e1, e2⟩ := args2 hr
  obtain rfl := nz_ref e1
  obtain ⟨tk, rfl⟩ := nz_int e2
  refine' JV.fnC (fx := fx) (binds := [(Str.ofString "circuit", .ref A.c), (Str.ofString "row", .int row tk)]) ?ho ?hcd ?hrem ?hbind ?hkind ?hloc ?hnc ?hnd ?h ?h1 ?h2 ?h3
  case ho => show List.lookup _ (Mine.heap _) = _; k_is
  case hcd => show codeIn (Mine.heap _) _ _ = _; k_is
  case hrem => first | omega | (dsimp only; omega)
  case hbind => rfl
  case hkind => rfl
  case hloc => exact locC rfl
  case hnc => exact nloc rfl
  case hnd => exact (by decide : [Str.ofString "circuit", Str.ofString "row"].Nodup)
  case h1 => rfl
  case h2 => rfl
  case h3 => rfl
  intro A' L B
  refine JS.cons (JS.assign2 Stores.c Stores.l (by decide) ?_ (by first | exact .inl rfl | exact .inr rfl))
  refine JV.tupE (JL.cons (JV.dictI1 fun d hd => ?_))
  refine JV.cint (JV.cbool ⟨1, rfl, upd_self _ _ _, ?_⟩)
  refine JL.cons (JV.cint (JL.nil ⟨by show 2 ≤ sizeLine; decide, fun t ht => ⟨t, .ref d, I 0, rfl, upd_self _ _ _, ?_⟩⟩))
  dsimp only
  rw [upd_upd] at ht ⊢
  have d0 : (upd (upd H d (.idict [(1, .bool true)])) t (.tup [.ref d, I 0])) d = some (.idict (tabFrom 1 [true])) := by rw [upd_ne _ _ (by rintro rfl; rw [upd_self] at ht; cases ht), upd_self]; rfl
  have x0 : Ext [] H (upd (upd H d (.idict [(1, .bool true)])) t (.tup [.ref d, I 0])) := (Ext.refl.fresh hd).fresh ht
  generalize upd (upd H d (.idict [(1, .bool true)])) t (.tup [.ref d, I 0]) = H₀ at d0 x0
  have m0 : updL (updL (binding [(Str.ofString "circuit", Value.ref A.c), (Str.ofString "row", .int row tk)]) (Str.ofString "found") (.ref d)) (Str.ofString "here") (I 0) (Str.ofString "circuit") = some (.ref A.c) := rfl
  have m1 : updL (updL (binding [(Str.ofString "circuit", Value.ref A.c), (Str.ofString "row", .int row tk)]) (Str.ofString "found") (.ref d)) (Str.ofString "here") (I 0) (Str.ofString "row") = some (I row) := rfl
  have m2 : updL (updL (binding [(Str.ofString "circuit", Value.ref A.c), (Str.ofString "row", .int row tk)]) (Str.ofString "found") (.ref d)) (Str.ofString "here") (I 0) (Str.ofString "found") = some (.ref d) := rfl
  have m3 : updL (updL (binding [(Str.ofString "circuit", Value.ref A.c), (Str.ofString "row", .int row tk)]) (Str.ofString "found") (.ref d)) (Str.ofString "here") (I 0) (Str.ofString "here") = some (I 0) := rfl
  generalize updL (updL (binding [(Str.ofString "circuit", Value.ref A.c), (Str.ofString "row", .int row tk)]) (Str.ofString "found") (.ref d)) (Str.ofString "here") (I 0) = mm at m0 m1 m2 m3
  have hC0 := hC.keep x0
  refine JS.cons (JS.forE (JV.callN (JV.nameB (by show nsIn (Mine.heap _) _ _ = _; k_is) (by boot_by_name) (⟨by exact trivial, JL.cons (JV.cint (JL.cons (JV.add (JV.meth0 (JV.nameL m0 ⟨A.c, 224, circM A, 139, rfl, hC0.io, k_size _, rfl, size_spec (rm rem) hC0 (by omega) rfl (JV.cint ⟨_, 1, rfl, rfl, JL.nil ?_⟩)⟩)))))⟩))))
  intro raws hr
  obtain ⟨r1, r3, rfl, e1, e3⟩ := args2 hr
  refine JV.range2 e1 e3 fun r t u w hrn => ⟨r, rfl, _, rangeVals 2 C.length, _, fun i H' m' => H' r = some (.raw (rangeObj 2 ((C.length : Int) + 1 + 1) t u w)) ∧ Ext [] H H' ∧ m' (Str.ofString "circuit") = some (.ref A.c) ∧ m' (Str.ofString "row") = some (I row) ∧ m' (Str.ofString "found") = some (.ref d) ∧
      (∃ hh : Int, m' (Str.ofString "here") = some (I hh) ∧ 0 ≤ hh) ∧ ∃ bs : List Bool, bs.length = i ∧ H' d = some (.idict (tabFrom 1 (true :: bs))) ∧ ∀ k a b, k < i → C[k]? = some (.and a b) → Tof (true :: bs) (k + 2) = (gl (Tof (true :: bs)) a && gl (Tof (true :: bs)) b),
    Src.range (a := 2) (b := (C.length : Int) + 1 + 1) (n := C.length) (t := t) (u := u) (v := w) (by omega) (by decide) (by decide) (by omega) (by omega),
    ⟨upd_self _ _ _, x0.fresh hrn, m0, m1, m2, ⟨0, m3, by omega⟩, [], rfl, by rw [upd_ne _ _ (ne_new d0 hrn)]; exact d0, fun k a b hk => by omega⟩, fun i H' m' hh => hh.1, ?_, ?_⟩
  · rintro i v H₁ m₁ hv ⟨hr₁, x₁, c₁, w₁, f₁, ⟨hh, h₁, hh0⟩, bs, bl, d₁, val⟩ B' rv hrv
    have hi : i < C.length := by have := (List.getElem?_eq_some_iff.mp hv).1; simpa [rangeVals] using this
    have hv' : v = I ((i + 2 : Nat) : Int) := by
      have : (rangeVals 2 C.length)[i]? = some (I (2 + (i : Int))) := by simp [rangeVals, hi]
      rw [this] at hv; rw [← Option.some.inj hv]; congr 1; omega
    subst hv'
    have hC₁ := hC.keep x₁
    refine JU.nameL ?_
    rw [hrv]
    have d0' : updL m₁ (Str.ofString "gate") (I ((i + 2 : Nat) : Int)) (Str.ofString "circuit") = some (.ref A.c) := updL_k rfl c₁
    have d1' : updL m₁ (Str.ofString "gate") (I ((i + 2 : Nat) : Int)) (Str.ofString "row") = some (I row) := updL_k rfl w₁
    have d2' : updL m₁ (Str.ofString "gate") (I ((i + 2 : Nat) : Int)) (Str.ofString "found") = some (.ref d) := updL_k rfl f₁
    have d3' : updL m₁ (Str.ofString "gate") (I ((i + 2 : Nat) : Int)) (Str.ofString "here") = some (I hh) := updL_k rfl h₁
    have d4' : updL m₁ (Str.ofString "gate") (I ((i + 2 : Nat) : Int)) (Str.ofString "gate") = some (I ((i + 2 : Nat) : Int)) := updL_same
    generalize updL m₁ (Str.ofString "gate") (I ((i + 2 : Nat) : Int)) = m₂ at d0' d1' d2' d3' d4'
    have hkind : (kindsOf C)[(((i + 2 : Nat) : Int)).natAbs]? = some (C[i]).kind := by
      rw [Int.natAbs_natCast]; simp [kindsOf, hi]
    have zl : sizeLine = 2 ^ 24 := rfl
    -- what a new truth leaves
    have fin : ∀ (b : Bool) (H₂ : OH) (m₃ : Loc), Ext [d] H₁ H₂ → H₂ d = some (.idict (tabFrom 1 (true :: (bs ++ [b])))) → m₃ (Str.ofString "circuit") = some (.ref A.c) → m₃ (Str.ofString "row") = some (I row) → m₃ (Str.ofString "found") = some (.ref d) →
        (∃ hh : Int, m₃ (Str.ofString "here") = some (I hh) ∧ 0 ≤ hh) → (∀ x y, C[i]? = some (.and x y) → b = (gl (Tof (true :: bs)) x && gl (Tof (true :: bs)) y)) →
        (H₂ r = some (.raw (rangeObj 2 ((C.length : Int) + 1 + 1) t u w)) ∧ Ext [] H H₂ ∧ m₃ (Str.ofString "circuit") = some (.ref A.c) ∧ m₃ (Str.ofString "row") = some (I row) ∧ m₃ (Str.ofString "found") = some (.ref d) ∧
        (∃ hh : Int, m₃ (Str.ofString "here") = some (I hh) ∧ 0 ≤ hh) ∧ ∃ bs : List Bool, bs.length = i + 1 ∧ H₂ d = some (.idict (tabFrom 1 (true :: bs))) ∧ ∀ k a b, k < i + 1 → C[k]? = some (.and a b) → Tof (true :: bs) (k + 2) = (gl (Tof (true :: bs)) a && gl (Tof (true :: bs)) b)) := by
      intro b H₂ m₃ x₂ hd₂ q1 q2 q3 q4 q5
      refine ⟨x₂ _ _ hr₁ (by simpa using ne_of_kind hr₁ d₁ (by simp)), fun a ao q _ => x₂ _ _ (x₁ _ _ q (by simp)) (by simpa using ne_new q hd), q1, q2, q3, q4, bs ++ [b], by simp [bl], hd₂, fun k a b' hk hg => ?_⟩
      have wf := hC.wf k a b' hg
      have st : ∀ g : Nat, 1 ≤ g → g ≤ i + 1 → Tof (true :: (bs ++ [b])) g = Tof (true :: bs) g := fun g g1 g2 => by
        rw [← List.cons_append]; exact Tof_snoc g1 (by simp; omega)
      have ga : gl (Tof (true :: (bs ++ [b]))) a = gl (Tof (true :: bs)) a := gl_congr (st _ (by have := wf.1.1; omega) (by have := wf.1.2; omega))
      have gb : gl (Tof (true :: (bs ++ [b]))) b' = gl (Tof (true :: bs)) b' := gl_congr (st _ (by have := wf.2.1.1; omega) (by have := wf.2.1.2; omega))
      rw [ga, gb]
      by_cases hki : k = i
      · subst hki
        rw [← q5 a b' hg]
        unfold Tof
        simp [bl]
      · rw [st (k + 2) (by omega) (by omega)]
        exact val k a b' (by omega) hg
    have put : ∀ b : Bool, stored (tabFrom 1 (true :: bs)) ((i + 2 : Nat) : Int) (.bool b) = tabFrom 1 (true :: (bs ++ [b])) := fun b => by
      have := tab_put (true :: bs) b
      rw [List.length_cons, bl] at this
      exact this
    refine JS.cons (JS.ite (JB.cmpOk (JV.methN (JV.nameL d0' ⟨A.c, 224, circM A, 146, rfl, hC₁.io, k_kind _, rfl, JL.cons (JV.nameL d4' (JL.nil ?_))⟩))))
    intro raws hr
    refine kind_spec (g := ((i + 2 : Nat) : Int)) (v := (C[i]).kind) (rm rem) hC₁ hkind (by omega) (by first | exact hr | exact mp hr) (JV.cstr ?_)
    cases hg : C[i] with
    | input =>
      refine ⟨_, CmpOk.eqS, iteT ?_⟩
      refine JS.cons (JS.putI (JV.cmpOk (JV.band (JV.shr (JV.nameL d1' (JV.nameL d3' ⟨row, hh, rfl, rfl, hh0, JV.cint ⟨_, 1, rfl, rfl, JV.cint ⟨_, CmpOk.eqI, JV.nameC d2' (JV.nameL d4' ⟨d, _, _, rfl, rfl, d₁, by rw [tab_len, zl]; simp; omega, ?_⟩)⟩⟩⟩))))))
      dsimp only
      rw [put]
      refine JS.cons (JS.assignL (JV.add (JV.nameL d3' (JV.cint ⟨hh, 1, rfl, rfl, ?_⟩))))
      dsimp only
      refine JS.nil (JS.nil (fin _ _ _ (Ext.refl.write (by simp)) (upd_self _ _ _) ?_ ?_ ?_ ⟨hh + 1, updL_same, by omega⟩ fun x y e => ?_))
      · exact updL_k rfl d0'
      · exact updL_k rfl d1'
      · exact updL_k rfl d2'
      · rw [List.getElem?_eq_getElem hi, hg] at e; cases e
    | and a b =>
      have hgi : C[i]? = some (.and a b) := by rw [List.getElem?_eq_getElem hi, hg]
      have wf := hC.wf i a b hgi
      have hpart : (partsOf C)[(((i + 2 : Nat) : Int)).natAbs]? = some [I a, I b] := by
        rw [Int.natAbs_natCast]
        simp only [partsOf, List.getElem?_cons_succ, List.getElem?_map, hgi]; rfl
      refine ⟨_, CmpOk.eqS, iteF ?_⟩
      refine JS.cons (JS.putI (JV.cmpOk (JV.comp [Str.ofString "found"] (JV.methN (JV.nameL d0' ⟨A.c, 224, circM A, 153, rfl, hC₁.io, k_partsM _, rfl, JL.cons (JV.nameL d4' (JL.nil ?_))⟩)))))
      intro raws hr
      refine parts_spec (g := ((i + 2 : Nat) : Int)) (rm rem) hC₁ (by omega) hpart (by first | exact hr | exact mp hr) fun tp htp => ?_
      refine ⟨tp, rfl, _, [I a, I b], _, fun j H' acc => H' = H₁ ∧ acc = (([a, b].take j).filter fun p => !gl (Tof (true :: bs)) p).map I, Src.tup, (by show 2 ≤ sizeLine; decide), ⟨rfl, rfl⟩, ?_, ?_, ?_⟩
      · rintro j H' acc ⟨rfl, _⟩; exact htp
      · rintro j v H₂ acc hv ⟨rfl, rfl⟩ Cc Bc rv hrv
        obtain ⟨p, rfl, hp, hpb⟩ : ∃ p, v = I p ∧ [a, b][j]? = some p ∧ 1 ≤ p.natAbs ∧ p.natAbs ≤ i + 1 := by
          have ha := wf.1
          have hb := wf.2.1
          match j, hv with
          | 0, hv => simp at hv; exact ⟨a, hv.symm, rfl, by have := ha.1; omega, by have := ha.2; omega⟩
          | 1, hv => simp at hv; exact ⟨b, hv.symm, rfl, by have := hb.1; omega, by have := hb.2; omega⟩
        have htake : [a, b].take (j + 1) = [a, b].take j ++ [p] := by rw [List.take_add_one, hp]; rfl
        refine JU.nameL ⟨mcap_updL rfl, ?_⟩
        rw [hrv]
        refine JB.tests1 (JB.cmpOk (JV.itemI (JV.nameC (updL_k rfl d2') (JV.callN (JV.nameB (by show nsIn (Mine.heap _) _ _ = _; k_is) (by boot_by_name) (⟨by exact trivial, JL.cons (JV.nameL updL_same (JL.nil ?_))⟩))))))
        intro raws hr
        obtain ⟨r1, rfl, e1⟩ := args1 hr
        refine JV.abs e1 ⟨d, _, p.natAbs, _, rfl, rfl, d₁, Tof_at hpb.1 (by simp; omega), JV.cmpOk (JV.nameL updL_same (JV.cint ⟨_, CmpOk.gtI, _, CmpOk.neB, ?_⟩))⟩
        have eflt : ∀ c, gl (Tof (true :: bs)) p = c → (([a, b].take (j + 1)).filter fun p => !gl (Tof (true :: bs)) p).map I = (([a, b].take j).filter fun p => !gl (Tof (true :: bs)) p).map I ++ (if c then [] else [I p]) := fun c q => by
          rw [htake, List.filter_append, List.map_append]; cases c <;> simp [q]
        rw [gl_ne]
        cases q : gl (Tof (true :: bs)) p with
        | true => exact iteF ⟨rfl, by rw [eflt _ q]; simp⟩
        | false => exact iteT (JV.nameL updL_same ⟨rfl, by rw [eflt _ q]; rfl⟩)
      · rintro H₂ acc ⟨rfl, rfl⟩ D hD
        refine JV.listE (JL.nil ⟨Nat.zero_le _, fun D₂ hD₂ => ⟨_, CmpOk.eqNil (vs := ([a, b].filter fun p => !gl (Tof (true :: bs)) p).map I) ?_ (upd_self _ _ _) (rm rem), ?_⟩⟩)
        · rw [upd_ne _ _ (by rintro rfl; rw [upd_self] at hD₂; cases hD₂), upd_self]; simp
        have d₃ : (upd (upd H₂ D (.list ((([a, b].take [I a, I b].length).filter fun p => !gl (Tof (true :: bs)) p).map I))) D₂ (.list [])) d = some (.idict (tabFrom 1 (true :: bs))) := ((Ext.refl.fresh hD).fresh hD₂ : Ext [] _ _) _ _ d₁ (by simp)
        refine JV.nameC d2' (JV.nameL d4' ⟨d, _, _, rfl, rfl, d₃, by rw [tab_len, zl]; simp; omega, ?_⟩)
        dsimp only
        rw [put]
        refine JS.nil (JS.nil (fin _ _ _ (((Ext.refl.fresh hD).fresh hD₂).write (by simp)) (upd_self _ _ _) d0' d1' d2' ⟨hh, d3', hh0⟩ fun x y e => ?_))
        rw [hgi] at e
        cases e
        exact isEmpty_parts _ _ _
  · rintro H₁ m₁ ⟨hr₁, x₁, c₁, w₁, f₁, _, bs, bl, d₁, val⟩
    have bl' : bs.length = C.length := by rw [bl]; simp [rangeVals]
    refine JS.cons (JS.ret (JV.nameC f₁ ?_))
    refine h d H₁ _ (Tof (true :: bs)) x₁ hd d₁ ⟨rfl, fun k a b hg => val k a b ?_ hg⟩ fun g g1 g2 => Tof_at g1 (by simp; omega)
    have := (List.getElem?_eq_some_iff.mp hg).1
    simp [rangeVals]; omega
end
end Mine
end

section -- FO
open PySem PySem.W PySem.Calls PyProof.Rows PySem.SeqAt
set_option Elab.async false
set_option maxRecDepth 100000
set_option linter.unusedVariables false
namespace Mine
theorem primeFO : (fun (_ : OpenLaw) (_ : Params → Frag) => True) PySem.Challenge.rw_nz0385_01 Mine.heap := by
  k_fill
  trivial

/-- a literal that is not found false -/
def nf (kvs : List (Int × Value)) (l : Int) : Bool := match valueAt kvs (l.natAbs : Int) with
  | some (.bool b) => b != decide (l < 0)
  | _ => true
def Agree (own : Int → Bool) (kvs : List (Int × Value)) : Prop := ∀ k v, valueAt kvs k = some v → v = .bool (own k)
def KeysIn (kvs : List (Int × Value)) (N : Nat) : Prop := (kvs.map (·.1)).Nodup ∧ ∀ k ∈ kvs.map (·.1), 1 ≤ k ∧ k ≤ (N : Int)
def Shut (kvs : List (Int × Value)) (c : List Int) : Prop := ∀ l, c.filter (nf kvs) = [l] → (valueAt kvs (l.natAbs : Int)).isSome = true
def ClIn (own : Int → Bool) (N : Nat) (c : List Int) : Prop := c.length ≤ 2 ^ 20 ∧ (∀ l ∈ c, 1 ≤ l.natAbs ∧ l.natAbs ≤ N) ∧ ∃ l ∈ c, own (l.natAbs : Int) = decide (l > 0)

theorem nf_true {own : Int → Bool} {kvs : List (Int × Value)} {l : Int} (h : Agree own kvs) (h1 : 1 ≤ l.natAbs) (ho : own (l.natAbs : Int) = decide (l > 0)) : nf kvs l = true := by
  unfold nf
  split
  · rename_i b e
    have := h _ _ e
    cases this
    rw [ho]
    by_cases q : l > 0
    · simp [q]; omega
    · simp [q]; omega
  · rfl
theorem nf_false {own : Int → Bool} {kvs : List (Int × Value)} {l : Int} (h : Agree own kvs) (h1 : 1 ≤ l.natAbs) (hs : (valueAt kvs (l.natAbs : Int)).isSome = true) (ho : own (l.natAbs : Int) = !decide (l > 0)) : nf kvs l = false := by
  obtain ⟨v, e⟩ := Option.isSome_iff_exists.mp hs
  have := h _ _ e
  subst this
  unfold nf
  rw [e]
  dsimp only
  rw [ho]
  by_cases q : l > 0
  · simp [q]; omega
  · simp [q]; omega
theorem valueAt_snoc {kvs : List (Int × Value)} {k : Int} (h : k ∉ kvs.map (·.1)) (v : Value) (j : Int) : valueAt (kvs ++ [(k, v)]) j = if j = k then some v else valueAt kvs j := by
  unfold valueAt
  rw [List.find?_append]
  by_cases q : j = k
  · subst q
    have : kvs.find? (fun kv => decide (kv.1 = j)) = none := by
      rw [List.find?_eq_none]
      intro x hx q
      exact h (List.mem_map.mpr ⟨x, hx, by simpa using q⟩)
    rw [this]; simp
  · have : decide (k = j) = false := by simp; exact fun e => q e.symm
    simp [this, q]
theorem Agree.snoc {own : Int → Bool} {kvs : List (Int × Value)} {k : Int} (h : Agree own kvs) (hk : k ∉ kvs.map (·.1)) {b : Bool} (hb : own k = b) : Agree own (kvs ++ [(k, .bool b)]) := fun j v e => by
  rw [valueAt_snoc hk] at e
  split at e
  · rename_i q; subst q; rw [hb]; exact (Option.some.inj e).symm
  · exact h j v e
theorem KeysIn.snoc {kvs : List (Int × Value)} {N : Nat} {k : Int} (h : KeysIn kvs N) (hk : k ∉ kvs.map (·.1)) (h1 : 1 ≤ k) (h2 : k ≤ (N : Int)) (v : Value) : KeysIn (kvs ++ [(k, v)]) N := by
  refine ⟨?_, fun j hj => ?_⟩
  · rw [List.map_append, List.nodup_append]
    exact ⟨h.1, by simp, fun a ha b hb => by simp at hb; rintro rfl; exact hk (hb ▸ ha)⟩
  · rw [List.map_append, List.mem_append] at hj
    rcases hj with hj | hj
    · exact h.2 j hj
    · simp at hj; subst hj; exact ⟨h1, h2⟩
theorem KeysIn.len {kvs : List (Int × Value)} {N : Nat} (h : KeysIn kvs N) : kvs.length ≤ N := by
  rw [← List.length_map (f := (·.1))]; exact pigeonV h.1 h.2

section
variable {fx : FX} {Γ : Amb} {H : OH} {m : Loc} {A : CA} {C : List Gate} {K : KA} {whole : Int} {S : KSt}
set_option maxHeartbeats 8000000

theorem cmp_nf {own : Int → Bool} {kvs : List (Int × Value)} {l : Int} (h : Agree own kvs) : CmpOk fx Γ H m .NotEq ((valueAt kvs (l.natAbs : Int)).getD .none) (.bool (decide (l < 0))) (nf kvs l) := by
  unfold nf
  cases e : valueAt kvs (l.natAbs : Int) with
  | none => exact CmpOk.neNB
  | some v =>
    have := h _ _ e
    subst this
    exact CmpOk.neB

/-- what _law_forced reads -/
structure ForcedIn (H : OH) (cl d : Addr) (tups : List Addr) (clauses : List (List Int)) (kvs : List (Int × Value)) : Prop where
  cl : H cl = some (.list (tups.map .ref))
  tup : ∀ (i : Nat) (t : Addr), tups[i]? = some t → ∃ c, clauses[i]? = some c ∧ H t = some (.tup (c.map I))
  d : H d = some (.idict kvs)
theorem ForcedIn.keep {H H' : OH} {cl d : Addr} {tups : List Addr} {clauses : List (List Int)} {kvs : List (Int × Value)} (h : ForcedIn H cl d tups clauses kvs) (x : Ext [] H H') : ForcedIn H' cl d tups clauses kvs :=
  ⟨x _ _ h.cl (by simp), fun i t e => let ⟨c, a, b⟩ := h.tup i t e; ⟨c, a, x _ _ b (by simp)⟩, x _ _ h.d (by simp)⟩

theorem forced_spec {cl d : Addr} {tups : List Addr} {clauses : List (List Int)} {kvs : List (Int × Value)} {own : Int → Bool} {N : Nat} {raws : List Value} {Q : Value → OH → Prop} (rem : 4 ≤ Γ.rem) (hI : ForcedIn H cl d tups clauses kvs)
    (hlen : tups.length = clauses.length) (hN : N < 2 ^ 20) (hz : tups.length < 2 ^ 22) (hk : KeysIn kvs N) (ha : Agree own kvs) (hcl : ∀ c ∈ clauses, ClIn own N c) (hr : raws.map nz = [.ref cl, .ref d])
    (h : ∀ f H' fs, Ext [] H H' → H f = none → H' f = some (.idict fs) → Agree own fs → (∀ k, (valueAt kvs k).isSome = true → (valueAt fs k).isSome = true) → (∀ c ∈ clauses, Shut fs c) → Q (.ref f) H') : JV fx Γ H m (call (.ref 257) raws) Q := by
  obtain ⟨r1, r2, rfl, e1, e2⟩ := args2 hr
  obtain rfl := nz_ref e1
  obtain rfl := nz_ref e2
  have zl : sizeLine = 2 ^ 24 := rfl
  have hkl := hk.len
  refine' JV.fnC (fx := fx) (binds := [(Str.ofString "clauses", .ref cl), (Str.ofString "known", .ref d)]) ?ho ?hcd ?hrem ?hbind ?hkind ?hloc ?hnc ?hnd ?h ?h1 ?h2 ?h3
  case ho => show List.lookup _ (Mine.heap _) = _; k_is
  case hcd => show codeIn (Mine.heap _) _ _ = _; k_is
  case hrem => first | omega | (dsimp only; omega)
  case hbind => rfl
  case hkind => rfl
  case hloc => exact locC rfl
  case hnc => exact nloc rfl
  case hnd => exact (by decide : [Str.ofString "clauses", Str.ofString "known"].Nodup)
  case h1 => rfl
  case h2 => rfl
  case h3 => rfl
  intro A' L B
  refine JS.cons (JS.assign2 Stores.c Stores.l (by decide) (JV.tupE (JL.cons (JV.callN (JV.nameB (by show nsIn (Mine.heap _) _ _ = _; k_is) (by boot_by_name) (⟨by exact trivial, JL.cons (JV.callN (JV.nameB (by show nsIn (Mine.heap _) _ _ = _; k_is) (by boot_by_name) (⟨by exact trivial, JL.cons (JV.itemsE (JV.nameL rfl ⟨d, kvs, rfl, hI.d, fun v hv => JL.nil ?_⟩))⟩)))⟩))))) (by first | exact .inl rfl | exact .inr rfl))
  intro raws hr
  obtain ⟨r1, rfl, e1⟩ := args1 hr
  obtain rfl := nz_ref e1
  refine JV.listItems (upd_self _ _ _) (by rw [upd_ne _ _ (ne_new hI.d hv)]; exact hI.d) (by rw [zl]; omega) fun H₁ l as x₁ hl hl' hal hat => JL.nil ?_
  intro raws hr
  obtain ⟨r1, rfl, e1⟩ := args1 hr
  obtain rfl := nz_ref e1
  refine JV.dictOf hl' hal (by rw [zl]; omega) hat fun f hf => ?_
  rw [merged_nil_of_nodup kvs hk.1]
  refine JL.cons (JV.cbool (JL.nil ⟨by show 2 ≤ sizeLine; decide, fun t ht => ⟨t, .ref f, .bool true, rfl, upd_self _ _ _, ?_⟩⟩))
  dsimp only
  have x₂ : Ext [] H (upd (upd H₁ f (.idict kvs)) t (.tup [.ref f, .bool true])) := (((Ext.refl.fresh hv).trans (Ext.of_all x₁)).fresh hf).fresh ht
  have f₂ : (upd (upd H₁ f (.idict kvs)) t (.tup [.ref f, .bool true])) f = some (.idict kvs) := by rw [upd_ne _ _ (by rintro rfl; rw [upd_self] at ht; cases ht), upd_self]
  have fn : H f = none := fresh_of (W := []) ((Ext.refl.fresh hv).trans (Ext.of_all x₁)) (by simp) hf
  generalize upd (upd H₁ f (.idict kvs)) t (.tup [.ref f, .bool true]) = H₂ at x₂ f₂
  have m0 : updL (updL (binding [(Str.ofString "clauses", Value.ref cl), (Str.ofString "known", Value.ref d)]) (Str.ofString "found") (.ref f)) (Str.ofString "has_grown") (.bool true) (Str.ofString "clauses") = some (.ref cl) := rfl
  have m1 : updL (updL (binding [(Str.ofString "clauses", Value.ref cl), (Str.ofString "known", Value.ref d)]) (Str.ofString "found") (.ref f)) (Str.ofString "has_grown") (.bool true) (Str.ofString "found") = some (.ref f) := rfl
  have m2 : updL (updL (binding [(Str.ofString "clauses", Value.ref cl), (Str.ofString "known", Value.ref d)]) (Str.ofString "found") (.ref f)) (Str.ofString "has_grown") (.bool true) (Str.ofString "has_grown") = some (.bool true) := rfl
  generalize updL (updL (binding [(Str.ofString "clauses", Value.ref cl), (Str.ofString "known", Value.ref d)]) (Str.ofString "found") (.ref f)) (Str.ofString "has_grown") (.bool true) = mm at m0 m1 m2
  refine JS.cons (JS.whileE (fun n H' m' => ∃ fs g, Ext [] H H' ∧ H' f = some (.idict fs) ∧ KeysIn fs N ∧ Agree own fs ∧ (∀ k, (valueAt kvs k).isSome = true → (valueAt fs k).isSome = true) ∧ 2 * (N - fs.length) + (if g = true then 1 else 0) = n ∧
      (g = false → ∀ c ∈ clauses, Shut fs c) ∧ m' (Str.ofString "clauses") = some (.ref cl) ∧ m' (Str.ofString "found") = some (.ref f) ∧ m' (Str.ofString "has_grown") = some (.bool g))
    (2 * (N - kvs.length) + 1) ⟨kvs, true, x₂, f₂, hk, ha, fun _ q => q, rfl, (fun q => by cases q), m0, m1, m2⟩ ?_)
  rintro n H₃ m₃ ⟨fs, g, x₃, f₃, k₃, a₃, l₃, n₃, s₃, c₃, o₃, g₃⟩
  refine JB.plain (JV.nameL g₃ ⟨g, rfl, ?_⟩)
  cases g with
  | false => exact iteF (JS.cons (JS.ret (JV.nameC o₃ (h f H₃ fs x₃ fn f₃ a₃ l₃ (s₃ rfl)))))
  | true =>
    refine iteT (JS.cons (JS.assignL (JV.cbool ?_)))
    dsimp only
    have p0 : updL m₃ (Str.ofString "has_grown") (.bool false) (Str.ofString "clauses") = some (.ref cl) := updL_k rfl c₃
    have p1 : updL m₃ (Str.ofString "has_grown") (.bool false) (Str.ofString "found") = some (.ref f) := updL_k rfl o₃
    have p2 : updL m₃ (Str.ofString "has_grown") (.bool false) (Str.ofString "has_grown") = some (.bool false) := updL_same
    generalize updL m₃ (Str.ofString "has_grown") (.bool false) = m₄ at p0 p1 p2
    refine JS.cons (JS.forE (JV.nameL p0 ⟨cl, rfl, _, tups.map .ref, _, fun i H' m' => ∃ fs' g, Ext [] H H' ∧ H' f = some (.idict fs') ∧ KeysIn fs' N ∧ Agree own fs' ∧ (∀ k, (valueAt kvs k).isSome = true → (valueAt fs' k).isSome = true) ∧
        (g = false → fs' = fs ∧ ∀ j c, j < i → clauses[j]? = some c → Shut fs c) ∧ (g = true → fs.length < fs'.length) ∧ m' (Str.ofString "clauses") = some (.ref cl) ∧ m' (Str.ofString "found") = some (.ref f) ∧ m' (Str.ofString "has_grown") = some (.bool g),
      Src.list, ⟨fs, false, x₃, f₃, k₃, a₃, l₃, fun _ => ⟨rfl, fun j c hj => by omega⟩, (fun q => by cases q), p0, p1, p2⟩, ?_, ?_, ?_⟩))
    · rintro i H' m' ⟨fs', g, x', _⟩; exact x' _ _ hI.cl (by simp)
    · rintro i v H₅ m₅ hv ⟨fs', g, x₅, f₅, k₅, a₅, l₅, u₅, w₅, c₅, o₅, g₅⟩ B' rv hrv
      rw [List.getElem?_map] at hv
      obtain ⟨tc, htc, rfl⟩ := Option.map_eq_some_iff.mp hv
      obtain ⟨c, hc, hct⟩ := hI.tup i tc htc
      have hcm : c ∈ clauses := List.mem_of_getElem? hc
      obtain ⟨cz, cb, l₀, hl₀, tl₀⟩ := hcl c hcm
      have hl01 := cb l₀ hl₀
      have t₅ := x₅ _ _ hct (by simp)
      refine JU.nameL ?_
      rw [hrv]
      have q0 : updL m₅ (Str.ofString "clause") (.ref tc) (Str.ofString "clauses") = some (.ref cl) := updL_k rfl c₅
      have q1 : updL m₅ (Str.ofString "clause") (.ref tc) (Str.ofString "found") = some (.ref f) := updL_k rfl o₅
      have q2 : updL m₅ (Str.ofString "clause") (.ref tc) (Str.ofString "has_grown") = some (.bool g) := updL_k rfl g₅
      have q3 : updL m₅ (Str.ofString "clause") (.ref tc) (Str.ofString "clause") = some (.ref tc) := updL_same
      generalize updL m₅ (Str.ofString "clause") (.ref tc) = m₆ at q0 q1 q2 q3
      refine JS.cons (JS.assignComp [Str.ofString "found"] (JV.nameL q3 ⟨tc, rfl, _, c.map I, _, fun j H' acc => H' = H₅ ∧ acc = ((c.take j).filter (nf fs')).map I, Src.tup, by rw [List.length_map, zl]; omega, ⟨rfl, rfl⟩, ?_, ?_, ?_⟩) (fun B H₂ m₂ v => JU.nameL ⟨rfl, rfl⟩))
      · rintro j H' acc ⟨rfl, _⟩; exact t₅
      · rintro j v H₆ acc hv ⟨rfl, rfl⟩ Cc Bc rv hrv
        rw [List.getElem?_map] at hv
        obtain ⟨p, hp, rfl⟩ := Option.map_eq_some_iff.mp hv
        have htake : c.take (j + 1) = c.take j ++ [p] := by rw [List.take_add_one, hp]; rfl
        refine JU.nameL ⟨mcap_updL rfl, ?_⟩
        rw [hrv]
        refine JB.tests1 (JB.cmpOk (JV.getE (JV.nameC (updL_k rfl q1) ⟨f, fs', rfl, f₅, JV.callN (JV.nameB (by show nsIn (Mine.heap _) _ _ = _; k_is) (by boot_by_name) (⟨by exact trivial, JL.cons (JV.nameL updL_same (JL.nil ?_))⟩))⟩)))
        intro raws hr
        obtain ⟨r1, rfl, e1⟩ := args1 hr
        refine JV.abs e1 ⟨p.natAbs, fs', rfl, f₅, JV.cmpOk (JV.nameL updL_same (JV.cint ⟨_, CmpOk.ltI, _, cmp_nf a₅, ?_⟩))⟩
        have eflt : ∀ b, nf fs' p = b → ((c.take (j + 1)).filter (nf fs')).map I = ((c.take j).filter (nf fs')).map I ++ (if b then [I p] else []) := fun b q => by
          rw [htake, List.filter_append, List.map_append]; cases b <;> simp [q]
        cases q : nf fs' p with
        | true => exact iteT (JV.nameL updL_same ⟨rfl, by rw [eflt _ q]; rfl⟩)
        | false => exact iteF ⟨rfl, by rw [eflt _ q]; simp⟩
      · rintro H₆ acc ⟨rfl, rfl⟩ D hD
        rw [List.length_map, List.take_length]
        dsimp only
        have hleft : l₀ ∈ c.filter (nf fs') := List.mem_filter.mpr ⟨hl₀, nf_true a₅ hl01.1 tl₀⟩
        have hll : (c.filter (nf fs')).length ≤ 2 ^ 20 := Nat.le_trans (List.length_filter_le _ _) cz
        have D₇ : (upd H₆ D (.list ((c.filter (nf fs')).map I))) D = some (.list ((c.filter (nf fs')).map I)) := upd_self _ _ _
        have x₇ : Ext [] H (upd H₆ D (.list ((c.filter (nf fs')).map I))) := x₅.fresh hD
        have f₇ : (upd H₆ D (.list ((c.filter (nf fs')).map I))) f = some (.idict fs') := by rw [upd_ne _ _ (ne_new f₅ hD)]; exact f₅
        generalize upd H₆ D (.list ((c.filter (nf fs')).map I)) = H₇ at D₇ x₇ f₇
        have z0 : updL m₆ (Str.ofString "left") (.ref D) (Str.ofString "clauses") = some (.ref cl) := updL_k rfl q0
        have z1 : updL m₆ (Str.ofString "left") (.ref D) (Str.ofString "found") = some (.ref f) := updL_k rfl q1
        have z2 : updL m₆ (Str.ofString "left") (.ref D) (Str.ofString "has_grown") = some (.bool g) := updL_k rfl q2
        have z3 : updL m₆ (Str.ofString "left") (.ref D) (Str.ofString "left") = some (.ref D) := updL_same
        generalize updL m₆ (Str.ofString "left") (.ref D) = m₇ at z0 z1 z2 z3
        refine JS.cons (JS.ite (JB.cmpOk (JV.nameL z3 (JV.listE (JL.nil ⟨Nat.zero_le _, fun D₂ hD₂ => ⟨_, CmpOk.eqNil (vs := (c.filter (nf fs')).map I) ?_ (upd_self _ _ _) (rm rem), ?_⟩⟩)))))
        · rw [upd_ne _ _ (ne_new D₇ hD₂)]; exact D₇
        have hne : ((c.filter (nf fs')).map I).isEmpty = false := by
          cases q : c.filter (nf fs') with
          | nil => rw [q] at hleft; cases hleft
          | cons _ _ => rfl
        rw [hne]
        have D₈ : (upd H₇ D₂ (.list [])) D = some (.list ((c.filter (nf fs')).map I)) := by rw [upd_ne _ _ (ne_new D₇ hD₂)]; exact D₇
        have x₈ : Ext [] H (upd H₇ D₂ (.list [])) := x₇.fresh hD₂
        have f₈ : (upd H₇ D₂ (.list [])) f = some (.idict fs') := by rw [upd_ne _ _ (ne_new f₇ hD₂)]; exact f₇
        generalize upd H₇ D₂ (.list []) = H₈ at D₈ x₈ f₈
        refine iteF (JS.nil (JS.cons (JS.ite (JB.and (JB.cmpOk (JV.callN (JV.nameB (by show nsIn (Mine.heap _) _ _ = _; k_is) (by boot_by_name) (⟨by exact trivial, JL.cons (JV.nameL z3 (JL.nil ?_))⟩))))))))
        intro raws hr
        obtain ⟨r1, rfl, e1⟩ := args1 hr
        obtain rfl := nz_ref e1
        refine JV.lenL D₈ (by rw [List.length_map]; omega) (JV.cint ⟨_, CmpOk.eqI, ?_⟩)
        rw [List.length_map]
        -- nothing is told here
        have stay : (∀ l, c.filter (nf fs') = [l] → (valueAt fs' (l.natAbs : Int)).isSome = true) → ∃ fs' g, Ext [] H H₈ ∧ H₈ f = some (.idict fs') ∧ KeysIn fs' N ∧ Agree own fs' ∧ (∀ k, (valueAt kvs k).isSome = true → (valueAt fs' k).isSome = true) ∧
            (g = false → fs' = fs ∧ ∀ j c, j < i + 1 → clauses[j]? = some c → Shut fs c) ∧ (g = true → fs.length < fs'.length) ∧ m₇ (Str.ofString "clauses") = some (.ref cl) ∧ m₇ (Str.ofString "found") = some (.ref f) ∧ m₇ (Str.ofString "has_grown") = some (.bool g) := fun hs =>
          ⟨fs', g, x₈, f₈, k₅, a₅, l₅, fun q => by
            obtain ⟨rfl, u⟩ := u₅ q
            refine ⟨rfl, fun j c' hj hc' => ?_⟩
            by_cases e : j = i
            · subst e; rw [hc] at hc'; cases hc'; exact hs
            · exact u j c' (by omega) hc', w₅, z0, z1, z2⟩
        split
        · rename_i q1'
          have hone : (c.filter (nf fs')).length = 1 := by
            have : ((c.filter (nf fs')).length : Int) = 1 := by simpa using q1'
            omega
          obtain ⟨p, hp⟩ := List.length_eq_one_iff.mp hone
          have hpl : p = l₀ := by rw [hp, List.mem_singleton] at hleft; exact hleft.symm
          have D₉ : H₈ D = some (.list [I p]) := by rw [D₈, hp]; rfl
          refine JB.and1 (JB.cmpOk (JV.callN (JV.nameB (by show nsIn (Mine.heap _) _ _ = _; k_is) (by boot_by_name) (⟨by exact trivial, JL.cons (JV.itemL (JV.nameL z3 (JV.cint ⟨D, _, 0, I p, rfl, rfl, D₉, by omega, by omega, rfl, JL.nil ?_⟩)))⟩))))
          intro raws hr
          obtain ⟨r1, rfl, e1⟩ := args1 hr
          refine JV.abs e1 (JV.nameC z1 ⟨_, CmpOk.notInI f₈, ?_⟩)
          cases hin : (valueAt fs' (p.natAbs : Int)).isSome with
          | true =>
            refine iteF (JS.nil (JS.nil (stay fun l hl => ?_)))
            rw [hp] at hl; cases hl; exact hin
          | false =>
            have hnk : (p.natAbs : Int) ∉ fs'.map (·.1) := by
              rw [valueAt_some] at hin; simpa using hin
            refine iteT (JS.cons (JS.putI (JV.cmpOk (JV.itemL (JV.nameL z3 (JV.cint ⟨D, _, 0, I p, rfl, rfl, D₉, by omega, by omega, rfl, JV.cint ⟨_, CmpOk.gtI, JV.nameC z1 (JV.callN (JV.nameB (by show nsIn (Mine.heap _) _ _ = _; k_is) (by boot_by_name) (⟨by exact trivial, JL.cons (JV.itemL (JV.nameL z3 (JV.cint ⟨D, _, 0, I p, rfl, rfl, D₉, by omega, by omega, rfl, JL.nil ?_⟩)))⟩)))⟩⟩))))))
            intro raws hr
            obtain ⟨r1, rfl, e1⟩ := args1 hr
            have hkl5 := k₅.len
            refine JV.abs e1 ⟨f, fs', (p.natAbs : Int), rfl, rfl, f₈, by rw [zl]; omega, ?_⟩
            dsimp only
            rw [stored_new hnk]
            have hpb := cb p (hpl ▸ hl₀)
            refine JS.cons (JS.assignL (JV.cbool ?_))
            dsimp only
            refine JS.nil (JS.nil ⟨fs' ++ [((p.natAbs : Int), .bool (decide (p > 0)))], true, x₈.own fn, upd_self _ _ _, k₅.snoc hnk (by omega) (by omega) _, a₅.snoc hnk (by rw [hpl]; exact tl₀), fun k hk' => ?_, fun q => (by cases q), fun _ => ?_, ?_, ?_, updL_same⟩)
            · rw [valueAt_snoc hnk]; split
              · rfl
              · exact l₅ k hk'
            · rw [List.length_append, List.length_singleton]
              cases g with
              | false => rw [(u₅ rfl).1]; exact Nat.lt_succ_self _
              | true => have := w₅ rfl; omega
            · exact updL_k rfl z0
            · exact updL_k rfl z1
        · rename_i q1'
          refine iteF (JS.nil (JS.nil (stay fun l hl => ?_)))
          rw [hl] at q1'
          simp at q1'
    · rintro H₅ m₅ ⟨fs', g, x₅, f₅, k₅, a₅, l₅, u₅, w₅, c₅, o₅, g₅⟩
      dsimp only
      have hl3 := k₃.len
      have hl5 := k₅.len
      refine JS.nil ⟨2 * (N - fs'.length) + (if g = true then 1 else 0), ?_, fs', g, x₅, f₅, k₅, a₅, l₅, rfl, fun q c hc => ?_, c₅, o₅, g₅⟩
      · cases g with
        | false => rw [(u₅ rfl).1]; simp at n₃ ⊢; omega
        | true => have := w₅ rfl; simp at n₃ ⊢; omega
      · obtain ⟨e, u⟩ := u₅ q
        rw [e]
        obtain ⟨j, hj⟩ := List.mem_iff_getElem?.mp hc
        refine u j c ?_ hj
        rw [List.length_map, hlen]
        exact (List.getElem?_eq_some_iff.mp hj).1
end
end Mine
end

section -- PB
open PySem PySem.W PySem.Calls PyProof.Rows PySem.SeqAt
set_option Elab.async false
set_option maxRecDepth 100000
set_option linter.unusedVariables false
namespace Mine

/-- what the variables are worth -/
def ownOf (T : Nat → Bool) (vars : List Int) : Int → Bool := fun k => T (vars.getD (k.toNat - 1) 0).natAbs
theorem ownOf_at {T : Nat → Bool} {vars : List Int} {n : Nat} {v : Int} (h : vars[n]? = some v) : ownOf T vars ((n : Int) + 1) = T v.natAbs := by
  unfold ownOf
  rw [show ((n : Int) + 1).toNat - 1 = n by omega]
  simp [List.getD_eq_getElem?_getD, h]
theorem clT_own {T : Nat → Bool} {vars : List Int} {l : Int} (h : clT T vars l) : ownOf T vars (l.natAbs : Int) = decide (l > 0) := by
  obtain ⟨j, v, hv, ⟨e, q⟩ | ⟨e, q⟩⟩ := h
  · rw [show (l.natAbs : Int) = (j : Int) + 1 by omega, ownOf_at hv, q]; simp; omega
  · rw [show (l.natAbs : Int) = (j : Int) + 1 by omega, ownOf_at hv, q]; simp; omega
theorem LitIs.abs {vars : List Int} {g x : Int} (h : LitIs vars g x) : ∃ n : Nat, vars[n]? = some (g.natAbs : Int) ∧ (x.natAbs : Int) = (n : Int) + 1 ∧ (x > 0 ↔ g > 0) := by
  obtain ⟨n, a, b⟩ := h
  refine ⟨n, a, ?_, ?_⟩
  · rw [b]; split <;> omega
  · rw [b]; split <;> omega
theorem LitIs.own {T : Nat → Bool} {vars : List Int} {g x : Int} (h : LitIs vars g x) : ownOf T vars (x.natAbs : Int) = T g.natAbs := by
  obtain ⟨n, a, b, _⟩ := h.abs
  rw [b, ownOf_at a, Int.natAbs_natCast]
theorem LitIs.gl {T : Nat → Bool} {vars : List Int} {g x : Int} (h : LitIs vars g x) : (ownOf T vars (x.natAbs : Int) == decide (x > 0)) = gl T g := by
  obtain ⟨n, a, b, c⟩ := h.abs
  rw [h.own]
  unfold Mine.gl
  congr 1
  exact decide_eq_decide.mpr c

theorem only_one {l : List Int} {u : Int} (hn : l.Nodup) (h : ∀ y, y ∈ l ↔ y = u) : l = [u] := by
  match l, hn, h with
  | [], _, h => exact absurd ((h u).mpr rfl) (by simp)
  | [x], _, h => rw [(h x).mp (by simp)]
  | x :: y :: r, hn, h =>
    have a := (h x).mp (by simp)
    have b := (h y).mp (by simp)
    rw [a, b] at hn
    simp at hn

theorem unit_step {own : Int → Bool} {kvs : List (Int × Value)} {c : List Int} {u : Int} (hn : c.Nodup) (ha : Agree own kvs) (ht : ∃ l ∈ c, 1 ≤ l.natAbs ∧ own (l.natAbs : Int) = decide (l > 0)) (hs : Shut kvs c) (hu : ∀ l ∈ c, l ≠ u → nf kvs l = false) :
    (valueAt kvs (u.natAbs : Int)).isSome = true := by
  refine hs u (only_one (hn.filter _) fun y => ?_)
  rw [List.mem_filter]
  obtain ⟨l, hl, h1, ho⟩ := ht
  have hlt := nf_true ha h1 ho
  have hlu : l = u := by
    refine Decidable.byContradiction fun q => ?_
    rw [hu l hl q] at hlt; cases hlt
  refine ⟨fun ⟨a, b⟩ => Decidable.byContradiction fun q => ?_, ?_⟩
  · rw [hu y a q] at b; cases b
  · rintro rfl; exact ⟨hlu ▸ hl, hlu ▸ hlt⟩

theorem ClOK.tells {C : List Gate} {T : Nat → Bool} {vars : List Int} {c : List Int} (h : ClOK C vars c) (hT : ModelOf C T) : ∃ l ∈ c, 1 ≤ l.natAbs ∧ ownOf T vars (l.natAbs : Int) = decide (l > 0) := by
  obtain ⟨l, hl, ht⟩ := h.2.2 T hT
  refine ⟨l, hl, ?_, clT_own ht⟩
  obtain ⟨j, v, _, ⟨e, _⟩ | ⟨e, _⟩⟩ := ht <;> omega

theorem LitIs.falls {T : Nat → Bool} {vars : List Int} {kvs : List (Int × Value)} {p x : Int} (h : LitIs vars p x) (ha : Agree (ownOf T vars) kvs) (hg : Mine.gl T p = false)
    (hs : ∀ n : Nat, vars[n]? = some (p.natAbs : Int) → (valueAt kvs ((n : Int) + 1)).isSome = true) : nf kvs x = false := by
  obtain ⟨n, a, b, c⟩ := h.abs
  refine nf_false ha (by omega) (by rw [b]; exact hs n a) ?_
  have e := h.gl (T := T)
  rw [hg] at e
  revert e
  cases ownOf T vars (x.natAbs : Int) <;> cases decide (x > 0) <;> simp

/-- unit steps find each opened side that is false -/
theorem complete {C : List Gate} {S : KSt} {T : Nat → Bool} {kvs : List (Int × Value)} (hwf : WF C) (hI : CInv C S Nope 0) (hw : S.waiting = []) (hT : ModelOf C T) (ha : Agree (ownOf T S.vars) kvs) (hs : ∀ c ∈ S.clauses, Shut kvs c)
    (hin : ∀ (n k : Nat), S.vars[n]? = some ((k + 2 : Nat) : Int) → C[k]? = some .input → (valueAt kvs ((n : Int) + 1)).isSome = true) :
    ∀ (N : Nat) (s : Int), s.natAbs ≤ N → s ∈ S.opened → Mine.gl T s = false → ∀ n : Nat, S.vars[n]? = some (s.natAbs : Int) → (valueAt kvs ((n : Int) + 1)).isSome = true := by
  intro N
  induction N with
  | zero =>
    intro s h0 hso
    have := (hI.op s hso).1.1
    omega
  | succ N ih =>
    intro s h0 hso hg n hn
    have hlit := (hI.op s hso).1
    have hd : DoneSide C S s := hI.done s hso (by rw [hw]; simp) (fun x => x)
    have same : ∀ n' : Nat, S.vars[n']? = some (s.natAbs : Int) → n' = n := fun n' h' => by
      have l1 := (List.getElem?_eq_some_iff.mp hn)
      have l2 := (List.getElem?_eq_some_iff.mp h')
      obtain ⟨a, b⟩ := l1
      obtain ⟨c, d⟩ := l2
      exact (List.getElem_inj hI.nodup).mp (d.trans b.symm)
    by_cases h1 : s.natAbs = 1
    · obtain ⟨n', hn', c, hc, hcl⟩ := hd.1 h1
      have hnn := same n' (by rw [h1]; exact hn')
      subst hnn
      have := unit_step (u := (n' : Int) + 1) (hI.sound c hc).1 ha ((hI.sound c hc).tells hT) (hs c hc) fun l hl q => absurd ((hcl l).mp hl) q
      rw [show ((((n' : Int) + 1).natAbs : Nat) : Int) = (n' : Int) + 1 by omega] at this
      exact this
    · obtain ⟨k, hk⟩ : ∃ k, s.natAbs = k + 2 := ⟨s.natAbs - 2, by have := hlit.1; omega⟩
      have hkl : k < C.length := by have := hlit.2; omega
      have hCk : C[k]? = some C[k] := List.getElem?_eq_getElem hkl
      cases hgt : C[k] with
      | input =>
        rw [hgt] at hCk
        exact hin n k (by rw [← hk]; exact hn) hCk
      | and a b =>
        rw [hgt] at hCk
        have wf := hwf k a b hCk
        obtain ⟨n', hn', hp, hm⟩ := hd.2 k a b hk hCk
        have hnn := same n' hn'
        subst hnn
        have hval : T s.natAbs = (Mine.gl T a && Mine.gl T b) := by rw [hk]; exact hT.2 k a b hCk
        have down : ∀ p : Int, 1 ≤ p.natAbs → p.natAbs < k + 2 → p ∈ S.opened → Mine.gl T p = false → ∀ x, LitIs S.vars p x → nf kvs x = false := fun p p1 p2 po pg x hx =>
          hx.falls ha pg fun j hj => ih p (by omega) po pg j hj
        by_cases hpos : s > 0
        · have hT0 : T s.natAbs = false := by
            unfold Mine.gl at hg
            simp [hpos] at hg
            exact hg
          rw [hT0] at hval
          obtain ⟨p, hpe, hpg⟩ : ∃ p, (p = a ∨ p = b) ∧ Mine.gl T p = false := by
            cases qa : Mine.gl T a with
            | false => exact ⟨a, .inl rfl, qa⟩
            | true =>
              cases qb : Mine.gl T b with
              | false => exact ⟨b, .inr rfl, qb⟩
              | true => rw [qa, qb] at hval; cases hval
          obtain ⟨po, x, hx, c, hc, hcl⟩ := hp hpos p hpe
          have hb : 1 ≤ p.natAbs ∧ p.natAbs < k + 2 := by
            rcases hpe with rfl | rfl
            · have := wf.1; unfold PartOK at this; omega
            · have := wf.2.1; unfold PartOK at this; omega
          have := unit_step (u := -((n' : Int) + 1)) (hI.sound c hc).1 ha ((hI.sound c hc).tells hT) (hs c hc) fun l hl q => by
            rcases (hcl l).mp hl with e | e
            · exact absurd e q
            · rw [e]; exact down p hb.1 hb.2 po hpg x hx
          rw [show (((-((n' : Int) + 1)).natAbs : Nat) : Int) = (n' : Int) + 1 by omega] at this
          exact this
        · have hneg : s < 0 := by have := hlit.1; omega
          have hT1 : T s.natAbs = true := by
            unfold Mine.gl at hg
            have : decide (s > 0) = false := by simp; omega
            rw [this] at hg
            cases q : T s.natAbs with
            | true => rfl
            | false => rw [q] at hg; cases hg
          rw [hT1] at hval
          have hab := hval.symm
          rw [Bool.and_eq_true] at hab
          have ab := wf.1
          have bb := wf.2.1
          unfold PartOK at ab bb
          obtain ⟨oa, ob, x, y, hx, hy, c, hc, hcl⟩ := hm hneg
          have := unit_step (u := (n' : Int) + 1) (hI.sound c hc).1 ha ((hI.sound c hc).tells hT) (hs c hc) fun l hl q => by
            rcases (hcl l).mp hl with e | e | e
            · exact absurd e q
            · rw [e]; exact down (-a) (by omega) (by omega) oa (by rw [gl_neg (by omega), hab.1]; rfl) x hx
            · rw [e]; exact down (-b) (by omega) (by omega) ob (by rw [gl_neg (by omega), hab.2]; rfl) y hy
          rw [show ((((n' : Int) + 1).natAbs : Nat) : Int) = (n' : Int) + 1 by omega] at this
          exact this
end Mine
end

section -- JT
open PySem PySem.W PySem.Calls PyProof.Rows PySem.SeqAt
set_option Elab.async false
set_option maxRecDepth 100000
set_option linter.unusedVariables false
namespace Mine
variable {prog : Program} {KF : Params → Frag}

section
variable {fx : Fx prog KF} {Γ Γ' : Amb} {H H' : OH} {m m' : Loc} {s s' : Shared}

theorem St.raw (S : St fx Γ H m s) {d : Addr} {ao : AO} {o : Obj} (hd : H d = some ao) (ho : s.heap.get? d = some o) : St fx Γ (upd H d (.raw o)) m s :=
  { S with
    own := fun b bo e => by
      by_cases q : b = d
      · subst q; rw [upd_self] at e; cases e; exact ho
      · rw [upd_ne _ _ q] at e; exact S.own b bo e
    sepH := fun b bo e => by
      by_cases q : b = d
      · subst q; exact S.sepH b _ hd
      · rw [upd_ne _ _ q] at e; exact S.sepH b bo e }

/-- from here on this dict is not written -/
theorem JS.freeze {d : Addr} {kvs : List (Int × Value)} {t : Sem Flow} {Q : Flow → OH → Loc → Prop} (hd : H d = some (.idict kvs))
    (h : ∀ o ks ep, IsIDict prog fx.w o ks ep → ks.map (fun p => (p.1, nz p.2)) = kvs → JS fx Γ (upd H d (.raw o)) m t Q) : JS fx Γ H m t Q := fun s S => by
  obtain ⟨ks, ⟨o, es, ep, ho, r⟩, em⟩ := S.own _ _ hd
  exact h o ks ep (fun h' d' e => ⟨o, es, e, r⟩) em s (S.raw hd ho)

theorem JV.itemR {value slice pos} {Q : Value → OH → Prop}
    (h : JV fx Γ H m (eval value Γ.env) fun o H₁ => JV fx Γ H₁ m (eval slice Γ.env) fun i H₂ => ∃ d ob ks ep k v, o = .ref d ∧ i = I k ∧ H₂ d = some (.raw ob) ∧ IsIDict prog fx.w ob ks ep ∧ valueAt (ks.map fun p => (p.1, nz p.2)) k = some v ∧ Q v H₂)
    (hs : PlainSub slice := by intro _ _; with_unfolding_all rfl) : JV fx Γ H m (eval (.Subscript value slice pos) Γ.env) Q :=
  JV.item (h.mono fun o H₁ h₁ => h₁.mono fun i H₂ hh ro ri ho hi s S => by
    obtain ⟨d, ob, ks, ep, k, v, eo, ei, hd, hI, hv, q⟩ := hh
    obtain rfl := nz_ref (ho.trans eo); obtain ⟨t, rfl⟩ := nz_int (hi.trans ei)
    have hk := (hI _ _ (S.own _ _ hd)).dictOf
    have e := pairs_get rfl k (ks := ks)
    rw [hv] at e
    cases hx : valueAt ks k with
    | none => rw [hx] at e; cases e
    | some x =>
      rw [hx] at e
      obtain rfl : nz x = v := Option.some.inj e
      exact tail_any hk.typeIs slot_dict_getitem.lookup (wpAny_getItem_of (intKind_is prog fx.w k t) hk.mapOf hx ⟨H₂, S.tok _, q⟩) (hs _ _))

/-- an int in a tuple of ints -/
theorem CmpOk.inT {l : Addr} {k : Int} {vs : List Int} (hl : H l = some (.tup (vs.map I))) : CmpOk fx Γ H m .In (I k) (.ref l) (vs.any (· == k)) := fun ra rb ha hb Q q s S => by
  obtain ⟨t, rfl⟩ := nz_int ha; obtain rfl := nz_ref hb
  obtain ⟨xs, n, h1, e1⟩ := S.getTup hl
  have key : ∀ (xs : List Value) (vs : List Int), xs.map nz = vs.map I → (∀ y ∈ xs, ∃ j u, y = .int j u) ∧ (xs.any fun v => match v with | .int j _ => j == k | _ => false) = vs.any (· == k) := by
    intro xs
    induction xs with
    | nil => intro vs e; cases vs with | nil => exact ⟨by simp, rfl⟩ | cons _ _ => cases e
    | cons x r ih =>
      intro vs e
      cases vs with
      | nil => cases e
      | cons j js =>
        simp only [List.map_cons, List.cons.injEq] at e
        obtain ⟨u, rfl⟩ := nz_int e.1
        obtain ⟨i1, i2⟩ := ih js e.2
        refine ⟨fun y hy => ?_, ?_⟩
        · rcases List.mem_cons.mp hy with rfl | hy
          · exact ⟨j, u, rfl⟩
          · exact i1 y hy
        · rw [List.any_cons, List.any_cons, i2]
  obtain ⟨k1, k2⟩ := key xs vs e1
  refine in_tupleAt (fun v => match v with | .int j _ => j == k | _ => false) (isTup_of h1) (fun y hy => ?_) ⟨H, S, ?_⟩
  · obtain ⟨j, u, rfl⟩ := k1 y (by simpa using hy)
    exact EqAt.int_int j u k t
  · rw [List.any_toArray, k2]; exact q

/-- l[:n], l a list that stood ahead of the call -/
theorem JV.sliceBase {value hi : Expr} {p pos : Pos} {Q : Value → OH → Prop} (h : JV fx Γ H m (eval value Γ.env) fun o H₁ => JV fx Γ H₁ m (eval hi Γ.env) fun i H₂ => ∃ l xs k, o = .ref l ∧ i = I (k : Nat) ∧ fx.h₀.IsList l (xs : List Value).toArray ∧ xs.length ≤ sizeLine ∧
      ∀ a, H₂ a = none → Q (.ref a) (upd H₂ a (.list ((xs.map nz).take k))))
    (he : evalPart (some hi) Γ.env = eval hi Γ.env := by rfl)
    (ht : ∀ o r, letTemporaryGo value o r = pure () := by intro _ _; rfl) : JV fx Γ H m (eval (.Subscript value (.Slice none (some hi) none p) pos) Γ.env) Q := fun s S => by
  refine wpAny_Subscript_list_slice (h.run S fun o H₁ s₁ S₁ h₁ => ?_) ht
  rw [evalPart_none]
  refine wpAny_pure ?_
  rw [he]
  refine h₁.run S₁ fun i H₂ s₂ S₂ ⟨l, xs, k, eo, ei, hl, hz, q⟩ => ?_
  obtain ⟨t, rfl⟩ := nz_int ei
  obtain ⟨ob, hob, hc, n, hd⟩ := hl
  refine ⟨l, xs.toArray, none, some (k : Int), nz_ref eo, ⟨ob, S₂.base _ _ hob, hc, n, hd⟩, by simpa using hz, .none, .int _ _, ?_⟩
  have S₃ : St fx Γ H₂ m { s₂ with heap := s₂.heap.push { cls := .type "slice", data := .fields #[Value.none, .int k t, .none] }, toks := s₂.toks } := S₂.keep fun b o e => Heap.get?_push_of_some _ e
  have e : slicePick xs.toArray none (some (k : Int)) none = (xs.take k).toArray := by rw [slicePick_upto']
  rw [e]
  have := S₃.new (tk := s₂.toks) (ao := .list ((xs.map nz).take k)) (h' := (s₂.heap.push { cls := .type "slice", data := .fields #[Value.none, .int k t, .none] }).push { cls := .type "list", data := .seq (xs.take k).toArray }) (fun b o e => Heap.get?_push_of_some _ e) (Nat.le_refl _)
    (show Holds prog fx.w _ _ (.list _) from ⟨xs.take k, 0, Heap.get?_push_size _ rfl, by rw [List.map_take]⟩)
  have hn := (S₃.fresh (Nat.le_refl _)).1
  have hsz : (s₂.heap.push { cls := .type "slice", data := .fields #[Value.none, .int k t, .none] }).objs.size = s₂.heap.objs.size + 1 := Heap.size_push ..
  dsimp only at this hn
  rw [hsz] at this hn
  exact ⟨_, this, q _ hn⟩
/-- l[:n], l any expression -/
theorem JV.sliceA {value hi : Expr} {p pos : Pos} {Q : Value → OH → Prop} (h : JV fx Γ H m (eval value Γ.env) fun o H₁ => JV fx Γ H₁ m (eval hi Γ.env) fun i H₂ => ∃ l vs k, o = .ref l ∧ i = I (k : Nat) ∧ H₂ l = some (.list vs) ∧ vs.length ≤ sizeLine ∧
      ∀ a, H₂ a = none → Q (.ref a) (upd H₂ a (.list (vs.take k))))
    (he : evalPart (some hi) Γ.env = eval hi Γ.env := by rfl) : JV fx Γ H m (eval (.Subscript value (.Slice none (some hi) none p) pos) Γ.env) Q := fun s S => by
  refine Subscript_ (h.run S fun o H₁ s₁ S₁ h₁ => wpAny_Slice ?_)
  rw [evalPart_none]
  refine wpAny_pure ?_
  rw [he]
  refine h₁.run S₁ fun i H₂ s₂ S₂ ⟨l, vs, k, eo, ei, hl, hz, q⟩ => ?_
  refine wpAny_pure ?_
  obtain rfl := nz_ref eo
  obtain ⟨t, rfl⟩ := nz_int ei
  obtain ⟨xs, n, hx, em⟩ := S₂.getList hl
  have S₃ : St fx Γ H₂ m { s₂ with heap := s₂.heap.push { cls := .type "slice", data := .fields #[Value.none, .int k t, .none] }, toks := s₂.toks } := S₂.keep fun b o e => Heap.get?_push_of_some _ e
  have hx₃ : (s₂.heap.push { cls := .type "slice", data := .fields #[Value.none, .int k t, .none] }).get? l = some ⟨.type "list", none, .seq xs.toArray n, #[]⟩ := Heap.get?_push_of_some _ hx
  refine tail_any (T := "list") (isList_of hx₃).typeIs slot_list_getitem.lookup (wpAny_getItem_list_slice (isList_of hx₃) (Heap.IsSliceOf.new ..) .none (.int _ _) .none (by simp) ?_ (by simp only [List.size_toArray, map_len em]; exact hz)) (ops := [.ref s₂.heap.objs.size, .ref l]) rfl
  have e : slicePick xs.toArray none (some (k : Int)) none = (xs.take k).toArray := by rw [slicePick_upto']
  rw [e]
  have := S₃.new (tk := s₂.toks) (ao := .list (vs.take k)) (h' := (s₂.heap.push { cls := .type "slice", data := .fields #[Value.none, .int k t, .none] }).push { cls := .type "list", data := .seq (xs.take k).toArray }) (fun b o e => Heap.get?_push_of_some _ e) (Nat.le_refl _)
    (show Holds prog fx.w _ _ (.list _) from ⟨xs.take k, 0, Heap.get?_push_size _ rfl, by rw [List.map_take, em]⟩)
  exact ⟨_, this, q _ (S₃.fresh (Nat.le_refl _)).1⟩
end
end Mine
end

section -- FP
open PySem PySem.W PySem.Calls PyProof.Rows PySem.SeqAt
set_option Elab.async false
set_option maxRecDepth 100000
set_option linter.unusedVariables false
namespace Mine
theorem primeFP : (fun (_ : OpenLaw) (_ : Params → Frag) => True) PySem.Challenge.rw_nz0385_01 Mine.heap := by
  k_fill
  trivial

theorem k_many (P : Params) : MethK (heap P) 114 (Str.ofString "many") 57 := ⟨by k_is, by k_is, by k_is, by k_is⟩
theorem k_gate_of (P : Params) : MethK (heap P) 114 (Str.ofString "gate_of") 71 := ⟨by k_is, by k_is, by k_is, by k_is⟩
theorem k_literal_of (P : Params) : MethK (heap P) 114 (Str.ofString "literal_of") 104 := ⟨by k_is, by k_is, by k_is, by k_is⟩
theorem k_new_input (P : Params) : MethK (heap P) 224 (Str.ofString "new_input") 167 := ⟨by k_is, by k_is, by k_is, by k_is⟩

/-- the questions asked so far -/
def AskH (H : OH) (al : Addr) (qs : List (Int × Int)) : Prop := ∃ ats : List Addr, H al = some (.list (ats.map .ref)) ∧ ats.length = qs.length ∧ ∀ (i : Nat) (t : Addr), ats[i]? = some t → ∃ q, qs[i]? = some q ∧ H t = some (.tup [I q.1, I q.2])
theorem AskH.ext {H H' : OH} {al : Addr} {qs : List (Int × Int)} {W : List Addr} (h : AskH H al qs) (x : Ext W H H') (h1 : al ∉ W) (ht : ∀ t p, H t = some (.tup p) → t ∉ W) : AskH H' al qs :=
  let ⟨ats, a, b, c⟩ := h; ⟨ats, x _ _ a h1, b, fun i t e => let ⟨q, q1, q2⟩ := c i t e; ⟨q, q1, x _ _ q2 (ht t _ q2)⟩⟩
theorem AskH.keep {H H' : OH} {al : Addr} {qs : List (Int × Int)} (h : AskH H al qs) (x : Ext [] H H') : AskH H' al qs := h.ext x (by simp) (by simp)

theorem tab_nodup : ∀ (bs : List Bool) (n : Nat), ((tabFrom n bs).map (·.1)).Nodup
  | [], n => by simp [tabFrom]
  | b :: r, n => by
    rw [tabFrom, List.map_cons, List.nodup_cons]
    exact ⟨fun h => by have := (tabFrom_keys r (n + 1) _ h).1; dsimp only at this; omega, tab_nodup r (n + 1)⟩
theorem tab_get : ∀ (bs : List Bool) (n i : Nat), (tabFrom n bs)[i]? = (bs[i]?).map fun b => (((n + i : Nat) : Int), Value.bool b)
  | [], n, i => by simp [tabFrom]
  | b :: r, n, 0 => by simp [tabFrom]
  | b :: r, n, i + 1 => by
    rw [tabFrom, List.getElem?_cons_succ, tab_get r (n + 1) i, List.getElem?_cons_succ, show n + 1 + i = n + (i + 1) by omega]
def inpAt (C : List Gate) (g : Int) : Bool := match g.natAbs with
  | k + 2 => C[k]? == some .input
  | _ => false

section
variable {fx : FX} {Γ : Amb} {H : OH} {m : Loc} {A : CA} {C : List Gate} {K : KA} {whole : Int} {S : KSt}
set_option maxHeartbeats 16000000

/-- the inputs among the variables -/
def knownOf (C : List Gate) (vars : List Int) (kvs : List (Int × Value)) : List (Int × Value) := kvs.filter fun p => inpAt C (vars.getD (p.1.toNat - 1) 0)

theorem kind_inp {g : Int} {v : Value} (h : (kindsOf C)[g.natAbs]? = some v) (h1 : 1 ≤ g.natAbs) (hl : g.natAbs ≤ C.length + 1) : CmpOk fx Γ H m .Eq v (.str (Str.ofString "input") 0) (inpAt C g) := by
  unfold inpAt
  match hg : g.natAbs with
  | 0 => omega
  | 1 =>
    rw [hg] at h
    simp [kindsOf] at h
    subst h
    exact CmpOk.eqS
  | k + 2 =>
    rw [hg] at h
    simp only [kindsOf, List.getElem?_cons_succ, List.getElem?_map] at h
    obtain ⟨gt, e1, e2⟩ := Option.map_eq_some_iff.mp h
    subst e2
    dsimp only
    rw [e1]
    cases gt with
    | input => exact CmpOk.eqS
    | and a b =>
      have e : (some (Gate.and a b) == some Gate.input) = false := rfl
      rw [e]
      exact CmpOk.eqS
end
end Mine
end

section -- FQ
open PySem PySem.W PySem.Calls PyProof.Rows PySem.SeqAt
set_option Elab.async false
set_option maxRecDepth 100000
set_option linter.unusedVariables false
namespace Mine
theorem primeFQ : (fun (_ : OpenLaw) (_ : Params → Frag) => True) PySem.Challenge.rw_nz0385_01 Mine.heap := by
  k_fill
  trivial

/-- bounds: a few short lemmas keep the long walks' proofs small -/
theorem lb {x k m : Nat} (h : x ≤ k) (d : Nat.ble (k + 1) m = true := by rfl) : x < m := Nat.lt_of_le_of_lt h (Nat.le_of_ble_eq_true d)
theorem lw {x k m : Nat} (h : x ≤ k) (d : Nat.ble k m = true := by rfl) : x ≤ m := Nat.le_trans h (Nat.le_of_ble_eq_true d)
theorem lit_abs {l : Int} {j N : Nat} (e : l = (j : Int) + 1 ∨ l = -((j : Int) + 1)) (h : j < N) : 1 ≤ l.natAbs ∧ l.natAbs ≤ N := by omega
theorem lit_abs1 {l : Int} {j : Nat} (e : l = (j : Int) + 1 ∨ l = -((j : Int) + 1)) : (l.natAbs : Int) = (j : Int) + 1 := by omega
theorem one_cast {j : Nat} : ((1 + j : Nat) : Int) = (j : Int) + 1 := by omega
theorem one_pred {n : Nat} : ((n : Int) + 1).toNat - 1 = n := by omega
theorem var_abs {v : Int} {n : Nat} (h : 1 ≤ v ∧ v ≤ (n : Int) + 1) : 1 ≤ v.natAbs ∧ v.natAbs ≤ n + 1 := by omega
theorem var_int {v : Int} {n : Nat} (h : 1 ≤ v ∧ v ≤ (n : Int) + 1) : v = ((v.natAbs : Nat) : Int) := by omega
theorem key_rng {k : Int} {n : Nat} (h : ((1 : Nat) : Int) ≤ k ∧ k < ((1 + n : Nat) : Int)) : 1 ≤ k ∧ k ≤ (n : Int) := by omega
theorem r1n {k : Nat} : ((k : Int) + 1 - 1).toNat = k := by omega
theorem r1lo {k : Nat} : -(2 ^ 62) ≤ (k : Int) + 1 := by omega
theorem r1hi {k : Nat} (h : k ≤ 2 ^ 16) : (k : Int) + 1 < 2 ^ 62 := by omega
theorem rvl {a : Int} {n m : Nat} (h : n ≤ m) : (rangeVals a n).length ≤ m := by simpa [rangeVals] using h
theorem get_push {α : Type} {as : List α} {a b : α} {j : Nat} (h : (as ++ [a])[j]? = some b) : (j < as.length ∧ as[j]? = some b) ∨ (j = as.length ∧ b = a) := by
  by_cases hj : j < as.length
  · rw [List.getElem?_append_left hj] at h; exact .inl ⟨hj, h⟩
  · rw [List.getElem?_append_right (by omega)] at h
    have := (List.getElem?_eq_some_iff.mp h).1
    simp at this
    rw [show j - as.length = 0 by omega] at h
    simp at h
    exact .inr ⟨by omega, h.symm⟩
theorem range1_at {n i : Nat} {v : Value} (h : (rangeVals 1 n)[i]? = some v) : i < n ∧ v = I ((i : Int) + 1) := by
  have hi : i < n := by have := (List.getElem?_eq_some_iff.mp h).1; simpa [rangeVals] using this
  have : (rangeVals 1 n)[i]? = some (I (1 + (i : Int))) := by simp [rangeVals, hi]
  rw [this] at h
  refine ⟨hi, ?_⟩
  rw [← Option.some.inj h]; congr 1; omega

section
variable {fx : FX} {Γ : Amb} {H : OH} {m : Loc} {A : CA} {C : List Gate} {K : KA} {whole : Int} {S : KSt}
set_option maxHeartbeats 16000000

theorem row_right_spec {al : Addr} {qs : List (Int × Int)} {row : Int} {raws : List Value} {Q : Value → OH → Prop} (rem : 6 ≤ Γ.rem) (hK : KH H K A whole S) (hC : CircH H A C) (hq : AskH H al qs) (hz : C.length < 2 ^ 16) (hI : CInv C S Nope 0) (hF : Full whole S) (hw : S.waiting = [])
    (hwh : whole = 0 ∨ whole = 1) (hqs : ∀ q ∈ qs, q.1 ∈ S.opened ∧ LitIs S.vars q.1 q.2) (hr : raws.map nz = [.ref K.c, .ref A.c, .ref al, I row]) (h : ∀ H', Ext [] H H' → Q (.bool true) H') : JV fx Γ H m (call (.ref 262) raws) Q := by
  obtain ⟨r1, r2, r3, r4, rfl, e1, e2, e3, e4⟩ := args4 hr
  obtain rfl := nz_ref e1
  obtain rfl := nz_ref e2
  obtain rfl := nz_ref e3
  obtain ⟨tk, rfl⟩ := nz_int e4
  have zl : sizeLine = 2 ^ 24 := rfl
  have room := hI.room hz
  have vlen := hI.vlen
  have vl : S.vars.length ≤ 2 ^ 16 := Nat.le_trans vlen hz
  refine' JV.fnC (fx := fx) (binds := [(Str.ofString "kept", .ref K.c), (Str.ofString "circuit", .ref A.c), (Str.ofString "asked", .ref al), (Str.ofString "row", .int row tk)]) ?ho ?hcd ?hrem ?hbind ?hkind ?hloc ?hnc ?hnd ?h ?h1 ?h2 ?h3
  case ho => show List.lookup _ (Mine.heap _) = _; k_is
  case hcd => show codeIn (Mine.heap _) _ _ = _; k_is
  case hrem => first | omega | (dsimp only; omega)
  case hbind => rfl
  case hkind => rfl
  case hloc => exact locC rfl
  case hnc => exact nloc rfl
  case hnd => exact (by decide : [Str.ofString "kept", Str.ofString "circuit", Str.ofString "asked", Str.ofString "row"].Nodup)
  case h1 => rfl
  case h2 => rfl
  case h3 => rfl
  intro A' L B
  refine JS.cons (JS.assignC (JV.callN (JV.nameG (by show nsIn (Mine.heap _) _ _ = _; k_is) (⟨by show keepIn (Mine.heap _) _ = _; k_is, JL.cons (JV.nameC rfl (JL.cons (JV.nameL rfl (JL.nil ?_))))⟩))))
  intro raws hr
  refine truths_spec (row := row) (rm rem) hC hz (by first | exact hr | exact mp hr) fun dt H₁ kT T x₁ ndt hdt hT hTv => ?_
  dsimp only
  have k₁ := hK.keep x₁
  have c₁ := hC.keep x₁
  have m0 : updL (binding [(Str.ofString "kept", Value.ref K.c), (Str.ofString "circuit", Value.ref A.c), (Str.ofString "asked", Value.ref al), (Str.ofString "row", .int row tk)]) (Str.ofString "truths") (.ref dt) (Str.ofString "kept") = some (.ref K.c) := rfl
  have m1 : updL (binding [(Str.ofString "kept", Value.ref K.c), (Str.ofString "circuit", Value.ref A.c), (Str.ofString "asked", Value.ref al), (Str.ofString "row", .int row tk)]) (Str.ofString "truths") (.ref dt) (Str.ofString "circuit") = some (.ref A.c) := rfl
  have m2 : updL (binding [(Str.ofString "kept", Value.ref K.c), (Str.ofString "circuit", Value.ref A.c), (Str.ofString "asked", Value.ref al), (Str.ofString "row", .int row tk)]) (Str.ofString "truths") (.ref dt) (Str.ofString "asked") = some (.ref al) := rfl
  have m3 : updL (binding [(Str.ofString "kept", Value.ref K.c), (Str.ofString "circuit", Value.ref A.c), (Str.ofString "asked", Value.ref al), (Str.ofString "row", .int row tk)]) (Str.ofString "truths") (.ref dt) (Str.ofString "truths") = some (.ref dt) := rfl
  generalize updL (binding [(Str.ofString "kept", Value.ref K.c), (Str.ofString "circuit", Value.ref A.c), (Str.ofString "asked", Value.ref al), (Str.ofString "row", .int row tk)]) (Str.ofString "truths") (.ref dt) = mm at m0 m1 m2 m3
  -- own
  generalize hbs : S.vars.map (fun v => T v.natAbs) = bs
  have bl : bs.length = S.vars.length := by rw [← hbs, List.length_map]
  refine JS.cons (JS.assignC (JV.callN (JV.nameB (by show nsIn (Mine.heap _) _ _ = _; k_is) (by boot_by_name) (⟨by exact trivial, JL.cons (JV.comp [Str.ofString "truths", Str.ofString "kept"] (JV.callN (JV.nameB (by show nsIn (Mine.heap _) _ _ = _; k_is) (by boot_by_name) (⟨by exact trivial, JL.cons (JV.cint (JL.cons (JV.add (JV.meth0 (JV.nameC m0 ⟨K.c, 114, clM K A whole, 57, rfl, k₁.io, k_many _, rfl, many_spec (rm rem) k₁ (lb vl) rfl (JV.cint ⟨_, 1, rfl, rfl, JL.nil ?_⟩)⟩)))))⟩))))⟩))))
  intro raws hr
  obtain ⟨r1, r3, rfl, e1, e3⟩ := args2 hr
  refine JV.range2 e1 e3 fun r t u w hrn => ⟨r, rfl, _, rangeVals 1 S.vars.length, _, fun i H' acc => H' r = some (.raw (rangeObj 1 ((S.vars.length : Int) + 1) t u w)) ∧ Ext [] H₁ H' ∧ ∃ as : List Addr, acc = as.map .ref ∧ as.length = i ∧ ∀ (j : Nat) (a : Addr), as[j]? = some a → ∃ b, bs[j]? = some b ∧ H' a = some (.tup [I ((1 + j : Nat) : Int), .bool b]),
    Src.range (a := 1) (b := (S.vars.length : Int) + 1) (n := S.vars.length) (t := t) (u := u) (v := w) r1n (by decide) (by decide) r1lo (r1hi vl), rvl (lw vl), ⟨upd_self _ _ _, Ext.refl.fresh hrn, [], rfl, rfl, by simp⟩, fun i H' acc hh => hh.1, ?_, ?_⟩
  · rintro i v H₂ acc hv ⟨hr₂, x₂, as, rfl, al₂, at₂⟩ Cc Bc rv hrv
    obtain ⟨hi, rfl⟩ := range1_at hv
    have hvi : S.vars[i]? = some S.vars[i] := List.getElem?_eq_getElem hi
    have hvb := hI.vars S.vars[i] (List.getElem_mem hi)
    refine JU.nameL ⟨mcap_updL rfl, JB.tests0 (iteT ?_)⟩
    rw [hrv]
    refine JV.tupE (JL.cons (JV.nameL updL_same (JL.cons (JV.itemI (JV.nameC (updL_k rfl m3) (JV.methN (JV.nameC (updL_k rfl m0) ⟨K.c, 114, clM K A whole, 71, rfl, (k₁.keep x₂).io, k_gate_of _, rfl, JL.cons (JV.nameL updL_same (JL.nil ?_))⟩)))))))
    intro raws hr
    refine gate_of_spec (n := i) (g := S.vars[i]) (rm rem) (k₁.keep x₂) (lb vl) hvi (by first | exact hr | exact mp hr) ?_
    have hkT := hTv S.vars[i].natAbs (var_abs hvb).1 (var_abs hvb).2
    refine ⟨dt, kT, ((S.vars[i].natAbs : Nat) : Int), _, rfl, congrArg I (var_int hvb), x₂ _ _ hdt (by simp), hkT, JL.nil ⟨by show 2 ≤ sizeLine; decide, fun a ha => ⟨?_, x₂.fresh ha, as ++ [a], by simp, by simp [al₂], fun j b hj => ?_⟩⟩⟩
    · rw [upd_ne _ _ (ne_new hr₂ ha)]; exact hr₂
    · have hbi : bs[i]? = some (T S.vars[i].natAbs) := by rw [← hbs]; simp [hi]
      rcases get_push hj with ⟨hj', hj⟩ | ⟨hj', rfl⟩
      · obtain ⟨b', q1, q2⟩ := at₂ j b hj
        exact ⟨b', q1, by rw [upd_ne _ _ (ne_new q2 ha)]; exact q2⟩
      · rw [hj', al₂]
        refine ⟨_, hbi, ?_⟩
        rw [upd_self, one_cast]
  rintro H₂ acc ⟨hr₂, x₂, as, rfl, al₂, at₂⟩ l hl
  have al₂' : as.length = (tabFrom 1 bs).length := by rw [al₂, tab_len, bl]; simp [rangeVals]
  refine JL.nil ?_
  intro raws hr
  obtain ⟨r1, rfl, e1⟩ := args1 hr
  obtain rfl := nz_ref e1
  refine JV.dictOf (ps := tabFrom 1 bs) (upd_self _ _ _) al₂' (by rw [tab_len, bl]; exact lw vl) (fun j a p hj hp => ?_) fun o ho => ?_
  · obtain ⟨b, q1, q2⟩ := at₂ j a hj
    rw [tab_get, q1] at hp
    obtain rfl := Option.some.inj hp
    rw [upd_ne _ _ (ne_new q2 hl)]; exact q2
  rw [merged_nil_of_nodup _ (tab_nodup bs 1)]
  dsimp only
  have x₃ : Ext [] H₁ (upd (upd H₂ l (.list (as.map .ref))) o (.idict (tabFrom 1 bs))) := (x₂.fresh hl).fresh ho
  have no₁ : H₁ o = none := fresh_of (W := []) (x₂.fresh hl) (by simp) ho
  have d₃ : (upd (upd H₂ l (.list (as.map .ref))) o (.idict (tabFrom 1 bs))) o = some (.idict (tabFrom 1 bs)) := upd_self _ _ _
  generalize upd (upd H₂ l (.list (as.map .ref))) o (.idict (tabFrom 1 bs)) = H₃ at x₃ d₃
  refine JS.freeze d₃ fun ob ks ep hob hks => ?_
  have x₄ : Ext [] H₁ (upd H₃ o (.raw ob)) := x₃.own no₁
  have d₄ : (upd H₃ o (.raw ob)) o = some (.raw ob) := upd_self _ _ _
  generalize upd H₃ o (.raw ob) = H₄ at x₄ d₄
  have n0 : updL mm (Str.ofString "own") (.ref o) (Str.ofString "kept") = some (.ref K.c) := updL_k rfl m0
  have n1 : updL mm (Str.ofString "own") (.ref o) (Str.ofString "circuit") = some (.ref A.c) := updL_k rfl m1
  have n2 : updL mm (Str.ofString "own") (.ref o) (Str.ofString "asked") = some (.ref al) := updL_k rfl m2
  have n3 : updL mm (Str.ofString "own") (.ref o) (Str.ofString "truths") = some (.ref dt) := updL_k rfl m3
  have n4 : updL mm (Str.ofString "own") (.ref o) (Str.ofString "own") = some (.ref o) := updL_same
  generalize updL mm (Str.ofString "own") (.ref o) = mo at n0 n1 n2 n3 n4
  have k₄ := k₁.keep x₄
  have c₄ := c₁.keep x₄
  have hown : ∀ j : Nat, j < S.vars.length → valueAt (ks.map fun p => (p.1, nz p.2)) ((j : Int) + 1) = some (.bool (ownOf T S.vars ((j : Int) + 1))) := fun j hj => by
    rw [hks]
    have hb : bs[j]? = some (ownOf T S.vars ((j : Int) + 1)) := by
      rw [ownOf_at (List.getElem?_eq_getElem hj), ← hbs]; simp [hj]
    have := tabFrom_at bs 1 j _ hb
    rw [one_cast] at this
    exact this
  -- the clauses
  refine JS.cons (JS.forE (JV.attr (JV.nameC n0 ⟨K.c, 114, clM K A whole, .ref K.cl, rfl, k₄.io, k_clauses _, rfl, trivial, K.cl, rfl, _, S.tups.map .ref, _, fun i H' m' => Ext [] H₄ H' ∧ m' (Str.ofString "kept") = some (.ref K.c) ∧ m' (Str.ofString "circuit") = some (.ref A.c) ∧ m' (Str.ofString "asked") = some (.ref al) ∧ m' (Str.ofString "truths") = some (.ref dt) ∧ m' (Str.ofString "own") = some (.ref o),
    Src.list, ⟨Ext.refl, n0, n1, n2, n3, n4⟩, fun i H' m' hh => hh.1 _ _ k₄.clauses (by simp), ?_, ?_⟩)))
  · rintro i v H₅ m₅ hv ⟨x₅, p0, p1, p2, p3, p4⟩ B' rv hrv
    rw [List.getElem?_map] at hv
    obtain ⟨tc, htc, rfl⟩ := Option.map_eq_some_iff.mp hv
    obtain ⟨c, hc, hct⟩ := k₄.tups i tc htc
    have hcm : c ∈ S.clauses := List.mem_of_getElem? hc
    have snd := hI.sound c hcm
    have t₅ := x₅ _ _ hct (by simp)
    refine JU.nameL ?_
    rw [hrv]
    have q0 : updL m₅ (Str.ofString "clause") (.ref tc) (Str.ofString "kept") = some (.ref K.c) := updL_k rfl p0
    have q1 : updL m₅ (Str.ofString "clause") (.ref tc) (Str.ofString "circuit") = some (.ref A.c) := updL_k rfl p1
    have q2 : updL m₅ (Str.ofString "clause") (.ref tc) (Str.ofString "asked") = some (.ref al) := updL_k rfl p2
    have q3 : updL m₅ (Str.ofString "clause") (.ref tc) (Str.ofString "truths") = some (.ref dt) := updL_k rfl p3
    have q4 : updL m₅ (Str.ofString "clause") (.ref tc) (Str.ofString "own") = some (.ref o) := updL_k rfl p4
    have q5 : updL m₅ (Str.ofString "clause") (.ref tc) (Str.ofString "clause") = some (.ref tc) := updL_same
    generalize updL m₅ (Str.ofString "clause") (.ref tc) = m₆ at q0 q1 q2 q3 q4 q5
    have clen : c.length ≤ 2 * S.vars.length := pigeonS snd.1 fun l hl => by
      obtain ⟨j, v, hj, e⟩ := snd.2.1 l hl
      have := (List.getElem?_eq_some_iff.mp hj).1
      exact lit_abs e this
    refine JS.cons (JS.ite (JB.cmpOk (JV.comp [Str.ofString "own"] (JV.nameL q5 ⟨tc, rfl, _, c.map I, _, fun j H' acc => H' = H₅ ∧ acc = ((c.take j).filter fun l => ownOf T S.vars (l.natAbs : Int) == decide (0 < l)).map I, Src.tup, by rw [List.length_map]; exact lw (Nat.le_trans clen (Nat.mul_le_mul_left 2 vl)), ⟨rfl, rfl⟩, ?_, ?_, ?_⟩))))
    · rintro j H' acc ⟨rfl, _⟩; exact t₅
    · rintro j v H₆ acc hv ⟨rfl, rfl⟩ Cc Bc rv hrv
      rw [List.getElem?_map] at hv
      obtain ⟨p, hp, rfl⟩ := Option.map_eq_some_iff.mp hv
      have htake : c.take (j + 1) = c.take j ++ [p] := by rw [List.take_add_one, hp]; rfl
      obtain ⟨i', v', hi', epp⟩ := snd.2.1 p (List.mem_of_getElem? hp)
      have hpa : (p.natAbs : Int) = (i' : Int) + 1 := lit_abs1 epp
      refine JU.nameL ⟨mcap_updL rfl, ?_⟩
      rw [hrv]
      refine JB.tests1 (JB.cmpOk (JV.itemR (JV.nameC (updL_k rfl q4) (JV.callN (JV.nameB (by show nsIn (Mine.heap _) _ _ = _; k_is) (by boot_by_name) (⟨by exact trivial, JL.cons (JV.nameL updL_same (JL.nil ?_))⟩))))))
      intro raws hr
      obtain ⟨r1, rfl, e1⟩ := args1 hr
      refine JV.abs e1 ⟨o, ob, ks, ep, p.natAbs, _, rfl, rfl, x₅ _ _ d₄ (by simp), hob, by rw [hpa]; exact hown i' (List.getElem?_eq_some_iff.mp hi').1, JV.cmpOk (JV.nameL updL_same (JV.cint ⟨_, CmpOk.gtI, _, CmpOk.eqB, ?_⟩))⟩
      rw [← hpa]
      have eflt : ∀ b, (ownOf T S.vars (p.natAbs : Int) == decide (0 < p)) = b → ((c.take (j + 1)).filter fun l => ownOf T S.vars (l.natAbs : Int) == decide (0 < l)).map I = ((c.take j).filter fun l => ownOf T S.vars (l.natAbs : Int) == decide (0 < l)).map I ++ (if b then [I p] else []) := fun b q => by
        rw [htake, List.filter_append, List.map_append]; cases b <;> simp [q]
      cases q : (ownOf T S.vars (p.natAbs : Int) == decide (0 < p)) with
      | true => exact iteT (JV.nameL updL_same ⟨rfl, by rw [eflt _ q]; rfl⟩)
      | false => exact iteF ⟨rfl, by rw [eflt _ q]; simp⟩
    · rintro H₆ acc ⟨rfl, rfl⟩ D hD
      rw [List.length_map, List.take_length]
      obtain ⟨l₀, hl₀, h1₀, tl₀⟩ := snd.tells hT
      have hleft : l₀ ∈ c.filter fun l => ownOf T S.vars (l.natAbs : Int) == decide (0 < l) := List.mem_filter.mpr ⟨hl₀, by rw [tl₀]; simp⟩
      generalize (c.filter fun l => ownOf T S.vars (l.natAbs : Int) == decide (0 < l)) = left at hleft
      refine JV.listE (JL.nil ⟨Nat.zero_le _, fun D₂ hD₂ => ⟨_, CmpOk.eqNil (vs := left.map I) ?_ (upd_self _ _ _) (rm rem), ?_⟩⟩)
      · rw [upd_ne _ _ (by rintro rfl; rw [upd_self] at hD₂; cases hD₂), upd_self]
      have hne : (left.map I).isEmpty = false := by
        cases left with
        | nil => cases hleft
        | cons _ _ => rfl
      rw [hne]
      exact iteF (JS.nil (JS.nil ⟨(x₅.fresh hD).fresh hD₂, q0, q1, q2, q3, q4⟩))
  rintro H₅ m₅ ⟨x₅, p0, p1, p2, p3, p4⟩
  dsimp only
  have k₅ := k₄.keep x₅
  have c₅ := c₄.keep x₅
  have d₅ := x₅ _ _ d₄ (by simp)
  -- known
  have hkeys : ks.map (fun p => I p.1) = (tabFrom 1 bs).map fun p => I p.1 := by rw [← hks, List.map_map]; rfl
  have klen : ks.length = S.vars.length := by
    have := congrArg List.length hks
    rw [List.length_map, tab_len] at this
    rw [this, bl]
  refine JS.cons (JS.assignL (JV.callN (JV.nameB (by show nsIn (Mine.heap _) _ _ = _; k_is) (by boot_by_name) (⟨by exact trivial, JL.cons (JV.comp [Str.ofString "own", Str.ofString "kept", Str.ofString "circuit"] (JV.nameC p4 ⟨o, rfl, _, ks.map (fun p => I p.1), _, fun i H' acc => Ext [] H₅ H' ∧ ∃ as : List Addr, acc = as.map .ref ∧ as.length = (knownOf C S.vars ((tabFrom 1 bs).take i)).length ∧ ∀ (j : Nat) (a : Addr) (p : Int × Value), as[j]? = some a → (knownOf C S.vars ((tabFrom 1 bs).take i))[j]? = some p → H' a = some (.tup [I p.1, p.2]), Src.keys hob, by rw [List.length_map, klen]; exact lw vl, ⟨Ext.refl, [], rfl, rfl, by simp⟩, fun i H' acc hh => hh.1 _ _ d₅ (by simp), ?_, ?_⟩))⟩))))
  · rintro i v H₆ acc hv ⟨x₆, as, rfl, al₆, at₆⟩ Cc Bc rv hrv
    have hi : i < S.vars.length := by have := (List.getElem?_eq_some_iff.mp hv).1; rw [List.length_map, klen] at this; exact this
    have hib : i < bs.length := by rw [bl]; exact hi
    have htab : (tabFrom 1 bs)[i]? = some ((i : Int) + 1, .bool bs[i]) := by
      rw [tab_get, List.getElem?_eq_getElem hib]
      show some (((1 + i : Nat) : Int), Value.bool bs[i]) = _
      rw [one_cast]
    have hv' : v = I ((i : Int) + 1) := by
      rw [hkeys, List.getElem?_map, htab] at hv
      exact (Option.some.inj hv).symm
    subst hv'
    have hvi : S.vars[i]? = some S.vars[i] := List.getElem?_eq_getElem hi
    have hvb := hI.vars S.vars[i] (List.getElem_mem hi)
    have htake : (tabFrom 1 bs).take (i + 1) = (tabFrom 1 bs).take i ++ [((i : Int) + 1, .bool bs[i])] := by rw [List.take_add_one, htab]; rfl
    have hgd : S.vars.getD (((i : Int) + 1).toNat - 1) 0 = S.vars[i] := by
      rw [one_pred]; simp [List.getD_eq_getElem?_getD, hvi]
    have hflt : ∀ b, inpAt C S.vars[i] = b → knownOf C S.vars ((tabFrom 1 bs).take (i + 1)) = knownOf C S.vars ((tabFrom 1 bs).take i) ++ (if b then [((i : Int) + 1, .bool bs[i])] else []) := fun b q => by
      unfold knownOf
      rw [htake, List.filter_append]
      congr 1
      rw [List.filter_cons, List.filter_nil]
      dsimp only
      rw [hgd, q]
    obtain ⟨kv, hkv⟩ : ∃ kv, (kindsOf C)[S.vars[i].natAbs]? = some kv := ⟨_, List.getElem?_eq_getElem (l := kindsOf C) (i := S.vars[i].natAbs) (by rw [kindsOf_len]; exact Nat.lt_succ_of_le (var_abs hvb).2)⟩
    refine JU.nameL ⟨mcap_updL rfl, ?_⟩
    rw [hrv]
    refine JB.tests1 (JB.cmpOk (JV.methN (JV.nameC (updL_k rfl p1) ⟨A.c, 224, circM A, 146, rfl, (c₅.keep x₆).io, k_kind _, rfl, JL.cons (JV.methN (JV.nameC (updL_k rfl p0) ⟨K.c, 114, clM K A whole, 71, rfl, (k₅.keep x₆).io, k_gate_of _, rfl, JL.cons (JV.nameL updL_same (JL.nil ?_))⟩))⟩)))
    intro raws hr
    refine gate_of_spec (n := i) (g := S.vars[i]) (rm rem) (k₅.keep x₆) (lb vl) hvi (by first | exact hr | exact mp hr) (JL.nil ?_)
    intro raws hr
    refine kind_spec (g := S.vars[i]) (v := kv) (rm rem) (c₅.keep x₆) hkv (lb (Nat.le_of_lt hz)) (by first | exact hr | exact mp hr) (JV.cstr ⟨_, kind_inp hkv (var_abs hvb).1 (var_abs hvb).2, ?_⟩)
    cases q : inpAt C S.vars[i] with
    | false =>
      refine iteF ⟨x₆, as, rfl, ?_⟩
      rw [hflt _ q]
      simp only [Bool.false_eq_true, if_false, List.append_nil]
      exact ⟨al₆, at₆⟩
    | true =>
      refine iteT (JV.tupE (JL.cons (JV.nameL updL_same (JL.cons (JV.itemR (JV.nameC (updL_k rfl p4) (JV.nameL updL_same ⟨o, ob, ks, ep, (i : Int) + 1, _, rfl, rfl, x₆ _ _ d₅ (by simp), hob, hown i hi, JL.nil ⟨by show 2 ≤ sizeLine; decide, fun a ha => ⟨x₆.fresh ha, as ++ [a], by simp, ?_, fun j b p hj hp => ?_⟩⟩⟩)))))))
      · rw [hflt _ q]; simp [al₆]
      · rw [hflt _ q, if_pos rfl] at hp
        rcases get_push hj with ⟨hj', hj⟩ | ⟨hj', rfl⟩
        · rw [List.getElem?_append_left (al₆ ▸ hj')] at hp
          have := at₆ j b p hj hp
          rw [upd_ne _ _ (ne_new this ha)]; exact this
        · rw [hj', al₆, List.getElem?_concat_length] at hp
          obtain rfl := Option.some.inj hp
          rw [upd_self, ownOf_at hvi]
          simp [← hbs]
  rintro H₆ acc ⟨x₆, as, rfl, al₆, at₆⟩ l₆ hl₆
  have etake : (tabFrom 1 bs).take (ks.map fun p => I p.1).length = tabFrom 1 bs := List.take_of_length_le (by rw [List.length_map, klen, tab_len, bl]; exact Nat.le_refl _)
  rw [etake] at al₆ at₆
  generalize hkn : knownOf C S.vars (tabFrom 1 bs) = kn at al₆ at₆
  have hsub : kn.Sublist (tabFrom 1 bs) := by rw [← hkn]; exact List.filter_sublist
  have knk : KeysIn kn S.vars.length := by
    refine ⟨(hsub.map _).nodup (tab_nodup bs 1), fun k hk => ?_⟩
    have := tabFrom_keys bs 1 k ((hsub.map _).subset hk)
    rw [bl] at this
    exact key_rng this
  have kna : Agree (ownOf T S.vars) kn := fun k v e => by
    unfold valueAt at e
    obtain ⟨p, hp, rfl⟩ := Option.map_eq_some_iff.mp e
    have hpk : p.1 = k := by simpa using List.find?_some hp
    have hpm := hsub.subset (List.mem_of_find?_eq_some hp)
    obtain ⟨j, hj⟩ := List.mem_iff_getElem?.mp hpm
    rw [tab_get] at hj
    obtain ⟨b, hb, rfl⟩ := Option.map_eq_some_iff.mp hj
    have hjl := (List.getElem?_eq_some_iff.mp hb).1
    rw [bl] at hjl
    dsimp only at hpk ⊢
    rw [← hpk, one_cast, ownOf_at (List.getElem?_eq_getElem hjl)]
    rw [← hbs] at hb
    simp [hjl] at hb
    rw [hb]
  have hkl := knk.len
  refine JL.nil ?_
  intro raws hr
  obtain ⟨r1, rfl, e1⟩ := args1 hr
  obtain rfl := nz_ref e1
  refine JV.dictOf (ps := kn) (upd_self _ _ _) al₆ (lw (Nat.le_trans hkl vl)) (fun j a p hj hp => ?_) fun dk hdk => ?_
  · have := at₆ j a p hj hp
    rw [upd_ne _ _ (ne_new this hl₆)]; exact this
  rw [merged_nil_of_nodup _ knk.1]
  dsimp only
  have x₇ : Ext [] H₅ (upd (upd H₆ l₆ (.list (as.map .ref))) dk (.idict kn)) := (x₆.fresh hl₆).fresh hdk
  have d₇ : (upd (upd H₆ l₆ (.list (as.map .ref))) dk (.idict kn)) dk = some (.idict kn) := upd_self _ _ _
  generalize upd (upd H₆ l₆ (.list (as.map .ref))) dk (.idict kn) = H₇ at x₇ d₇
  have u0 : updL m₅ (Str.ofString "known") (.ref dk) (Str.ofString "kept") = some (.ref K.c) := updL_k rfl p0
  have u2 : updL m₅ (Str.ofString "known") (.ref dk) (Str.ofString "asked") = some (.ref al) := updL_k rfl p2
  have u3 : updL m₅ (Str.ofString "known") (.ref dk) (Str.ofString "truths") = some (.ref dt) := updL_k rfl p3
  have u4 : updL m₅ (Str.ofString "known") (.ref dk) (Str.ofString "known") = some (.ref dk) := updL_same
  generalize updL m₅ (Str.ofString "known") (.ref dk) = m₇ at u0 u2 u3 u4
  have k₇ := k₅.keep x₇
  -- found
  refine JS.cons (JS.assignL (JV.callN (JV.nameG (by show nsIn (Mine.heap _) _ _ = _; k_is) (⟨by show keepIn (Mine.heap _) _ = _; k_is, JL.cons (JV.attr (JV.nameC u0 ⟨K.c, 114, clM K A whole, .ref K.cl, rfl, k₇.io, k_clauses _, rfl, trivial, JL.cons (JV.nameL u4 (JL.nil ?_))⟩))⟩))))
  intro raws hr
  have hcl := room.clauses
  refine forced_spec (cl := K.cl) (d := dk) (tups := S.tups) (clauses := S.clauses) (kvs := kn) (own := ownOf T S.vars) (N := S.vars.length) (rm rem) ⟨k₇.clauses, k₇.tups, d₇⟩ hI.tups (lb vl) (by rw [hI.tups]; exact lb (Nat.le_trans (Nat.le_add_right _ 8) (Nat.le_of_lt hcl))) knk kna (fun c hc => ?_) (by first | exact hr | exact mp hr) fun f H₈ fs x₈ nf₈ f₈ a₈ s₈ sh₈ => ?_
  · have snd := hI.sound c hc
    obtain ⟨l₀, hl₀, h1₀, tl₀⟩ := snd.tells hT
    have hb : ∀ l ∈ c, 1 ≤ l.natAbs ∧ l.natAbs ≤ S.vars.length := fun l hl => by
      obtain ⟨j, v, hj, e⟩ := snd.2.1 l hl
      have := (List.getElem?_eq_some_iff.mp hj).1
      exact lit_abs e this
    have := pigeonS snd.1 hb
    exact ⟨lw (Nat.le_trans this (Nat.mul_le_mul_left 2 vl)), hb, l₀, hl₀, tl₀⟩
  dsimp only
  have full : ∀ (s : Int), s ∈ S.opened → gl T s = false → ∀ n : Nat, S.vars[n]? = some (s.natAbs : Int) → (valueAt fs ((n : Int) + 1)).isSome = true := fun s =>
    complete hC.wf hI hw hT a₈ sh₈ (fun n k hn hk => s₈ _ (by
      have hnl := (List.getElem?_eq_some_iff.mp hn).1
      rw [valueAt_some, decide_eq_true_eq, ← hkn]
      unfold knownOf
      have hnb : n < bs.length := by rw [bl]; exact hnl
      have hbn : bs[n]? = some (bs[n]'hnb) := List.getElem?_eq_getElem hnb
      refine List.mem_map.mpr ⟨((n : Int) + 1, .bool (bs[n]'hnb)), List.mem_filter.mpr ⟨?_, ?_⟩, rfl⟩
      · refine List.mem_of_getElem? (i := n) ?_
        rw [tab_get, hbn]
        show some (((1 + n : Nat) : Int), Value.bool _) = _
        rw [one_cast]
      · dsimp only
        rw [one_pred, List.getD_eq_getElem?_getD, hn]
        show inpAt C ((k + 2 : Nat) : Int) = true
        unfold inpAt
        rw [Int.natAbs_natCast]
        dsimp only
        rw [hk]; rfl)) s.natAbs s (Nat.le_refl _)
  have v0 : updL m₇ (Str.ofString "found") (.ref f) (Str.ofString "kept") = some (.ref K.c) := updL_k rfl u0
  have v2 : updL m₇ (Str.ofString "found") (.ref f) (Str.ofString "asked") = some (.ref al) := updL_k rfl u2
  have v3 : updL m₇ (Str.ofString "found") (.ref f) (Str.ofString "truths") = some (.ref dt) := updL_k rfl u3
  have v4 : updL m₇ (Str.ofString "found") (.ref f) (Str.ofString "found") = some (.ref f) := updL_same
  generalize updL m₇ (Str.ofString "found") (.ref f) = m₈ at v0 v2 v3 v4
  refine JS.cons (JS.ite (JB.cmpOk (JV.nameL v4 (JV.cnone ⟨_, CmpOk.isN, ?_⟩))))
  refine iteF (JS.nil ?_)
  have x08 : Ext [] H H₈ := (((x₁.trans x₄).trans x₅).trans x₇).trans x₈
  obtain ⟨ats, hal, hatl, hat⟩ := hq.keep x08
  have hdt₈ : H₈ dt = some (.idict kT) := (((x₄.trans x₅).trans x₇).trans x₈) _ _ hdt (by simp)
  have k₈ := k₇.keep x₈
  refine JS.cons (JS.forE (JV.nameL v2 ⟨al, rfl, _, ats.map .ref, _, fun i H' m' => Ext [] H₈ H' ∧ m' (Str.ofString "kept") = some (.ref K.c) ∧ m' (Str.ofString "truths") = some (.ref dt) ∧ m' (Str.ofString "found") = some (.ref f),
    Src.list, ⟨Ext.refl, v0, v3, v4⟩, fun i H' m' hh => hh.1 _ _ hal (by simp), ?_, ?_⟩))
  · rintro i v H₉ m₉ hv ⟨x₉, w0, w3, w4⟩ B' rv hrv
    rw [List.getElem?_map] at hv
    obtain ⟨ta, hta, rfl⟩ := Option.map_eq_some_iff.mp hv
    obtain ⟨⟨g, lt⟩, hqi, htt⟩ := hat i ta hta
    obtain ⟨ho, hlit⟩ := hqs _ (List.mem_of_getElem? hqi)
    dsimp only at ho hlit htt
    have hgl := (hI.op g ho).1
    refine JU.pair Stores.l Stores.l hrv (x₉ _ _ htt (by simp)) ?_
    have z0 : updL (updL m₉ (Str.ofString "gate") (I g)) (Str.ofString "literal") (I lt) (Str.ofString "kept") = some (.ref K.c) := updL_k rfl (updL_k rfl w0)
    have z3 : updL (updL m₉ (Str.ofString "gate") (I g)) (Str.ofString "literal") (I lt) (Str.ofString "truths") = some (.ref dt) := updL_k rfl (updL_k rfl w3)
    have z4 : updL (updL m₉ (Str.ofString "gate") (I g)) (Str.ofString "literal") (I lt) (Str.ofString "found") = some (.ref f) := updL_k rfl (updL_k rfl w4)
    have z5 : updL (updL m₉ (Str.ofString "gate") (I g)) (Str.ofString "literal") (I lt) (Str.ofString "gate") = some (I g) := updL_k rfl updL_same
    have z6 : updL (updL m₉ (Str.ofString "gate") (I g)) (Str.ofString "literal") (I lt) (Str.ofString "literal") = some (I lt) := updL_same
    generalize updL (updL m₉ (Str.ofString "gate") (I g)) (Str.ofString "literal") (I lt) = ma at z0 z3 z4 z5 z6
    have hdt₉ := x₉ _ _ hdt₈ (by simp)
    have f₉ := x₉ _ _ f₈ (by simp)
    have k₉ := k₈.keep x₉
    refine JS.cons (JS.assignL (JV.cmpOk (JV.itemI (JV.nameC z3 (JV.callN (JV.nameB (by show nsIn (Mine.heap _) _ _ = _; k_is) (by boot_by_name) (⟨by exact trivial, JL.cons (JV.nameL z5 (JL.nil ?_))⟩)))))))
    intro raws hr
    obtain ⟨r1, rfl, e1⟩ := args1 hr
    refine JV.abs e1 ⟨dt, kT, g.natAbs, .bool (T g.natAbs), rfl, rfl, hdt₉, hTv g.natAbs hgl.1 hgl.2, JV.cmpOk (JV.nameL z5 (JV.cint ⟨_, CmpOk.gtI, _, CmpOk.eqB, ?_⟩))⟩
    dsimp only
    have egl : (T g.natAbs == decide (0 < g)) = gl T g := rfl
    rw [egl]
    have y0 : updL ma (Str.ofString "is_due") (.bool (gl T g)) (Str.ofString "kept") = some (.ref K.c) := updL_k rfl z0
    have y3 : updL ma (Str.ofString "is_due") (.bool (gl T g)) (Str.ofString "truths") = some (.ref dt) := updL_k rfl z3
    have y4 : updL ma (Str.ofString "is_due") (.bool (gl T g)) (Str.ofString "found") = some (.ref f) := updL_k rfl z4
    have y6 : updL ma (Str.ofString "is_due") (.bool (gl T g)) (Str.ofString "literal") = some (I lt) := updL_k rfl z6
    have y7 : updL ma (Str.ofString "is_due") (.bool (gl T g)) (Str.ofString "is_due") = some (.bool (gl T g)) := updL_same
    generalize updL ma (Str.ofString "is_due") (.bool (gl T g)) = mb at y0 y3 y4 y6 y7
    refine JS.cons (JS.assignL (JV.getE (JV.nameL y4 ⟨f, fs, rfl, f₉, JV.callN (JV.nameB (by show nsIn (Mine.heap _) _ _ = _; k_is) (by boot_by_name) (⟨by exact trivial, JL.cons (JV.nameL y6 (JL.nil ?_))⟩))⟩)))
    intro raws hr
    obtain ⟨r1, rfl, e1⟩ := args1 hr
    refine JV.abs e1 ⟨lt.natAbs, fs, rfl, f₉, ?_⟩
    dsimp only
    obtain ⟨n, hn, hla, hsg⟩ := hlit.abs
    cases hval : valueAt fs (lt.natAbs : Int) with
    | none =>
      have miss : ∀ s : Int, s ∈ S.opened → s.natAbs = g.natAbs → gl T s = true := fun s hs hsn => by
        refine Decidable.byContradiction fun q => ?_
        have := full s hs (by simpa using q) n (by rw [hsn]; exact hn)
        rw [← hla, hval] at this
        cases this
      have hdue := miss g ho rfl
      have hwhole : (whole == 1) = false := by
        rcases hwh with rfl | rfl
        · rfl
        · have hng := hF (by decide) g ho
          have := miss (-g) hng (Int.natAbs_neg g)
          rw [gl_neg (by have := hgl.1; omega), hdue] at this
          cases this
      have b0 : updL mb (Str.ofString "told") .none (Str.ofString "kept") = some (.ref K.c) := updL_k rfl y0
      have b3 : updL mb (Str.ofString "told") .none (Str.ofString "truths") = some (.ref dt) := updL_k rfl y3
      have b4 : updL mb (Str.ofString "told") .none (Str.ofString "found") = some (.ref f) := updL_k rfl y4
      have b7 : updL mb (Str.ofString "told") .none (Str.ofString "is_due") = some (.bool (gl T g)) := updL_k rfl y7
      have b8 : updL mb (Str.ofString "told") .none (Str.ofString "told") = some .none := updL_same
      show JS fx _ _ (updL mb (Str.ofString "told") .none) _ _
      generalize updL mb (Str.ofString "told") .none = mc at b0 b3 b4 b7 b8
      refine JS.cons (JS.ite (JB.cmpOk (JV.nameL b8 (JV.cnone ⟨_, CmpOk.isN, iteT ?_⟩))))
      refine JS.cons (JS.ite (JB.or (JB.not (JB.plain (JV.nameL b7 ⟨_, rfl, ?_⟩)))))
      rw [hdue]
      refine iteF (JB.or1 (JB.cmpOk (JV.attr (JV.nameC b0 ⟨K.c, 114, clM K A whole, I whole, rfl, k₉.io, k_whole _, rfl, trivial, JV.cint ⟨_, CmpOk.eqI, ?_⟩⟩))))
      rw [hwhole]
      exact iteF (JS.nil (JS.nil (JS.nil ⟨x₉, b0, b3, b4⟩)))
    | some v =>
      have hvv := a₈ _ _ hval
      subst hvv
      have e := hlit.gl (T := T)
      have b0 : updL mb (Str.ofString "told") (.bool (ownOf T S.vars lt.natAbs)) (Str.ofString "kept") = some (.ref K.c) := updL_k rfl y0
      have b3 : updL mb (Str.ofString "told") (.bool (ownOf T S.vars lt.natAbs)) (Str.ofString "truths") = some (.ref dt) := updL_k rfl y3
      have b4 : updL mb (Str.ofString "told") (.bool (ownOf T S.vars lt.natAbs)) (Str.ofString "found") = some (.ref f) := updL_k rfl y4
      have b6 : updL mb (Str.ofString "told") (.bool (ownOf T S.vars lt.natAbs)) (Str.ofString "literal") = some (I lt) := updL_k rfl y6
      have b7 : updL mb (Str.ofString "told") (.bool (ownOf T S.vars lt.natAbs)) (Str.ofString "is_due") = some (.bool (gl T g)) := updL_k rfl y7
      have b8 : updL mb (Str.ofString "told") (.bool (ownOf T S.vars lt.natAbs)) (Str.ofString "told") = some (.bool (ownOf T S.vars lt.natAbs)) := updL_same
      show JS fx _ _ (updL mb (Str.ofString "told") (.bool (ownOf T S.vars lt.natAbs))) _ _
      generalize updL mb (Str.ofString "told") (.bool (ownOf T S.vars lt.natAbs)) = mc at b0 b3 b4 b6 b7 b8
      refine JS.cons (JS.ite (JB.cmpOk (JV.nameL b8 (JV.cnone ⟨_, CmpOk.isN, iteF ?_⟩))))
      refine JS.cons (JS.ite (JB.cmpOk (JV.cmpOk (JV.nameL b8 (JV.cmpOk (JV.nameL b6 (JV.cint ⟨_, CmpOk.gtI, _, CmpOk.eqB, JV.nameL b7 ⟨_, CmpOk.neB, ?_⟩⟩)))))))
      have e' : (ownOf T S.vars (lt.natAbs : Int) == decide (0 < lt)) = gl T g := e
      rw [e', show (gl T g != gl T g) = false by cases gl T g <;> rfl]
      exact iteF (JS.nil (JS.nil (JS.nil ⟨x₉, b0, b3, b4⟩)))
  · rintro H₉ m₉ ⟨x₉, w0, w3, w4⟩
    exact JS.cons (JS.ret (JV.cbool (h H₉ (x08.trans x₉))))
end
end Mine
end

section -- FR
open PySem PySem.W PySem.Calls PyProof.Rows PySem.SeqAt
set_option Elab.async false
set_option maxRecDepth 100000
set_option linter.unusedVariables false
namespace Mine
theorem primeFR : (fun (_ : OpenLaw) (_ : Params → Frag) => True) PySem.Challenge.rw_nz0385_01 Mine.heap := by
  k_fill
  trivial

section
variable {fx : FX} {Γ : Amb} {H : OH} {m : Loc} {A : CA} {C : List Gate} {K : KA} {whole : Int} {S : KSt}
set_option maxHeartbeats 16000000

/-- what [kept.gate_of(number) for number in range(1, kept.many() + 1)] goes through -/
def VarsInv (H₁ : OH) (r : Addr) (o : Obj) (vars : List Int) : Nat → OH → List Value → Prop := fun i H' acc => H' r = some (.raw o) ∧ Ext [] H₁ H' ∧ acc = (vars.take i).map I
theorem vars_at {vars : List Int} {i : Nat} {v : Value} (h : (rangeVals 1 vars.length)[i]? = some v) : v = I ((i : Int) + 1) ∧ ∃ g, vars[i]? = some g ∧ (vars.take (i + 1)).map I = (vars.take i).map I ++ [I g] := by
  have hi : i < vars.length := by have := (List.getElem?_eq_some_iff.mp h).1; simpa [rangeVals] using this
  have : (rangeVals 1 vars.length)[i]? = some (I (1 + (i : Int))) := by simp [rangeVals, hi]
  rw [this] at h
  refine ⟨?_, vars[i], List.getElem?_eq_getElem hi, ?_⟩
  · rw [← Option.some.inj h]; congr 1; omega
  · rw [List.take_add_one, List.getElem?_eq_getElem hi, List.map_append]; rfl

theorem is_plain_spec {b tl vl : Addr} {tups₀ : List Addr} {vars₀ : List Int} {raws : List Value} {Q : Value → OH → Prop} (rem : 3 ≤ Γ.rem) (hK : KH H K A whole S) (room : Room S 8) (hsz : S.vars.length < 4000) (hv : ∀ v ∈ S.vars, 1 ≤ v)
    (hb : H b = some (.tup [.ref tl, .ref vl])) (htl : H tl = some (.list (tups₀.map .ref))) (hvl : H vl = some (.list (vars₀.map I))) (ht : ∃ D, S.tups = tups₀ ++ D) (hvs : ∃ D, S.vars = vars₀ ++ D)
    (hr : raws.map nz = [.ref K.c, .ref b]) (h : ∀ H', Ext [] H H' → Q (.bool true) H') : JV fx Γ H m (call (.ref 267) raws) Q := by
  obtain ⟨r1, r2, rfl, e1, e2⟩ := args2 hr
  obtain rfl := nz_ref e1
  obtain rfl := nz_ref e2
  have zl : sizeLine = 2 ^ 24 := rfl
  have rv := room.vars
  have rt := room.clauses
  have rtt := room.tups
  obtain ⟨D₁, hD₁⟩ := ht
  obtain ⟨D₂, hD₂⟩ := hvs
  have tl1 : tups₀.length ≤ S.tups.length := by rw [hD₁, List.length_append]; omega
  have vl1 : vars₀.length ≤ S.vars.length := by rw [hD₂, List.length_append]; omega
  refine' JV.fnC (fx := fx) (binds := [(Str.ofString "kept", .ref K.c), (Str.ofString "before", .ref b)]) ?ho ?hcd ?hrem ?hbind ?hkind ?hloc ?hnc ?hnd ?h ?h1 ?h2 ?h3
  case ho => show List.lookup _ (Mine.heap _) = _; k_is
  case hcd => show codeIn (Mine.heap _) _ _ = _; k_is
  case hrem => first | omega | (dsimp only; omega)
  case hbind => rfl
  case hkind => rfl
  case hloc => exact locC rfl
  case hnc => exact nloc rfl
  case hnd => exact (by decide : [Str.ofString "kept", Str.ofString "before"].Nodup)
  case h1 => rfl
  case h2 => rfl
  case h3 => rfl
  intro A' L B
  refine JS.cons (JS.assign2 Stores.l Stores.l (by decide) (JV.nameL rfl ⟨b, .ref tl, .ref vl, rfl, hb, ?_⟩) (by first | exact .inl rfl | exact .inr rfl))
  dsimp only
  have m0 : updL (updL (binding [(Str.ofString "kept", Value.ref K.c), (Str.ofString "before", Value.ref b)]) (Str.ofString "told") (.ref tl)) (Str.ofString "variables") (.ref vl) (Str.ofString "kept") = some (.ref K.c) := rfl
  have m1 : updL (updL (binding [(Str.ofString "kept", Value.ref K.c), (Str.ofString "before", Value.ref b)]) (Str.ofString "told") (.ref tl)) (Str.ofString "variables") (.ref vl) (Str.ofString "told") = some (.ref tl) := rfl
  have m2 : updL (updL (binding [(Str.ofString "kept", Value.ref K.c), (Str.ofString "before", Value.ref b)]) (Str.ofString "told") (.ref tl)) (Str.ofString "variables") (.ref vl) (Str.ofString "variables") = some (.ref vl) := rfl
  generalize updL (updL (binding [(Str.ofString "kept", Value.ref K.c), (Str.ofString "before", Value.ref b)]) (Str.ofString "told") (.ref tl)) (Str.ofString "variables") (.ref vl) = mm at m0 m1 m2
  refine JS.cons (JS.assignComp [Str.ofString "kept"] (JV.callN (JV.nameB (by show nsIn (Mine.heap _) _ _ = _; k_is) (by boot_by_name) (⟨by exact trivial, JL.cons (JV.cint (JL.cons (JV.add (JV.meth0 (JV.nameC m0 ⟨K.c, 114, clM K A whole, 57, rfl, hK.io, k_many _, rfl, many_spec (rm rem) hK (by omega) rfl (JV.cint ⟨_, 1, rfl, rfl, JL.nil ?_⟩)⟩)))))⟩))) (fun B H₂ m₂ v => JU.nameL ⟨rfl, rfl⟩))
  intro raws hr
  obtain ⟨r1, r3, rfl, e1, e3⟩ := args2 hr
  refine JV.range2 e1 e3 fun r t u w hrn => ⟨r, rfl, _, rangeVals 1 S.vars.length, _, VarsInv H r (rangeObj 1 ((S.vars.length : Int) + 1) t u w) S.vars,
    Src.range (a := 1) (b := (S.vars.length : Int) + 1) (n := S.vars.length) (t := t) (u := u) (v := w) (by omega) (by decide) (by decide) (by omega) (by omega), by simp [rangeVals, zl]; omega, ⟨upd_self _ _ _, Ext.refl.fresh hrn, rfl⟩, fun i H' acc hh => hh.1, ?_, ?_⟩
  · rintro i v H₂ acc hv ⟨hr₂, x₂, rfl⟩ Cc Bc rv hrv
    obtain ⟨rfl, g, hg, htk⟩ := vars_at hv
    refine JU.nameL ⟨mcap_updL rfl, JB.tests0 (iteT ?_)⟩
    rw [hrv]
    refine JV.methN (JV.nameC (updL_k rfl m0) ⟨K.c, 114, clM K A whole, 71, rfl, (hK.keep x₂).io, k_gate_of _, rfl, JL.cons (JV.nameL updL_same (JL.nil ?_))⟩)
    intro raws hr
    exact gate_of_spec (n := i) (g := g) (rm rem) (hK.keep x₂) (by omega) hg (by first | exact hr | exact mp hr) ⟨hr₂, x₂, htk.symm⟩
  rintro H₂ acc ⟨hr₂, x₂, rfl⟩ G hG
  have etake : S.vars.take (rangeVals 1 S.vars.length).length = S.vars := List.take_of_length_le (by simp [rangeVals])
  rw [etake]
  dsimp only
  have x₃ : Ext [] H (upd H₂ G (.list (S.vars.map I))) := x₂.fresh hG
  have g₃ : (upd H₂ G (.list (S.vars.map I))) G = some (.list (S.vars.map I)) := upd_self _ _ _
  generalize upd H₂ G (.list (S.vars.map I)) = H₃ at x₃ g₃
  have n0 : updL mm (Str.ofString "gates") (.ref G) (Str.ofString "kept") = some (.ref K.c) := updL_k rfl m0
  have n1 : updL mm (Str.ofString "gates") (.ref G) (Str.ofString "told") = some (.ref tl) := updL_k rfl m1
  have n2 : updL mm (Str.ofString "gates") (.ref G) (Str.ofString "variables") = some (.ref vl) := updL_k rfl m2
  have n3 : updL mm (Str.ofString "gates") (.ref G) (Str.ofString "gates") = some (.ref G) := updL_same
  generalize updL mm (Str.ofString "gates") (.ref G) = mg at n0 n1 n2 n3
  have k₃ := hK.keep x₃
  refine JS.cons (JS.ite (JB.or (JB.cmpOk (JV.sliceA (JV.attr (JV.nameC n0 ⟨K.c, 114, clM K A whole, .ref K.cl, rfl, k₃.io, k_clauses _, rfl, trivial, JV.callN (JV.nameB (by show nsIn (Mine.heap _) _ _ = _; k_is) (by boot_by_name) (⟨by exact trivial, JL.cons (JV.nameL n1 (JL.nil ?_))⟩))⟩))))))
  intro raws hr
  obtain ⟨r1, rfl, e1⟩ := args1 hr
  obtain rfl := nz_ref e1
  refine JV.lenL (x₃ _ _ htl (by simp)) (by rw [List.length_map]; omega) ⟨K.cl, S.tups.map .ref, tups₀.length, rfl, by rw [List.length_map], k₃.clauses, by rw [List.length_map, zl]; omega, fun s₁ hs₁ => ?_⟩
  have es : (S.tups.map Value.ref).take tups₀.length = tups₀.map .ref := by rw [← List.map_take, hD₁, List.take_left' rfl]
  rw [es]
  have htl₃ : (upd H₃ s₁ (.list (tups₀.map .ref))) tl = some (.list (tups₀.map .ref)) := by
    have := x₃ _ _ htl (by simp)
    rw [upd_ne _ _ (ne_new this hs₁)]; exact this
  refine JV.nameL n1 ⟨_, CmpOk.neSame (vs := tups₀.map .ref) (upd_self _ _ _) htl₃ (List.all_eq_true.mpr fun x hx => by obtain ⟨a, _, rfl⟩ := List.mem_map.mp hx; rfl) (rm rem), iteF ?_⟩
  have x₄ : Ext [] H (upd H₃ s₁ (.list (tups₀.map .ref))) := x₃.fresh hs₁
  have g₄ : (upd H₃ s₁ (.list (tups₀.map .ref))) G = some (.list (S.vars.map I)) := by rw [upd_ne _ _ (ne_new g₃ hs₁)]; exact g₃
  generalize upd H₃ s₁ (.list (tups₀.map .ref)) = H₄ at x₄ g₄
  refine JB.or1 (JB.cmpOk (JV.sliceA (JV.nameL n3 (JV.callN (JV.nameB (by show nsIn (Mine.heap _) _ _ = _; k_is) (by boot_by_name) (⟨by exact trivial, JL.cons (JV.nameL n2 (JL.nil ?_))⟩))))))
  intro raws hr
  obtain ⟨r1, rfl, e1⟩ := args1 hr
  obtain rfl := nz_ref e1
  refine JV.lenL (x₄ _ _ hvl (by simp)) (by rw [List.length_map]; omega) ⟨G, S.vars.map I, vars₀.length, rfl, by rw [List.length_map], g₄, by rw [List.length_map, zl]; omega, fun s₂ hs₂ => ?_⟩
  have es2 : (S.vars.map I).take vars₀.length = vars₀.map I := by rw [← List.map_take, hD₂, List.take_left' rfl]
  rw [es2]
  have hvl₄ : (upd H₄ s₂ (.list (vars₀.map I))) vl = some (.list (vars₀.map I)) := by
    have := x₄ _ _ hvl (by simp)
    rw [upd_ne _ _ (ne_new this hs₂)]; exact this
  refine JV.nameL n2 ⟨_, CmpOk.neSame (vs := vars₀.map I) (upd_self _ _ _) hvl₄ (List.all_eq_true.mpr fun x hx => by obtain ⟨a, _, rfl⟩ := List.mem_map.mp hx; rfl) (rm rem), iteF (JS.nil ?_)⟩
  have x₅ : Ext [] H (upd H₄ s₂ (.list (vars₀.map I))) := x₄.fresh hs₂
  have g₅ : (upd H₄ s₂ (.list (vars₀.map I))) G = some (.list (S.vars.map I)) := by rw [upd_ne _ _ (ne_new g₄ hs₂)]; exact g₄
  generalize upd H₄ s₂ (.list (vars₀.map I)) = H₅ at x₅ g₅
  refine JS.cons (JS.ret (JV.and2 (JV.cmpOk (JV.callN (JV.nameB (by show nsIn (Mine.heap _) _ _ = _; k_is) (by boot_by_name) (⟨by exact trivial, JL.cons (JV.callN (JV.nameB (by show nsIn (Mine.heap _) _ _ = _; k_is) (by boot_by_name) (⟨by exact trivial, JL.cons (JV.nameL n3 (JL.nil ?_))⟩)))⟩))))))
  intro raws hr
  obtain ⟨r1, rfl, e1⟩ := args1 hr
  obtain rfl := nz_ref e1
  refine JV.setOf g₅ room.nodup (by have : scanBound = 4096 := rfl; omega) fun sa so hsa hso => JL.nil ?_
  intro raws hr
  obtain ⟨r1, rfl, e1⟩ := args1 hr
  obtain rfl := nz_ref e1
  have x₆ : Ext [] H (upd H₅ sa (.raw so)) := x₅.fresh hsa
  have g₆ : (upd H₅ sa (.raw so)) G = some (.list (S.vars.map I)) := by rw [upd_ne _ _ (ne_new g₅ hsa)]; exact g₅
  have s₆ : (upd H₅ sa (.raw so)) sa = some (.raw so) := upd_self _ _ _
  generalize upd H₅ sa (.raw so) = H₆ at x₆ g₆ s₆
  refine JV.lenS s₆ hso (by omega) (JV.callN (JV.nameB (by show nsIn (Mine.heap _) _ _ = _; k_is) (by boot_by_name) (⟨by exact trivial, JL.cons (JV.nameL n3 (JL.nil ?_))⟩)))
  intro raws hr
  obtain ⟨r1, rfl, e1⟩ := args1 hr
  obtain rfl := nz_ref e1
  refine JV.lenL g₆ (by rw [List.length_map]; omega) ⟨_, CmpOk.eqI, _, rfl, ?_⟩
  rw [List.length_map, show (((S.vars.length : Nat) : Int) == ((S.vars.length : Nat) : Int)) = true by simp]
  refine iteT (JV.cmpOk (JV.comp [] (JV.nameL n3 ⟨G, rfl, _, S.vars.map I, _, fun i H' acc => H' = H₆ ∧ acc = [], Src.list, by rw [List.length_map, zl]; omega, ⟨rfl, rfl⟩, ?_, ?_, ?_⟩)))
  · rintro i H' acc ⟨rfl, _⟩; exact g₆
  · rintro i v H₇ acc hvi ⟨rfl, rfl⟩ Cc Bc rv hrv
    rw [List.getElem?_map] at hvi
    obtain ⟨g, hg, rfl⟩ := Option.map_eq_some_iff.mp hvi
    have h1 := hv g (List.mem_of_getElem? hg)
    refine JU.nameL ⟨mcap_updL rfl, ?_⟩
    rw [hrv]
    refine JB.tests1 (JB.cmpOk (JV.nameL updL_same (JV.cint ⟨_, CmpOk.ltI, ?_⟩)))
    rw [show decide (g < 1) = false by simp; omega]
    exact iteF ⟨rfl, rfl⟩
  · rintro H₇ acc ⟨rfl, rfl⟩ D hD
    refine JV.listE (JL.nil ⟨Nat.zero_le _, fun D₂ hD₂ => ⟨_, CmpOk.eqNil (vs := []) ?_ (upd_self _ _ _) (rm rem), ?_⟩⟩)
    · rw [upd_ne _ _ (by rintro rfl; rw [upd_self] at hD₂; cases hD₂), upd_self]
    · exact h _ ((x₆.fresh hD).fresh hD₂)
end
end Mine
end

section -- FS
open PySem PySem.W PySem.Calls PyProof.Rows PySem.SeqAt
set_option Elab.async false
set_option maxRecDepth 100000
set_option linter.unusedVariables false
namespace Mine
theorem primeFS : (fun (_ : OpenLaw) (_ : Params → Frag) => True) PySem.Challenge.rw_nz0385_01 Mine.heap := by
  k_fill
  trivial

theorem nodup_at {l : List Int} (hn : l.Nodup) {i j : Nat} {v : Int} (h1 : l[i]? = some v) (h2 : l[j]? = some v) : i = j := by
  obtain ⟨a, b⟩ := List.getElem?_eq_some_iff.mp h1
  obtain ⟨c, d⟩ := List.getElem?_eq_some_iff.mp h2
  exact (List.getElem_inj hn).mp (b.trans d.symm)
theorem LitIs.one {vars : List Int} (hn : vars.Nodup) {g x y : Int} (h1 : LitIs vars g x) (h2 : LitIs vars g y) : y = x := by
  obtain ⟨i, a, b⟩ := h1
  obtain ⟨j, c, d⟩ := h2
  have := nodup_at hn a c
  subst this
  rw [b, d]
theorem LitIs.other {vars : List Int} (hn : vars.Nodup) {g x y : Int} (hg : g ≠ 0) (h1 : LitIs vars g x) (h2 : LitIs vars (-g) y) : y = -x := by
  obtain ⟨i, a, b⟩ := h1
  obtain ⟨j, c, d⟩ := h2
  rw [Int.natAbs_neg] at c
  have := nodup_at hn a c
  subst this
  rw [b, d]
  by_cases q : g > 0
  · rw [if_pos q, if_neg (by omega)]
  · rw [if_neg q, if_pos (by omega)]; omega
theorem mcap_updL2 {m : Loc} {cl : List (Str × Addr)} {x y : Str} {v u : Value} (h1 : cl.lookup x = none) (h2 : cl.lookup y = none) : ∀ z w, mcap cl m z = some w → updL (updL (mcap cl m) x v) y u z = some w := fun z w e => by
  have hz : ∀ t, cl.lookup t = none → z ≠ t := fun t ht q => by
    subst q
    obtain ⟨⟨c, hc⟩, _⟩ := mcap_some e
    rw [ht] at hc; cases hc
  rw [updL_other (hz y h2), updL_other (hz x h1)]
  exact e

theorem Room.tupsle {S : KSt} {k : Nat} (h : Room S k) : S.tups.length ≤ 2 ^ 21 := by
  rw [h.tups]; exact Nat.le_trans (Nat.le_add_right _ _) (Nat.le_of_lt h.clauses)
/-- what a question's addresses keep apart -/
structure QA (A : CA) (K : KA) (F : FA) (al : Addr) : Prop where
  ap : Apart A K
  f1 : F.cl ≠ K.cl
  f2 : F.cl ≠ K.gl
  f3 : F.cl ≠ K.wa
  a1 : al ≠ K.cl
  a2 : al ≠ K.gl
  a3 : al ≠ K.wa
  af : al ≠ F.cl
  ak : al ≠ A.ka
  ap' : al ≠ A.pa

theorem FeedH.kept {H H' : OH} {F : FA} {n : Nat} {K : KA} {A : CA} {whole : Int} {S : KSt} {al : Addr} (h : FeedH H F n) (hK : KH H K A whole S) (q : QA A K F al) (x : Ext K.W H H') : FeedH H' F n := by
  obtain ⟨kvs, hd⟩ := h.dk
  obtain ⟨vs, hc⟩ := h.ck
  exact h.ext x (not_KW' hK hd (by simp) (by simp)) (not_KW hK hc q.f1 q.f2 q.f3 (by simp))
theorem AskH.kept {H H' : OH} {F : FA} {qs : List (Int × Int)} {K : KA} {A : CA} {whole : Int} {S : KSt} {al : Addr} (h : AskH H al qs) (hK : KH H K A whole S) (q : QA A K F al) (x : Ext K.W H H') : AskH H' al qs := by
  obtain ⟨ats, ha, _⟩ := id h
  exact h.ext x (not_KW hK ha q.a1 q.a2 q.a3 (by simp)) fun t p e => not_KW' hK e (by simp) (by simp)
theorem KH.feed {H H' : OH} {F : FA} {n : Nat} {K : KA} {A : CA} {whole : Int} {S : KSt} (h : KH H K A whole S) (hF : FeedH H F n) (x : Ext [F.d] H H') : KH H' K A whole S := by
  obtain ⟨kvs, hd⟩ := hF.dk
  exact h.ext x (not_mem1 (ne_of_kind h.inst hd (by simp))) (not_mem1 (ne_of_kind h.dict hd (by simp))) (not_mem1 (ne_of_kind h.clauses hd (by simp))) (not_mem1 (ne_of_kind h.gates hd (by simp))) (not_mem1 (ne_of_kind h.numbers hd (by simp))) (not_mem1 (ne_of_kind h.opened hd (by simp))) (not_mem1 (ne_of_kind h.waiting hd (by simp)))
    fun t p e => not_mem1 (ne_of_kind e hd (by simp))
theorem AskH.feed {H H' : OH} {F : FA} {n : Nat} {qs : List (Int × Int)} {al : Addr} (h : AskH H al qs) (hF : FeedH H F n) (x : Ext [F.d] H H') : AskH H' al qs := by
  obtain ⟨kvs, hd⟩ := hF.dk
  obtain ⟨ats, ha, _⟩ := id h
  exact h.ext x (not_mem1 (ne_of_kind ha hd (by simp))) fun t p e => not_mem1 (ne_of_kind e hd (by simp))
/-- one more question is laid down -/
theorem asked_put {H : OH} {F : FA} {n : Nat} {qs : List (Int × Int)} {K : KA} {A : CA} {C : List Gate} {whole : Int} {S : KSt} {al t : Addr} {g x : Int} (h : AskH H al qs) (hK : KH H K A whole S) (hC : CircH H A C) (hF : FeedH H F n) (q : QA A K F al) (ht : H t = some (.tup [I g, I x])) :
    ∃ vs, H al = some (.list vs) ∧ vs.length = qs.length ∧ AskH (upd H al (.list (vs ++ [.ref t]))) al (qs ++ [(g, x)]) ∧ KH (upd H al (.list (vs ++ [.ref t]))) K A whole S ∧ CircH (upd H al (.list (vs ++ [.ref t]))) A C ∧ FeedH (upd H al (.list (vs ++ [.ref t]))) F n := by
  obtain ⟨ats, ha, hl, hat⟩ := h
  have x1 : Ext [al] H (upd H al (.list (ats.map .ref ++ [.ref t]))) := Ext.refl.write (by simp)
  obtain ⟨kvs, hd⟩ := hF.dk
  obtain ⟨vs, hc⟩ := hF.ck
  obtain ⟨ts, p1, _⟩ := hC.parts
  obtain ⟨kn, k1, _⟩ := hC.known
  have tn : ∀ u p, H u = some (.tup p) → u ∉ [al] := fun u p e => not_mem1 (ne_of_kind e ha (by simp))
  refine ⟨ats.map .ref, ha, by rw [List.length_map, hl], ⟨ats ++ [t], by rw [upd_self, List.map_append]; rfl, by rw [List.length_append, List.length_append, hl]; rfl, fun i u hu => ?_⟩, ?_, ?_, ?_⟩
  · rcases get_push hu with ⟨hi, hu⟩ | ⟨hi, rfl⟩
    · obtain ⟨p, a, b⟩ := hat i u hu
      exact ⟨p, by rw [List.getElem?_append_left (hl ▸ hi)]; exact a, x1 _ _ b (tn _ _ b)⟩
    · exact ⟨(g, x), by rw [hi, hl, List.getElem?_concat_length], x1 _ _ ht (tn _ _ ht)⟩
  · exact hK.ext x1 (not_mem1 (ne_of_kind hK.inst ha (by simp))) (not_mem1 (ne_of_kind hK.dict ha (by simp))) (not_mem1 (Ne.symm q.a1)) (not_mem1 (Ne.symm q.a2)) (not_mem1 (ne_of_kind hK.numbers ha (by simp))) (not_mem1 (ne_of_kind hK.opened ha (by simp))) (not_mem1 (Ne.symm q.a3)) tn
  · exact hC.ext x1 (not_mem1 (ne_of_kind hC.inst ha (by simp))) (not_mem1 (ne_of_kind hC.dict ha (by simp))) (not_mem1 (Ne.symm q.ak)) (not_mem1 (Ne.symm q.ap')) (not_mem1 (ne_of_kind k1 ha (by simp))) tn
  · exact hF.ext x1 (not_mem1 (ne_of_kind hd ha (by simp))) (not_mem1 (Ne.symm q.af))

section
variable {fx : FX} {Γ : Amb} {H : OH} {m : Loc} {A : CA} {C : List Gate} {K : KA} {whole : Int} {S : KSt} {F : FA}
set_option maxHeartbeats 16000000

theorem question_spec {al pl : Addr} {n : Nat} {ps : List Int} {qs : List (Int × Int)} {raws : List Value} {Q : Value → OH → Prop} (rem : 12 ≤ Γ.rem) (hF : FeedH H F n) (hn : n + 2 < 2 ^ 20) (hK : KH H K A whole S) (hC : CircH H A C) (hq : AskH H al qs) (qa : QA A K F al)
    (hz : C.length < 1000) (hI : CInv C S Nope 0) (hFu : Full whole S) (hw : S.waiting = []) (hqs : ∀ q ∈ qs, q.1 ∈ S.opened ∧ LitIs S.vars q.1 q.2) (hql : qs.length < 1000)
    (hp : H pl = some (.list (ps.map I))) (hps : ∀ p ∈ ps, LitOK C p) (hpl : ps.length < 1000) (hr : raws.map nz = [.ref F.d, .ref K.c, .ref pl, .ref al])
    (h : ∀ g x S' H', CInv C S' Nope 0 → Full whole S' → S'.waiting = [] → (∀ q ∈ qs ++ [(g, x)], q.1 ∈ S'.opened ∧ LitIs S'.vars q.1 q.2) → KH H' K A whole S' → CircH H' A C → AskH H' al (qs ++ [(g, x)]) → FeedH H' F (n + 2) → Ext (F.d :: al :: K.W) H H' → Q (.bool true) H') :
    JV fx Γ H m (call (.ref 272) raws) Q := by
  obtain ⟨r1, r2, r3, r4, rfl, e1, e2, e3, e4⟩ := args4 hr
  obtain rfl := nz_ref e1
  obtain rfl := nz_ref e2
  obtain rfl := nz_ref e3
  obtain rfl := nz_ref e4
  have zl : sizeLine = 2 ^ 24 := rfl
  obtain ⟨kvs, hd⟩ := hF.dk
  refine' JV.fnC (fx := fx) (binds := [(Str.ofString "feed", .ref F.d), (Str.ofString "kept", .ref K.c), (Str.ofString "pool", .ref pl), (Str.ofString "asked", .ref al)]) ?ho ?hcd ?hrem ?hbind ?hkind ?hloc ?hnc ?hnd ?h ?h1 ?h2 ?h3
  case ho => show List.lookup _ (Mine.heap _) = _; k_is
  case hcd => show codeIn (Mine.heap _) _ _ = _; k_is
  case hrem => first | omega | (dsimp only; omega)
  case hbind => rfl
  case hkind => rfl
  case hloc => exact locC rfl
  case hnc => exact nloc rfl
  case hnd => exact (by decide : [Str.ofString "feed", Str.ofString "kept", Str.ofString "pool", Str.ofString "asked"].Nodup)
  case h1 => rfl
  case h2 => rfl
  case h3 => rfl
  intro A' L B
  refine JS.cons (JS.assignC (JV.itemL (JV.addL (JV.listE (JL.cons (JV.cint (JL.nil ⟨by show 1 ≤ sizeLine; decide, fun l1 hl1 => JV.nameL rfl ⟨l1, pl, [I 1], ps.map I, rfl, rfl, upd_self _ _ _, by rw [upd_ne _ _ (ne_new hp hl1)]; exact hp, by simp [zl]; exact lw (Nat.add_le_add_left (Nat.le_of_lt hpl) 1), fun c hc => JV.callN (JV.nameG (by show nsIn (Mine.heap _) _ _ = _; k_is) (⟨by show keepIn (Mine.heap _) _ = _; k_is, JL.cons (JV.nameL rfl (JL.cons (JV.add (JV.callN (JV.nameB (by show nsIn (Mine.heap _) _ _ = _; k_is) (by boot_by_name) (⟨by exact trivial, JL.cons (JV.nameL rfl (JL.nil ?_))⟩))))))⟩))⟩⟩)))))))
  intro raws hr
  obtain ⟨r1, rfl, e1⟩ := args1 hr
  obtain rfl := nz_ref e1
  have hp₁ : (upd (upd H l1 (.list [I 1])) c (.list ([I 1] ++ ps.map I))) pl = some (.list (ps.map I)) := by
    have : (upd H l1 (.list [I 1])) pl = some (.list (ps.map I)) := by rw [upd_ne _ _ (ne_new hp hl1)]; exact hp
    rw [upd_ne _ _ (ne_new this hc)]; exact this
  have x₁ : Ext [] H (upd (upd H l1 (.list [I 1])) c (.list ([I 1] ++ ps.map I))) := (Ext.refl.fresh hl1).fresh hc
  have c₁ : (upd (upd H l1 (.list [I 1])) c (.list ([I 1] ++ ps.map I))) c = some (.list ((1 :: ps).map I)) := by rw [upd_self]; rfl
  generalize upd (upd H l1 (.list [I 1])) c (.list ([I 1] ++ ps.map I)) = H₁ at hp₁ x₁ c₁
  refine JV.lenL hp₁ (by rw [List.length_map]; exact lb (Nat.le_of_lt hpl)) (JV.cint ⟨_, 1, rfl, rfl, JL.nil ?_⟩)
  rw [List.length_map]
  intro raws hr
  have hF₁ := hF.keep x₁
  obtain ⟨kv₁, hd₁⟩ := hF₁.dk
  refine next_spec (n := n) (wide := (ps.length : Int) + 1) (rm rem) hF₁ (Nat.lt_of_succ_lt (Nat.lt_of_succ_lt hn)) (Int.lt_add_one_of_le (Int.natCast_nonneg _)) (by first | exact hr | exact mp hr) fun v H₂ v0 v1 hF₂ x₂ => ?_
  have c₂ : H₂ c = some (.list ((1 :: ps).map I)) := x₂ _ _ c₁ (not_mem1 (ne_of_kind c₁ hd₁ (by simp)))
  have hlt : v.toNat < (1 :: ps).length := by simp; omega
  refine ⟨c, (1 :: ps).map I, v, I ((1 :: ps)[v.toNat]'hlt), rfl, rfl, c₂, v0, by omega, by rw [List.getElem?_map, List.getElem?_eq_getElem hlt]; rfl, ?_⟩
  dsimp only
  have hg₀ : LitOK C ((1 :: ps)[v.toNat]'hlt) := by
    rcases List.mem_cons.mp (List.getElem_mem hlt) with e | e
    · rw [e]; exact ⟨by decide, by simp⟩
    · exact hps _ e
  generalize (1 :: ps)[v.toNat]'hlt = g₀ at hg₀
  have x₀₂ : Ext [F.d] H H₂ := (x₁.wide (by simp)).trans x₂
  have f0 : updL (binding [(Str.ofString "feed", Value.ref F.d), (Str.ofString "kept", Value.ref K.c), (Str.ofString "pool", Value.ref pl), (Str.ofString "asked", Value.ref al)]) (Str.ofString "gate") (I g₀) (Str.ofString "feed") = some (.ref F.d) := rfl
  have f1 : updL (binding [(Str.ofString "feed", Value.ref F.d), (Str.ofString "kept", Value.ref K.c), (Str.ofString "pool", Value.ref pl), (Str.ofString "asked", Value.ref al)]) (Str.ofString "gate") (I g₀) (Str.ofString "kept") = some (.ref K.c) := rfl
  have f2 : updL (binding [(Str.ofString "feed", Value.ref F.d), (Str.ofString "kept", Value.ref K.c), (Str.ofString "pool", Value.ref pl), (Str.ofString "asked", Value.ref al)]) (Str.ofString "gate") (I g₀) (Str.ofString "asked") = some (.ref al) := rfl
  have f3 : updL (binding [(Str.ofString "feed", Value.ref F.d), (Str.ofString "kept", Value.ref K.c), (Str.ofString "pool", Value.ref pl), (Str.ofString "asked", Value.ref al)]) (Str.ofString "gate") (I g₀) (Str.ofString "gate") = some (I g₀) := rfl
  generalize updL (binding [(Str.ofString "feed", Value.ref F.d), (Str.ofString "kept", Value.ref K.c), (Str.ofString "pool", Value.ref pl), (Str.ofString "asked", Value.ref al)]) (Str.ofString "gate") (I g₀) = m₀ at f0 f1 f2 f3
  refine JS.cons (JS.assignC (JV.mono (Q := fun v H' => ∃ g, v = I g ∧ LitOK C g ∧ FeedH H' F (n + 2) ∧ Ext [F.d] H H') (JV.ife (JB.cmpOk (JV.callN (JV.nameG (by show nsIn (Mine.heap _) _ _ = _; k_is) (⟨by show keepIn (Mine.heap _) _ = _; k_is, JL.cons (JV.nameL f0 (JL.cons (JV.cint (JL.nil ?_))))⟩))))) ?_))
  · intro raws hr
    refine next_spec (n := n + 1) (wide := 2) (rm rem) hF₂ (Nat.lt_of_succ_lt hn) (by decide) (by first | exact hr | exact mp hr) fun v H₃ v0 v1 hF₃ x₃ => ?_
    refine JV.cint ⟨_, CmpOk.eqI, ?_⟩
    split
    · exact JV.nameC f3 ⟨g₀, rfl, hg₀, hF₃, x₀₂.trans x₃⟩
    · exact JV.neg (JV.nameC f3 ⟨g₀, rfl, -g₀, rfl, hg₀.neg, hF₃, x₀₂.trans x₃⟩)
  rintro _ H₃ ⟨g, rfl, hg, hF₃, x₃⟩
  have hg1 := hg.1
  dsimp only
  have g0 : updL m₀ (Str.ofString "gate") (I g) (Str.ofString "kept") = some (.ref K.c) := updL_k rfl f1
  have g1 : updL m₀ (Str.ofString "gate") (I g) (Str.ofString "asked") = some (.ref al) := updL_k rfl f2
  have g2 : updL m₀ (Str.ofString "gate") (I g) (Str.ofString "gate") = some (I g) := updL_same
  generalize updL m₀ (Str.ofString "gate") (I g) = m₁ at g0 g1 g2
  have k₃ := hK.feed hF x₃
  have c₃ := hC.feed hF x₃
  have q₃ := hq.feed hF x₃
  have hz16 : C.length < 2 ^ 16 := lb (Nat.le_of_lt hz)
  have room := hI.room hz16
  have vl : S.vars.length ≤ 1000 := Nat.le_trans hI.vlen hz
  -- before
  refine JS.cons (JS.assignL (JV.tupE (JL.cons (JV.callN (JV.nameB (by show nsIn (Mine.heap _) _ _ = _; k_is) (by boot_by_name) (⟨by exact trivial, JL.cons (JV.attr (JV.nameC g0 ⟨K.c, 114, clM K A whole, .ref K.cl, rfl, k₃.io, k_clauses _, rfl, trivial, JL.nil ?_⟩))⟩))))))
  intro raws hr
  obtain ⟨r1, rfl, e1⟩ := args1 hr
  obtain rfl := nz_ref e1
  refine JV.listOf k₃.clauses (by rw [List.length_map]; exact lw room.tupsle) fun tl htl => ?_
  have x₄ : Ext [] H₃ (upd H₃ tl (.list (S.tups.map .ref))) := Ext.refl.fresh htl
  have tl₄ : (upd H₃ tl (.list (S.tups.map .ref))) tl = some (.list (S.tups.map .ref)) := upd_self _ _ _
  generalize upd H₃ tl (.list (S.tups.map .ref)) = H₄ at x₄ tl₄
  have k₄ := k₃.keep x₄
  refine JL.cons (JV.comp [Str.ofString "kept"] (JV.callN (JV.nameB (by show nsIn (Mine.heap _) _ _ = _; k_is) (by boot_by_name) (⟨by exact trivial, JL.cons (JV.cint (JL.cons (JV.add (JV.meth0 (JV.nameC g0 ⟨K.c, 114, clM K A whole, 57, rfl, k₄.io, k_many _, rfl, many_spec (rm rem) k₄ (lb vl) rfl (JV.cint ⟨_, 1, rfl, rfl, JL.nil ?_⟩)⟩)))))⟩))))
  intro raws hr
  obtain ⟨r1, r3, rfl, e1, e3⟩ := args2 hr
  refine JV.range2 e1 e3 fun r t u w hrn => ⟨r, rfl, _, rangeVals 1 S.vars.length, _, VarsInv H₄ r (rangeObj 1 ((S.vars.length : Int) + 1) t u w) S.vars,
    Src.range (a := 1) (b := (S.vars.length : Int) + 1) (n := S.vars.length) (t := t) (u := u) (v := w) r1n (by decide) (by decide) r1lo (r1hi (lw vl)), rvl (lw vl), ⟨upd_self _ _ _, Ext.refl.fresh hrn, rfl⟩, fun i H' acc hh => hh.1, ?_, ?_⟩
  · rintro i v H₅ acc hv ⟨hr₅, x₅, rfl⟩ Cc Bc rv hrv
    obtain ⟨rfl, gg, hgg, htk⟩ := vars_at hv
    refine JU.nameL ⟨mcap_updL rfl, JB.tests0 (iteT ?_)⟩
    rw [hrv]
    refine JV.methN (JV.nameC (updL_k rfl g0) ⟨K.c, 114, clM K A whole, 71, rfl, (k₄.keep x₅).io, k_gate_of _, rfl, JL.cons (JV.nameL updL_same (JL.nil ?_))⟩)
    intro raws hr
    exact gate_of_spec (n := i) (g := gg) (rm rem) (k₄.keep x₅) (lb vl) hgg (by first | exact hr | exact mp hr) ⟨hr₅, x₅, htk.symm⟩
  rintro H₅ acc ⟨hr₅, x₅, rfl⟩ vl hvl
  have etake : S.vars.take (rangeVals 1 S.vars.length).length = S.vars := List.take_of_length_le (by simp [rangeVals])
  rw [etake]
  refine JL.nil ⟨by show 2 ≤ sizeLine; decide, fun b hb => ?_⟩
  dsimp only
  have tl₅ : (upd H₅ vl (.list (S.vars.map I))) tl = some (.list (S.tups.map .ref)) := (x₅.fresh hvl) _ _ tl₄ (by simp)
  have vl₅ : (upd H₅ vl (.list (S.vars.map I))) vl = some (.list (S.vars.map I)) := upd_self _ _ _
  have x₆ : Ext [] H₃ (upd (upd H₅ vl (.list (S.vars.map I))) b (.tup [.ref tl, .ref vl])) := (x₄.trans (x₅.fresh hvl)).fresh hb
  have tl₆ : (upd (upd H₅ vl (.list (S.vars.map I))) b (.tup [.ref tl, .ref vl])) tl = some (.list (S.tups.map .ref)) := by rw [upd_ne _ _ (ne_new tl₅ hb)]; exact tl₅
  have vl₆ : (upd (upd H₅ vl (.list (S.vars.map I))) b (.tup [.ref tl, .ref vl])) vl = some (.list (S.vars.map I)) := by rw [upd_ne _ _ (ne_new vl₅ hb)]; exact vl₅
  have b₆ : (upd (upd H₅ vl (.list (S.vars.map I))) b (.tup [.ref tl, .ref vl])) b = some (.tup [.ref tl, .ref vl]) := upd_self _ _ _
  generalize hE6 : upd (upd H₅ vl (.list (S.vars.map I))) b (.tup [.ref tl, .ref vl]) = H₆ at x₆ tl₆ vl₆ b₆
  have ntl : H₃ tl = none := htl
  have nvl : H₃ vl = none := fresh_of (W := []) (x₄.trans x₅) (by simp) hvl
  have i0 : updL m₁ (Str.ofString "before") (.ref b) (Str.ofString "kept") = some (.ref K.c) := updL_k rfl g0
  have i1 : updL m₁ (Str.ofString "before") (.ref b) (Str.ofString "asked") = some (.ref al) := updL_k rfl g1
  have i2 : updL m₁ (Str.ofString "before") (.ref b) (Str.ofString "gate") = some (I g) := updL_k rfl g2
  have i3 : updL m₁ (Str.ofString "before") (.ref b) (Str.ofString "before") = some (.ref b) := updL_same
  generalize updL m₁ (Str.ofString "before") (.ref b) = m₂ at i0 i1 i2 i3
  have k₆ := k₃.keep x₆
  have c₆ := c₃.keep x₆
  have q₆ := q₃.keep x₆
  have hF₆ := hF₃.keep x₆
  -- literal
  refine JS.cons (JS.assignC (JV.methN (JV.nameC i0 ⟨K.c, 114, clM K A whole, 104, rfl, k₆.io, k_literal_of _, rfl, JL.cons (JV.nameC i2 (JL.nil ?_))⟩)))
  intro raws hr
  refine literal_of_spec (g := g) (rm rem) k₆ c₆ qa.ap hz16 hI hFu hw hg (by first | exact hr | exact mp hr) fun x S₁ H₇ I₁ F₁ w₁ o₁ s₁ lit₁ go₁ k₇ x₇ => ?_
  dsimp only
  have c₇ := c₆.cls k₆ qa.ap x₇
  have q₇ := q₆.kept k₆ qa x₇
  have hF₇ := hF₆.kept k₆ qa x₇
  have tlW : tl ∉ K.W := new_KW (H₁ := H₃) k₃ ntl
  have vlW : vl ∉ K.W := new_KW (H₁ := H₃) k₃ nvl
  have tl₇ := x₇ _ _ tl₆ tlW
  have vl₇ := x₇ _ _ vl₆ vlW
  have b₇ := x₇ _ _ b₆ (not_KW' k₆ b₆ (by simp) (by simp))
  have j0 : updL m₂ (Str.ofString "literal") (I x) (Str.ofString "kept") = some (.ref K.c) := updL_k rfl i0
  have j1 : updL m₂ (Str.ofString "literal") (I x) (Str.ofString "asked") = some (.ref al) := updL_k rfl i1
  have j2 : updL m₂ (Str.ofString "literal") (I x) (Str.ofString "gate") = some (I g) := updL_k rfl i2
  have j3 : updL m₂ (Str.ofString "literal") (I x) (Str.ofString "before") = some (.ref b) := updL_k rfl i3
  have j4 : updL m₂ (Str.ofString "literal") (I x) (Str.ofString "literal") = some (I x) := updL_same
  generalize updL m₂ (Str.ofString "literal") (I x) = m₃ at j0 j1 j2 j3 j4
  have room₁ := I₁.room hz16
  have vl₁ : S₁.vars.length ≤ 1000 := Nat.le_trans I₁.vlen hz
  have x07 : Ext (F.d :: al :: K.W) H H₇ := ((x₃.wide (by simp)).trans (x₆.wide (by simp))).trans (x₇.wide (by simp))
  -- plain
  refine JS.cons (JS.ite (JB.not (JB.plain (JV.callN (JV.nameG (by show nsIn (Mine.heap _) _ _ = _; k_is) (⟨by show keepIn (Mine.heap _) _ = _; k_is, JL.cons (JV.nameC j0 (JL.cons (JV.nameL j3 (JL.nil ?_))))⟩))))))
  intro raws hr
  refine is_plain_spec (b := b) (tl := tl) (vl := vl) (tups₀ := S.tups) (vars₀ := S.vars) (rm rem) k₇ room₁ (lb vl₁) (fun v hv => (I₁.vars v hv).1) b₇ tl₇ vl₇ o₁.tups o₁.vars (by first | exact hr | exact mp hr) fun H₈ x₈ => ⟨true, rfl, iteF (JS.nil ?_)⟩
  have k₈ := k₇.keep x₈
  obtain ⟨nx, hnx, hxa, hxs⟩ := lit₁.abs
  -- its gate
  refine JS.cons (JS.ite (JB.or (JB.cmpOk (JV.methN (JV.nameC j0 ⟨K.c, 114, clM K A whole, 71, rfl, k₈.io, k_gate_of _, rfl, JL.cons (JV.callN (JV.nameB (by show nsIn (Mine.heap _) _ _ = _; k_is) (by boot_by_name) (⟨by exact trivial, JL.cons (JV.nameC j4 (JL.nil ?_))⟩)))⟩)))))
  intro raws hr
  obtain ⟨r1, rfl, e1⟩ := args1 hr
  refine JV.abs e1 (JL.nil ?_)
  intro raws hr
  refine gate_of_spec (n := nx) (g := (g.natAbs : Int)) (rm rem) k₈ (lb vl₁) hnx (by rw [← hxa]; simp [hr, nz]) (JV.callN (JV.nameB (by show nsIn (Mine.heap _) _ _ = _; k_is) (by boot_by_name) (⟨by exact trivial, JL.cons (JV.nameC j2 (JL.nil ?_))⟩)))
  intro raws hr
  obtain ⟨r1, rfl, e1⟩ := args1 hr
  refine JV.abs e1 ⟨_, CmpOk.neI, ?_⟩
  rw [show (((g.natAbs : Nat) : Int) != ((g.natAbs : Nat) : Int)) = false by simp]
  refine iteF (JB.or1 (JB.cmpOk (JV.cmpOk (JV.nameC j4 (JV.cint ⟨_, CmpOk.gtI, JV.cmpOk (JV.nameC j2 (JV.cint ⟨_, CmpOk.gtI, _, CmpOk.neB, ?_⟩))⟩)))))
  rw [show (decide (0 < x) != decide (0 < g)) = false by have e : decide (0 < x) = decide (0 < g) := decide_eq_decide.mpr hxs; rw [e]; simp]
  refine iteF (JS.nil ?_)
  -- the others
  have q₈ := q₇.keep x₈
  obtain ⟨ats, ha₈, hal₈, hat₈⟩ := id q₈
  have qlit : ∀ q ∈ qs, q.1 ∈ S₁.opened ∧ LitIs S₁.vars q.1 q.2 := fun q hq => ⟨o₁.opened _ (hqs q hq).1, o₁.lit (hqs q hq).2⟩
  refine JS.cons (JS.ite (JB.cmpOk (JV.comp [Str.ofString "literal", Str.ofString "gate"] (JV.nameL j1 ⟨al, rfl, _, ats.map .ref, _, fun i H' acc => H' = H₈ ∧ acc = [], Src.list, by rw [List.length_map, hal₈]; exact lw (Nat.le_of_lt hql), ⟨rfl, rfl⟩, ?_, ?_, ?_⟩))))
  · rintro i H' acc ⟨rfl, _⟩; exact ha₈
  · rintro i v H₉ acc hv ⟨rfl, rfl⟩ Cc Bc rv hrv
    rw [List.getElem?_map] at hv
    obtain ⟨ta, hta, rfl⟩ := Option.map_eq_some_iff.mp hv
    obtain ⟨⟨one, other⟩, hqi, htt⟩ := hat₈ i ta hta
    obtain ⟨ho, hlit⟩ := qlit _ (List.mem_of_getElem? hqi)
    dsimp only at ho hlit htt
    refine JU.pair Stores.l Stores.l hrv htt ⟨mcap_updL2 rfl rfl, ?_⟩
    refine JB.tests1 (JB.or (JB.mono (Q := fun c H' => c = false ∧ H' = H₉) (JB.and (JB.cmpOk (JV.nameL (updL_k rfl updL_same) (JV.neg (JV.nameC (updL_k rfl (updL_k rfl j2)) ⟨g, rfl, _, CmpOk.eqI, ?_⟩))))) ?_))
    · split
      · rename_i qe
        have qe' : one = -g := by simpa using qe
        subst qe'
        refine JB.and1 (JB.cmpOk (JV.nameL updL_same (JV.neg (JV.nameC (updL_k rfl (updL_k rfl j4)) ⟨x, rfl, _, CmpOk.neI, ?_⟩))))
        have := LitIs.other I₁.nodup (fun e => by rw [e] at hg1; exact absurd hg1 (by decide)) lit₁ hlit
        exact ⟨by simpa using this, rfl⟩
      · exact ⟨rfl, rfl⟩
    · rintro _ _ ⟨rfl, rfl⟩
      refine iteF (JB.or1 (JB.and (JB.cmpOk (JV.nameL (updL_k rfl updL_same) (JV.nameC (updL_k rfl (updL_k rfl j2)) ⟨_, CmpOk.eqI, ?_⟩)))))
      split
      · rename_i qe
        have qe' : one = g := by simpa using qe
        subst qe'
        refine JB.and1 (JB.cmpOk (JV.nameL updL_same (JV.nameC (updL_k rfl (updL_k rfl j4)) ⟨_, CmpOk.neI, ?_⟩)))
        have := LitIs.one I₁.nodup lit₁ hlit
        rw [show (other != x) = false by simpa using this]
        exact iteF ⟨rfl, rfl⟩
      · exact iteF ⟨rfl, rfl⟩
  rintro H₉ acc ⟨rfl, rfl⟩ D hD
  refine JV.listE (JL.nil ⟨Nat.zero_le _, fun D₂ hD₂ => ⟨_, CmpOk.neNil (vs := []) ?_ (upd_self _ _ _) (rm rem), ?_⟩⟩)
  · rw [upd_ne _ _ (by rintro rfl; rw [upd_self] at hD₂; cases hD₂), upd_self]
  have x₉ : Ext [] H₇ (upd (upd H₉ D (.list [])) D₂ (.list [])) := (x₈.fresh hD).fresh hD₂
  generalize upd (upd H₉ D (.list [])) D₂ (.list []) = Ha at x₉
  refine iteF (JS.nil ?_)
  have ka := k₇.keep x₉
  -- many
  refine JS.cons (JS.assignL (JV.callN (JV.nameB (by show nsIn (Mine.heap _) _ _ = _; k_is) (by boot_by_name) (⟨by exact trivial, JL.cons (JV.attr (JV.nameC j0 ⟨K.c, 114, clM K A whole, .ref K.cl, rfl, ka.io, k_clauses _, rfl, trivial, JL.nil ?_⟩))⟩))))
  intro raws hr
  obtain ⟨r1, rfl, e1⟩ := args1 hr
  obtain rfl := nz_ref e1
  refine JV.lenL ka.clauses (by rw [List.length_map]; exact lb room₁.tupsle) ?_
  rw [List.length_map]
  dsimp only
  have y0 : updL m₃ (Str.ofString "many") (I S₁.tups.length) (Str.ofString "kept") = some (.ref K.c) := updL_k rfl j0
  have y1 : updL m₃ (Str.ofString "many") (I S₁.tups.length) (Str.ofString "asked") = some (.ref al) := updL_k rfl j1
  have y2 : updL m₃ (Str.ofString "many") (I S₁.tups.length) (Str.ofString "gate") = some (I g) := updL_k rfl j2
  have y3 : updL m₃ (Str.ofString "many") (I S₁.tups.length) (Str.ofString "before") = some (.ref b) := updL_k rfl j3
  have y4 : updL m₃ (Str.ofString "many") (I S₁.tups.length) (Str.ofString "literal") = some (I x) := updL_k rfl j4
  have y5 : updL m₃ (Str.ofString "many") (I S₁.tups.length) (Str.ofString "many") = some (I S₁.tups.length) := updL_same
  generalize updL m₃ (Str.ofString "many") (I S₁.tups.length) = m₄ at y0 y1 y2 y3 y4 y5
  -- asked again
  have qA := q₇.keep x₉
  obtain ⟨ats, haA, halA, hatA⟩ := id qA
  refine JS.cons (JS.ite (JB.mono (Q := fun c H' => c = false ∧ Ext [] Ha H') (JB.and (JB.cmpOk (JV.nameC y2 (JV.comp [] (JV.nameL y1 ⟨al, rfl, _, ats.map .ref, _, fun i H' acc => H' = Ha ∧ acc = ((qs.take i).map (·.1)).map I, Src.list, by rw [List.length_map, halA]; exact lw (Nat.le_of_lt hql), ⟨rfl, rfl⟩, ?_, ?_, ?_⟩))))) ?_))
  · rintro i H' acc ⟨rfl, _⟩; exact haA
  · rintro i v Hb acc hv ⟨rfl, rfl⟩ Cc Bc rv hrv
    rw [List.getElem?_map] at hv
    obtain ⟨ta, hta, rfl⟩ := Option.map_eq_some_iff.mp hv
    obtain ⟨⟨one, other⟩, hqi, htt⟩ := hatA i ta hta
    refine JU.pair Stores.l Stores.l hrv htt ⟨mcap_updL2 rfl rfl, JB.tests0 (iteT ?_)⟩
    refine JV.nameL (updL_k rfl updL_same) ⟨rfl, ?_⟩
    rw [List.take_add_one, hqi, List.map_append, List.map_append]; rfl
  · rintro Hb acc ⟨rfl, rfl⟩ D hD
    have et : qs.take (ats.map Value.ref).length = qs := List.take_of_length_le (by rw [List.length_map, halA]; exact Nat.le_refl _)
    rw [et]
    refine ⟨_, CmpOk.inL (vs := qs.map (·.1)) (upd_self _ _ _), ?_⟩
    have bA : (upd Hb D (.list ((qs.map (·.1)).map I))) b = some (.tup [.ref tl, .ref vl]) := (x₉.fresh hD) _ _ b₇ (by simp)
    have tA : (upd Hb D (.list ((qs.map (·.1)).map I))) tl = some (.list (S.tups.map .ref)) := (x₉.fresh hD) _ _ tl₇ (by simp)
    split
    · rename_i qe
      obtain ⟨g', hg', eg⟩ := List.any_eq_true.mp qe
      obtain ⟨q, hqm, rfl⟩ := List.mem_map.mp hg'
      have eg' : q.1 = g := by simpa using eg
      have hS : S₁ = S := s₁ (eg' ▸ (hqs q hqm).1)
      refine JB.and1 (JB.cmpOk (JV.nameL y5 (JV.callN (JV.nameB (by show nsIn (Mine.heap _) _ _ = _; k_is) (by boot_by_name) (⟨by exact trivial, JL.cons (JV.itemT (JV.nameL y3 (JV.cint ⟨b, _, 0, .ref tl, rfl, rfl, bA, by decide, by decide, rfl, JL.nil ?_⟩)))⟩)))))
      intro raws hr
      obtain ⟨r1, rfl, e1⟩ := args1 hr
      obtain rfl := nz_ref e1
      refine JV.lenL tA (by rw [List.length_map]; exact lb room.tupsle) ⟨_, CmpOk.neI, ?_⟩
      rw [List.length_map, hS]
      exact ⟨by simp, Ext.refl.fresh hD⟩
    · exact ⟨rfl, Ext.refl.fresh hD⟩
  rintro _ Hb ⟨rfl, xb⟩
  refine iteF (JS.nil ?_)
  have x₇b := x₉.trans xb
  have kb := k₇.keep x₇b
  have cb := c₇.keep x₇b
  have qb := q₇.keep x₇b
  have hFb := hF₇.keep x₇b
  -- the same once more
  refine JS.cons (JS.ite (JB.or (JB.cmpOk (JV.methN (JV.nameC y0 ⟨K.c, 114, clM K A whole, 104, rfl, kb.io, k_literal_of _, rfl, JL.cons (JV.nameC y2 (JL.nil ?_))⟩)))))
  intro raws hr
  refine literal_of_spec (g := g) (rm rem) kb cb qa.ap hz16 I₁ F₁ w₁ hg (by first | exact hr | exact mp hr) fun y S₂ Hc I₂ F₂ w₂ o₂ s₂ lit₂ go₂ kc xc => ?_
  have hS := s₂ go₁
  subst hS
  have hyx := LitIs.one I₂.nodup lit₁ lit₂
  subst hyx
  have cc := cb.cls kb qa.ap xc
  have qc := qb.kept kb qa xc
  have hFc := hFb.kept kb qa xc
  refine JV.nameC y4 ⟨_, CmpOk.neI, ?_⟩
  rw [show (y != y) = false by simp]
  refine iteF (JB.or1 (JB.cmpOk (JV.callN (JV.nameB (by show nsIn (Mine.heap _) _ _ = _; k_is) (by boot_by_name) (⟨by exact trivial, JL.cons (JV.attr (JV.nameC y0 ⟨K.c, 114, clM K A whole, .ref K.cl, rfl, kc.io, k_clauses _, rfl, trivial, JL.nil ?_⟩))⟩)))))
  intro raws hr
  obtain ⟨r1, rfl, e1⟩ := args1 hr
  obtain rfl := nz_ref e1
  refine JV.lenL kc.clauses (by rw [List.length_map]; exact lb room₁.tupsle) (JV.nameL y5 ⟨_, CmpOk.neI, ?_⟩)
  rw [List.length_map, show (((S₂.tups.length : Nat) : Int) != ((S₂.tups.length : Nat) : Int)) = false by simp]
  refine iteF (JS.nil ?_)
  -- laid down
  obtain ⟨ats, hac, halc, hatc⟩ := id qc
  refine JS.cons (JS.expr (JV.appendE (JV.nameL y1 ⟨al, _, rfl, hac, JV.tupE (JL.cons (JV.nameC y2 (JL.cons (JV.nameC y4 (JL.nil ⟨by show 2 ≤ sizeLine; decide, fun t ht => ?_⟩)))))⟩)))
  have xt : Ext [] Hc (upd Hc t (.tup [I g, I y])) := Ext.refl.fresh ht
  have tt : (upd Hc t (.tup [I g, I y])) t = some (.tup [I g, I y]) := upd_self _ _ _
  generalize upd Hc t (.tup [I g, I y]) = Hd at xt tt
  obtain ⟨vs, p1, p2, p3, p4, p5, p6⟩ := asked_put (qc.keep xt) (kc.keep xt) (cc.keep xt) (hFc.keep xt) qa tt
  refine ⟨vs, p1, by rw [p2]; exact lw (Nat.le_of_lt hql), trivial, ?_⟩
  refine JS.cons (JS.ret (JV.cbool (h g y S₂ _ I₂ F₂ w₂ (fun q hq => ?_) p4 p5 p3 p6 ?_)))
  · rcases List.mem_append.mp hq with hq | hq
    · exact qlit q hq
    · rw [List.mem_singleton] at hq; subst hq; exact ⟨go₁, lit₁⟩
  · exact (((x07.trans (x₇b.wide (by simp))).trans (xc.wide (by simp))).trans (xt.wide (by simp))).write (by simp)
end
end Mine
end

section -- JX
open PySem PySem.W PySem.Calls PyProof.Rows PySem.SeqAt
set_option Elab.async false
set_option maxRecDepth 100000
set_option linter.unusedVariables false
namespace Mine
variable {prog : Program} {KF : Params → Frag}

theorem cells_same (names : List (Str × NameKind)) : ∀ (n k : Nat) (acc acc' : List (Str × Addr)), acc.map (·.1) = acc'.map (·.1) → ((cellsFrom n names acc).map (·.1)) = ((cellsFrom k names acc').map (·.1)) := by
  induction names with
  | nil => intro n k acc acc' e; exact e
  | cons p r ih =>
    intro n k acc acc' e
    obtain ⟨x, kd⟩ := p
    unfold cellsFrom
    split
    · exact ih _ _ _ _ (by simp [e])
    · exact ih _ _ _ _ e
theorem lookup_same : ∀ {l l' : List (Str × Addr)} {y : Str}, l.map (·.1) = l'.map (·.1) → (l.lookup y).isSome = (l'.lookup y).isSome := by
  intro l
  induction l with
  | nil => intro l' y e; cases l' with | nil => rfl | cons _ _ => cases e
  | cons p r ih =>
    intro l' y e
    cases l' with
    | nil => cases e
    | cons p' r' =>
      simp only [List.map_cons, List.cons.injEq] at e
      obtain ⟨x, c⟩ := p
      obtain ⟨x', c'⟩ := p'
      simp only at e
      obtain ⟨rfl, e⟩ := e
      simp only [List.lookup_cons]
      split
      · rfl
      · exact ih e

/-- the call that the claim makes -/
theorem enter_caller {fx : Fx prog KF} {s : Shared} (hs : s.heap = fx.h₀) (hgens : s.gens = #[]) (hos : s.os = fx.os) {f : Addr} {raws : List Value} {Q : Value → Prop} {name qual : Str} {params : Arguments} {body : List Stmt} {scope : Scope} {dV kV doc pm cdv ct oc : Value} {an od : Option Addr} {osl : Array (Option Value)} {binds : List (Str × Value)}
    (ho : fx.K.lookup f = some ⟨oc, od, .func (fnOf name qual params body scope dV kV doc pm an cdv ct), osl⟩) (hcd : codeIn fx.K cdv qual = true)
    (hbind : bindArgs (fnOf name qual params body scope dV kV doc pm an cdv ct) ⟨raws, []⟩ = pure binds)
    (hkind : (binds.all fun y => scope.names.lookup y.1 == some .local || scope.names.lookup y.1 == some .cell) = true)
    (hloc : ∀ y, ((cellsFrom 0 scope.names []).lookup y).isSome = true → scope.names.lookup y ≠ some .local)
    (hnc : ∀ y ∈ binds, ((cellsFrom 0 scope.names []).lookup y.1).isSome = false → scope.names.lookup y.1 = some .local)
    (hnd : (binds.map (·.1)).Nodup)
    (h : ∀ (A : Around) (L : Addr) (B : Addr → Option Obj), JS fx ⟨A, envOfC qual scope L f cdv, B, 300⟩ (fun _ => none) (binding binds) (execs body (envOfC qual scope L f cdv)) fun fl H₁ _ => Q (retOf fl))
    (hco : scope.isCoroutine = false) (hgen : scope.isGenerator = false) (hk : scope.kind = .function) :
    wpAny (model prog fx.w) callerA (call (.ref f) raws) (fun v s' => Q (nz v) ∧ (∀ b o, s.heap.get? b = some o → s'.heap.get? b = some o) ∧ s'.os = s.os ∧ s'.gens = #[]) noE s := by
  have X : fx.K.In s.heap := by rw [hs]; exact fx.X
  have lim : s.heap.NoLimit := by rw [hs]; exact fx.lim
  have cs0 : ∀ n y, ((cellsFrom n scope.names []).lookup y).isSome = ((cellsFrom 0 scope.names []).lookup y).isSome := fun n y => lookup_same (cells_same scope.names n 0 [] [] rfl)
  refine wpAny_call (codeAny_call_cells (fd := fnOf name qual params body scope dV kV doc pm an cdv ct) (body := body) (binds := binds) (by show 1 + 300 < 1000; decide) (X _ _ ho) rfl lim (codeRec_of X hcd) rfl hbind rfl
    (kindsX hkind _) (fun s₁ x => ?_) hco hgen hk)
  have x' : InCallC s s.heap.objs.size (bindL (envOfC qual scope s.heap.objs.size f cdv).kindOf binds fun _ => none) (cellsFrom (s.heap.objs.size + 1) scope.names []) (bindC (envOfC qual scope s.heap.objs.size f cdv).kindOf binds fun _ => none) s₁ := x
  clear x
  obtain ⟨h₁, tk, rfl, hk₁⟩ := x'.done
  have kd : ∀ y, (envOfC qual scope s.heap.objs.size f cdv).kindOf y = scope.names.lookup y := fun _ => rfl
  have S₁ : St fx ⟨callerA.deeper (envOfC qual scope s.heap.objs.size f cdv), envOfC qual scope s.heap.objs.size f cdv, fun _ => none, 300⟩ (fun _ => none) (binding binds) { s with heap := h₁, toks := tk } := by
    have above : ∀ y c, (cellsFrom (s.heap.objs.size + 1) scope.names []).lookup y = some c → s.heap.objs.size < c := fun y c e => x'.above y c (mem_of_lookup e)
    have hsz : fx.h₀.objs.size = s.heap.objs.size := by rw [hs]
    refine ⟨⟨by show 1 + 300 + 1 + 300 < 1000; decide, by show 4 + 3 + 12 * 300 < 9900; decide, rfl, hk, rfl, rfl⟩, fun b o e => hk₁ _ _ (by rw [hs]; exact e), fun a ao e => (nomatch e), fun a o e => (nomatch e), ⟨_, x'.toInCall.ns, fun y v hc e => ?_⟩, fun y c e => ⟨_, x'.cell y c e, fun u hu => ?_⟩, hgens, hos,
      fun a ao e => (nomatch e),
      ⟨by show fx.h₀.objs.size ≤ s.heap.objs.size; omega, rfl, fun y c hc => Nat.ne_of_gt (above y c hc)⟩, fun y c hc => ⟨by have := above y c hc; omega, rfl, fun z d hz n => lookup_pairwise x'.apart hc hz n⟩⟩
    · cases q : binds.lookup y with
      | none => rw [binding, q] at e; cases e
      | some u =>
        have hm := mem_of_lookup q
        have hl : scope.names.lookup y = some .local := hnc (y, u) hm (by rw [← cs0 (s.heap.objs.size + 1)]; show ((cellsFrom (s.heap.objs.size + 1) scope.names []).lookup y).isSome = false; rw [show (cellsFrom (s.heap.objs.size + 1) scope.names []).lookup y = none from hc]; rfl)
        rw [bindL_lookup _ _ _ _ hnd (by rw [kd]; exact hl), q]
        rw [binding, q] at e
        exact e
    · have hn : (envOfC qual scope s.heap.objs.size f cdv).kindOf y ≠ some .local := by
        rw [kd]; exact hloc y (by rw [← cs0 (s.heap.objs.size + 1)]; show ((cellsFrom (s.heap.objs.size + 1) scope.names []).lookup y).isSome = true; rw [show (cellsFrom (s.heap.objs.size + 1) scope.names []).lookup y = some c from e]; rfl)
      rw [bindC_lookup _ _ _ _ hnd hn]
      unfold binding at hu
      cases q : binds.lookup y with
      | none => rw [q] at hu; cases hu
      | some u' => rw [q] at hu; exact hu
  exact wpAny_mono (h _ _ _ _ S₁) (fun fl s' ⟨H', m', S', q⟩ => ⟨by cases fl <;> exact q, fun b o e => S'.base b o (by rw [← hs]; exact e), S'.os.trans hos.symm, S'.gens⟩) fun _ _ e => e.elim
end Mine
end

section -- PC
open PySem PySem.W PySem.Calls PyProof.Rows PySem.SeqAt
set_option Elab.async false
set_option maxRecDepth 100000
set_option linter.unusedVariables false
namespace Mine

theorem LitOK.more {C D : List Gate} {x : Int} (h : LitOK C x) : LitOK (C ++ D) x := ⟨h.1, Nat.le_trans h.2 (by simp)⟩
theorem ModelOf.less {C D : List Gate} {T : Nat → Bool} (h : ModelOf (C ++ D) T) : ModelOf C T := ⟨h.1, fun k a b e => h.2 k a b (by rw [List.getElem?_append_left (List.getElem?_eq_some_iff.mp e).1]; exact e)⟩
theorem ClOK.more {C D : List Gate} {vars c : List Int} (h : ClOK C vars c) : ClOK (C ++ D) vars c := ⟨h.1, h.2.1, fun T hT => h.2.2 T hT.less⟩
theorem DoneSide.more {C D : List Gate} {S : KSt} {s : Int} (h : DoneSide C S s) (hs : LitOK C s) : DoneSide (C ++ D) S s :=
  ⟨h.1, fun k a b e1 e2 => h.2 k a b e1 (by
    have hk : k < C.length := by have := hs.2; omega
    rw [List.getElem?_append_left hk] at e2; exact e2)⟩
theorem CInv.more {C D : List Gate} {S : KSt} {X : Int → Prop} {e : Nat} (h : CInv C S X e) : CInv (C ++ D) S X e where
  vars v hv := ⟨(h.vars v hv).1, by have := (h.vars v hv).2; simp; omega⟩
  nodup := h.nodup
  opn := h.opn
  op s hs := ⟨(h.op s hs).1.more, (h.op s hs).2⟩
  wait := h.wait
  tups := h.tups
  count := h.count
  sound c hc := (h.sound c hc).more
  done s hs hw hx := (h.done s hs hw hx).more (h.op s hs).1

theorem CInv.start (C : List Gate) : CInv C (startS (inputsFrom 2 C)) Nope 0 where
  vars v hv := by
    have := inputsFrom_bound C 2 v hv
    omega
  nodup := inputsFrom_nodup C 2
  opn := List.nodup_nil
  op s hs := by cases hs
  wait s hs := by cases hs
  tups := rfl
  count := Nat.le_refl _
  sound c hc := by cases hc
  done s hs := by cases hs
theorem Full.start (whole : Int) (vs : List Int) : Full whole (startS vs) := fun _ s hs => by cases hs
theorem inputsFrom_none : ∀ (D : List Gate) (n : Nat), (∀ g ∈ D, g ≠ .input) → inputsFrom n D = []
  | [], _, _ => rfl
  | .input :: r, n, h => absurd rfl (h .input (by simp))
  | .and a b :: r, n, h => by rw [inputsFrom]; exact inputsFrom_none r (n + 1) fun g hg => h g (.tail _ hg)

theorem not_mem_cons2 {a b : Addr} {l : List Addr} (h1 : a ≠ b) (h2 : a ∉ l) : a ∉ b :: l := fun h => (List.mem_cons.mp h).elim h1 h2

structure LH (H : OH) (F : FA) (A : CA) (K : KA) (pl il al : Addr) (n : Nat) (C : List Gate) (whole : Int) (S : KSt) (ps is : List Int) (qs : List (Int × Int)) : Prop where
  feed : FeedH H F n
  circ : CircH H A C
  kept : KH H K A whole S
  asked : AskH H al qs
  qa : QA A K F al
  pool : H pl = some (.list (ps.map I))
  inp : H il = some (.list (is.map I))
  pok : ∀ p ∈ ps, LitOK C p
  iok : ∀ p ∈ is, LitOK C p
  inv : CInv C S Nope 0
  full : Full whole S
  w : S.waiting = []
  qok : ∀ q ∈ qs, q.1 ∈ S.opened ∧ LitIs S.vars q.1 q.2
  fa1 : F.cl ≠ A.ka
  fa2 : F.cl ≠ A.pa
  pd : pl ∉ [F.cl, A.ka, A.pa, K.cl, K.gl, K.wa, al, il]
  idd : il ∉ [F.cl, A.ka, A.pa, K.cl, K.gl, K.wa, al]

section
variable {H H' : OH} {F : FA} {A : CA} {K : KA} {pl il al : Addr} {n n' : Nat} {C C' : List Gate} {whole : Int} {S S' : KSt} {ps is : List Int} {qs : List (Int × Int)}

theorem FeedH.not_d {a : Addr} {ao : AO} (h : FeedH H F n) (ha : H a = some ao) (hn : ∀ kvs, ao ≠ .sdict kvs) : a ≠ F.d := by
  obtain ⟨kvs, hd⟩ := h.dk
  exact ne_of_kind ha hd (hn kvs)

/-- the feed and the circuit move -/
theorem LH.circ' (h : LH H F A K pl il al n C whole S ps is qs) (hF : FeedH H' F n') (hC : CircH H' A (C ++ C')) (x : Ext (F.d :: A.W) H H') : LH H' F A K pl il al n' (C ++ C') whole S ps is qs := by
  obtain ⟨ats, ha, _⟩ := id h.asked
  have hp := h.pd
  have hi := h.idd
  simp only [List.mem_cons, List.not_mem_nil, or_false, not_or] at hp hi
  have nl : ∀ {a vs}, H a = some (.list vs) → a ≠ A.ka → a ≠ A.pa → a ∉ F.d :: A.W := fun e n1 n2 => not_mem_cons2 (h.feed.not_d e (by simp)) (not_W h.circ e n1 n2 (by simp))
  have nk : ∀ {a ao}, H a = some ao → (∀ vs, ao ≠ .list vs) → (∀ kvs, ao ≠ .sdict kvs) → (∀ kvs, ao ≠ .tdict kvs) → a ∉ F.d :: A.W := fun e n1 n2 n3 => not_mem_cons2 (h.feed.not_d e n2) (not_W' h.circ e n1 n3)
  have nt : ∀ t p, H t = some (.tup p) → t ∉ F.d :: A.W := fun t p e => nk e (by simp) (by simp) (by simp)
  exact {
    feed := hF
    circ := hC
    kept := h.kept.ext x (nk h.kept.inst (by simp) (by simp) (by simp)) (nk h.kept.dict (by simp) (by simp) (by simp)) (nl h.kept.clauses (Ne.symm h.qa.ap.k1) (Ne.symm h.qa.ap.p1)) (nl h.kept.gates (Ne.symm h.qa.ap.k2) (Ne.symm h.qa.ap.p2)) (nk h.kept.numbers (by simp) (by simp) (by simp)) (nk h.kept.opened (by simp) (by simp) (by simp)) (nl h.kept.waiting (Ne.symm h.qa.ap.k3) (Ne.symm h.qa.ap.p3)) nt
    asked := h.asked.ext x (nl ha h.qa.ak h.qa.ap') nt
    qa := h.qa
    pool := x _ _ h.pool (nl h.pool hp.2.1 hp.2.2.1)
    inp := x _ _ h.inp (nl h.inp hi.2.1 hi.2.2.1)
    pok := fun p q => (h.pok p q).more
    iok := fun p q => (h.iok p q).more
    inv := h.inv.more
    full := h.full
    w := h.w
    qok := h.qok
    fa1 := h.fa1
    fa2 := h.fa2
    pd := h.pd
    idd := h.idd }
theorem LH.grown {k : Nat} (h : LH H F A K pl il al n C whole S ps is qs) (g : Grow k C C') (hF : FeedH H' F n') (hC : CircH H' A C') (x : Ext (F.d :: A.W) H H') : LH H' F A K pl il al n' C' whole S ps is qs := by
  obtain ⟨D, rfl, _⟩ := g
  exact h.circ' hF hC x
theorem LH.next (h : LH H F A K pl il al n C whole S ps is qs) (hF : FeedH H' F n') (x : Ext [F.d] H H') : LH H' F A K pl il al n' C whole S ps is qs := by
  have := h.circ' (C' := []) hF (by rw [List.append_nil]; exact h.circ.feed h.feed x) (x.wide (by simp))
  rw [List.append_nil] at this
  exact this
theorem LH.keep (h : LH H F A K pl il al n C whole S ps is qs) (x : Ext [] H H') : LH H' F A K pl il al n C whole S ps is qs := h.next (h.feed.keep x) (x.wide (by simp))
theorem LH.le (h : LH H F A K pl il al n C whole S ps is qs) (x : n ≤ n') : LH H F A K pl il al n' C whole S ps is qs := { h with feed := h.feed.le x }
theorem LH.input (h : LH H F A K pl il al n C whole S ps is qs) (hC : CircH H' A (C ++ [.input])) (x : Ext [A.ka, A.pa] H H') : LH H' F A K pl il al n (C ++ [.input]) whole S ps is qs :=
  h.circ' (h.feed.circ h.circ h.fa1 h.fa2 (x.wide (by simp))) hC (x.wide (by simp))

theorem CircH.list {vs us : List Value} {a : Addr} (h : CircH H A C) (ha : H a = some (.list vs)) (n1 : a ≠ A.ka) (n2 : a ≠ A.pa) : CircH (upd H a (.list us)) A C := by
  obtain ⟨ts, p1, _⟩ := h.parts
  obtain ⟨kn, k1, _⟩ := h.known
  exact h.ext (W := [a]) (Ext.refl.write (by simp)) (not_mem1 (ne_of_kind h.inst ha (by simp))) (not_mem1 (ne_of_kind h.dict ha (by simp))) (not_mem1 (Ne.symm n1)) (not_mem1 (Ne.symm n2)) (not_mem1 (ne_of_kind k1 ha (by simp))) fun t p e => not_mem1 (ne_of_kind e ha (by simp))
theorem KH.list {vs us : List Value} {a : Addr} (h : KH H K A whole S) (ha : H a = some (.list vs)) (n1 : a ≠ K.cl) (n2 : a ≠ K.gl) (n3 : a ≠ K.wa) : KH (upd H a (.list us)) K A whole S :=
  h.ext (W := [a]) (Ext.refl.write (by simp)) (not_mem1 (ne_of_kind h.inst ha (by simp))) (not_mem1 (ne_of_kind h.dict ha (by simp))) (not_mem1 (Ne.symm n1)) (not_mem1 (Ne.symm n2)) (not_mem1 (ne_of_kind h.numbers ha (by simp))) (not_mem1 (ne_of_kind h.opened ha (by simp))) (not_mem1 (Ne.symm n3))
    fun t p e => not_mem1 (ne_of_kind e ha (by simp))
theorem FeedH.list {vs us : List Value} {a : Addr} (h : FeedH H F n) (ha : H a = some (.list vs)) (n1 : a ≠ F.cl) : FeedH (upd H a (.list us)) F n := by
  obtain ⟨kvs, hd⟩ := h.dk
  exact h.ext (W := [a]) (Ext.refl.write (by simp)) (not_mem1 (ne_of_kind hd ha (by simp))) (not_mem1 (Ne.symm n1))
theorem AskH.list {vs us : List Value} {a : Addr} (h : AskH H al qs) (ha : H a = some (.list vs)) (n1 : a ≠ al) : AskH (upd H a (.list us)) al qs :=
  h.ext (W := [a]) (Ext.refl.write (by simp)) (not_mem1 (Ne.symm n1)) fun t p e => not_mem1 (ne_of_kind e ha (by simp))

theorem LH.pushP (h : LH H F A K pl il al n C whole S ps is qs) {p : Int} (hp : LitOK C p) : LH (upd H pl (.list ((ps ++ [p]).map I))) F A K pl il al n C whole S (ps ++ [p]) is qs := by
  have hn := h.pd
  simp only [List.mem_cons, List.not_mem_nil, or_false, not_or] at hn
  exact { h with
    feed := h.feed.list h.pool hn.1
    circ := h.circ.list h.pool hn.2.1 hn.2.2.1
    kept := h.kept.list h.pool hn.2.2.2.1 hn.2.2.2.2.1 hn.2.2.2.2.2.1
    asked := h.asked.list h.pool hn.2.2.2.2.2.2.1
    pool := upd_self _ _ _
    inp := by rw [upd_ne _ _ (Ne.symm hn.2.2.2.2.2.2.2)]; exact h.inp
    pok := fun q hq => (List.mem_append.mp hq).elim (h.pok q) fun e => by rw [List.mem_singleton] at e; subst e; exact hp }
theorem LH.pushI (h : LH H F A K pl il al n C whole S ps is qs) {p : Int} (hp : LitOK C p) : LH (upd H il (.list ((is ++ [p]).map I))) F A K pl il al n C whole S ps (is ++ [p]) qs := by
  have hn := h.idd
  have hm := h.pd
  simp only [List.mem_cons, List.not_mem_nil, or_false, not_or] at hn hm
  exact { h with
    feed := h.feed.list h.inp hn.1
    circ := h.circ.list h.inp hn.2.1 hn.2.2.1
    kept := h.kept.list h.inp hn.2.2.2.1 hn.2.2.2.2.1 hn.2.2.2.2.2.1
    asked := h.asked.list h.inp hn.2.2.2.2.2.2
    inp := upd_self _ _ _
    pool := by rw [upd_ne _ _ hm.2.2.2.2.2.2.2]; exact h.pool
    iok := fun q hq => (List.mem_append.mp hq).elim (h.iok q) fun e => by rw [List.mem_singleton] at e; subst e; exact hp }
/-- a question was answered -/
theorem LH.ask (h : LH H F A K pl il al n C whole S ps is qs) {qs' : List (Int × Int)} (i : CInv C S' Nope 0) (f : Full whole S') (w : S'.waiting = []) (q : ∀ q ∈ qs', q.1 ∈ S'.opened ∧ LitIs S'.vars q.1 q.2) (k : KH H' K A whole S') (c : CircH H' A C) (a : AskH H' al qs') (hF : FeedH H' F n')
    (x : Ext (F.d :: al :: K.W) H H') : LH H' F A K pl il al n' C whole S' ps is qs' := by
  have hn := h.idd
  have hm := h.pd
  simp only [List.mem_cons, List.not_mem_nil, or_false, not_or] at hn hm
  exact { h with
    feed := hF
    circ := c
    kept := k
    asked := a
    pool := x _ _ h.pool (not_mem_cons2 (h.feed.not_d h.pool (by simp)) (not_mem_cons2 hm.2.2.2.2.2.2.1 (not_KW h.kept h.pool hm.2.2.2.1 hm.2.2.2.2.1 hm.2.2.2.2.2.1 (by simp))))
    inp := x _ _ h.inp (not_mem_cons2 (h.feed.not_d h.inp (by simp)) (not_mem_cons2 hn.2.2.2.2.2.2 (not_KW h.kept h.inp hn.2.2.2.1 hn.2.2.2.2.1 hn.2.2.2.2.2.1 (by simp))))
    inv := i
    full := f
    w := w
    qok := q }
end

/-- the names that the law's loop reads -/
structure LN (m : Loc) (F : FA) (A : CA) (K : KA) (pl il al : Addr) (many : Int) : Prop where
  feed : m (Str.ofString "feed") = some (.ref F.d)
  circ : m (Str.ofString "circuit") = some (.ref A.c)
  inp : m (Str.ofString "inputs") = some (.ref il)
  pool : m (Str.ofString "pool") = some (.ref pl)
  asked : m (Str.ofString "asked") = some (.ref al)
  kept : m (Str.ofString "kept") = some (.ref K.c)
  many : m (Str.ofString "many") = some (I many)
theorem LN.lap {m : Loc} {F : FA} {A : CA} {K : KA} {pl il al : Addr} {many : Int} (h : LN m F A K pl il al many) (v : Value) : LN (updL m (Str.ofString "lap") v) F A K pl il al many :=
  ⟨updL_k rfl h.feed, updL_k rfl h.circ, updL_k rfl h.inp, updL_k rfl h.pool, updL_k rfl h.asked, updL_k rfl h.kept, updL_k rfl h.many⟩
theorem LN.row {m : Loc} {F : FA} {A : CA} {K : KA} {pl il al : Addr} {many : Int} (h : LN m F A K pl il al many) (v : Value) : LN (updL m (Str.ofString "row") v) F A K pl il al many :=
  ⟨updL_k rfl h.feed, updL_k rfl h.circ, updL_k rfl h.inp, updL_k rfl h.pool, updL_k rfl h.asked, updL_k rfl h.kept, updL_k rfl h.many⟩
end Mine
end

section -- FT
open PySem PySem.W PySem.Calls PyProof.Rows PySem.SeqAt
set_option Elab.async false
set_option maxRecDepth 100000
set_option linter.unusedVariables false
namespace Mine
theorem primeFT : (fun (_ : OpenLaw) (_ : Params → Frag) => True) PySem.Challenge.rw_nz0385_01 Mine.heap := by
  k_fill
  trivial

theorem range_at {n i : Nat} {v : Value} (h : (rangeVals 0 n)[i]? = some v) : i < n ∧ v = I (i : Int) := by
  have hi : i < n := by have := (List.getElem?_eq_some_iff.mp h).1; simpa [rangeVals] using this
  have : (rangeVals 0 n)[i]? = some (I (0 + (i : Int))) := by simp [rangeVals, hi]
  rw [this] at h
  refine ⟨hi, ?_⟩
  rw [← Option.some.inj h]; congr 1; omega

/-- bounds: a few short lemmas keep the long walk's proofs small -/
theorem li {a b c i m : Nat} (h : i < 4) (d : Nat.ble (a + b * 4 + c + 1) m = true := by rfl) : a + b * i + c < m :=
  Nat.lt_of_le_of_lt (Nat.add_le_add_right (Nat.add_le_add_left (Nat.mul_le_mul_left b (Nat.le_of_lt h)) a) c) (Nat.le_of_ble_eq_true d)
theorem li0 {a b i m : Nat} (h : i < 4) (d : Nat.ble (a + b * 4 + 1) m = true := by rfl) : a + b * i < m :=
  Nat.lt_of_le_of_lt (Nat.add_le_add_left (Nat.mul_le_mul_left b (Nat.le_of_lt h)) a) (Nat.le_of_ble_eq_true d)
theorem nst {a b c d i : Nat} (h : Nat.ble (a + c) (d + b) = true := by rfl) : a + b * i + c ≤ d + b * (i + 1) := by
  have := Nat.le_of_ble_eq_true h; rw [Nat.mul_add, Nat.mul_one]; omega
theorem lm {a b i x k : Nat} (h : x ≤ a + b * i) (hi : i < 4) (d : Nat.ble (a + b * 4) k = true := by rfl) : x ≤ k :=
  Nat.le_trans h (Nat.le_trans (Nat.add_le_add_left (Nat.mul_le_mul_left b (Nat.le_of_lt hi)) a) (Nat.le_of_ble_eq_true d))
theorem lm1 {a i x k : Nat} (h : x ≤ a + i) (hi : i < 4) (d : Nat.ble (a + 4) k = true := by rfl) : x ≤ k :=
  Nat.le_trans h (Nat.le_trans (Nat.add_le_add_left (Nat.le_of_lt hi) a) (Nat.le_of_ble_eq_true d))
theorem st {a b c d i : Nat} (h : Nat.ble (a + c) d = true := by rfl) : a + b * i + c ≤ d + b * i := by
  have := Nat.le_of_ble_eq_true h; omega
theorem sg {a b d i : Nat} (h : Nat.ble a d = true := by rfl) : a + b * i ≤ d + b * i := Nat.add_le_add_right (Nat.le_of_ble_eq_true h) _
theorem up {x a d r : Nat} (h : x ≤ a + r) (e : Nat.ble a d = true := by rfl) : x ≤ d + r := Nat.le_trans h (Nat.add_le_add_right (Nat.le_of_ble_eq_true e) _)
theorem upN {x k a c d r : Nat} (g : x ≤ k + c) (h : k ≤ a + r) (e : Nat.ble (a + c) d = true := by rfl) : x ≤ d + r := by
  have := Nat.le_of_ble_eq_true e; omega
theorem up1 {α} {xs : List α} {y : α} {a d r : Nat} (h : xs.length ≤ a + r) (e : Nat.ble (a + 1) d = true := by rfl) : (xs ++ [y]).length ≤ d + r := by
  have := Nat.le_of_ble_eq_true e; simp; omega
theorem nx {x a b d i : Nat} (h : x ≤ a + b * i) (e : Nat.ble a (d + b) = true := by rfl) : x ≤ d + b * (i + 1) := by
  have := Nat.le_of_ble_eq_true e; rw [Nat.mul_add, Nat.mul_one]; omega
theorem nx1 {x a d i : Nat} (h : x ≤ a + i) (e : Nat.ble a (d + 1) = true := by rfl) : x ≤ d + (i + 1) := by
  have := Nat.le_of_ble_eq_true e; omega
theorem pos1 {α} {xs : List α} {y : α} : 0 < (xs ++ [y]).length := by simp
theorem len1 {α} {xs : List α} {y : α} {i : Nat} (h : xs.length ≤ i) : (xs ++ [y]).length ≤ i + 1 := by simp; omega
theorem szm {xs : List Int} {k m : Nat} (h : xs.length ≤ k) (d : Nat.ble k m = true := by rfl) : (xs.map I).length ≤ m := by rw [List.length_map]; exact lw h d
theorem szl {xs : List Int} {k m : Nat} (h : xs.length ≤ k) (d : Nat.ble (k + 1) m = true := by rfl) : (xs.map I).length < m := by rw [List.length_map]; exact lb h d
theorem rlo {a v : Int} (h : 0 ≤ v) (ha : 0 ≤ a) : -(2 ^ 62) ≤ a + v := by omega
theorem rhi {a v : Int} (h : v < 3) (ha : a ≤ 2) : a + v < 2 ^ 62 := by omega
theorem rup {a v : Int} {i : Nat} (hi : i < (a + v).toNat) (ha : a ≤ 2) (h : v < 3) : i < 4 := by omega
theorem rup3 {v : Int} (h : v < 3) : (1 + v).toNat ≤ 3 := by omega
theorem whole2 {v : Int} (h : 0 ≤ v) (l : v < 2) : v = 0 ∨ v = 1 := by omega
theorem litNew {C : List Gate} : LitOK (C ++ [.input]) ((C.length : Int) + 2) := ⟨by omega, by simp; omega⟩
theorem klo {k : Nat} : -(2 ^ 62) ≤ ((k : Nat) : Int) := by omega
theorem khi {k : Nat} (h : k < 2 ^ 20) : ((k : Nat) : Int) < 2 ^ 62 := by omega
theorem ksub {k : Nat} : (((k : Nat) : Int) - 0).toNat = k := by omega
theorem pw {n k : Nat} (h : n ≤ k) (d : Nat.ble (2 * k) (2 ^ 27) = true := by rfl) : ((2 : Nat) : Int) * (n : Int) ≤ 2 ^ 27 := by
  have := Nat.le_of_ble_eq_true d; omega

set_option maxHeartbeats 32000000 in
theorem law_spec {fx : FX} {s : Shared} (hs : s.heap = fx.h₀) (hg : s.gens = #[]) (hos : s.os = fx.os) {a : Addr} {xs : List Value} {ns : List Int} (hx : fx.h₀.IsList a xs.toArray) (hi : IntsAre xs ns) (hl : xs.length ≤ 63) :
    wpAny (model PG fx.w) callerA (call (.ref 277) [.ref a]) (fun v s' => nz v = .bool true ∧ (∀ b o, s.heap.get? b = some o → s'.heap.get? b = some o) ∧ s'.os = s.os ∧ s'.gens = #[]) noE s := by
  have zl : sizeLine = 2 ^ 24 := rfl
  have hnl : ns.length ≤ 63 := by rw [← hi.length]; exact hl
  refine' enter_caller (fx := fx) hs hg hos (Q := fun x => x = Value.bool true) (binds := [(Str.ofString "script", .ref a)]) ?ho ?hcd ?hbind ?hkind ?hloc ?hnc ?hnd ?h ?h1 ?h2 ?h3
  case ho => show List.lookup _ (Mine.heap _) = _; k_is
  case hcd => show codeIn (Mine.heap _) _ _ = _; k_is
  case hbind => rfl
  case hkind => rfl
  case hloc => exact locC rfl
  case hnc => exact nloc rfl
  case hnd => exact (by decide : [Str.ofString "script"].Nodup)
  case h1 => rfl
  case h2 => rfl
  case h3 => rfl
  intro A' L B
  refine JS.cons (JS.assignL (JV.dictS2 fun fd hfd => JV.cstr (JV.comp [] (JV.sliceBase (JV.nameL rfl (JV.cint ⟨a, xs, 60, rfl, rfl, hx, lw hl, fun sl hsl => ?_⟩))))))
  rw [ints_nz hi, ← List.map_take]
  refine ⟨sl, rfl, _, (ns.take 60).map I, _, fun i H' acc => H' = upd (upd (fun _ => none) fd (.sdict [])) sl (.list ((ns.take 60).map I)) ∧ acc = (((ns.take 60).take i).map fun c => c.fmod 5040).map I, Src.list, by rw [List.length_map, List.length_take]; exact lw (Nat.min_le_left _ _), ⟨rfl, rfl⟩, ?_, ?_, ?_⟩
  · rintro i H' acc ⟨rfl, _⟩; exact upd_self _ _ _
  · rintro i v H₁ acc hv ⟨rfl, rfl⟩ Cc Bc rv hrv
    rw [List.getElem?_map] at hv
    obtain ⟨c, hc, rfl⟩ := Option.map_eq_some_iff.mp hv
    refine JU.nameL ⟨mcap_updL rfl, JB.tests0 (iteT ?_)⟩
    rw [hrv]
    refine JV.mod (JV.nameL updL_same (JV.cint ⟨c, 5040, rfl, rfl, by decide, rfl, ?_⟩))
    rw [List.take_add_one (i := i) (l := ns.take 60), hc, List.map_append, List.map_append]; rfl
  rintro H₀ acc ⟨rfl, rfl⟩ D hD
  have et : (ns.take 60).take ((ns.take 60).map I).length = ns.take 60 := List.take_of_length_le (by rw [List.length_map]; exact Nat.le_refl _)
  rw [et]
  generalize hcs : (ns.take 60).map (fun c => c.fmod 5040) = cs
  have hcl : cs.length ≤ 60 := by rw [← hcs, List.length_map, List.length_take]; exact Nat.min_le_left _ _
  have hfd0 : (upd (upd (fun _ => none) fd (.sdict [])) sl (.list ((ns.take 60).map I))) fd = some (.sdict []) := by rw [upd_ne _ _ (by rintro rfl; rw [upd_self] at hsl; cases hsl), upd_self]
  generalize upd (upd (fun _ => none) fd (.sdict [])) sl (.list ((ns.take 60).map I)) = Hx at hD hfd0
  have hfd1 : (upd Hx D (.list (cs.map I))) fd = some (.sdict []) := by rw [upd_ne _ _ (ne_new hfd0 hD)]; exact hfd0
  have hDfd : D ≠ fd := (ne_new hfd0 hD).symm
  refine JV.cstr (JV.cint ⟨Str.ofString "cells", Str.ofString "spot", rfl, rfl, by decide, hfd1, ?_⟩)
  dsimp only
  have hF₁ : FeedH (upd (upd Hx D (.list (cs.map I))) fd (.sdict [(Str.ofString "cells", .ref D), (Str.ofString "spot", I 0)])) ⟨fd, D⟩ 0 :=
    ⟨0, cs, upd_self _ _ _, by show upd _ _ _ D = _; rw [upd_ne _ _ hDfd, upd_self], Nat.le_refl _, lb hcl⟩
  generalize hF : (⟨fd, D⟩ : FA) = F at hF₁
  have hFd : F.d = fd := by rw [← hF]
  have hFc : F.cl = D := by rw [← hF]
  rw [← hFd]
  show JS fx _ (upd (upd Hx D (.list (cs.map I))) F.d (.sdict [(Str.ofString "cells", .ref D), (Str.ofString "spot", I 0)])) _ _ _
  rw [hFd]
  generalize upd (upd Hx D (.list (cs.map I))) fd (.sdict [(Str.ofString "cells", .ref D), (Str.ofString "spot", I 0)]) = H₁ at hF₁
  obtain ⟨vcl, hcl₁⟩ := hF₁.ck
  have f0 : updL (binding [(Str.ofString "script", Value.ref a)]) (Str.ofString "feed") (.ref F.d) (Str.ofString "feed") = some (.ref F.d) := rfl
  rw [← hFd]
  generalize updL (binding [(Str.ofString "script", Value.ref a)]) (Str.ofString "feed") (.ref F.d) = m₁ at f0
  -- circuit, whole
  refine JS.cons (JS.assign2 Stores.c Stores.l (by decide) (JV.tupE (JL.cons (JV.call0 (JV.nameG (by show nsIn (Mine.heap _) _ _ = _; k_is) (⟨by show keepIn (Mine.heap _) _ = _; k_is, ?_⟩))))) (by first | exact .inl rfl | exact .inr rfl))
  refine circ_make (Nat.le_of_ble_eq_true rfl) fun A H₂ hC₂ x₂ nka npa => ?_
  refine JL.cons (JV.callN (JV.nameG (by show nsIn (Mine.heap _) _ _ = _; k_is) (⟨by show keepIn (Mine.heap _) _ = _; k_is, JL.cons (JV.nameL f0 (JL.cons (JV.cint (JL.nil ?_))))⟩)))
  intro raws hr
  have fa1 : F.cl ≠ A.ka := ne_new hcl₁ nka
  have fa2 : F.cl ≠ A.pa := ne_new hcl₁ npa
  have hF₂ := hF₁.keep x₂
  refine next_spec (n := 0) (wide := 2) (Nat.le_of_ble_eq_true rfl) hF₂ (by decide) (by decide) (by first | exact hr | exact mp hr) fun whole H₃ w0 w1 hF₃ x₃ => JL.nil ⟨by show 2 ≤ sizeLine; decide, fun t ht => ⟨t, .ref A.c, I whole, rfl, upd_self _ _ _, ?_⟩⟩
  dsimp only
  have hC₄ := (hC₂.feed hF₂ x₃).keep (Ext.refl.fresh (ao := .tup [.ref A.c, I whole]) ht)
  have hF₄ := hF₃.keep (Ext.refl.fresh (ao := .tup [.ref A.c, I whole]) ht)
  generalize upd H₃ t (.tup [.ref A.c, I whole]) = H₄ at hC₄ hF₄
  have g0 : updL (updL m₁ (Str.ofString "circuit") (.ref A.c)) (Str.ofString "whole") (I whole) (Str.ofString "feed") = some (.ref F.d) := updL_k rfl (updL_k rfl f0)
  have g1 : updL (updL m₁ (Str.ofString "circuit") (.ref A.c)) (Str.ofString "whole") (I whole) (Str.ofString "circuit") = some (.ref A.c) := updL_k rfl updL_same
  have g2 : updL (updL m₁ (Str.ofString "circuit") (.ref A.c)) (Str.ofString "whole") (I whole) (Str.ofString "whole") = some (I whole) := updL_same
  generalize updL (updL m₁ (Str.ofString "circuit") (.ref A.c)) (Str.ofString "whole") (I whole) = m₂ at g0 g1 g2
  -- inputs
  refine JS.cons (JS.assignComp [Str.ofString "circuit"] (JV.callN (JV.nameB (by show nsIn (Mine.heap _) _ _ = _; k_is) (by boot_by_name) (⟨by exact trivial, JL.cons (JV.cint (JL.nil ?_))⟩))) (fun B H₂ m₂ v => JU.nameL ⟨rfl, rfl⟩))
  intro raws hr
  obtain ⟨r1, rfl, e1⟩ := args1 hr
  refine JV.range1 e1 fun r t u w hrn => ⟨r, rfl, _, rangeVals 0 2, _, fun i H' acc => H' r = some (.raw (rangeObj 0 2 t u w)) ∧ CircH H' A (List.replicate i .input) ∧ FeedH H' F 1 ∧ acc = [I 2, I 3].take i,
    Src.range (a := 0) (b := 2) (n := 2) (t := t) (u := u) (v := w) (by decide) (by decide) (by decide) (by decide) (by decide), by show 2 ≤ sizeLine; decide, ⟨upd_self _ _ _, hC₄.keep (Ext.refl.fresh hrn), hF₄.keep (Ext.refl.fresh hrn), rfl⟩, fun i H' acc hh => hh.1, ?_, ?_⟩
  · rintro i v H₅ acc hv ⟨hr₅, c₅, f₅, rfl⟩ Cc Bc rv hrv
    have hi2 : i < 2 := by have := (List.getElem?_eq_some_iff.mp hv).1; simpa [rangeVals] using this
    refine JU.nameL ⟨mcap_updL rfl, JB.tests0 (iteT ?_)⟩
    refine JV.meth0 (JV.nameC (updL_k rfl g1) ⟨A.c, 224, circM A, 167, rfl, c₅.io, k_new_input _, rfl, new_input_spec (Nat.le_of_ble_eq_true rfl) c₅ (by rw [List.length_replicate]; exact lb (Nat.le_of_lt hi2)) rfl fun H₆ c₆ x₆ => ?_⟩)
    obtain ⟨ts, p1, _⟩ := c₅.parts
    refine ⟨x₆ _ _ hr₅ (not_mem_cons2 (ne_of_kind hr₅ c₅.kinds (by simp)) (not_mem1 (ne_of_kind hr₅ p1 (by simp)))), by rw [List.replicate_succ']; exact c₆, f₅.circ c₅ fa1 fa2 (x₆.wide (by simp)), ?_⟩
    rw [List.length_replicate]
    match i, hi2 with
    | 0, _ => rfl
    | 1, _ => rfl
  rintro H₅ acc ⟨hr₅, c₅, f₅, rfl⟩ il hil
  have et2 : [I 2, I 3].take (rangeVals 0 2).length = [2, 3].map I := rfl
  rw [et2]
  dsimp only
  have elen : (rangeVals 0 2).length = 2 := rfl
  rw [elen] at c₅
  have c₆ := c₅.keep (Ext.refl.fresh (ao := .list ([2, 3].map I)) hil)
  have f₆ := f₅.keep (Ext.refl.fresh (ao := .list ([2, 3].map I)) hil)
  have il₆ : (upd H₅ il (.list ([2, 3].map I))) il = some (.list ([2, 3].map I)) := upd_self _ _ _
  have ik : il ≠ A.ka := (ne_new c₅.kinds hil).symm
  have ip : il ≠ A.pa := by obtain ⟨ts, p1, _⟩ := c₅.parts; exact (ne_new p1 hil).symm
  have ic : il ≠ F.cl := by obtain ⟨vs, q⟩ := f₅.ck; exact (ne_new q hil).symm
  generalize upd H₅ il (.list ([2, 3].map I)) = H₆ at c₆ f₆ il₆
  have h0 : updL m₂ (Str.ofString "inputs") (.ref il) (Str.ofString "feed") = some (.ref F.d) := updL_k rfl g0
  have h1 : updL m₂ (Str.ofString "inputs") (.ref il) (Str.ofString "circuit") = some (.ref A.c) := updL_k rfl g1
  have h2 : updL m₂ (Str.ofString "inputs") (.ref il) (Str.ofString "whole") = some (I whole) := updL_k rfl g2
  have h3 : updL m₂ (Str.ofString "inputs") (.ref il) (Str.ofString "inputs") = some (.ref il) := updL_same
  generalize updL m₂ (Str.ofString "inputs") (.ref il) = m₃ at h0 h1 h2 h3
  -- pool, asked
  refine JS.cons (JS.assign2 Stores.l Stores.l (by decide) (JV.tupE (JL.cons (JV.callN (JV.nameB (by show nsIn (Mine.heap _) _ _ = _; k_is) (by boot_by_name) (⟨by exact trivial, JL.cons (JV.nameL h3 (JL.nil ?_))⟩))))) (by first | exact .inl rfl | exact .inr rfl))
  intro raws hr
  obtain ⟨r1, rfl, e1⟩ := args1 hr
  obtain rfl := nz_ref e1
  refine JV.listOf il₆ (by show 2 ≤ sizeLine; decide) fun pl hpl => JL.cons (JV.listE (JL.nil ⟨Nat.zero_le _, fun al hal => JL.nil ⟨by show 2 ≤ sizeLine; decide, fun tp htp => ⟨tp, .ref pl, .ref al, rfl, upd_self _ _ _, ?_⟩⟩⟩))
  dsimp only
  have pl₇ : (upd H₆ pl (.list ([2, 3].map I))) pl = some (.list ([2, 3].map I)) := upd_self _ _ _
  have x₇ : Ext [] H₆ (upd (upd (upd H₆ pl (.list ([2, 3].map I))) al (.list [])) tp (.tup [.ref pl, .ref al])) := ((Ext.refl.fresh hpl).fresh hal).fresh htp
  have pl₈ : (upd (upd (upd H₆ pl (.list ([2, 3].map I))) al (.list [])) tp (.tup [.ref pl, .ref al])) pl = some (.list ([2, 3].map I)) := (((Ext.refl (W := [])).fresh hal).fresh htp) _ _ pl₇ (by simp)
  have al₈ : (upd (upd (upd H₆ pl (.list ([2, 3].map I))) al (.list [])) tp (.tup [.ref pl, .ref al])) al = some (.list []) := ((Ext.refl (W := [])).fresh htp) _ _ (upd_self _ _ _) (by simp)
  have al₆n : H₆ al = none := fresh_of (W := []) (Ext.refl.fresh hpl) (by simp) hal
  have pk : pl ≠ A.ka := (ne_new c₆.kinds hpl).symm
  have pp : pl ≠ A.pa := by obtain ⟨ts, p1, _⟩ := c₆.parts; exact (ne_new p1 hpl).symm
  have pc : pl ≠ F.cl := by obtain ⟨vs, q⟩ := f₆.ck; exact (ne_new q hpl).symm
  have pi : pl ≠ il := (ne_new il₆ hpl).symm
  have ak : al ≠ A.ka := (ne_new c₆.kinds al₆n).symm
  have ap : al ≠ A.pa := by obtain ⟨ts, p1, _⟩ := c₆.parts; exact (ne_new p1 al₆n).symm
  have ac : al ≠ F.cl := by obtain ⟨vs, q⟩ := f₆.ck; exact (ne_new q al₆n).symm
  have ai : il ≠ al := ne_new il₆ al₆n
  have pa : pl ≠ al := ne_new pl₇ hal
  have c₈ := c₆.keep x₇
  have f₈ := f₆.keep x₇
  have il₈ := x₇ _ _ il₆ (by simp)
  generalize upd (upd (upd H₆ pl (.list ([2, 3].map I))) al (.list [])) tp (.tup [.ref pl, .ref al]) = H₈ at c₈ f₈ il₈ pl₈ al₈
  have i0 : updL (updL m₃ (Str.ofString "pool") (.ref pl)) (Str.ofString "asked") (.ref al) (Str.ofString "feed") = some (.ref F.d) := updL_k rfl (updL_k rfl h0)
  have i1 : updL (updL m₃ (Str.ofString "pool") (.ref pl)) (Str.ofString "asked") (.ref al) (Str.ofString "circuit") = some (.ref A.c) := updL_k rfl (updL_k rfl h1)
  have i2 : updL (updL m₃ (Str.ofString "pool") (.ref pl)) (Str.ofString "asked") (.ref al) (Str.ofString "whole") = some (I whole) := updL_k rfl (updL_k rfl h2)
  have i3 : updL (updL m₃ (Str.ofString "pool") (.ref pl)) (Str.ofString "asked") (.ref al) (Str.ofString "inputs") = some (.ref il) := updL_k rfl (updL_k rfl h3)
  have i4 : updL (updL m₃ (Str.ofString "pool") (.ref pl)) (Str.ofString "asked") (.ref al) (Str.ofString "pool") = some (.ref pl) := updL_k rfl updL_same
  have i5 : updL (updL m₃ (Str.ofString "pool") (.ref pl)) (Str.ofString "asked") (.ref al) (Str.ofString "asked") = some (.ref al) := updL_same
  generalize updL (updL m₃ (Str.ofString "pool") (.ref pl)) (Str.ofString "asked") (.ref al) = m₄ at i0 i1 i2 i3 i4 i5
  -- the first gates
  refine JS.cons (JS.forE (JV.callN (JV.nameB (by show nsIn (Mine.heap _) _ _ = _; k_is) (by boot_by_name) (⟨by exact trivial, JL.cons (JV.add (JV.cint (JV.callN (JV.nameG (by show nsIn (Mine.heap _) _ _ = _; k_is) (⟨by show keepIn (Mine.heap _) _ = _; k_is, JL.cons (JV.nameL i0 (JL.cons (JV.cint (JL.nil ?_))))⟩)))))⟩))))
  intro raws hr
  refine next_spec (n := 1) (wide := 3) (Nat.le_of_ble_eq_true rfl) f₈ (by decide) (by decide) (by first | exact hr | exact mp hr) fun v H₉ v0 v1 f₉ x₉ => ⟨1, v, rfl, rfl, JL.nil ?_⟩
  have c₉ := c₈.feed f₈ x₉
  have pl₉ := x₉ _ _ pl₈ (not_mem1 (f₈.not_d pl₈ (by simp)))
  have il₉ := x₉ _ _ il₈ (not_mem1 (f₈.not_d il₈ (by simp)))
  have al₉ := x₉ _ _ al₈ (not_mem1 (f₈.not_d al₈ (by simp)))
  intro raws hr
  obtain ⟨r1, rfl, e1⟩ := args1 hr
  refine JV.range1 e1 fun r t u w hrn => ⟨r, rfl, _, rangeVals 0 (1 + v).toNat, _, fun i H' m' => H' r = some (.raw (rangeObj 0 (1 + v) t u w)) ∧ H' il = some (.list ([2, 3].map I)) ∧ H' al = some (.list []) ∧ (∃ (C : List Gate) (ps : List Int), CircH H' A C ∧ FeedH H' F (2 + 7 * i) ∧ H' pl = some (.list (ps.map I)) ∧ (∀ p ∈ ps, LitOK C p) ∧ ps.length = 2 + i ∧ Grow (3 * i) [.input, .input] C) ∧
      m' (Str.ofString "feed") = some (.ref F.d) ∧ m' (Str.ofString "circuit") = some (.ref A.c) ∧ m' (Str.ofString "whole") = some (I whole) ∧ m' (Str.ofString "inputs") = some (.ref il) ∧ m' (Str.ofString "pool") = some (.ref pl) ∧ m' (Str.ofString "asked") = some (.ref al),
    Src.range (a := 0) (b := 1 + v) (n := (1 + v).toNat) (t := t) (u := u) (v := w) (by rw [Int.sub_zero]) (by decide) (by decide) (rlo v0 (by decide)) (rhi v1 (by decide)), ?_, fun i H' m' hh => hh.1, ?_, ?_⟩
  · have xr : Ext [] H₉ (upd H₉ r (.raw (rangeObj 0 (1 + v) t u w))) := Ext.refl.fresh hrn
    refine ⟨upd_self _ _ _, xr _ _ il₉ (by simp), xr _ _ al₉ (by simp), ⟨[.input, .input], [2, 3], c₉.keep xr, f₉.keep xr, xr _ _ pl₉ (by simp), fun p hp => ?_, rfl, Grow.refl⟩, i0, i1, i2, i3, i4, i5⟩
    simp only [List.mem_cons, List.not_mem_nil, or_false] at hp
    rcases hp with rfl | rfl
    · exact ⟨by decide, by decide⟩
    · exact ⟨by decide, by decide⟩
  · rintro i v' Ha ma hv ⟨hra, ila, ala, ⟨C, ps, ca, fa, pla, pok, plen, gr⟩, j0, j1, j2, j3, j4, j5⟩ B' rv hrv
    have hi3 : i < 4 := rup (range_at hv).1 (by decide) v1
    have gl := gr.len
    simp only [List.length_cons, List.length_nil] at gl
    refine JU.nameL ?_
    have k0 : updL ma (Str.ofString "lap") (nz rv) (Str.ofString "feed") = some (.ref F.d) := updL_k rfl j0
    have k1 : updL ma (Str.ofString "lap") (nz rv) (Str.ofString "circuit") = some (.ref A.c) := updL_k rfl j1
    have k2 : updL ma (Str.ofString "lap") (nz rv) (Str.ofString "whole") = some (I whole) := updL_k rfl j2
    have k3 : updL ma (Str.ofString "lap") (nz rv) (Str.ofString "inputs") = some (.ref il) := updL_k rfl j3
    have k4 : updL ma (Str.ofString "lap") (nz rv) (Str.ofString "pool") = some (.ref pl) := updL_k rfl j4
    have k5 : updL ma (Str.ofString "lap") (nz rv) (Str.ofString "asked") = some (.ref al) := updL_k rfl j5
    generalize updL ma (Str.ofString "lap") (nz rv) = mb at k0 k1 k2 k3 k4 k5
    refine JS.cons (JS.expr (JV.appendE (JV.nameL k4 ⟨pl, _, rfl, pla, JV.callN (JV.nameG (by show nsIn (Mine.heap _) _ _ = _; k_is) (⟨by show keepIn (Mine.heap _) _ = _; k_is, JL.cons (JV.nameL k0 (JL.cons (JV.nameC k1 (JL.cons (JV.nameL k4 (JL.nil ?_))))))⟩))⟩)))
    intro raws hr
    have plW : pl ∉ F.d :: A.W := not_mem_cons2 (fa.not_d pla (by simp)) (not_W ca pla pk pp (by simp))
    have ilW : il ∉ F.d :: A.W := not_mem_cons2 (fa.not_d ila (by simp)) (not_W ca ila ik ip (by simp))
    have alW : al ∉ F.d :: A.W := not_mem_cons2 (fa.not_d ala (by simp)) (not_W ca ala ak ap (by simp))
    have rW : r ∉ F.d :: A.W := not_mem_cons2 (fa.not_d hra (by simp)) (not_W' ca hra (by simp) (by simp))
    refine made_spec (n := 2 + 7 * i) (pl := pl) (ps := ps) (Nat.le_of_ble_eq_true rfl) fa (li hi3) ca (lb (Nat.add_le_add_right (lm gl.2 hi3 (k := 14)) 3)) fa1 fa2 pla pok (by rw [plen, Nat.add_comm]; exact Nat.succ_pos _) (lb (lm1 (Nat.le_of_eq plen) hi3 (k := 6))) (by first | exact hr | exact mp hr) fun rr C' Hb b1 b2 b3 b4 b5 => ?_
    have plb := b5 _ _ pla plW
    refine ⟨ps.map I, plb, szm (lm1 (Nat.le_of_eq plen) hi3 (k := 6)), trivial, ?_⟩
    have ep : ps.map I ++ [I rr] = (ps ++ [rr]).map I := by simp
    dsimp only
    rw [ep]
    refine JS.nil ⟨?_, ?_, ?_, ⟨C', ps ++ [rr], b3.list plb pk pp, (b4.le (Nat.le_refl _)).list plb pc, upd_self _ _ _, fun p hp => ?_, by rw [List.length_append, plen]; rfl, gr.trans b2⟩, k0, k1, k2, k3, k4, k5⟩
    · rw [upd_ne _ _ (ne_of_kind (b5 _ _ hra rW) plb (by simp))]; exact b5 _ _ hra rW
    · rw [upd_ne _ _ (Ne.symm pi)]; exact b5 _ _ ila ilW
    · rw [upd_ne _ _ (Ne.symm pa)]; exact b5 _ _ ala alW
    · rcases List.mem_append.mp hp with hp | hp
      · exact (pok p hp).grow b2
      · rw [List.mem_singleton] at hp; subst hp; exact b1
  rintro Ha ma ⟨hra, ila, ala, ⟨C, ps, ca, fa, pla, pok, plen, gr⟩, j0, j1, j2, j3, j4, j5⟩
  have erl : (rangeVals 0 (1 + v).toNat).length < 4 := by rw [show (rangeVals 0 (1 + v).toNat).length = (1 + v).toNat by simp [rangeVals]]; exact Nat.lt_succ_of_le (rup3 v1)
  generalize (rangeVals 0 (1 + v).toNat).length = nl at fa plen gr erl
  have glen := gr.len
  simp only [List.length_cons, List.length_nil] at glen
  dsimp only
  -- kept
  refine JS.cons (JS.assignC (JV.callN (JV.nameG (by show nsIn (Mine.heap _) _ _ = _; k_is) (⟨by show keepIn (Mine.heap _) _ = _; k_is, JL.cons (JV.nameC j1 (JL.cons (JV.nameL j2 (JL.nil ?_))))⟩))))
  intro raws hr
  refine cls_make (C := C) (whole := whole) (Nat.le_of_ble_eq_true rfl) ca (lb (lm glen.2 erl (k := 14))) (by first | exact hr | exact mp hr) fun K Hb kb xb nkc nkg nkw => ?_
  dsimp only
  have hvars : inputsFrom 2 C = [2, 3] := by
    obtain ⟨D', rfl, _, hD'⟩ := gr
    show (2 : Int) :: 3 :: inputsFrom 4 D' = _
    rw [inputsFrom_none D' 4 hD']
  obtain ⟨tsa, pa1, _⟩ := ca.parts
  obtain ⟨vfa, fca⟩ := fa.ck
  have L₀ : LH Hb F A K pl il al (2 + 7 * nl) C whole (startS (inputsFrom 2 C)) ps [2, 3] [] := {
    feed := fa.keep xb
    circ := ca.keep xb
    kept := kb
    asked := ⟨[], xb _ _ ala (by simp), rfl, by simp⟩
    qa := ⟨⟨ne_new ca.kinds nkc, ne_new ca.kinds nkg, ne_new ca.kinds nkw, ne_new pa1 nkc, ne_new pa1 nkg, ne_new pa1 nkw⟩, ne_new fca nkc, ne_new fca nkg, ne_new fca nkw, ne_new ala nkc, ne_new ala nkg, ne_new ala nkw, ac, ak, ap⟩
    pool := xb _ _ pla (by simp)
    inp := xb _ _ ila (by simp)
    pok := pok
    iok := fun p hp => by
      simp only [List.mem_cons, List.not_mem_nil, or_false] at hp
      rcases hp with rfl | rfl
      · exact ⟨by decide, Nat.le_succ_of_le glen.1⟩
      · exact ⟨by decide, Nat.succ_le_succ glen.1⟩
    inv := CInv.start C
    full := Full.start _ _
    w := rfl
    qok := by simp
    fa1 := fa1
    fa2 := fa2
    pd := by simp only [List.mem_cons, List.not_mem_nil, or_false, not_or]; exact ⟨pc, pk, pp, ne_new pla nkc, ne_new pla nkg, ne_new pla nkw, pa, pi⟩
    idd := by simp only [List.mem_cons, List.not_mem_nil, or_false, not_or]; exact ⟨ic, ik, ip, ne_new ila nkc, ne_new ila nkg, ne_new ila nkw, ai⟩ }
  have k0 : updL ma (Str.ofString "kept") (.ref K.c) (Str.ofString "feed") = some (.ref F.d) := updL_k rfl j0
  have k1 : updL ma (Str.ofString "kept") (.ref K.c) (Str.ofString "circuit") = some (.ref A.c) := updL_k rfl j1
  have k3 : updL ma (Str.ofString "kept") (.ref K.c) (Str.ofString "inputs") = some (.ref il) := updL_k rfl j3
  have k4 : updL ma (Str.ofString "kept") (.ref K.c) (Str.ofString "pool") = some (.ref pl) := updL_k rfl j4
  have k5 : updL ma (Str.ofString "kept") (.ref K.c) (Str.ofString "asked") = some (.ref al) := updL_k rfl j5
  have k6 : updL ma (Str.ofString "kept") (.ref K.c) (Str.ofString "kept") = some (.ref K.c) := updL_same
  generalize updL ma (Str.ofString "kept") (.ref K.c) = mb at k0 k1 k3 k4 k5 k6
  have hvl : (startS (inputsFrom 2 C)).vars = [2, 3] := hvars
  have k₀ := L₀.kept
  -- the first variables
  refine JS.cons (JS.ite (JB.cmpOk (JV.comp [Str.ofString "kept"] (JV.callN (JV.nameB (by show nsIn (Mine.heap _) _ _ = _; k_is) (by boot_by_name) (⟨by exact trivial, JL.cons (JV.cint (JL.cons (JV.add (JV.meth0 (JV.nameC k6 ⟨K.c, 114, clM K A whole, 57, rfl, k₀.io, k_many _, rfl, many_spec (Nat.le_of_ble_eq_true rfl) k₀ (by rw [hvl]; decide) rfl (JV.cint ⟨_, 1, rfl, rfl, JL.nil ?_⟩)⟩)))))⟩))))))
  rw [hvl]
  intro raws hr
  obtain ⟨r1, r3, rfl, e1, e3⟩ := args2 hr
  refine JV.range2 e1 e3 fun r t u w hrn => ⟨r, rfl, _, rangeVals 1 ([2, 3] : List Int).length, _, VarsInv Hb r (rangeObj 1 (([2, 3] : List Int).length + 1) t u w) [2, 3],
    Src.range (a := 1) (b := (([2, 3] : List Int).length : Int) + 1) (n := ([2, 3] : List Int).length) (t := t) (u := u) (v := w) (by decide) (by decide) (by decide) (by decide) (by decide), by show 2 ≤ sizeLine; decide, ⟨upd_self _ _ _, Ext.refl.fresh hrn, rfl⟩, fun i H' acc hh => hh.1, ?_, ?_⟩
  · rintro i v Hc acc hv ⟨hrc, xc, rfl⟩ Cc Bc rv hrv
    obtain ⟨rfl, g, hgi, htk⟩ := vars_at hv
    refine JU.nameL ⟨mcap_updL rfl, JB.tests0 (iteT ?_)⟩
    rw [hrv]
    refine JV.methN (JV.nameC (updL_k rfl k6) ⟨K.c, 114, clM K A whole, 71, rfl, (k₀.keep xc).io, k_gate_of _, rfl, JL.cons (JV.nameL updL_same (JL.nil ?_))⟩)
    intro raws hr
    exact gate_of_spec (n := i) (g := g) (Nat.le_of_ble_eq_true rfl) (k₀.keep xc) (by rw [hvl]; decide) (by rw [hvl]; exact hgi) (by first | exact hr | exact mp hr) ⟨hrc, xc, htk.symm⟩
  rintro Hc acc ⟨hrc, xc, rfl⟩ G hG
  have etg : ([2, 3] : List Int).take (rangeVals 1 ([2, 3] : List Int).length).length = [2, 3] := rfl
  rw [etg]
  have ilc : (upd Hc G (.list (([2, 3] : List Int).map I))) il = some (.list (([2, 3] : List Int).map I)) := (xc.fresh hG) _ _ L₀.inp (by simp)
  have L₁ := L₀.keep (xc.fresh (ao := .list (([2, 3] : List Int).map I)) hG)
  refine JV.nameL k3 ⟨_, CmpOk.neSame (vs := ([2, 3] : List Int).map I) (upd_self _ _ _) ilc rfl (Nat.le_of_ble_eq_true rfl), iteF (JS.nil ?_)⟩
  generalize upd Hc G (.list (([2, 3] : List Int).map I)) = Hd at L₁
  -- many
  refine JS.cons (JS.assignL (JV.add (JV.cint (JV.callN (JV.nameG (by show nsIn (Mine.heap _) _ _ = _; k_is) (⟨by show keepIn (Mine.heap _) _ = _; k_is, JL.cons (JV.nameL k0 (JL.cons (JV.cint (JL.nil ?_))))⟩))))))
  intro raws hr
  refine next_spec (n := 2 + 7 * nl) (wide := 3) (Nat.le_of_ble_eq_true rfl) L₁.feed (li0 erl) (by decide) (by first | exact hr | exact mp hr) fun mv He q0 q1 fe xe => ⟨2, mv, rfl, rfl, ?_⟩
  dsimp only
  have L₂ := L₁.next fe xe
  have N₀ : LN (updL mb (Str.ofString "many") (I (2 + mv))) F A K pl il al (2 + mv) :=
    ⟨updL_k rfl k0, updL_k rfl k1, updL_k rfl k3, updL_k rfl k4, updL_k rfl k5, updL_k rfl k6, updL_same⟩
  generalize updL mb (Str.ofString "many") (I (2 + mv)) = mc at N₀
  have whole01 : whole = 0 ∨ whole = 1 := whole2 w0 w1
  -- the questions
  refine JS.cons (JS.forE (JV.callN (JV.nameB (by show nsIn (Mine.heap _) _ _ = _; k_is) (by boot_by_name) (⟨by exact trivial, JL.cons (JV.nameL N₀.many (JL.nil ?_))⟩))))
  intro raws hr
  obtain ⟨r1, rfl, e1⟩ := args1 hr
  refine JV.range1 e1 fun r t u w hrn => ⟨r, rfl, _, rangeVals 0 (2 + mv).toNat, _, fun i H' m' => H' r = some (.raw (rangeObj 0 (2 + mv) t u w)) ∧ LN m' F A K pl il al (2 + mv) ∧ ∃ (C : List Gate) (S : KSt) (ps is : List Int) (qs : List (Int × Int)), LH H' F A K pl il al (40 + 20 * i) C whole S ps is qs ∧ C.length ≤ 20 + 4 * i ∧ 0 < ps.length ∧ ps.length ≤ 10 + 2 * i ∧ is.length ≤ 2 + i ∧ qs.length ≤ i,
    Src.range (a := 0) (b := 2 + mv) (n := (2 + mv).toNat) (t := t) (u := u) (v := w) (by rw [Int.sub_zero]) (by decide) (by decide) (rlo q0 (by decide)) (rhi q1 (by decide)),
    ⟨upd_self _ _ _, N₀, C, _, ps, [2, 3], [], (L₂.keep (Ext.refl.fresh hrn)).le (Nat.le_of_lt (li (c := 1) erl)), lm glen.2 erl, by rw [plen, Nat.add_comm]; exact Nat.succ_pos _, lm1 (Nat.le_of_eq plen) erl, by decide, Nat.le_refl _⟩, fun i H' m' hh => hh.1, ?_, ?_⟩
  · rintro i v' Hf mf hv ⟨hrf, Nf, C, S, ps, is, qs, Lf, b1, b2, b3, b4, b5⟩ B' rv hrv
    obtain ⟨hil, rfl⟩ := range_at hv
    have hi4 : i < 4 := rup hil (by decide) q1
    refine JU.nameL ?_
    rw [hrv]
    have Ng := Nf.lap (I i)
    have lap : updL mf (Str.ofString "lap") (I i) (Str.ofString "lap") = some (I i) := updL_same
    generalize updL mf (Str.ofString "lap") (I i) = mg at Ng lap
    have rAW : ∀ {H' : OH} {n : Nat} {C : List Gate} {S : KSt} {ps is : List Int} {qs : List (Int × Int)}, LH H' F A K pl il al n C whole S ps is qs → H' r = some (.raw (rangeObj 0 (2 + mv) t u w)) → r ∉ F.d :: A.W := fun L e => not_mem_cons2 (L.feed.not_d e (by simp)) (not_W' L.circ e (by simp) (by simp))
    have rKW : ∀ {H' : OH} {n : Nat} {C : List Gate} {S : KSt} {ps is : List Int} {qs : List (Int × Int)}, LH H' F A K pl il al n C whole S ps is qs → H' r = some (.raw (rangeObj 0 (2 + mv) t u w)) → r ∉ F.d :: al :: K.W := fun L e =>
      not_mem_cons2 (L.feed.not_d e (by simp)) (not_mem_cons2 (by obtain ⟨ats, ha, _⟩ := L.asked; exact ne_of_kind e ha (by simp)) (not_KW' L.kept e (by simp) (by simp)))
    refine JS.cons (JS.mono (Q := fun fl H' m' => fl = .next ∧ m' = mg ∧ H' r = some (.raw (rangeObj 0 (2 + mv) t u w)) ∧ ∃ (C : List Gate) (ps is : List Int), LH H' F A K pl il al (48 + 20 * i) C whole S ps is qs ∧ C.length ≤ 24 + 4 * i ∧ 0 < ps.length ∧ ps.length ≤ 12 + 2 * i ∧ is.length ≤ 3 + i) (JS.ite (JB.cmpOk (JV.nameL lap (JV.cint ⟨_, CmpOk.gtI, ?_⟩)))) ?_)
    · split
      · refine JS.cons (JS.mono (Q := fun fl H' m' => fl = .next ∧ m' = mg ∧ H' r = some (.raw (rangeObj 0 (2 + mv) t u w)) ∧ ∃ (C : List Gate) (ps is : List Int), LH H' F A K pl il al (41 + 20 * i) C whole S ps is qs ∧ C.length ≤ 21 + 4 * i ∧ 0 < ps.length ∧ ps.length ≤ 11 + 2 * i ∧ is.length ≤ 3 + i)
          (JS.ite (JB.mono (Q := fun c H' => H' r = some (.raw (rangeObj 0 (2 + mv) t u w)) ∧ LH H' F A K pl il al (41 + 20 * i) C whole S ps is qs) (JB.and (JB.cmpOk (JV.nameL lap (JV.cint ⟨_, CmpOk.eqI, ?_⟩)))) ?_)) ?_)
        · split
          · refine JB.and1 (JB.cmpOk (JV.callN (JV.nameG (by show nsIn (Mine.heap _) _ _ = _; k_is) (⟨by show keepIn (Mine.heap _) _ = _; k_is, JL.cons (JV.nameL Ng.feed (JL.cons (JV.cint (JL.nil ?_))))⟩))))
            intro raws hr
            exact next_spec (n := 40 + 20 * i) (wide := 2) (Nat.le_of_ble_eq_true rfl) Lf.feed (li0 hi4) (by decide) (by first | exact hr | exact mp hr) fun v Hg v0 v1 fg xg => JV.cint ⟨_, CmpOk.eqI, xg _ _ hrf (not_mem1 (Lf.feed.not_d hrf (by simp))), (Lf.next fg xg).le st⟩
          · exact ⟨hrf, Lf.le sg⟩
        · rintro c Hh ⟨hrh, Lh⟩
          cases c with
          | false => exact iteF (JS.nil ⟨rfl, rfl, hrh, C, ps, is, Lh, up b1, b2, up b3, up b4⟩)
          | true =>
            refine iteT (JS.cons (JS.expr (JV.appendE (JV.nameL Ng.inp ⟨il, _, rfl, Lh.inp, JV.meth0 (JV.nameC Ng.circ ⟨A.c, 224, circM A, 167, rfl, Lh.circ.io, k_new_input _, rfl, new_input_spec (Nat.le_of_ble_eq_true rfl) Lh.circ (lb (lm b1 hi4 (k := 36))) rfl fun Hi ci xi => ?_⟩)⟩))))
            have Li := Lh.input ci xi
            have hri := xi _ _ hrh (not_mem_cons2 (ne_of_kind hrh Lh.circ.kinds (by simp)) (not_mem1 (by obtain ⟨ts, p1, _⟩ := Lh.circ.parts; exact ne_of_kind hrh p1 (by simp))))
            refine ⟨is.map I, Li.inp, szm (lm1 b4 hi4 (k := 6)), trivial, ?_⟩
            have lit : LitOK (C ++ [.input]) ((C.length : Int) + 2) := litNew
            have Lj := Li.pushI lit
            have ep : is.map I ++ [I ((C.length : Int) + 2)] = (is ++ [(C.length : Int) + 2]).map I := by simp
            dsimp only
            rw [ep]
            have hrj : (upd Hi il (.list ((is ++ [(C.length : Int) + 2]).map I))) r = some (.raw (rangeObj 0 (2 + mv) t u w)) := by rw [upd_ne _ _ (ne_of_kind hri Li.inp (by simp))]; exact hri
            generalize upd Hi il (.list ((is ++ [(C.length : Int) + 2]).map I)) = Hj at Lj hrj
            have inj : Hj il = some (.list (is.map I ++ [I ((C.length : Int) + 2)])) := by rw [Lj.inp, ep]
            refine JS.cons (JS.expr (JV.appendE (JV.nameL Ng.pool ⟨pl, _, rfl, Lj.pool, JV.itemLneg (JV.nameL Ng.inp (JV.neg (JV.cint ⟨1, rfl, il, is.map I, I ((C.length : Int) + 2), rfl, rfl, inj, szl (lm1 b4 hi4 (k := 6)), ps.map I, Lj.pool, szm (lm b3 hi4 (k := 18)), trivial, ?_⟩)))⟩)))
            have Lk := Lj.pushP lit
            have ep2 : ps.map I ++ [I ((C.length : Int) + 2)] = (ps ++ [(C.length : Int) + 2]).map I := by simp
            dsimp only
            rw [ep2]
            refine JS.nil ⟨rfl, rfl, ?_, C ++ [.input], ps ++ [(C.length : Int) + 2], is ++ [(C.length : Int) + 2], Lk, up1 b1, pos1, up1 b3, up1 b4⟩
            rw [upd_ne _ _ (ne_of_kind hrj Lj.pool (by simp))]; exact hrj
        · rintro _ Hl _ ⟨rfl, rfl, hrl, C₁, ps₁, is₁, Ll, d1, d2, d3, d4⟩
          dsimp only
          refine JS.cons (JS.expr (JV.appendE (JV.nameL Ng.pool ⟨pl, _, rfl, Ll.pool, JV.callN (JV.nameG (by show nsIn (Mine.heap _) _ _ = _; k_is) (⟨by show keepIn (Mine.heap _) _ = _; k_is, JL.cons (JV.nameL Ng.feed (JL.cons (JV.nameC Ng.circ (JL.cons (JV.nameL Ng.pool (JL.nil ?_))))))⟩))⟩)))
          intro raws hr
          refine made_spec (n := 41 + 20 * i) (pl := pl) (ps := ps₁) (Nat.le_of_ble_eq_true rfl) Ll.feed (li hi4) Ll.circ (lb (Nat.add_le_add_right (lm d1 hi4 (k := 37)) 3)) Ll.fa1 Ll.fa2 Ll.pool Ll.pok d2 (lb (lm d3 hi4 (k := 19))) (by first | exact hr | exact mp hr) fun rr C' Hm a1 a2 a3 a4 a5 => ?_
          have Lm := Ll.grown a2 a4 a3 a5
          have hrm := a5 _ _ hrl (rAW Ll hrl)
          refine ⟨ps₁.map I, Lm.pool, szm (lm d3 hi4 (k := 19)), trivial, ?_⟩
          have ep : ps₁.map I ++ [I rr] = (ps₁ ++ [rr]).map I := by simp
          dsimp only
          rw [ep]
          have glen := a2.len
          refine JS.nil ⟨rfl, rfl, ?_, C', ps₁ ++ [rr], is₁, (Lm.pushP a1).le st, upN glen.2 d1, pos1, up1 d3, d4⟩
          rw [upd_ne _ _ (ne_of_kind hrm Lm.pool (by simp))]; exact hrm
      · exact JS.nil ⟨rfl, rfl, hrf, C, ps, is, Lf.le sg, up b1, b2, up b3, up b4⟩
    rintro _ Hm _ ⟨rfl, rfl, hrm, C₁, ps₁, is₁, Lm, d1, d2, d3, d4⟩
    dsimp only
    refine JS.cons (JS.ite (JB.not (JB.plain (JV.callN (JV.nameG (by show nsIn (Mine.heap _) _ _ = _; k_is) (⟨by show keepIn (Mine.heap _) _ = _; k_is, JL.cons (JV.nameL Ng.feed (JL.cons (JV.nameC Ng.kept (JL.cons (JV.nameL Ng.pool (JL.cons (JV.nameL Ng.asked (JL.nil ?_))))))))⟩))))))
    intro raws hr
    refine question_spec (n := 48 + 20 * i) (pl := pl) (ps := ps₁) (Nat.le_of_ble_eq_true rfl) Lm.feed (li hi4) Lm.kept Lm.circ Lm.asked Lm.qa (lb (lm d1 hi4 (k := 40))) Lm.inv Lm.full Lm.w Lm.qok (lb (Nat.le_trans b5 (Nat.le_of_lt hi4))) Lm.pool Lm.pok (lb (lm d3 hi4 (k := 20))) (by first | exact hr | exact mp hr) fun g x S' Hn i1 i2 i3 i4 i5 i6 i7 i8 i9 => ⟨true, rfl, iteF (JS.nil ?_)⟩
    have Ln := Lm.ask i1 i2 i3 i4 i5 i6 i7 i8 i9
    have hrn' := i9 _ _ hrm (rKW Lm hrm)
    refine JS.cons (JS.forE (JV.callN (JV.nameB (by show nsIn (Mine.heap _) _ _ = _; k_is) (by boot_by_name) (⟨by exact trivial, JL.cons (JV.mono (Q := fun v H' => ∃ k : Nat, v = I k ∧ k < 2 ^ 20 ∧ Ext [] Hn H') (JV.ife (JB.cmpOk (JV.nameL lap (JV.tupE (JL.cons (JV.cint (JL.cons (JV.sub (JV.nameL Ng.many (JV.cint ⟨2 + mv, 1, rfl, rfl, JL.nil ⟨by show 2 ≤ sizeLine; decide, fun tt htt => ⟨_, CmpOk.inT (vs := [1, 2 + mv - 1]) (upd_self _ _ _), ?_⟩⟩⟩)))))))))) ?_)⟩))))
    · have xtt : Ext [] Hn (upd Hn tt (.tup ([1, 2 + mv - 1].map I))) := Ext.refl.fresh htt
      split
      · refine JV.pow (JV.cint (JV.callN (JV.nameB (by show nsIn (Mine.heap _) _ _ = _; k_is) (by boot_by_name) (⟨by exact trivial, JL.cons (JV.nameL Ng.inp (JL.nil ?_))⟩))))
        intro raws hr
        obtain ⟨r1, rfl, e1⟩ := args1 hr
        obtain rfl := nz_ref e1
        refine JV.lenL (xtt _ _ Ln.inp (by simp)) (szl (lm1 d4 hi4 (k := 7))) ?_
        rw [List.length_map]
        have hb : Builtin.Int.intBits 2 = 2 := by decide +kernel
        refine ⟨2, (is₁.length : Int), rfl, rfl, Int.natCast_nonneg _, by rw [hb]; exact pw (lm1 d4 hi4 (k := 7)), 2 ^ is₁.length, ?_, ?_, xtt⟩
        · rw [Int.toNat_natCast]; congr 1
        · exact Nat.lt_of_le_of_lt (Nat.pow_le_pow_right (by decide) (lm1 d4 hi4 (k := 10))) (by decide)
      · exact JV.cint ⟨0, rfl, by decide, xtt⟩
    rintro _ Ho ⟨k, rfl, hk, xo⟩
    refine JL.nil ?_
    intro raws hr
    obtain ⟨r1, rfl, e1⟩ := args1 hr
    have Lo := Ln.keep xo
    refine JV.range1 e1 fun r2 t2 u2 w2 hr2n => ⟨r2, rfl, _, rangeVals 0 k, _, fun j H' m' => H' r2 = some (.raw (rangeObj 0 k t2 u2 w2)) ∧ H' r = some (.raw (rangeObj 0 (2 + mv) t u w)) ∧ LN m' F A K pl il al (2 + mv) ∧ LH H' F A K pl il al (48 + 20 * i + 2) C₁ whole S' ps₁ is₁ (qs ++ [(g, x)]),
      Src.range (a := 0) (b := k) (n := k) (t := t2) (u := u2) (v := w2) ksub (by decide) (by decide) klo (khi hk), ⟨upd_self _ _ _, (xo.fresh hr2n) _ _ hrn' (by simp), Ng, Lo.keep (Ext.refl.fresh hr2n)⟩, fun j H' m' hh => hh.1, ?_, ?_⟩
    · rintro j v2 Hp mp hv2 ⟨hr2p, hrp, Np, Lp⟩ B2 rv2 hrv2
      obtain ⟨hjl, rfl⟩ := range_at hv2
      refine JU.nameL ?_
      rw [hrv2]
      have Nq := Np.row (I j)
      have row : updL mp (Str.ofString "row") (I j) (Str.ofString "row") = some (I j) := updL_same
      generalize updL mp (Str.ofString "row") (I j) = mq at Nq row
      refine JS.cons (JS.ite (JB.not (JB.plain (JV.callN (JV.nameG (by show nsIn (Mine.heap _) _ _ = _; k_is) (⟨by show keepIn (Mine.heap _) _ = _; k_is, JL.cons (JV.nameC Nq.kept (JL.cons (JV.nameC Nq.circ (JL.cons (JV.nameL Nq.asked (JL.cons (JV.nameL row (JL.nil ?_))))))))⟩))))))
      intro raws hr
      exact row_right_spec (row := j) (Nat.le_of_ble_eq_true rfl) Lp.kept Lp.circ Lp.asked (lb (lm d1 hi4 (k := 40))) Lp.inv Lp.full Lp.w whole01 Lp.qok (by first | exact hr | exact mp hr) fun Hq xq => ⟨true, rfl, iteF (JS.nil (JS.nil ⟨xq _ _ hr2p (by simp), xq _ _ hrp (by simp), Nq, Lp.keep xq⟩))⟩
    · rintro Hp mp ⟨hr2p, hrp, Np, Lp⟩
      exact JS.nil ⟨hrp, Np, C₁, S', ps₁, is₁, qs ++ [(g, x)], Lp.le nst, nx d1, d2, nx d3, nx1 d4, len1 b5⟩
  · rintro Hf mf ⟨hrf, Nf, _⟩
    exact JS.cons (JS.ret (JV.cbool rfl))
end Mine
end

section -- FU
open PySem PySem.W PySem.Calls PyProof.Rows PySem.SeqAt
set_option Elab.async false
set_option maxRecDepth 100000
set_option maxHeartbeats 8000000
set_option linter.unusedVariables false
namespace Mine
theorem primeFU : (fun (_ : OpenLaw) (_ : Params → Frag) => True) PySem.Challenge.rw_nz0385_01 Mine.heap := by
  k_fill
  trivial

theorem law_name (P : Params) : nsIn (heap P) mainGlobals (Str.ofString "law") = some (some (.ref 277)) := by k_is
theorem post_true (args : List WData) : PySem.Challenge.rw_nz0385_01.row.claim.post args (.bool true) args = true := by
  show (WShape.has [] (.bool true) .bool && WTm.holds [] (.eq .res (.lit (.bool true))) { args := args, res := some (.bool true), after := args }) = true
  have h1 : WShape.has [] (WData.bool true) .bool = true := by simp [WShape.has, WShape.arms]
  have h2 : (WTm.eq .res (.lit (.bool true))).value [] { args := args, res := some (.bool true), after := args } = some (.bool true) := w_eq_bool (k := true) (l := true) (w_res rfl) w_lit
  rw [h1, WTm.holds, h2]; rfl

theorem walked {w : World} {s₀ s₁ : Shared} {mg mb : Str → Option Value} (G : Ground vw [] PySem.Challenge.rw_nz0385_01.row.records (XL vw []) w s₀ mg mb s₁.heap) (X : (heap w.params).In s₁.heap) {fa : Addr} (hmg : mg (Str.ofString "law") = some (.ref fa)) (hg : s₁.gens = #[])
    {a : Addr} {xs : List Value} {ns : List Int} (hL : s₁.heap.IsList a xs.toArray) (hI : IntsAre xs ns) (hn : ns.length ≤ 63) (args : List WData) :
    wpAny (model PySem.Challenge.rw_nz0385_01.row.prog w) callerA (call (.ref fa) [.ref a]) (fun v s' => GoodWG PySem.Challenge.rw_nz0385_01.row.claim (classAt s₀.heap) (ExcName.means s₀.heap) args s₁ (.ok (.ret v)) s')
      (fun e s' => GoodWG PySem.Challenge.rw_nz0385_01.row.claim (classAt s₀.heap) (ExcName.means s₀.heap) args s₁ (.error e) s') s₁ := by
  have e := mg_of X G.T.g (law_name w.params)
  have e2 : Value.ref fa = Value.ref 277 := Option.some.inj (hmg.symm.trans e)
  cases e2
  let fx : FX := ⟨w, s₁.heap, s₁.os, mg, mb, X, G.T.g, G.T.b, G.T.builtins, G.T.nolimit, G.low⟩
  refine wpAny_mono (law_spec (fx := fx) (s := s₁) rfl hg rfl hL hI (by rw [hI.length]; exact hn)) (fun v s' ⟨hv, hb, ho, hgens⟩ => GoodW.toG ?_) fun _ _ e => e.elim
  obtain rfl := nz_bool hv
  exact ⟨.inl ⟨.bool true, .bool true, [], rfl, fun _ => rfl, ReadsW.bool _, post_true args, fun _ => ⟨List.nodup_nil, by simp⟩⟩, hb, ho, hgens⟩
end Mine

end

open PySem PySem.W PySem.Calls PyProof.Rows PySem.SeqAt
set_option maxRecDepth 100000 in
set_option maxHeartbeats 8000000 in
theorem PySem.Challenge.cw_nz0385_01_holds : PySem.Challenge.rw_nz0385_01.Holds := by
  refine holds_law (by decide +kernel) fun said => ?_
  refine holds_open (q := Mine.vw) (loose := []) (Xt := fun s => xlAt Mine.vw [] s && recOk [] s) (XP := XL Mine.vw []) (Yf := Hook.obs Mine.hook) (Ya := Hook.val Mine.hook) (YP := Hook.says Mine.hook) (N := 3172) Mine.left (Hook.of Mine.hook) (Hook.keeps Mine.hook)
    (fun s e => xl_of s (Bool.and_eq_true_iff.mp e).1) XL.keeps (by rfl) (by rfl) (by rfl) (fun s e => recFacts_of (Bool.and_eq_true_iff.mp e).2) ?hwr ?k1 ?ok ?hb ?hw ?hc
  case hwr => rfl
  case k1 => first | assumption | decide +kernel
  case ok => decide +kernel
  case hb => exact ⟨rfl, rfl, rfl, rfl, rfl, by decide +kernel⟩
  case hw => w_witness2
  case hc =>
    k_fill
    intro w s₀ s₁ mg mb G Y fa o pm cd doc dV kV ho hd hcd hD hmg hg args vals as hpre hlay hrd hwl hlo
    have X := kIn_of Y
    clear ho hd hcd hD Y
    wrow_args hpre hlay hrd hwl hlo
    rename_i hc _
    exact Mine.walked G X hmg hg (by assumption) (by assumption) (by omega) _
