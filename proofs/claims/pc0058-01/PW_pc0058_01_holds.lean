import PyProof.Rows.All
import Wide.All
import OpenK.AllK
import Wide.FinOn
import Lean
import PySem.Challenge.RW_pc0058_01
open PySem PySem.W PyProof.Rows PySem.Calls
set_option Elab.async false
set_option maxRecDepth 100000
namespace Mine
open LCg (NsObj lst)
section PKF
noncomputable def nth : List Stmt → Nat → Stmt → Stmt
  | [], _, d => d
  | a :: _, 0, _ => a
  | _ :: l, n + 1, d => nth l n d
noncomputable def inCls : Stmt → List Stmt
  | .ClassDef _ _ _ b _ _ _ _ _ _ _ => b
  | _ => []
noncomputable def st (i : Nat) : Stmt := nth PySem.Challenge.pw_pc0058_01.main.body i default
noncomputable def ofDef (s : Stmt) (k : Arguments → List Stmt → Scope → Obj) : Obj := match s with
  | .FunctionDef _ a b _ _ _ sc _ _ _ => k a b sc
  | _ => default
noncomputable def fn160 : Obj := by
  refine (fun (x : Obj) (_ : ofDef (st 29) (fun a b sc => ({ cls := Value.type "function", data := Data.func { name := Str.ofString "up_to", qualname := Str.ofString "up_to", params := a, body := FuncBody.stmts b, scope := sc, globals := 3, closure := [], defaults := Value.none, kwdefaults := Value.none, pyModule := Value.str (Str.ofString "fdsolve.domains") 376, code := Value.ref 159 } } : Obj)) = x) => x) ?x ?h
  case h => conv => lhs; whnf
noncomputable def fn165 : Obj := by
  refine (fun (x : Obj) (_ : ofDef (st 30) (fun a b sc => ({ cls := Value.type "function", data := Data.func { name := Str.ofString "from_on", qualname := Str.ofString "from_on", params := a, body := FuncBody.stmts b, scope := sc, globals := 3, closure := [], defaults := Value.none, kwdefaults := Value.none, pyModule := Value.str (Str.ofString "fdsolve.domains") 376, code := Value.ref 164 } } : Obj)) = x) => x) ?x ?h
  case h => conv => lhs; whnf
noncomputable def fn172 : Obj := by
  refine (fun (x : Obj) (_ : ofDef (st 31) (fun a b sc => ({ cls := Value.type "function", data := Data.func { name := Str.ofString "without", qualname := Str.ofString "without", params := a, body := FuncBody.stmts b, scope := sc, globals := 3, closure := [], defaults := Value.none, kwdefaults := Value.none, pyModule := Value.str (Str.ofString "fdsolve.domains") 376, code := Value.ref 171 } } : Obj)) = x) => x) ?x ?h
  case h => conv => lhs; whnf
noncomputable def fn179 : Obj := by
  refine (fun (x : Obj) (_ : ofDef (st 32) (fun a b sc => ({ cls := Value.type "function", data := Data.func { name := Str.ofString "meet", qualname := Str.ofString "meet", params := a, body := FuncBody.stmts b, scope := sc, globals := 3, closure := [], defaults := Value.none, kwdefaults := Value.none, pyModule := Value.str (Str.ofString "fdsolve.domains") 376, code := Value.ref 178 } } : Obj)) = x) => x) ?x ?h
  case h => conv => lhs; whnf
noncomputable def fn186 : Obj := by
  refine (fun (x : Obj) (_ : ofDef (st 33) (fun a b sc => ({ cls := Value.type "function", data := Data.func { name := Str.ofString "negation", qualname := Str.ofString "negation", params := a, body := FuncBody.stmts b, scope := sc, globals := 3, closure := [], defaults := Value.none, kwdefaults := Value.none, pyModule := Value.str (Str.ofString "fdsolve.domains") 376, code := Value.ref 185 } } : Obj)) = x) => x) ?x ?h
  case h => conv => lhs; whnf
noncomputable def fn193 : Obj := by
  refine (fun (x : Obj) (_ : ofDef (st 34) (fun a b sc => ({ cls := Value.type "function", data := Data.func { name := Str.ofString "struck", qualname := Str.ofString "struck", params := a, body := FuncBody.stmts b, scope := sc, globals := 3, closure := [], defaults := Value.none, kwdefaults := Value.none, pyModule := Value.str (Str.ofString "fdsolve.domains") 376, code := Value.ref 192 } } : Obj)) = x) => x) ?x ?h
  case h => conv => lhs; whnf
noncomputable def fn271 : Obj := by
  refine (fun (x : Obj) (_ : ofDef (nth (inCls (st 40)) 0 default) (fun a b sc => ({ cls := Value.type "function", data := Data.func { name := Str.ofString "__init__", qualname := Str.ofString "Box.__init__", params := a, body := FuncBody.stmts b, scope := sc, globals := 3, closure := [], defaults := Value.none, kwdefaults := Value.none, pyModule := Value.str (Str.ofString "fdsolve.proofs") 540, code := Value.ref 270 } } : Obj)) = x) => x) ?x ?h
  case h => conv => lhs; whnf
noncomputable def fn278 : Obj := by
  refine (fun (x : Obj) (_ : ofDef (nth (inCls (st 40)) 1 default) (fun a b sc => ({ cls := Value.type "function", data := Data.func { name := Str.ofString "domain", qualname := Str.ofString "Box.domain", params := a, body := FuncBody.stmts b, scope := sc, globals := 3, closure := [], defaults := Value.none, kwdefaults := Value.none, pyModule := Value.str (Str.ofString "fdsolve.proofs") 540, code := Value.ref 277 } } : Obj)) = x) => x) ?x ?h
  case h => conv => lhs; whnf
noncomputable def fn285 : Obj := by
  refine (fun (x : Obj) (_ : ofDef (nth (inCls (st 40)) 2 default) (fun a b sc => ({ cls := Value.type "function", data := Data.func { name := Str.ofString "can_hold", qualname := Str.ofString "Box.can_hold", params := a, body := FuncBody.stmts b, scope := sc, globals := 3, closure := [], defaults := Value.none, kwdefaults := Value.none, pyModule := Value.str (Str.ofString "fdsolve.proofs") 540, code := Value.ref 284 } } : Obj)) = x) => x) ?x ?h
  case h => conv => lhs; whnf
noncomputable def fn292 : Obj := by
  refine (fun (x : Obj) (_ : ofDef (nth (inCls (st 40)) 3 default) (fun a b sc => ({ cls := Value.type "function", data := Data.func { name := Str.ofString "does_hold", qualname := Str.ofString "Box.does_hold", params := a, body := FuncBody.stmts b, scope := sc, globals := 3, closure := [], defaults := Value.none, kwdefaults := Value.none, pyModule := Value.str (Str.ofString "fdsolve.proofs") 540, code := Value.ref 291 } } : Obj)) = x) => x) ?x ?h
  case h => conv => lhs; whnf
noncomputable def fn299 : Obj := by
  refine (fun (x : Obj) (_ : ofDef (nth (inCls (st 40)) 4 default) (fun a b sc => ({ cls := Value.type "function", data := Data.func { name := Str.ofString "say", qualname := Str.ofString "Box.say", params := a, body := FuncBody.stmts b, scope := sc, globals := 3, closure := [], defaults := Value.none, kwdefaults := Value.none, pyModule := Value.str (Str.ofString "fdsolve.proofs") 540, code := Value.ref 298 } } : Obj)) = x) => x) ?x ?h
  case h => conv => lhs; whnf
noncomputable def fn306 : Obj := by
  refine (fun (x : Obj) (_ : ofDef (nth (inCls (st 40)) 5 default) (fun a b sc => ({ cls := Value.type "function", data := Data.func { name := Str.ofString "deny", qualname := Str.ofString "Box.deny", params := a, body := FuncBody.stmts b, scope := sc, globals := 3, closure := [], defaults := Value.none, kwdefaults := Value.none, pyModule := Value.str (Str.ofString "fdsolve.proofs") 540, code := Value.ref 305 } } : Obj)) = x) => x) ?x ?h
  case h => conv => lhs; whnf
noncomputable def fn327 : Obj := by
  refine (fun (x : Obj) (_ : ofDef (nth (inCls (st 41)) 0 default) (fun a b sc => ({ cls := Value.type "function", data := Data.func { name := Str.ofString "__init__", qualname := Str.ofString "StepJudge.__init__", params := a, body := FuncBody.stmts b, scope := sc, globals := 3, closure := [], defaults := Value.none, kwdefaults := Value.none, pyModule := Value.str (Str.ofString "fdsolve.proofs") 540, code := Value.ref 326 } } : Obj)) = x) => x) ?x ?h
  case h => conv => lhs; whnf
noncomputable def fn387 : Obj := by
  refine (fun (x : Obj) (_ : ofDef (nth (inCls (st 42)) 0 default) (fun a b sc => ({ cls := Value.type "function", data := Data.func { name := Str.ofString "__init__", qualname := Str.ofString "LogChecker.__init__", params := a, body := FuncBody.stmts b, scope := sc, globals := 3, closure := [], defaults := Value.none, kwdefaults := Value.none, pyModule := Value.str (Str.ofString "fdsolve.proofs") 540, code := Value.ref 386 } } : Obj)) = x) => x) ?x ?h
  case h => conv => lhs; whnf
noncomputable def fn427 : Obj := by
  refine (fun (x : Obj) (_ : ofDef (nth (inCls (st 42)) 6 default) (fun a b sc => ({ cls := Value.type "function", data := Data.func { name := Str.ofString "clashes", qualname := Str.ofString "LogChecker.clashes", params := a, body := FuncBody.stmts b, scope := sc, globals := 3, closure := [], defaults := Value.none, kwdefaults := Value.none, pyModule := Value.str (Str.ofString "fdsolve.proofs") 540, code := Value.ref 426 } } : Obj)) = x) => x) ?x ?h
  case h => conv => lhs; whnf
noncomputable def fn463 : Obj := by
  refine (fun (x : Obj) (_ : ofDef (st 45) (fun a b sc => ({ cls := Value.type "function", data := Data.func { name := Str.ofString "_law_spun", qualname := Str.ofString "_law_spun", params := a, body := FuncBody.stmts b, scope := sc, globals := 3, closure := [], defaults := Value.none, kwdefaults := Value.none, pyModule := Value.str (Str.ofString "law_pc0058_01") 824, code := Value.ref 462 } } : Obj)) = x) => x) ?x ?h
  case h => conv => lhs; whnf
noncomputable def fn470 : Obj := by
  refine (fun (x : Obj) (_ : ofDef (st 46) (fun a b sc => ({ cls := Value.type "function", data := Data.func { name := Str.ofString "_law_literal", qualname := Str.ofString "_law_literal", params := a, body := FuncBody.stmts b, scope := sc, globals := 3, closure := [], defaults := Value.none, kwdefaults := Value.none, pyModule := Value.str (Str.ofString "law_pc0058_01") 824, code := Value.ref 469 } } : Obj)) = x) => x) ?x ?h
  case h => conv => lhs; whnf
noncomputable def fn475 : Obj := by
  refine (fun (x : Obj) (_ : ofDef (st 47) (fun a b sc => ({ cls := Value.type "function", data := Data.func { name := Str.ofString "_law_clause", qualname := Str.ofString "_law_clause", params := a, body := FuncBody.stmts b, scope := sc, globals := 3, closure := [], defaults := Value.none, kwdefaults := Value.none, pyModule := Value.str (Str.ofString "law_pc0058_01") 824, code := Value.ref 474 } } : Obj)) = x) => x) ?x ?h
  case h => conv => lhs; whnf
noncomputable def fn480 : Obj := by
  refine (fun (x : Obj) (_ : ofDef (st 48) (fun a b sc => ({ cls := Value.type "function", data := Data.func { name := Str.ofString "_law_kept", qualname := Str.ofString "_law_kept", params := a, body := FuncBody.stmts b, scope := sc, globals := 3, closure := [], defaults := Value.none, kwdefaults := Value.none, pyModule := Value.str (Str.ofString "law_pc0058_01") 824, code := Value.ref 479 } } : Obj)) = x) => x) ?x ?h
  case h => conv => lhs; whnf
noncomputable def fn485 : Obj := by
  refine (fun (x : Obj) (_ : ofDef (st 49) (fun a b sc => ({ cls := Value.type "function", data := Data.func { name := Str.ofString "_law_goes", qualname := Str.ofString "_law_goes", params := a, body := FuncBody.stmts b, scope := sc, globals := 3, closure := [], defaults := Value.none, kwdefaults := Value.none, pyModule := Value.str (Str.ofString "law_pc0058_01") 824, code := Value.ref 484 } } : Obj)) = x) => x) ?x ?h
  case h => conv => lhs; whnf
noncomputable def fn490 : Obj := by
  refine (fun (x : Obj) (_ : ofDef (st 50) (fun a b sc => ({ cls := Value.type "function", data := Data.func { name := Str.ofString "_law_has_point", qualname := Str.ofString "_law_has_point", params := a, body := FuncBody.stmts b, scope := sc, globals := 3, closure := [], defaults := Value.none, kwdefaults := Value.none, pyModule := Value.str (Str.ofString "law_pc0058_01") 824, code := Value.ref 489 } } : Obj)) = x) => x) ?x ?h
  case h => conv => lhs; whnf
noncomputable def fn497 : Obj := by
  refine (fun (x : Obj) (_ : ofDef (st 51) (fun a b sc => ({ cls := Value.type "function", data := Data.func { name := Str.ofString "_law_ranges", qualname := Str.ofString "_law_ranges", params := a, body := FuncBody.stmts b, scope := sc, globals := 3, closure := [], defaults := Value.none, kwdefaults := Value.none, pyModule := Value.str (Str.ofString "law_pc0058_01") 824, code := Value.ref 496 } } : Obj)) = x) => x) ?x ?h
  case h => conv => lhs; whnf
noncomputable def fn502 : Obj := by
  refine (fun (x : Obj) (_ : ofDef (st 52) (fun a b sc => ({ cls := Value.type "function", data := Data.func { name := Str.ofString "law", qualname := Str.ofString "law", params := a, body := FuncBody.stmts b, scope := sc, globals := 3, closure := [], defaults := Value.none, kwdefaults := Value.none, pyModule := Value.str (Str.ofString "law_pc0058_01") 824, code := Value.ref 501 } } : Obj)) = x) => x) ?x ?h
  case h => conv => lhs; whnf
noncomputable def K : Params → Frag := fun P =>
  (nat_lit 2, { cls := Value.none, data := Data.dict #[{ hash := PyData.keyHash P (Str.ofString "type.__subclasses__.Exception.0"), key := Value.str (Str.ofString "type.__subclasses__.Exception.0") 501, val := Value.int 219 0 }, { hash := PyData.keyHash P (Str.ofString "type.__subclasses__.Exception.n"), key := Value.str (Str.ofString "type.__subclasses__.Exception.n") 502, val := Value.int 1 0 }] 2 }) ::
  (nat_lit 3, { cls := Value.type "dict", data := Data.dict #[{ hash := PyData.keyHash P (Str.ofString "__name__"), key := Value.str (Str.ofString "__name__") 165, val := Value.str (Str.ofString "law_pc0058_01") 824 }, { hash := PyData.keyHash P (Str.ofString "__doc__"), key := Value.str (Str.ofString "__doc__") 166, val := Value.none }, { hash := PyData.keyHash P (Str.ofString "__package__"), key := Value.str (Str.ofString "__package__") 167, val := Value.none }, { hash := PyData.keyHash P (Str.ofString "__loader__"), key := Value.str (Str.ofString "__loader__") 168, val := Value.builtin "__main__.__loader__#opaque" }, { hash := PyData.keyHash P (Str.ofString "__spec__"), key := Value.str (Str.ofString "__spec__") 169, val := Value.none }, { hash := PyData.keyHash P (Str.ofString "__annotations__"), key := Value.str (Str.ofString "__annotations__") 170, val := Value.ref 6 }, { hash := PyData.keyHash P (Str.ofString "__builtins__"), key := Value.str (Str.ofString "__builtins__") 171, val := Value.ref 4 }, { hash := PyData.keyHash P (Str.ofString "__file__"), key := Value.str (Str.ofString "__file__") 173, val := Value.str (Str.ofString "/claim/cut.py") 172 }, { hash := PyData.keyHash P (Str.ofString "__cached__"), key := Value.str (Str.ofString "__cached__") 174, val := Value.none }, { hash := PyData.keyHash P (Str.ofString "_wall"), key := Value.str (Str.ofString "_wall") 193, val := Value.ref 21 }, { hash := PyData.keyHash P (Str.ofString "LINEAR"), key := Value.str (Str.ofString "LINEAR") 199, val := Value.ref 22 }, { hash := PyData.keyHash P (Str.ofString "ARITH"), key := Value.str (Str.ofString "ARITH") 206, val := Value.ref 23 }, { hash := PyData.keyHash P (Str.ofString "CHOICES"), key := Value.str (Str.ofString "CHOICES") 212, val := Value.ref 24 }, { hash := PyData.keyHash P (Str.ofString "COUNTS"), key := Value.str (Str.ofString "COUNTS") 217, val := Value.ref 25 }, { hash := PyData.keyHash P (Str.ofString "TIMES"), key := Value.str (Str.ofString "TIMES") 220, val := Value.ref 26 }, { hash := PyData.keyHash P (Str.ofString "ORDERS"), key := Value.str (Str.ofString "ORDERS") 225, val := Value.ref 27 }, { hash := PyData.keyHash P (Str.ofString "values_of"), key := Value.str (Str.ofString "values_of") 231, val := Value.ref 32 }, { hash := PyData.keyHash P (Str.ofString "quotient_of"), key := Value.str (Str.ofString "quotient_of") 240, val := Value.ref 39 }, { hash := PyData.keyHash P (Str.ofString "linear_holds"), key := Value.str (Str.ofString "linear_holds") 255, val := Value.ref 46 }, { hash := PyData.keyHash P (Str.ofString "arith_holds"), key := Value.str (Str.ofString "arith_holds") 268, val := Value.ref 53 }, { hash := PyData.keyHash P (Str.ofString "is_round"), key := Value.str (Str.ofString "is_round") 278, val := Value.ref 60 }, { hash := PyData.keyHash P (Str.ofString "are_inverse"), key := Value.str (Str.ofString "are_inverse") 289, val := Value.ref 67 }, { hash := PyData.keyHash P (Str.ofString "choice_holds"), key := Value.str (Str.ofString "choice_holds") 300, val := Value.ref 74 }, { hash := PyData.keyHash P (Str.ofString "count_holds"), key := Value.str (Str.ofString "count_holds") 306, val := Value.ref 79 }, { hash := PyData.keyHash P (Str.ofString "need_at"), key := Value.str (Str.ofString "need_at") 312, val := Value.ref 84 }, { hash := PyData.keyHash P (Str.ofString "time_holds"), key := Value.str (Str.ofString "time_holds") 318, val := Value.ref 89 }, { hash := PyData.keyHash P (Str.ofString "is_accepted"), key := Value.str (Str.ofString "is_accepted") 334, val := Value.ref 96 }, { hash := PyData.keyHash P (Str.ofString "order_holds"), key := Value.str (Str.ofString "order_holds") 340, val := Value.ref 101 }, { hash := PyData.keyHash P (Str.ofString "logic_holds"), key := Value.str (Str.ofString "logic_holds") 349, val := Value.ref 108 }, { hash := PyData.keyHash P (Str.ofString "holds"), key := Value.str (Str.ofString "holds") 358, val := Value.ref 115 }, { hash := PyData.keyHash P (Str.ofString "listed_vars"), key := Value.str (Str.ofString "listed_vars") 366, val := Value.ref 122 }, { hash := PyData.keyHash P (Str.ofString "vars_of"), key := Value.str (Str.ofString "vars_of") 375, val := Value.ref 129 }, { hash := PyData.keyHash P (Str.ofString "size"), key := Value.str (Str.ofString "size") 383, val := Value.ref 134 }, { hash := PyData.keyHash P (Str.ofString "next_from"), key := Value.str (Str.ofString "next_from") 393, val := Value.ref 141 }, { hash := PyData.keyHash P (Str.ofString "has"), key := Value.str (Str.ofString "has") 401, val := Value.ref 148 }, { hash := PyData.keyHash P (Str.ofString "values"), key := Value.str (Str.ofString "values") 411, val := Value.ref 155 }, { hash := PyData.keyHash P (Str.ofString "up_to"), key := Value.str (Str.ofString "up_to") 417, val := Value.ref 160 }, { hash := PyData.keyHash P (Str.ofString "from_on"), key := Value.str (Str.ofString "from_on") 423, val := Value.ref 165 }, { hash := PyData.keyHash P (Str.ofString "without"), key := Value.str (Str.ofString "without") 431, val := Value.ref 172 }, { hash := PyData.keyHash P (Str.ofString "meet"), key := Value.str (Str.ofString "meet") 444, val := Value.ref 179 }, { hash := PyData.keyHash P (Str.ofString "negation"), key := Value.str (Str.ofString "negation") 454, val := Value.ref 186 }, { hash := PyData.keyHash P (Str.ofString "struck"), key := Value.str (Str.ofString "struck") 464, val := Value.ref 193 }, { hash := PyData.keyHash P (Str.ofString "FdError"), key := Value.str (Str.ofString "FdError") 504, val := Value.ref 219 }, { hash := PyData.keyHash P (Str.ofString "ProofFault"), key := Value.str (Str.ofString "ProofFault") 539, val := Value.ref 248 }, { hash := PyData.keyHash P (Str.ofString "divisor_of"), key := Value.str (Str.ofString "divisor_of") 549, val := Value.ref 257 }, { hash := PyData.keyHash P (Str.ofString "Box"), key := Value.str (Str.ofString "Box") 620, val := Value.ref 309 }, { hash := PyData.keyHash P (Str.ofString "StepJudge"), key := Value.str (Str.ofString "StepJudge") 714, val := Value.ref 369 }, { hash := PyData.keyHash P (Str.ofString "LogChecker"), key := Value.str (Str.ofString "LogChecker") 823, val := Value.ref 451 }, { hash := PyData.keyHash P (Str.ofString "_law_signs"), key := Value.str (Str.ofString "_law_signs") 830, val := Value.ref 456 }, { hash := PyData.keyHash P (Str.ofString "_law_spun"), key := Value.str (Str.ofString "_law_spun") 840, val := Value.ref 463 }, { hash := PyData.keyHash P (Str.ofString "_law_literal"), key := Value.str (Str.ofString "_law_literal") 849, val := Value.ref 470 }, { hash := PyData.keyHash P (Str.ofString "_law_clause"), key := Value.str (Str.ofString "_law_clause") 855, val := Value.ref 475 }, { hash := PyData.keyHash P (Str.ofString "_law_kept"), key := Value.str (Str.ofString "_law_kept") 861, val := Value.ref 480 }, { hash := PyData.keyHash P (Str.ofString "_law_goes"), key := Value.str (Str.ofString "_law_goes") 867, val := Value.ref 485 }, { hash := PyData.keyHash P (Str.ofString "_law_has_point"), key := Value.str (Str.ofString "_law_has_point") 873, val := Value.ref 490 }, { hash := PyData.keyHash P (Str.ofString "_law_ranges"), key := Value.str (Str.ofString "_law_ranges") 882, val := Value.ref 497 }, { hash := PyData.keyHash P (Str.ofString "law"), key := Value.str (Str.ofString "law") 888, val := Value.ref 502 }] 57 }) ::
  (nat_lit 22, { cls := Value.type "tuple", data := Data.seq #[Value.str (Str.ofString "linear_le") 196, Value.str (Str.ofString "linear_eq") 197, Value.str (Str.ofString "linear_ne") 198] }) ::
  (nat_lit 23, { cls := Value.type "tuple", data := Data.seq #[Value.str (Str.ofString "times") 200, Value.str (Str.ofString "div") 201, Value.str (Str.ofString "mod") 202, Value.str (Str.ofString "abs") 203, Value.str (Str.ofString "max") 204, Value.str (Str.ofString "min") 205] }) ::
  (nat_lit 24, { cls := Value.type "tuple", data := Data.seq #[Value.str (Str.ofString "element") 207, Value.str (Str.ofString "element_of") 208, Value.str (Str.ofString "table") 209, Value.str (Str.ofString "inverse") 210, Value.str (Str.ofString "circuit") 211] }) ::
  (nat_lit 25, { cls := Value.type "tuple", data := Data.seq #[Value.str (Str.ofString "all_different") 213, Value.str (Str.ofString "count") 214, Value.str (Str.ofString "nvalue") 215, Value.str (Str.ofString "cardinality") 216] }) ::
  (nat_lit 26, { cls := Value.type "tuple", data := Data.seq #[Value.str (Str.ofString "cumulative") 218, Value.str (Str.ofString "disjunctive") 219] }) ::
  (nat_lit 27, { cls := Value.type "tuple", data := Data.seq #[Value.str (Str.ofString "lex_le") 221, Value.str (Str.ofString "lex_lt") 222, Value.str (Str.ofString "increasing") 223, Value.str (Str.ofString "precede") 224] }) ::
  (nat_lit 156, { cls := Value.type "tuple", data := Data.seq #[] }) ::
  (nat_lit 159, { cls := Value.type "code", data := Data.fields #[Value.str (Str.ofString "up_to") 412, Value.str (Str.ofString "up_to") 413, Value.str (Str.ofString "/claim/cut.py") 414, Value.int 169 0, Value.int 2 0, Value.int 0 0, Value.int 0 0, Value.int 3 0, Value.ref 156, Value.bool true, Value.int 181 0, Value.ref 157, Value.none, Value.none, Value.none, Value.ref 158, Value.int 415 0, Value.int 169 0, Value.str (Str.ofString "/claim/cut.py") 416] }) ::
  (nat_lit 160, fn160) ::
  (nat_lit 161, { cls := Value.type "tuple", data := Data.seq #[] }) ::
  (nat_lit 164, { cls := Value.type "code", data := Data.fields #[Value.str (Str.ofString "from_on") 418, Value.str (Str.ofString "from_on") 419, Value.str (Str.ofString "/claim/cut.py") 420, Value.int 171 0, Value.int 2 0, Value.int 0 0, Value.int 0 0, Value.int 3 0, Value.ref 161, Value.bool true, Value.int 181 0, Value.ref 162, Value.none, Value.none, Value.none, Value.ref 163, Value.int 421 0, Value.int 171 0, Value.str (Str.ofString "/claim/cut.py") 422] }) ::
  (nat_lit 165, fn165) ::
  (nat_lit 166, { cls := Value.type "tuple", data := Data.seq #[] }) ::
  (nat_lit 168, { cls := Value.type "tuple", data := Data.seq #[Value.str (Str.ofString "d") 427, Value.str (Str.ofString "v") 428] }) ::
  (nat_lit 169, { cls := Value.type "tuple", data := Data.seq #[] }) ::
  (nat_lit 171, { cls := Value.type "code", data := Data.fields #[Value.str (Str.ofString "without") 424, Value.str (Str.ofString "without") 425, Value.str (Str.ofString "/claim/cut.py") 426, Value.int 173 0, Value.int 2 0, Value.int 0 0, Value.int 0 0, Value.int 3 0, Value.ref 166, Value.bool true, Value.int 181 0, Value.ref 167, Value.none, Value.ref 168, Value.ref 169, Value.ref 170, Value.int 429 0, Value.int 173 0, Value.str (Str.ofString "/claim/cut.py") 430] }) ::
  (nat_lit 172, fn172) ::
  (nat_lit 173, { cls := Value.type "tuple", data := Data.seq #[] }) ::
  (nat_lit 175, { cls := Value.type "tuple", data := Data.seq #[Value.str (Str.ofString "d") 435, Value.str (Str.ofString "e") 436, Value.str (Str.ofString "found") 437, Value.str (Str.ofString "i") 438, Value.str (Str.ofString "j") 439, Value.str (Str.ofString "low") 440, Value.str (Str.ofString "high") 441] }) ::
  (nat_lit 176, { cls := Value.type "tuple", data := Data.seq #[] }) ::
  (nat_lit 178, { cls := Value.type "code", data := Data.fields #[Value.str (Str.ofString "meet") 432, Value.str (Str.ofString "meet") 433, Value.str (Str.ofString "/claim/cut.py") 434, Value.int 175 0, Value.int 2 0, Value.int 0 0, Value.int 0 0, Value.int 3 0, Value.ref 173, Value.bool true, Value.int 181 0, Value.ref 174, Value.none, Value.ref 175, Value.ref 176, Value.ref 177, Value.int 442 0, Value.int 175 0, Value.str (Str.ofString "/claim/cut.py") 443] }) ::
  (nat_lit 179, fn179) ::
  (nat_lit 180, { cls := Value.type "tuple", data := Data.seq #[] }) ::
  (nat_lit 182, { cls := Value.type "tuple", data := Data.seq #[Value.str (Str.ofString "literal") 448, Value.str (Str.ofString "x") 449, Value.str (Str.ofString "sign") 450, Value.str (Str.ofString "k") 451] }) ::
  (nat_lit 183, { cls := Value.type "tuple", data := Data.seq #[] }) ::
  (nat_lit 185, { cls := Value.type "code", data := Data.fields #[Value.str (Str.ofString "negation") 445, Value.str (Str.ofString "negation") 446, Value.str (Str.ofString "/claim/cut.py") 447, Value.int 186 0, Value.int 1 0, Value.int 0 0, Value.int 0 0, Value.int 3 0, Value.ref 180, Value.bool true, Value.int 181 0, Value.ref 181, Value.none, Value.ref 182, Value.ref 183, Value.ref 184, Value.int 452 0, Value.int 186 0, Value.str (Str.ofString "/claim/cut.py") 453] }) ::
  (nat_lit 186, fn186) ::
  (nat_lit 187, { cls := Value.type "tuple", data := Data.seq #[] }) ::
  (nat_lit 189, { cls := Value.type "tuple", data := Data.seq #[Value.str (Str.ofString "literal") 458, Value.str (Str.ofString "d") 459, Value.str (Str.ofString "sign") 460, Value.str (Str.ofString "k") 461] }) ::
  (nat_lit 190, { cls := Value.type "tuple", data := Data.seq #[] }) ::
  (nat_lit 192, { cls := Value.type "code", data := Data.fields #[Value.str (Str.ofString "struck") 455, Value.str (Str.ofString "struck") 456, Value.str (Str.ofString "/claim/cut.py") 457, Value.int 193 0, Value.int 2 0, Value.int 0 0, Value.int 0 0, Value.int 3 0, Value.ref 187, Value.bool true, Value.int 181 0, Value.ref 188, Value.none, Value.ref 189, Value.ref 190, Value.ref 191, Value.int 462 0, Value.int 193 0, Value.str (Str.ofString "/claim/cut.py") 463] }) ::
  (nat_lit 193, fn193) ::
  (nat_lit 194, { cls := Value.type "tuple", data := Data.seq #[Value.type "Exception"] }) ::
  (nat_lit 197, { cls := Value.type "cell", data := Data.cell (some (Value.ref 219)) }) ::
  (nat_lit 217, { cls := Value.type "tuple", data := Data.seq #[Value.str (Str.ofString "what") 495] }) ::
  (nat_lit 218, { cls := Value.type "dict", data := Data.dict #[{ hash := PyData.keyHash P (Str.ofString "__module__"), key := Value.str (Str.ofString "__module__") 474, val := Value.str (Str.ofString "fdsolve.errors") 465 }, { hash := PyData.keyHash P (Str.ofString "__firstlineno__"), key := Value.str (Str.ofString "__firstlineno__") 478, val := Value.int 201 477 }, { hash := PyData.keyHash P (Str.ofString "__init__"), key := Value.str (Str.ofString "__init__") 487, val := Value.ref 209 }, { hash := PyData.keyHash P (Str.ofString "told"), key := Value.str (Str.ofString "told") 494, val := Value.ref 216 }, { hash := PyData.keyHash P (Str.ofString "__static_attributes__"), key := Value.str (Str.ofString "__static_attributes__") 496, val := Value.ref 217 }, { hash := PyData.keyHash P (Str.ofString "__weakref__"), key := Value.str (Str.ofString "__weakref__") 499, val := Value.ref 220 }, { hash := PyData.keyHash P (Str.ofString "__doc__"), key := Value.str (Str.ofString "__doc__") 500, val := Value.none }] 4 }) ::
  (nat_lit 219, { cls := Value.type "type", data := Data.cls { name := Str.ofString "FdError", bases := [Value.type "Exception"], mro := [Value.ref 219, Value.type "Exception", Value.type "BaseException", Value.type "object"], ns := 218, qualname := Str.ofString "FdError", subclasses := [Value.ref 248] }, slots := #[some (Value.ref 194), none, some (Value.str (Str.ofString "FdError") 467), some (Value.str (Str.ofString "FdError") 475), some (Value.builtin "Exception.__new__"), some (Value.bool true)] }) ::
  (nat_lit 220, { cls := Value.type "getset_descriptor", data := Data.fields #[Value.str (Str.ofString "__weakref__") 498, Value.ref 219, Value.builtin "ExceptionGroup.__weakref__", Value.none] }) ::
  (nat_lit 223, { cls := Value.type "tuple", data := Data.seq #[Value.ref 219] }) ::
  (nat_lit 226, { cls := Value.type "cell", data := Data.cell (some (Value.ref 248)) }) ::
  (nat_lit 246, { cls := Value.type "tuple", data := Data.seq #[Value.str (Str.ofString "step") 534] }) ::
  (nat_lit 247, { cls := Value.type "dict", data := Data.dict #[{ hash := PyData.keyHash P (Str.ofString "__module__"), key := Value.str (Str.ofString "__module__") 512, val := Value.str (Str.ofString "fdsolve.errors") 465 }, { hash := PyData.keyHash P (Str.ofString "__firstlineno__"), key := Value.str (Str.ofString "__firstlineno__") 516, val := Value.int 209 515 }, { hash := PyData.keyHash P (Str.ofString "__init__"), key := Value.str (Str.ofString "__init__") 526, val := Value.ref 238 }, { hash := PyData.keyHash P (Str.ofString "told"), key := Value.str (Str.ofString "told") 533, val := Value.ref 245 }, { hash := PyData.keyHash P (Str.ofString "__static_attributes__"), key := Value.str (Str.ofString "__static_attributes__") 535, val := Value.ref 246 }, { hash := PyData.keyHash P (Str.ofString "__doc__"), key := Value.str (Str.ofString "__doc__") 537, val := Value.none }] 3 }) ::
  (nat_lit 248, { cls := Value.type "type", data := Data.cls { name := Str.ofString "ProofFault", bases := [Value.ref 219], mro := [Value.ref 248, Value.ref 219, Value.type "Exception", Value.type "BaseException", Value.type "object"], ns := 247, qualname := Str.ofString "ProofFault" }, slots := #[some (Value.ref 223), none, some (Value.str (Str.ofString "ProofFault") 505), some (Value.str (Str.ofString "ProofFault") 513), some (Value.builtin "Exception.__new__"), some (Value.bool true)] }) ::
  (nat_lit 265, { cls := Value.type "tuple", data := Data.seq #[] }) ::
  (nat_lit 267, { cls := Value.type "tuple", data := Data.seq #[Value.str (Str.ofString "self") 565, Value.str (Str.ofString "domains") 566] }) ::
  (nat_lit 268, { cls := Value.type "tuple", data := Data.seq #[] }) ::
  (nat_lit 270, { cls := Value.type "code", data := Data.fields #[Value.str (Str.ofString "__init__") 562, Value.str (Str.ofString "Box.__init__") 563, Value.str (Str.ofString "/claim/cut.py") 564, Value.int 225 0, Value.int 2 0, Value.int 0 0, Value.int 0 0, Value.int 3 0, Value.ref 265, Value.bool true, Value.int 181 0, Value.ref 266, Value.none, Value.ref 267, Value.ref 268, Value.ref 269, Value.int 567 0, Value.int 225 0, Value.str (Str.ofString "/claim/cut.py") 568] }) ::
  (nat_lit 271, fn271) ::
  (nat_lit 272, { cls := Value.type "tuple", data := Data.seq #[] }) ::
  (nat_lit 274, { cls := Value.type "tuple", data := Data.seq #[Value.str (Str.ofString "self") 573, Value.str (Str.ofString "x") 574] }) ::
  (nat_lit 275, { cls := Value.type "tuple", data := Data.seq #[] }) ::
  (nat_lit 277, { cls := Value.type "code", data := Data.fields #[Value.str (Str.ofString "domain") 570, Value.str (Str.ofString "Box.domain") 571, Value.str (Str.ofString "/claim/cut.py") 572, Value.int 229 0, Value.int 2 0, Value.int 0 0, Value.int 0 0, Value.int 3 0, Value.ref 272, Value.bool true, Value.int 181 0, Value.ref 273, Value.none, Value.ref 274, Value.ref 275, Value.ref 276, Value.int 575 0, Value.int 229 0, Value.str (Str.ofString "/claim/cut.py") 576] }) ::
  (nat_lit 278, fn278) ::
  (nat_lit 279, { cls := Value.type "tuple", data := Data.seq #[] }) ::
  (nat_lit 281, { cls := Value.type "tuple", data := Data.seq #[Value.str (Str.ofString "self") 581, Value.str (Str.ofString "literal") 582] }) ::
  (nat_lit 282, { cls := Value.type "tuple", data := Data.seq #[] }) ::
  (nat_lit 284, { cls := Value.type "code", data := Data.fields #[Value.str (Str.ofString "can_hold") 578, Value.str (Str.ofString "Box.can_hold") 579, Value.str (Str.ofString "/claim/cut.py") 580, Value.int 232 0, Value.int 2 0, Value.int 0 0, Value.int 0 0, Value.int 3 0, Value.ref 279, Value.bool true, Value.int 181 0, Value.ref 280, Value.none, Value.ref 281, Value.ref 282, Value.ref 283, Value.int 583 0, Value.int 232 0, Value.str (Str.ofString "/claim/cut.py") 584] }) ::
  (nat_lit 285, fn285) ::
  (nat_lit 286, { cls := Value.type "tuple", data := Data.seq #[] }) ::
  (nat_lit 288, { cls := Value.type "tuple", data := Data.seq #[Value.str (Str.ofString "self") 589, Value.str (Str.ofString "literal") 590] }) ::
  (nat_lit 289, { cls := Value.type "tuple", data := Data.seq #[] }) ::
  (nat_lit 291, { cls := Value.type "code", data := Data.fields #[Value.str (Str.ofString "does_hold") 586, Value.str (Str.ofString "Box.does_hold") 587, Value.str (Str.ofString "/claim/cut.py") 588, Value.int 235 0, Value.int 2 0, Value.int 0 0, Value.int 0 0, Value.int 3 0, Value.ref 286, Value.bool true, Value.int 181 0, Value.ref 287, Value.none, Value.ref 288, Value.ref 289, Value.ref 290, Value.int 591 0, Value.int 235 0, Value.str (Str.ofString "/claim/cut.py") 592] }) ::
  (nat_lit 292, fn292) ::
  (nat_lit 293, { cls := Value.type "tuple", data := Data.seq #[] }) ::
  (nat_lit 295, { cls := Value.type "tuple", data := Data.seq #[Value.str (Str.ofString "self") 597, Value.str (Str.ofString "literal") 598] }) ::
  (nat_lit 296, { cls := Value.type "tuple", data := Data.seq #[] }) ::
  (nat_lit 298, { cls := Value.type "code", data := Data.fields #[Value.str (Str.ofString "say") 594, Value.str (Str.ofString "Box.say") 595, Value.str (Str.ofString "/claim/cut.py") 596, Value.int 238 0, Value.int 2 0, Value.int 0 0, Value.int 0 0, Value.int 3 0, Value.ref 293, Value.bool true, Value.int 181 0, Value.ref 294, Value.none, Value.ref 295, Value.ref 296, Value.ref 297, Value.int 599 0, Value.int 238 0, Value.str (Str.ofString "/claim/cut.py") 600] }) ::
  (nat_lit 299, fn299) ::
  (nat_lit 300, { cls := Value.type "tuple", data := Data.seq #[] }) ::
  (nat_lit 302, { cls := Value.type "tuple", data := Data.seq #[Value.str (Str.ofString "self") 605, Value.str (Str.ofString "clause") 606, Value.str (Str.ofString "literal") 607] }) ::
  (nat_lit 303, { cls := Value.type "tuple", data := Data.seq #[] }) ::
  (nat_lit 305, { cls := Value.type "code", data := Data.fields #[Value.str (Str.ofString "deny") 602, Value.str (Str.ofString "Box.deny") 603, Value.str (Str.ofString "/claim/cut.py") 604, Value.int 242 0, Value.int 2 0, Value.int 0 0, Value.int 0 0, Value.int 3 0, Value.ref 300, Value.bool true, Value.int 181 0, Value.ref 301, Value.none, Value.ref 302, Value.ref 303, Value.ref 304, Value.int 608 0, Value.int 242 0, Value.str (Str.ofString "/claim/cut.py") 609] }) ::
  (nat_lit 306, fn306) ::
  (nat_lit 307, { cls := Value.type "tuple", data := Data.seq #[Value.str (Str.ofString "domains") 611, Value.str (Str.ofString "turned") 612] }) ::
  (nat_lit 308, { cls := Value.type "dict", data := Data.dict #[{ hash := PyData.keyHash P (Str.ofString "__module__"), key := Value.str (Str.ofString "__module__") 557, val := Value.str (Str.ofString "fdsolve.proofs") 540 }, { hash := PyData.keyHash P (Str.ofString "__firstlineno__"), key := Value.str (Str.ofString "__firstlineno__") 561, val := Value.int 223 560 }, { hash := PyData.keyHash P (Str.ofString "__init__"), key := Value.str (Str.ofString "__init__") 569, val := Value.ref 271 }, { hash := PyData.keyHash P (Str.ofString "domain"), key := Value.str (Str.ofString "domain") 577, val := Value.ref 278 }, { hash := PyData.keyHash P (Str.ofString "can_hold"), key := Value.str (Str.ofString "can_hold") 585, val := Value.ref 285 }, { hash := PyData.keyHash P (Str.ofString "does_hold"), key := Value.str (Str.ofString "does_hold") 593, val := Value.ref 292 }, { hash := PyData.keyHash P (Str.ofString "say"), key := Value.str (Str.ofString "say") 601, val := Value.ref 299 }, { hash := PyData.keyHash P (Str.ofString "deny"), key := Value.str (Str.ofString "deny") 610, val := Value.ref 306 }, { hash := PyData.keyHash P (Str.ofString "__static_attributes__"), key := Value.str (Str.ofString "__static_attributes__") 613, val := Value.ref 307 }, { hash := PyData.keyHash P (Str.ofString "__dict__"), key := Value.str (Str.ofString "__dict__") 615, val := Value.ref 310 }, { hash := PyData.keyHash P (Str.ofString "__weakref__"), key := Value.str (Str.ofString "__weakref__") 617, val := Value.ref 311 }, { hash := PyData.keyHash P (Str.ofString "__doc__"), key := Value.str (Str.ofString "__doc__") 618, val := Value.none }] 4 }) ::
  (nat_lit 309, { cls := Value.type "type", data := Data.cls { name := Str.ofString "Box", bases := [Value.type "object"], mro := [Value.ref 309, Value.type "object"], ns := 308, qualname := Str.ofString "Box" }, slots := #[none, none, some (Value.str (Str.ofString "Box") 550), some (Value.str (Str.ofString "Box") 558), some (Value.builtin "object.__new__"), some (Value.bool true)] }) ::
  (nat_lit 310, { cls := Value.type "getset_descriptor", data := Data.fields #[Value.str (Str.ofString "__dict__") 614, Value.ref 309, Value.builtin "function.__dict__", Value.builtin "function.__dict__#set"] }) ::
  (nat_lit 311, { cls := Value.type "getset_descriptor", data := Data.fields #[Value.str (Str.ofString "__weakref__") 616, Value.ref 309, Value.builtin "ExceptionGroup.__weakref__", Value.none] }) ::
  (nat_lit 321, { cls := Value.type "tuple", data := Data.seq #[] }) ::
  (nat_lit 323, { cls := Value.type "tuple", data := Data.seq #[Value.str (Str.ofString "self") 636, Value.str (Str.ofString "domains") 637, Value.str (Str.ofString "most") 638] }) ::
  (nat_lit 324, { cls := Value.type "tuple", data := Data.seq #[] }) ::
  (nat_lit 326, { cls := Value.type "code", data := Data.fields #[Value.str (Str.ofString "__init__") 633, Value.str (Str.ofString "StepJudge.__init__") 634, Value.str (Str.ofString "/claim/cut.py") 635, Value.int 249 0, Value.int 3 0, Value.int 0 0, Value.int 0 0, Value.int 3 0, Value.ref 321, Value.bool true, Value.int 181 0, Value.ref 322, Value.none, Value.ref 323, Value.ref 324, Value.ref 325, Value.int 639 0, Value.int 249 0, Value.str (Str.ofString "/claim/cut.py") 640] }) ::
  (nat_lit 327, fn327) ::
  (nat_lit 367, { cls := Value.type "tuple", data := Data.seq #[Value.str (Str.ofString "domains") 705, Value.str (Str.ofString "most") 706] }) ::
  (nat_lit 368, { cls := Value.type "dict", data := Data.dict #[{ hash := PyData.keyHash P (Str.ofString "__module__"), key := Value.str (Str.ofString "__module__") 628, val := Value.str (Str.ofString "fdsolve.proofs") 540 }, { hash := PyData.keyHash P (Str.ofString "__firstlineno__"), key := Value.str (Str.ofString "__firstlineno__") 632, val := Value.int 247 631 }, { hash := PyData.keyHash P (Str.ofString "__init__"), key := Value.str (Str.ofString "__init__") 641, val := Value.ref 327 }, { hash := PyData.keyHash P (Str.ofString "follows"), key := Value.str (Str.ofString "follows") 647, val := Value.ref 332 }, { hash := PyData.keyHash P (Str.ofString "is_refuted"), key := Value.str (Str.ofString "is_refuted") 653, val := Value.ref 337 }, { hash := PyData.keyHash P (Str.ofString "is_beyond"), key := Value.str (Str.ofString "is_beyond") 671, val := Value.ref 344 }, { hash := PyData.keyHash P (Str.ofString "has_row"), key := Value.str (Str.ofString "has_row") 677, val := Value.ref 349 }, { hash := PyData.keyHash P (Str.ofString "can_differ"), key := Value.str (Str.ofString "can_differ") 692, val := Value.ref 356 }, { hash := PyData.keyHash P (Str.ofString "move_on"), key := Value.str (Str.ofString "move_on") 698, val := Value.ref 361 }, { hash := PyData.keyHash P (Str.ofString "has_tuple"), key := Value.str (Str.ofString "has_tuple") 704, val := Value.ref 366 }, { hash := PyData.keyHash P (Str.ofString "__static_attributes__"), key := Value.str (Str.ofString "__static_attributes__") 707, val := Value.ref 367 }, { hash := PyData.keyHash P (Str.ofString "__dict__"), key := Value.str (Str.ofString "__dict__") 709, val := Value.ref 370 }, { hash := PyData.keyHash P (Str.ofString "__weakref__"), key := Value.str (Str.ofString "__weakref__") 711, val := Value.ref 371 }, { hash := PyData.keyHash P (Str.ofString "__doc__"), key := Value.str (Str.ofString "__doc__") 712, val := Value.none }] 4 }) ::
  (nat_lit 369, { cls := Value.type "type", data := Data.cls { name := Str.ofString "StepJudge", bases := [Value.type "object"], mro := [Value.ref 369, Value.type "object"], ns := 368, qualname := Str.ofString "StepJudge" }, slots := #[none, none, some (Value.str (Str.ofString "StepJudge") 621), some (Value.str (Str.ofString "StepJudge") 629), some (Value.builtin "object.__new__"), some (Value.bool true)] }) ::
  (nat_lit 370, { cls := Value.type "getset_descriptor", data := Data.fields #[Value.str (Str.ofString "__dict__") 708, Value.ref 369, Value.builtin "function.__dict__", Value.builtin "function.__dict__#set"] }) ::
  (nat_lit 371, { cls := Value.type "getset_descriptor", data := Data.fields #[Value.str (Str.ofString "__weakref__") 710, Value.ref 369, Value.builtin "ExceptionGroup.__weakref__", Value.none] }) ::
  (nat_lit 381, { cls := Value.type "tuple", data := Data.seq #[] }) ::
  (nat_lit 383, { cls := Value.type "tuple", data := Data.seq #[Value.str (Str.ofString "self") 730, Value.str (Str.ofString "domains") 731, Value.str (Str.ofString "tolds") 732, Value.str (Str.ofString "goal") 733, Value.str (Str.ofString "most") 734] }) ::
  (nat_lit 384, { cls := Value.type "tuple", data := Data.seq #[] }) ::
  (nat_lit 386, { cls := Value.type "code", data := Data.fields #[Value.str (Str.ofString "__init__") 727, Value.str (Str.ofString "LogChecker.__init__") 728, Value.str (Str.ofString "/claim/cut.py") 729, Value.int 343 0, Value.int 5 0, Value.int 0 0, Value.int 0 0, Value.int 3 0, Value.ref 381, Value.bool true, Value.int 181 0, Value.ref 382, Value.none, Value.ref 383, Value.ref 384, Value.ref 385, Value.int 735 0, Value.int 343 0, Value.str (Str.ofString "/claim/cut.py") 736] }) ::
  (nat_lit 387, fn387) ::
  (nat_lit 423, { cls := Value.type "tuple", data := Data.seq #[] }) ::
  (nat_lit 426, { cls := Value.type "code", data := Data.fields #[Value.str (Str.ofString "clashes") 780, Value.str (Str.ofString "LogChecker.clashes") 781, Value.str (Str.ofString "/claim/cut.py") 782, Value.int 364 0, Value.int 3 0, Value.int 0 0, Value.int 0 0, Value.int 3 0, Value.ref 423, Value.bool true, Value.int 181 0, Value.ref 424, Value.none, Value.none, Value.none, Value.ref 425, Value.int 783 0, Value.int 364 0, Value.str (Str.ofString "/claim/cut.py") 784] }) ::
  (nat_lit 427, fn427) ::
  (nat_lit 449, { cls := Value.type "tuple", data := Data.seq #[Value.str (Str.ofString "domains") 812, Value.str (Str.ofString "goal") 813, Value.str (Str.ofString "judge") 814, Value.str (Str.ofString "tolds") 815] }) ::
  (nat_lit 450, { cls := Value.type "dict", data := Data.dict #[{ hash := PyData.keyHash P (Str.ofString "__module__"), key := Value.str (Str.ofString "__module__") 722, val := Value.str (Str.ofString "fdsolve.proofs") 540 }, { hash := PyData.keyHash P (Str.ofString "__firstlineno__"), key := Value.str (Str.ofString "__firstlineno__") 726, val := Value.int 341 725 }, { hash := PyData.keyHash P (Str.ofString "__init__"), key := Value.str (Str.ofString "__init__") 737, val := Value.ref 387 }, { hash := PyData.keyHash P (Str.ofString "look"), key := Value.str (Str.ofString "look") 745, val := Value.ref 394 }, { hash := PyData.keyHash P (Str.ofString "check"), key := Value.str (Str.ofString "check") 753, val := Value.ref 401 }, { hash := PyData.keyHash P (Str.ofString "fault_of"), key := Value.str (Str.ofString "fault_of") 762, val := Value.ref 408 }, { hash := PyData.keyHash P (Str.ofString "is_clause"), key := Value.str (Str.ofString "is_clause") 770, val := Value.ref 415 }, { hash := PyData.keyHash P (Str.ofString "strike_fault"), key := Value.str (Str.ofString "strike_fault") 779, val := Value.ref 422 }, { hash := PyData.keyHash P (Str.ofString "clashes"), key := Value.str (Str.ofString "clashes") 785, val := Value.ref 427 }, { hash := PyData.keyHash P (Str.ofString "is_answer"), key := Value.str (Str.ofString "is_answer") 793, val := Value.ref 434 }, { hash := PyData.keyHash P (Str.ofString "better_fault"), key := Value.str (Str.ofString "better_fault") 802, val := Value.ref 441 }, { hash := PyData.keyHash P (Str.ofString "seen_fault"), key := Value.str (Str.ofString "seen_fault") 811, val := Value.ref 448 }, { hash := PyData.keyHash P (Str.ofString "__static_attributes__"), key := Value.str (Str.ofString "__static_attributes__") 816, val := Value.ref 449 }, { hash := PyData.keyHash P (Str.ofString "__dict__"), key := Value.str (Str.ofString "__dict__") 818, val := Value.ref 452 }, { hash := PyData.keyHash P (Str.ofString "__weakref__"), key := Value.str (Str.ofString "__weakref__") 820, val := Value.ref 453 }, { hash := PyData.keyHash P (Str.ofString "__doc__"), key := Value.str (Str.ofString "__doc__") 821, val := Value.none }] 4 }) ::
  (nat_lit 451, { cls := Value.type "type", data := Data.cls { name := Str.ofString "LogChecker", bases := [Value.type "object"], mro := [Value.ref 451, Value.type "object"], ns := 450, qualname := Str.ofString "LogChecker" }, slots := #[none, none, some (Value.str (Str.ofString "LogChecker") 715), some (Value.str (Str.ofString "LogChecker") 723), some (Value.builtin "object.__new__"), some (Value.bool true)] }) ::
  (nat_lit 452, { cls := Value.type "getset_descriptor", data := Data.fields #[Value.str (Str.ofString "__dict__") 817, Value.ref 451, Value.builtin "function.__dict__", Value.builtin "function.__dict__#set"] }) ::
  (nat_lit 453, { cls := Value.type "getset_descriptor", data := Data.fields #[Value.str (Str.ofString "__weakref__") 819, Value.ref 451, Value.builtin "ExceptionGroup.__weakref__", Value.none] }) ::
  (nat_lit 456, { cls := Value.type "tuple", data := Data.seq #[Value.str (Str.ofString "<=") 826, Value.str (Str.ofString ">=") 827, Value.str (Str.ofString "=") 828, Value.str (Str.ofString "!=") 829] }) ::
  (nat_lit 457, { cls := Value.type "tuple", data := Data.seq #[] }) ::
  (nat_lit 459, { cls := Value.type "tuple", data := Data.seq #[Value.str (Str.ofString "reel") 834, Value.str (Str.ofString "many") 835, Value.str (Str.ofString "cells") 836, Value.str (Str.ofString "at") 837] }) ::
  (nat_lit 460, { cls := Value.type "tuple", data := Data.seq #[] }) ::
  (nat_lit 462, { cls := Value.type "code", data := Data.fields #[Value.str (Str.ofString "_law_spun") 831, Value.str (Str.ofString "_law_spun") 832, Value.str (Str.ofString "/claim/cut.py") 833, Value.int 388 0, Value.int 2 0, Value.int 0 0, Value.int 0 0, Value.int 3 0, Value.ref 457, Value.bool true, Value.int 181 0, Value.ref 458, Value.none, Value.ref 459, Value.ref 460, Value.ref 461, Value.int 838 0, Value.int 388 0, Value.str (Str.ofString "/claim/cut.py") 839] }) ::
  (nat_lit 463, fn463) ::
  (nat_lit 464, { cls := Value.type "tuple", data := Data.seq #[] }) ::
  (nat_lit 466, { cls := Value.type "tuple", data := Data.seq #[Value.str (Str.ofString "reel") 844, Value.str (Str.ofString "x") 845, Value.str (Str.ofString "sign") 846] }) ::
  (nat_lit 467, { cls := Value.type "tuple", data := Data.seq #[] }) ::
  (nat_lit 469, { cls := Value.type "code", data := Data.fields #[Value.str (Str.ofString "_law_literal") 841, Value.str (Str.ofString "_law_literal") 842, Value.str (Str.ofString "/claim/cut.py") 843, Value.int 392 0, Value.int 1 0, Value.int 0 0, Value.int 0 0, Value.int 3 0, Value.ref 464, Value.bool true, Value.int 181 0, Value.ref 465, Value.none, Value.ref 466, Value.ref 467, Value.ref 468, Value.int 847 0, Value.int 392 0, Value.str (Str.ofString "/claim/cut.py") 848] }) ::
  (nat_lit 470, fn470) ::
  (nat_lit 471, { cls := Value.type "tuple", data := Data.seq #[] }) ::
  (nat_lit 474, { cls := Value.type "code", data := Data.fields #[Value.str (Str.ofString "_law_clause") 850, Value.str (Str.ofString "_law_clause") 851, Value.str (Str.ofString "/claim/cut.py") 852, Value.int 395 0, Value.int 2 0, Value.int 0 0, Value.int 0 0, Value.int 3 0, Value.ref 471, Value.bool true, Value.int 181 0, Value.ref 472, Value.none, Value.none, Value.none, Value.ref 473, Value.int 853 0, Value.int 395 0, Value.str (Str.ofString "/claim/cut.py") 854] }) ::
  (nat_lit 475, fn475) ::
  (nat_lit 476, { cls := Value.type "tuple", data := Data.seq #[] }) ::
  (nat_lit 479, { cls := Value.type "code", data := Data.fields #[Value.str (Str.ofString "_law_kept") 856, Value.str (Str.ofString "_law_kept") 857, Value.str (Str.ofString "/claim/cut.py") 858, Value.int 397 0, Value.int 2 0, Value.int 0 0, Value.int 0 0, Value.int 3 0, Value.ref 476, Value.bool true, Value.int 181 0, Value.ref 477, Value.none, Value.none, Value.none, Value.ref 478, Value.int 859 0, Value.int 397 0, Value.str (Str.ofString "/claim/cut.py") 860] }) ::
  (nat_lit 480, fn480) ::
  (nat_lit 481, { cls := Value.type "tuple", data := Data.seq #[] }) ::
  (nat_lit 484, { cls := Value.type "code", data := Data.fields #[Value.str (Str.ofString "_law_goes") 862, Value.str (Str.ofString "_law_goes") 863, Value.str (Str.ofString "/claim/cut.py") 864, Value.int 404 0, Value.int 3 0, Value.int 0 0, Value.int 0 0, Value.int 3 0, Value.ref 481, Value.bool true, Value.int 181 0, Value.ref 482, Value.none, Value.none, Value.none, Value.ref 483, Value.int 865 0, Value.int 404 0, Value.str (Str.ofString "/claim/cut.py") 866] }) ::
  (nat_lit 485, fn485) ::
  (nat_lit 486, { cls := Value.type "tuple", data := Data.seq #[] }) ::
  (nat_lit 489, { cls := Value.type "code", data := Data.fields #[Value.str (Str.ofString "_law_has_point") 868, Value.str (Str.ofString "_law_has_point") 869, Value.str (Str.ofString "/claim/cut.py") 870, Value.int 425 0, Value.int 3 0, Value.int 0 0, Value.int 0 0, Value.int 3 0, Value.ref 486, Value.bool true, Value.int 181 0, Value.ref 487, Value.none, Value.none, Value.none, Value.ref 488, Value.int 871 0, Value.int 425 0, Value.str (Str.ofString "/claim/cut.py") 872] }) ::
  (nat_lit 490, fn490) ::
  (nat_lit 491, { cls := Value.type "tuple", data := Data.seq #[] }) ::
  (nat_lit 493, { cls := Value.type "tuple", data := Data.seq #[Value.str (Str.ofString "lot") 877, Value.str (Str.ofString "found") 878, Value.str (Str.ofString "v") 879] }) ::
  (nat_lit 494, { cls := Value.type "tuple", data := Data.seq #[] }) ::
  (nat_lit 496, { cls := Value.type "code", data := Data.fields #[Value.str (Str.ofString "_law_ranges") 874, Value.str (Str.ofString "_law_ranges") 875, Value.str (Str.ofString "/claim/cut.py") 876, Value.int 433 0, Value.int 1 0, Value.int 0 0, Value.int 0 0, Value.int 3 0, Value.ref 491, Value.bool true, Value.int 181 0, Value.ref 492, Value.none, Value.ref 493, Value.ref 494, Value.ref 495, Value.int 880 0, Value.int 433 0, Value.str (Str.ofString "/claim/cut.py") 881] }) ::
  (nat_lit 497, fn497) ::
  (nat_lit 498, { cls := Value.type "tuple", data := Data.seq #[] }) ::
  (nat_lit 501, { cls := Value.type "code", data := Data.fields #[Value.str (Str.ofString "law") 883, Value.str (Str.ofString "law") 884, Value.str (Str.ofString "/claim/cut.py") 885, Value.int 441 0, Value.int 1 0, Value.int 0 0, Value.int 0 0, Value.int 3 0, Value.ref 498, Value.bool true, Value.int 181 0, Value.ref 499, Value.none, Value.none, Value.none, Value.ref 500, Value.int 886 0, Value.int 441 0, Value.str (Str.ofString "/claim/cut.py") 887] }) ::
  (nat_lit 502, fn502) :: []
noncomputable abbrev kAs : List Addr := nat_lit 2 :: nat_lit 3 :: nat_lit 22 :: nat_lit 23 :: nat_lit 24 :: nat_lit 25 :: nat_lit 26 :: nat_lit 27 :: nat_lit 156 :: nat_lit 159 :: nat_lit 160 :: nat_lit 161 :: nat_lit 164 :: nat_lit 165 :: nat_lit 166 :: nat_lit 168 :: nat_lit 169 :: nat_lit 171 :: nat_lit 172 :: nat_lit 173 :: nat_lit 175 :: nat_lit 176 :: nat_lit 178 :: nat_lit 179 :: nat_lit 180 :: nat_lit 182 :: nat_lit 183 :: nat_lit 185 :: nat_lit 186 :: nat_lit 187 :: nat_lit 189 :: nat_lit 190 :: nat_lit 192 :: nat_lit 193 :: nat_lit 194 :: nat_lit 197 :: nat_lit 217 :: nat_lit 218 :: nat_lit 219 :: nat_lit 220 :: nat_lit 223 :: nat_lit 226 :: nat_lit 246 :: nat_lit 247 :: nat_lit 248 :: nat_lit 265 :: nat_lit 267 :: nat_lit 268 :: nat_lit 270 :: nat_lit 271 :: nat_lit 272 :: nat_lit 274 :: nat_lit 275 :: nat_lit 277 :: nat_lit 278 :: nat_lit 279 :: nat_lit 281 :: nat_lit 282 :: nat_lit 284 :: nat_lit 285 :: nat_lit 286 :: nat_lit 288 :: nat_lit 289 :: nat_lit 291 :: nat_lit 292 :: nat_lit 293 :: nat_lit 295 :: nat_lit 296 :: nat_lit 298 :: nat_lit 299 :: nat_lit 300 :: nat_lit 302 :: nat_lit 303 :: nat_lit 305 :: nat_lit 306 :: nat_lit 307 :: nat_lit 308 :: nat_lit 309 :: nat_lit 310 :: nat_lit 311 :: nat_lit 321 :: nat_lit 323 :: nat_lit 324 :: nat_lit 326 :: nat_lit 327 :: nat_lit 367 :: nat_lit 368 :: nat_lit 369 :: nat_lit 370 :: nat_lit 371 :: nat_lit 381 :: nat_lit 383 :: nat_lit 384 :: nat_lit 386 :: nat_lit 387 :: nat_lit 423 :: nat_lit 426 :: nat_lit 427 :: nat_lit 449 :: nat_lit 450 :: nat_lit 451 :: nat_lit 452 :: nat_lit 453 :: nat_lit 456 :: nat_lit 457 :: nat_lit 459 :: nat_lit 460 :: nat_lit 462 :: nat_lit 463 :: nat_lit 464 :: nat_lit 466 :: nat_lit 467 :: nat_lit 469 :: nat_lit 470 :: nat_lit 471 :: nat_lit 474 :: nat_lit 475 :: nat_lit 476 :: nat_lit 479 :: nat_lit 480 :: nat_lit 481 :: nat_lit 484 :: nat_lit 485 :: nat_lit 486 :: nat_lit 489 :: nat_lit 490 :: nat_lit 491 :: nat_lit 493 :: nat_lit 494 :: nat_lit 496 :: nat_lit 497 :: nat_lit 498 :: nat_lit 501 :: nat_lit 502 :: []
end PKF
section PB1
noncomputable abbrev Led := List (Addr × Obj)
noncomputable def Apart (mu nu : Led) : Prop := ∀ p ∈ mu, ∀ q ∈ nu, p.1 ≠ q.1
noncomputable def Same (s s' : Shared) : Prop := s'.gens = s.gens ∧ s'.os = s.os
theorem Same.refl (s : Shared) : Same s s := ⟨rfl, rfl⟩
theorem Same.trans {s s' s'' : Shared} (a : Same s s') (b : Same s' s'') : Same s s'' := ⟨b.1.trans a.1, b.2.trans a.2⟩
theorem Same.up {s s' : Shared} (a : Same s s') (h : Heap) (tk : Nat) : Same s { s' with heap := h, toks := tk } := ⟨a.1, a.2⟩
theorem Same.uph {s s' : Shared} (a : Same s s') (h : Heap) : Same s { s' with heap := h } := ⟨a.1, a.2⟩
noncomputable abbrev tupO (vs : List Value) (n : Nat) : Obj := { cls := .type "tuple", data := .seq vs.toArray n }
noncomputable abbrev lstO (vs : List Value) (n : Nat) : Obj := { cls := .type "list", data := .seq vs.toArray n }
noncomputable abbrev Sub (a b : Led) : Prop := ∀ p ∈ a, p ∈ b
theorem Sub.refl (a : Led) : Sub a a := fun _ h => h
theorem Sub.trans {a b c : Led} (h : Sub a b) (k : Sub b c) : Sub a c := fun p hp => k p (h p hp)

noncomputable def NoE (_ : Value) (_ : Shared) : Prop := False
theorem noE_any {α : Type} {M : Model} {A : Around} {t : Sem α} {Q : α → Shared → Prop} {E : Value → Shared → Prop} {s : Shared} (h : wpAny M A t Q NoE s) : wpAny M A t Q E s :=
  wpAny_mono h (fun _ _ x => x) fun _ _ x => x.elim

/-! ### iterators -/
structure Itr (prog : Program) (w : World) (A : Around) (I : Addr) (n : Nat) (P : Nat → Value → Prop) (SI : Nat → Obj → Prop) (keep : Led) : Prop where
  item : ∀ (i : Nat) (s : Shared) (Q : Option Value → Shared → Prop) (E : Value → Shared → Prop) (oI : Obj), i < n → s.heap.get? I = some oI → SI i oI → (∀ p ∈ keep, s.heap.get? p.1 = some p.2) →
    (∀ v h' tk oI', P i v → h'.get? I = some oI' → SI (i + 1) oI' → (∀ b o, b ≠ I → s.heap.get? b = some o → h'.get? b = some o) → Q (some v) { s with heap := h', toks := tk }) → wpAny (model prog w) A (pyNext (.ref I)) Q E s
  done : ∀ (s : Shared) (Q : Option Value → Shared → Prop) (E : Value → Shared → Prop) (oI : Obj), s.heap.get? I = some oI → SI n oI → (∀ p ∈ keep, s.heap.get? p.1 = some p.2) →
    (∀ h' tk, (∀ b o, b ≠ I → s.heap.get? b = some o → h'.get? b = some o) → Q none { s with heap := h', toks := tk }) → wpAny (model prog w) A (pyNext (.ref I)) Q E s
  go : ∀ (target : Expr) (v : Value) (i : Nat) (s : Shared) (Q : Unit → Shared → Prop) (E : Value → Shared → Prop) (oI : Obj), s.heap.get? I = some oI → SI i oI → Q () s → wpAny (model prog w) A (letOwnedTupleGo target (.ref I) v) Q E s
  self : ∀ (i : Nat) (s : Shared) (Q : Value → Shared → Prop) (E : Value → Shared → Prop) (oI : Obj), s.heap.get? I = some oI → SI i oI → Q (.ref I) s → wpAny (model prog w) A (pyIter (.ref I)) Q E s

noncomputable def Src (prog : Program) (w : World) (A : Around) (s₁ : Shared) (xv : Value) (n : Nat) (P : Nat → Value → Prop) (nu : Led) : Prop :=
  ∀ (Q : Value → Shared → Prop) (E : Value → Shared → Prop),
    (∀ (oI : Obj) (SI : Nat → Obj → Prop) (keep : Led), SI 0 oI → Itr prog w A s₁.heap.objs.size n P SI keep → (∀ p ∈ keep, p ∈ nu) → oI.isFreed = false → Q (.ref s₁.heap.objs.size) { s₁ with heap := s₁.heap.push oI }) →
    wpAny (model prog w) A (pyIter xv) Q E s₁

section
variable {prog : Program} {w : World} {A : Around} {s₁ : Shared} {h₀ : Heap} {L ax : Addr} {nu news : Led} {vs : List Value} {k : Nat}

theorem letGo_cls {target : Expr} {I : Addr} {v : Value} {o : Obj} {n : String} {Q : Unit → Shared → Prop} {E : Value → Shared → Prop} {s : Shared} (ho : s.heap.get? I = some o) (hc : o.cls = .type n)
    (hn : ["enumerate", "zip", "dict_itemiterator", "dict_reverseitemiterator", "odict_iterator", "itertools.zip_longest", "itertools.pairwise"].contains n = false) (h : Q () s) :
    wpAny (model prog w) A (letOwnedTupleGo target (.ref I) v) Q E s := by
  unfold letOwnedTupleGo
  cases target <;> first
    | exact wpAny_pure h
    | (cases v <;> first
        | exact wpAny_pure h
        | (refine wpAny_bind (wpAny_load ho ?_)
           rw [hc]
           split
           · rename_i m vs q1 q2
             cases q1
             rw [hn, Bool.false_and, if_neg Bool.false_ne_true]
             exact wpAny_pure h
           · exact wpAny_pure h))

theorem itr_list (hh : A.handled = none) {I : Addr} : Itr prog w A I vs.length (fun i v => vs[i]? = some v) (fun i o => o.cls = .type "list_iterator" ∧ o.data = .fields #[.ref ax, .int i 0]) [(ax, lstO vs k)] where
  item := fun i s Q E oI hi hI hS hk hQ => by
    have hl : s.heap.IsList ax vs.toArray := ⟨_, hk _ (.head _), rfl, _, rfl⟩
    refine wpAny_pyNext_list_item (i := i) ⟨oI, hI, hS.1, hS.2⟩ hl (x := vs[i]) (by simp [hi]) fun h' hit' hs' => ?_
    obtain ⟨o', e1, e2, e3⟩ := hit'
    exact hQ _ h' s.toks o' (by simp [hi]) e1 ⟨e2, e3⟩ fun b o hb e => hs'.extBut b o hb e
  done := fun s Q E oI hI hS hk hQ => by
    have hl : s.heap.IsList ax vs.toArray := ⟨_, hk _ (.head _), rfl, _, rfl⟩
    exact wpAny_pyNext_list_end hh (i := vs.length) ⟨oI, hI, hS.1, hS.2⟩ hl (by simp) fun h' he' => hQ h' s.toks fun b o hb e => he' b o hb e
  go := fun target v i s Q E oI hI hS hQ => letGo_cls hI hS.1 (by decide) hQ
  self := fun i s Q E oI hI hS hQ => wpAny_pyIter_listiter (i := i) ⟨oI, hI, hS.1, hS.2⟩ hQ

theorem itr_tuple (hh : A.handled = none) {I : Addr} : Itr prog w A I vs.length (fun i v => vs[i]? = some v) (fun i o => o.cls = .type "tuple_iterator" ∧ o.data = .fields #[.ref ax, .int i 0]) [(ax, tupO vs k)] where
  item := fun i s Q E oI hi hI hS hk hQ => by
    have hl : s.heap.IsTuple ax vs.toArray := ⟨_, hk _ (.head _), rfl, _, rfl⟩
    refine wpAny_pyNext_tuple_item (i := i) ⟨oI, hI, hS.1, hS.2⟩ hl (x := vs[i]) (by simp [hi]) fun h' hit' hs' => ?_
    obtain ⟨o', e1, e2, e3⟩ := hit'
    exact hQ _ h' s.toks o' (by simp [hi]) e1 ⟨e2, e3⟩ fun b o hb e => hs'.extBut b o hb e
  done := fun s Q E oI hI hS hk hQ => by
    have hl : s.heap.IsTuple ax vs.toArray := ⟨_, hk _ (.head _), rfl, _, rfl⟩
    exact wpAny_pyNext_tuple_end hh (i := vs.length) ⟨oI, hI, hS.1, hS.2⟩ hl (by simp) fun h' he' => hQ h' s.toks fun b o hb e => he' b o hb e
  go := fun target v i s Q E oI hI hS hQ => letGo_cls hI hS.1 (by decide) hQ
  self := fun i s Q E oI hI hS hQ => wpAny_pyIter_tupleiter (i := i) ⟨oI, hI, hS.1, hS.2⟩ hQ

theorem itr_range (hh : A.handled = none) {I : Addr} (a : Int) (n : Nat) : Itr prog w A I n (fun i v => ∃ t, v = .int (a + (i : Int)) t) (fun i o => ∀ h : Heap, h.get? I = some o → IsRangeIter h I (a + (i : Nat) * 1) ((n : Int) - (i : Nat)) 1) [] where
  item := fun i s Q E oI hi hI hS hk hQ => by
    have W := LCg.range_walks (prog := prog) (w := w) (A := A) (I := I) hh a n
    refine W.item i s Q E hi (hS _ hI) fun v h' tk hP hst hk' => ?_
    exact hQ v h' tk _ hP hst (fun h e => e) fun b o hb e => hk' b o (by simpa using hb) e
  done := fun s Q E oI hI hS hk hQ => by
    have W := LCg.range_walks (prog := prog) (w := w) (A := A) (I := I) hh a n
    exact W.done s Q E (hS _ hI) fun h' tk hk' => hQ h' tk fun b o hb e => hk' b o (by simpa using hb) e
  go := fun target v i s Q E oI hI hS hQ => by
    have e : s.heap.get? I = some _ := hS _ hI
    exact letGo_cls e rfl (by decide) hQ
  self := fun i s Q E oI hI hS hQ => wpAny_pyIter_rangeiter (hS _ hI) hQ

theorem src_list (hh : A.handled = none) (N : News h₀ L s₁.heap news) (hm : (ax, lstO vs k) ∈ nu) (hs : Sub nu news) : Src prog w A s₁ (.ref ax) vs.length (fun i v => vs[i]? = some v) nu := fun Q E h => by
  have hg := (N _ (hs _ hm)).1
  refine wpAny_pyIter_list (items := vs.toArray) ⟨_, hg, rfl, _, rfl⟩ (h _ _ [(ax, lstO vs k)] ?_ (itr_list hh) (fun p hp => ?_) rfl)
  · exact ⟨rfl, rfl⟩
  · rw [List.mem_singleton.mp hp]; exact hm
theorem src_tuple (hh : A.handled = none) (N : News h₀ L s₁.heap news) (hm : (ax, tupO vs k) ∈ nu) (hs : Sub nu news) : Src prog w A s₁ (.ref ax) vs.length (fun i v => vs[i]? = some v) nu := fun Q E h => by
  have hg := (N _ (hs _ hm)).1
  refine wpAny_pyIter_tuple (items := vs.toArray) ⟨_, hg, rfl, _, rfl⟩ (h _ _ [(ax, tupO vs k)] ?_ (itr_tuple hh) (fun p hp => ?_) rfl)
  · exact ⟨rfl, rfl⟩
  · rw [List.mem_singleton.mp hp]; exact hm
theorem src_range (hh : A.handled = none) {r : Addr} {a b : Int} {t u v : Tok} {n : Nat} (hr : IsRange s₁.heap r a b 1 t u v) (hsm : Builtin.Range.small a b 1 = true) (hn : Builtin.Range.rangeSize a b 1 = ((n : Nat) : Int)) :
    Src prog w A s₁ (.ref r) n (fun i v => ∃ t, v = .int (a + (i : Int)) t) nu := fun Q E h => by
  refine wpAny_pyIter_range hr hsm (h _ _ _ ?_ (itr_range hh a n) (fun _ hp => nomatch hp) rfl)
  intro h e
  show h.get? _ = some _
  rw [e, hn]
  simp
end
end PB1
section PQ1
theorem sub_nil' {b : Led} : Sub [] b := fun _ h => nomatch h
theorem sub_cons' {p : Addr × Obj} {a b : Led} (h : p ∈ b) (k : Sub a b) : Sub (p :: a) b := fun q hq => by
  rcases List.mem_cons.mp hq with rfl | hq
  · exact h
  · exact k q hq
theorem sub_app {a a' b : Led} (h : Sub a b) (k : Sub a' b) : Sub (a ++ a') b := fun q hq => by
  rcases List.mem_append.mp hq with hq | hq
  · exact h q hq
  · exact k q hq
theorem sub_tl {p : Addr × Obj} {a b : Led} (h : Sub a b) : Sub a (p :: b) := fun q hq => .tail _ (h q hq)
theorem sub_l {a b c : Led} (h : Sub a b) : Sub a (b ++ c) := fun q hq => List.mem_append_left _ (h q hq)
theorem sub_r {a b c : Led} (h : Sub a c) : Sub a (b ++ c) := fun q hq => List.mem_append_right _ (h q hq)
end PQ1
section PB2
section
variable {prog : Program} {w : World} {A : Around} {E : Value → Shared → Prop} {R : Result → Shared → Prop} {s : Shared}

noncomputable abbrev tests (ifs : List Expr) (env : Env) : Sem Bool := forIn ifs true fun c r => if r = true then do let ok ← isTrue c env (eval c env); pure (ForInStep.yield ok) else pure (ForInStep.yield r)

theorem compLoop_gen {elt target iter : Expr} {ifs : List Expr} {scope : Scope} {pos : Pos} {it acc : Value} {env : Env} (I : Nat → Shared → Prop)
    (turn : ∀ n s, I n s → wpAny (model prog w) A (pyNext it) (fun r s₁ => match r with
      | none => R (.ok .next) s₁
      | some v => wpAny (model prog w) A (letOwnedTupleGo target it v) (fun _ s₁' => wpAny (model prog w) A (assign target env v) (fun _ s₂ =>
          wpAny (model prog w) A (tests ifs env) (fun ok s₃ =>
            if ok = true then wpAny (model prog w) A (eval elt env) (fun x s₄ =>
              wpAny (model prog w) A (call (.builtin "list.append") [acc, x]) (fun _ s₅ => ∃ m, m < n ∧ I m s₅) NoE s₄) NoE s₃
            else ∃ m, m < n ∧ I m s₃) NoE s₂) NoE s₁') NoE s₁) NoE s)
    (n : Nat) (h : I n s) : codeAny (model prog w) A (.compLoop (.ListComp elt [⟨target, iter, ifs, 0⟩] scope pos) 0 it acc env) R s := by
  refine codeAny_loop rfl I (fun n s hI => ?_) n h
  show wpAny _ A ((compTurn (.ListComp elt [⟨target, iter, ifs, 0⟩] scope pos) 0 it acc env).onRaise (fun x => do noteFrame x env; theTreesLotGoes x)) _ _ s
  refine wpAny_noted (noE_any ?_)
  rw [compTurn_list]
  refine wpAny_bind (wpAny_standAt (wpAny_bind (wpAny_mono (turn n s hI) (fun r s₁ h₁ => ?_) fun _ _ h' => h')))
  cases r with
  | none => exact wpAny_pure h₁
  | some v =>
    refine wpAny_bind (wpAny_mono h₁ (fun _ s₁' h₁' => ?_) fun _ _ h' => h')
    refine wpAny_bind (wpAny_mono h₁' (fun _ s₂ h₂ => wpAny_bind (wpAny_mono h₂ (fun ok s₃ h₃ => ?_) fun _ _ h' => h')) fun _ _ h' => h')
    cases ok with
    | false => exact wpAny_pure ⟨rfl, h₃⟩
    | true =>
      exact wpAny_bind (wpAny_bind (wpAny_mono h₃ (fun x s₄ h₄ => wpAny_bind (wpAny_mono h₄ (fun _ s₅ h₅ => wpAny_pure (wpAny_pure ⟨rfl, h₅⟩)) fun _ _ h' => h')) fun _ _ h' => h'))

/-- what a comprehension's turn leaves -/
noncomputable def TurnEnd (h₀ : Heap) (L : Addr) (m : Str → Option Value) (s : Shared) (I : Addr) (oI : Obj) (C D : Addr) (nu : Led) (J : List Value → Led → Led → Prop) (old ys : List Value) (s' : Shared) : Prop :=
  ∃ (oC : Obj) (m₂ : Str → Option Value) (mu' nu' : Led), Same s s' ∧ Fr h₀ L s'.heap m ∧ News h₀ L s'.heap ((I, oI) :: (C, oC) :: (D, lst old) :: (mu' ++ nu')) ∧ NsObj oC m₂ ∧
    (∀ p ∈ mu' ++ nu', p.1 ≠ I ∧ p.1 ≠ C ∧ p.1 ≠ D) ∧ Apart mu' nu' ∧ Sub nu nu' ∧ J ys mu' nu'

theorem comp_run {elt target iter : Expr} {ifs : List Expr} {scope : Scope} {pos : Pos} {env : Env} {cl : List (Str × Addr)} {s₂ : Shared} {I C D : Addr} {oI₀ oC₀ : Obj} {m₀ : Str → Option Value} {n : Nat} {P : Nat → Value → Prop} {SI : Nat → Obj → Prop} {keep : Led}
    {h₀ : Heap} {L : Addr} {m : Str → Option Value} {mu nu : Led} {RR : Value → Addr → Result → Shared → Prop}
    (W : Itr prog w A I n P SI keep) (hsz : n ≤ sizeLine)
    (F : Fr h₀ L s₂.heap m) (N : News h₀ L s₂.heap ((I, oI₀) :: (C, oC₀) :: (D, lst []) :: (mu ++ nu))) (hoC₀ : NsObj oC₀ m₀) (hSI : SI 0 oI₀) (off : ∀ p ∈ mu ++ nu, p.1 ≠ I ∧ p.1 ≠ C ∧ p.1 ≠ D) (hIC : I ≠ C) (hID : I ≠ D) (hDC : D ≠ C) (hap : Apart mu nu) (hkeep : Sub keep nu)
    (J : Nat → List Value → Led → Led → Prop) (h0 : J 0 [] mu nu)
    (turn : ∀ i v ys mu' nu' oI C oC D m₂ s₁, i < n → P i v → ys.length ≤ i → J i ys mu' nu' → Sub nu nu' → Same s₂ s₁ → NsObj oC m₂ → Fr h₀ L s₁.heap m → News h₀ L s₁.heap ((I, oI) :: (C, oC) :: (D, lst ys) :: (mu' ++ nu')) →
      (∀ p ∈ mu' ++ nu', p.1 ≠ I ∧ p.1 ≠ C ∧ p.1 ≠ D) → I ≠ C → I ≠ D → C ≠ D → Apart mu' nu' →
      wpAny (model prog w) A (assign target (compEnvC scope cl C env) v) (fun _ s₃ => wpAny (model prog w) A (tests ifs (compEnvC scope cl C env)) (fun ok s₄ =>
        if ok = true then wpAny (model prog w) A (eval elt (compEnvC scope cl C env)) (fun y s₅ => TurnEnd h₀ L m s₂ I oI C D nu (J (i + 1)) ys (ys ++ [y]) s₅) NoE s₄ else TurnEnd h₀ L m s₂ I oI C D nu (J (i + 1)) ys ys s₄) NoE s₃) NoE s₁)
    (fin : ∀ D C ys mu' nu' m' s₁, J n ys mu' nu' → Same s₂ s₁ → Fr h₀ L s₁.heap m → News h₀ L s₁.heap ((D, lst ys) :: (mu' ++ nu')) → (∀ p ∈ mu' ++ nu', p.1 ≠ D) → Apart mu' nu' → Sub nu nu' →
      s₁.heap.Ns C m' → h₀.get? C = none → C ≠ L → C ≠ D → (∀ p ∈ mu' ++ nu', p.1 ≠ C) → RR (.ref D) C (.ok .next) s₁) :
    codeAny (model prog w) A (.compLoop (.ListComp elt [⟨target, iter, ifs, 0⟩] scope pos) 0 (.ref I) (.ref D) (compEnvC scope cl C env)) (RR (.ref D) C) s₂ := by
  have nD := N (D, lst []) (.tail _ (.tail _ (.head _)))
  have nC := N (C, oC₀) (.tail _ (.head _))
  have hDL : D ≠ L := nD.2.1
  have hD₀ := nD.2.2
  have hCL : C ≠ L := nC.2.1
  have hC₀ := nC.2.2
  refine compLoop_gen (fun k s' => ∃ i ys oI oC m' mu' nu', i ≤ n ∧ k = n + 1 - i ∧ ys.length ≤ i ∧ SI i oI ∧ Same s₂ s' ∧ Fr h₀ L s'.heap m ∧ NsObj oC m' ∧ News h₀ L s'.heap ((I, oI) :: (C, oC) :: (D, lst ys) :: (mu' ++ nu')) ∧
      (∀ p ∈ mu' ++ nu', p.1 ≠ I ∧ p.1 ≠ C ∧ p.1 ≠ D) ∧ Apart mu' nu' ∧ Sub nu nu' ∧ J i ys mu' nu') ?_ (n + 1) ?_
  · rintro k s' ⟨i, ys, oI, oC, m', mu', nu', hi, rfl, hyl, hSI', hsm, F', hoC, N', off', hap', hsub, hJ⟩
    have hk' : ∀ p ∈ keep, s'.heap.get? p.1 = some p.2 := fun p hp => (N' p (.tail _ (.tail _ (.tail _ (List.mem_append_right _ (hsub p (hkeep p hp))))))).1
    have nI := N' _ (List.mem_cons_self ..)
    by_cases hlt : i < n
    · refine W.item i s' _ _ oI hlt nI.1 hSI' hk' fun v h₂ tk₂ oI' hPv hI₂ hSI₂ hk₂ => ?_
      refine W.go target v _ _ _ _ oI' hI₂ hSI₂ ?_
      have F₂ : Fr h₀ L h₂ m := ⟨F'.ns.at' fun o e => hk₂ L o (Ne.symm nI.2.1) e, fun b o e => hk₂ b o (fun q => by rw [q, nI.2.2] at e; cases e) (F'.keep b o e), F'.above⟩
      have N₂ : News h₀ L h₂ ((I, oI') :: (C, oC) :: (D, lst ys) :: (mu' ++ nu')) := fun p hp => by
        rcases List.mem_cons.mp hp with rfl | hp
        · exact ⟨hI₂, nI.2⟩
        · have z := N' p (.tail _ hp)
          refine ⟨hk₂ _ _ ?_ z.1, z.2⟩
          rcases List.mem_cons.mp hp with rfl | hp
          · exact Ne.symm hIC
          · rcases List.mem_cons.mp hp with rfl | hp
            · exact Ne.symm hID
            · exact (off' p hp).1
      have fin1 : ∀ ys' s₅, ys'.length ≤ ys.length + 1 → TurnEnd h₀ L m s₂ I oI' C D nu (J (i + 1)) ys' ys' s₅ → ∃ j, j < n + 1 - i ∧ ∃ i ys oI oC m' mu' nu', i ≤ n ∧ j = n + 1 - i ∧ ys.length ≤ i ∧ SI i oI ∧ Same s₂ s₅ ∧ Fr h₀ L s₅.heap m ∧ NsObj oC m' ∧ News h₀ L s₅.heap ((I, oI) :: (C, oC) :: (D, lst ys) :: (mu' ++ nu')) ∧
          (∀ p ∈ mu' ++ nu', p.1 ≠ I ∧ p.1 ≠ C ∧ p.1 ≠ D) ∧ Apart mu' nu' ∧ Sub nu nu' ∧ J i ys mu' nu' := by
        rintro ys' s₅ hl ⟨oC₅, m₅, mu₅, nu₅, sm₅, F₅, N₅, ho₅, off₅, ap₅, sub₅, J₅⟩
        exact ⟨n + 1 - (i + 1), by omega, i + 1, ys', oI', oC₅, m₅, mu₅, nu₅, hlt, rfl, by omega, hSI₂, sm₅, F₅, ho₅, N₅, off₅, ap₅, sub₅, J₅⟩
      refine wpAny_mono (turn i v ys mu' nu' oI' C oC D m' { s' with heap := h₂, toks := tk₂ } hlt hPv hyl hJ hsub (hsm.up _ _) hoC F₂ N₂ off' hIC hID (Ne.symm hDC) hap') (fun _ s₃ h₃ => wpAny_mono h₃ (fun ok s₄ h₄ => ?_) fun _ _ e => e) fun _ _ e => e
      cases ok with
      | false => exact fin1 ys s₄ (Nat.le_succ _) h₄
      | true =>
        refine wpAny_mono h₄ (fun y s₅ h₅ => ?_) fun _ _ e => e
        obtain ⟨oC₅, m₅, mu₅, nu₅, sm₅, F₅, N₅, ho₅, off₅, ap₅, sub₅, J₅⟩ := h₅
        have zD := N₅ (D, lst ys) (.tail _ (.tail _ (List.mem_cons_self ..)))
        refine append_at (hsz := by show ys.toArray.size ≤ sizeLine; rw [List.size_toArray]; exact Nat.le_trans hyl (Nat.le_trans hi hsz)) zD.1 fun h₆ hs₆ hD₆ => ?_
        refine fin1 (ys ++ [y]) _ (by rw [List.length_append]; exact Nat.le_refl _) ⟨oC₅, m₅, mu₅, nu₅, sm₅.uph _, F₅.change hs₆ hDL hD₀, fun p hp => ?_, ho₅, off₅, ap₅, sub₅, J₅⟩
        rcases List.mem_cons.mp hp with rfl | hp
        · have z := N₅ _ (List.mem_cons_self ..)
          exact ⟨hs₆.extBut _ _ hID z.1, z.2⟩
        · rcases List.mem_cons.mp hp with rfl | hp
          · have z := N₅ _ (.tail _ (List.mem_cons_self ..))
            exact ⟨hs₆.extBut _ _ (Ne.symm hDC) z.1, z.2⟩
          · rcases List.mem_cons.mp hp with rfl | hp
            · exact ⟨hD₆.trans (congrArg some (LCg.lst_snoc ys y)), hDL, hD₀⟩
            · have z := N₅ p (.tail _ (.tail _ (.tail _ hp)))
              exact ⟨hs₆.extBut _ _ (off₅ p hp).2.2 z.1, z.2⟩
    · obtain rfl : i = n := Nat.le_antisymm hi (Nat.not_lt.mp hlt)
      refine W.done s' _ _ oI nI.1 hSI' hk' fun h₂ tk₂ hk₂ => ?_
      have zC := N' (C, oC) (.tail _ (List.mem_cons_self ..))
      refine fin D C ys mu' nu' m' { s' with heap := h₂, toks := tk₂ } hJ (hsm.up _ _) ⟨F'.ns.at' fun o e => hk₂ L o (Ne.symm nI.2.1) e, fun b o e => hk₂ b o (fun q => by rw [q, nI.2.2] at e; cases e) (F'.keep b o e), F'.above⟩ (fun p hp => ?_) (fun p hp => (off' p hp).2.2) hap' hsub
        ((hoC.ns zC.1).at' fun o e => hk₂ C o (Ne.symm hIC) e) hC₀ hCL (Ne.symm hDC) (fun p hp => (off' p hp).2.1)
      have z := N' p (.tail _ (.tail _ hp))
      refine ⟨hk₂ _ _ ?_ z.1, z.2⟩
      rcases List.mem_cons.mp hp with rfl | hp
      · exact Ne.symm hID
      · exact (off' p hp).1
  · exact ⟨0, [], oI₀, oC₀, _, mu, nu, Nat.zero_le _, rfl, Nat.le_refl _, hSI, Same.refl s₂, F, hoC₀, N, off, hap, Sub.refl _, h0⟩
noncomputable abbrev cellO : Obj := { cls := .type "cell", data := .cell none }
theorem comp_core {elt target iter : Expr} {ifs : List Expr} {scope : Scope} {pos : Pos} {env : Env} {cl : List (Str × Addr)} {s₂ : Shared} {I : Addr} {oI₀ : Obj} {n : Nat} {P : Nat → Value → Prop} {SI : Nat → Obj → Prop} {keep : Led}
    {h₀ : Heap} {L : Addr} {m : Str → Option Value} {mu nu : Led} {RR : Value → Addr → Result → Shared → Prop}
    (W : Itr prog w A I n P SI keep) (hsz : n ≤ sizeLine) (hcell : ∀ y ∈ scope.names, y.2 ≠ .cell) (hkind : scope.kind = .function)
    (F : Fr h₀ L s₂.heap m) (N : News h₀ L s₂.heap ((I, oI₀) :: (mu ++ nu))) (hSI : SI 0 oI₀) (hI : ∀ p ∈ mu ++ nu, p.1 ≠ I) (hap : Apart mu nu) (hkeep : Sub keep nu)
    (J : Nat → List Value → Led → Led → Prop) (h0 : J 0 [] mu nu)
    (turn : ∀ i v ys mu' nu' oI C oC D m₂ s₁, i < n → P i v → ys.length ≤ i → J i ys mu' nu' → Sub nu nu' → Same s₂ s₁ → NsObj oC m₂ → Fr h₀ L s₁.heap m → News h₀ L s₁.heap ((I, oI) :: (C, oC) :: (D, lst ys) :: (mu' ++ nu')) →
      (∀ p ∈ mu' ++ nu', p.1 ≠ I ∧ p.1 ≠ C ∧ p.1 ≠ D) → I ≠ C → I ≠ D → C ≠ D → Apart mu' nu' →
      wpAny (model prog w) A (assign target (compEnvC scope cl C env) v) (fun _ s₃ => wpAny (model prog w) A (tests ifs (compEnvC scope cl C env)) (fun ok s₄ =>
        if ok = true then wpAny (model prog w) A (eval elt (compEnvC scope cl C env)) (fun y s₅ => TurnEnd h₀ L m s₂ I oI C D nu (J (i + 1)) ys (ys ++ [y]) s₅) NoE s₄ else TurnEnd h₀ L m s₂ I oI C D nu (J (i + 1)) ys ys s₄) NoE s₃) NoE s₁)
    (fin : ∀ D C ys mu' nu' m' s₁, J n ys mu' nu' → Same s₂ s₁ → Fr h₀ L s₁.heap m → News h₀ L s₁.heap ((D, lst ys) :: (mu' ++ nu')) → (∀ p ∈ mu' ++ nu', p.1 ≠ D) → Apart mu' nu' → Sub nu nu' →
      s₁.heap.Ns C m' → h₀.get? C = none → C ≠ L → C ≠ D → (∀ p ∈ mu' ++ nu', p.1 ≠ C) → RR (.ref D) C (.ok .next) s₁) :
    wpAny (model prog w) A (newList []) (fun acc s₃ => wpAny (model prog w) A (newFunctionEnv scope env.globals cl [] env.qual none .none (some env)) (fun cenv s₄ =>
      codeAny (model prog w) A (.compStart (.ListComp elt [⟨target, iter, ifs, 0⟩] scope pos) 0 (.ref I) acc { cenv with scope := relabel scope env }) (RR acc cenv.locals) s₄) E s₃) E s₂ := by
  refine wpAny_newObj_type (wpAny_newFunctionEnv hcell (by intro y hy; simp at hy) (fun h₁ hns₁ hsb₁ => ?_) hkind)
  dsimp only at hns₁ hsb₁ ⊢
  generalize hH2 : s₂.heap.push { cls := .type "list", dict := none, data := .seq ([] : List Value).toArray } = H2 at hns₁ hsb₁ ⊢
  generalize hDD : s₂.heap.objs.size = D
  have hC : H2.objs.size = D + 1 := by rw [← hH2, Heap.size_push, hDD]
  generalize hCC : H2.objs.size = C at hC hns₁ hsb₁ ⊢
  have hDC : D ≠ C := by rw [hC]; exact Nat.ne_of_lt (Nat.lt_succ_self _)
  have lt2 : ∀ b o, s₂.heap.get? b = some o → b < D := fun b o e => hDD ▸ Heap.lt_size e
  have old : ∀ b o, s₂.heap.get? b = some o → h₁.get? b = some o := fun b o e =>
    hsb₁.extBut b o (by rw [hC]; exact Nat.ne_of_lt (Nat.lt_succ_of_lt (lt2 b o e))) (Heap.get?_push_of_some _ (hH2 ▸ Heap.get?_push_of_some _ e))
  have hacc : h₁.get? D = some (lst []) := hsb₁.extBut _ _ hDC (Heap.get?_push_of_some _ (hH2 ▸ hDD ▸ Heap.get?_push_size _ rfl))
  have hLlt : L < D := hDD ▸ F.ns.lt
  have fresh₀ : ∀ a, D ≤ a → h₀.get? a = none := fun a ha => by
    cases e : h₀.get? a with
    | none => rfl
    | some o' => exact absurd (lt2 _ _ (F.keep a o' e)) (Nat.not_lt.mpr ha)
  have hD₀ := fresh₀ D (Nat.le_refl _)
  have hC₀ := fresh₀ C (by rw [hC]; exact Nat.le_succ _)
  have hDL : D ≠ L := Nat.ne_of_gt hLlt
  have hCL : C ≠ L := by rw [hC]; exact Nat.ne_of_gt (Nat.lt_succ_of_lt hLlt)
  have NI := N _ (List.mem_cons_self ..)
  have hIlt : I < D := lt2 _ _ NI.1
  have hIC : I ≠ C := by rw [hC]; exact Nat.ne_of_lt (Nat.lt_succ_of_lt hIlt)
  have hID : I ≠ D := Nat.ne_of_lt hIlt
  have offs : ∀ p ∈ mu ++ nu, p.1 ≠ I ∧ p.1 ≠ C ∧ p.1 ≠ D := fun p hp => by
    have q := lt2 _ _ (N p (.tail _ hp)).1
    exact ⟨hI p hp, by rw [hC]; exact Nat.ne_of_lt (Nat.lt_succ_of_lt q), Nat.ne_of_lt q⟩
  have hI₁ : h₁.get? I = some oI₀ := old _ _ NI.1
  have loop : codeAny (model prog w) A (.compLoop (.ListComp elt [⟨target, iter, ifs, 0⟩] scope pos) 0 (.ref I) (.ref D) (compEnvC scope cl C env)) (RR (.ref D) C) { s₂ with heap := h₁, toks := s₂.toks + ([] : List (Str × Value)).length } := by
    obtain ⟨oC, heC, hoC⟩ := LCg.ns_obj hns₁
    refine comp_run (mu := mu) (nu := nu) (h₀ := h₀) (L := L) (m := m) W hsz (F.keeps old) (fun p hp => ?_) hoC hSI offs hIC hID hDC hap hkeep J h0 ?_ ?_
    · rcases List.mem_cons.mp hp with rfl | hp
      · exact ⟨hI₁, NI.2⟩
      · rcases List.mem_cons.mp hp with rfl | hp
        · exact ⟨heC, hCL, hC₀⟩
        · rcases List.mem_cons.mp hp with rfl | hp
          · exact ⟨hacc, hDL, hD₀⟩
          · have z := N p (.tail _ hp)
            exact ⟨old _ _ z.1, z.2⟩
    · intro i v ys mu' nu' oI C' oC D' m₂ s₁ a1 a2 a3 a4 a5 a6
      exact turn i v ys mu' nu' oI C' oC D' m₂ s₁ a1 a2 a3 a4 a5 ⟨a6.1, a6.2⟩
    · intro D' C' ys mu' nu' m' s₁ b1 b2
      exact fin D' C' ys mu' nu' m' s₁ b1 ⟨b2.1, b2.2⟩
  exact codeAny_compStart_list loop (W.self 0 _ _ _ oI₀ hI₁ hSI loop)
end
end PB2
section PB3
section
variable {prog : Program} {w : World} {A : Around} {E : Value → Shared → Prop} {s : Shared} {h₀ : Heap} {L : Addr} {m : Str → Option Value} {env : Env}

noncomputable def CompGoal (prog : Program) (w : World) (A : Around) (h₀ : Heap) (L : Addr) (m : Str → Option Value) (env : Env) (target : Expr) (ifs : List Expr) (elt : Expr) (scope : Scope) (cl : List (Str × Addr))
    (Fin : List Value → Addr → Led → Led → Shared → Prop) (xv : Value) (s₁ : Shared) : Prop :=
  ∃ (n : Nat) (P : Nat → Value → Prop) (mu nu : Led) (J : Nat → List Value → Led → Led → Prop), Src prog w A s₁ xv n P nu ∧ n ≤ sizeLine ∧ Fr h₀ L s₁.heap m ∧ News h₀ L s₁.heap (mu ++ nu) ∧ Apart mu nu ∧ J 0 [] mu nu ∧
    (∀ i v ys mu' nu' I oI C oC D m₂ s₂, i < n → P i v → ys.length ≤ i → J i ys mu' nu' → Sub nu nu' → Same s₁ s₂ → NsObj oC m₂ → Fr h₀ L s₂.heap m → News h₀ L s₂.heap ((I, oI) :: (C, oC) :: (D, lst ys) :: (mu' ++ nu')) →
      (∀ p ∈ mu' ++ nu', p.1 ≠ I ∧ p.1 ≠ C ∧ p.1 ≠ D) → I ≠ C → I ≠ D → C ≠ D → Apart mu' nu' →
      wpAny (model prog w) A (assign target (compEnvC scope cl C env) v) (fun _ s₃ => wpAny (model prog w) A (tests ifs (compEnvC scope cl C env)) (fun ok s₄ =>
        if ok = true then wpAny (model prog w) A (eval elt (compEnvC scope cl C env)) (fun y s₅ => TurnEnd h₀ L m s₁ I oI C D nu (J (i + 1)) ys (ys ++ [y]) s₅) NoE s₄ else TurnEnd h₀ L m s₁ I oI C D nu (J (i + 1)) ys ys s₄) NoE s₃) NoE s₂) ∧
    (∀ ys D mu' nu' s', J n ys mu' nu' → Same s₁ s' → Fr h₀ L s'.heap m → News h₀ L s'.heap ((D, lst ys) :: (mu' ++ nu')) → (∀ p ∈ mu' ++ nu', p.1 ≠ D) → Apart mu' nu' → Sub nu nu' → Fin ys D mu' nu' s')

theorem CompGoal.intro {target : Expr} {ifs : List Expr} {elt : Expr} {scope : Scope} {cl : List (Str × Addr)} {Fin : List Value → Addr → Led → Led → Shared → Prop} {xv : Value} {s₁ : Shared}
    {n : Nat} {P : Nat → Value → Prop} (mu nu : Led) (J : Nat → List Value → Led → Led → Prop) (S : Src prog w A s₁ xv n P nu) (hsz : n ≤ sizeLine) (F : Fr h₀ L s₁.heap m) (N : News h₀ L s₁.heap (mu ++ nu)) (hap : Apart mu nu) (h0 : J 0 [] mu nu)
    (turn : ∀ i v ys mu' nu' I oI C oC D m₂ s₂, i < n → P i v → ys.length ≤ i → J i ys mu' nu' → Sub nu nu' → Same s₁ s₂ → NsObj oC m₂ → Fr h₀ L s₂.heap m → News h₀ L s₂.heap ((I, oI) :: (C, oC) :: (D, lst ys) :: (mu' ++ nu')) →
      (∀ p ∈ mu' ++ nu', p.1 ≠ I ∧ p.1 ≠ C ∧ p.1 ≠ D) → I ≠ C → I ≠ D → C ≠ D → Apart mu' nu' → ∀ R : List Value → Shared → Prop, (∀ zs s', TurnEnd h₀ L m s₁ I oI C D nu (J (i + 1)) ys zs s' → R zs s') →
      wpAny (model prog w) A (assign target (compEnvC scope cl C env) v) (fun _ s₃ => wpAny (model prog w) A (tests ifs (compEnvC scope cl C env)) (fun ok s₄ =>
        if ok = true then wpAny (model prog w) A (eval elt (compEnvC scope cl C env)) (fun y s₅ => R (ys ++ [y]) s₅) NoE s₄ else R ys s₄) NoE s₃) NoE s₂)
    (fin : ∀ ys D mu' nu' s', J n ys mu' nu' → Same s₁ s' → Fr h₀ L s'.heap m → News h₀ L s'.heap ((D, lst ys) :: (mu' ++ nu')) → (∀ p ∈ mu' ++ nu', p.1 ≠ D) → Apart mu' nu' → Sub nu nu' → Fin ys D mu' nu' s') :
    CompGoal prog w A h₀ L m env target ifs elt scope cl Fin xv s₁ := ⟨n, P, mu, nu, J, S, hsz, F, N, hap, h0, fun i v ys mu' nu' I oI C oC D m₂ s₂ a1 a2 a3 a4 a5 a6 a7 a8 a9 b1 b2 b3 b4 b5 => turn i v ys mu' nu' I oI C oC D m₂ s₂ a1 a2 a3 a4 a5 a6 a7 a8 a9 b1 b2 b3 b4 b5 _ fun _ _ h => h, fin⟩

theorem comp_block {target iter : Expr} {ifs : List Expr} {elt : Expr} {scope : Scope} {cl : List (Str × Addr)} {pos : Pos} {Fin : List Value → Addr → Led → Led → Shared → Prop} {xv : Value} {s₁ : Shared} {RR : Value → Addr → Result → Shared → Prop}
    (hcell : ∀ y ∈ scope.names, y.2 ≠ .cell) (hkind : scope.kind = .function) (G : CompGoal prog w A h₀ L m env target ifs elt scope cl Fin xv s₁)
    (fin : ∀ D C ys mu' nu' m' s', (∀ h'', Heap.SameBut C s'.heap h'' → Fr h₀ L h'' m → News h₀ L h'' ((D, lst ys) :: (mu' ++ nu')) → Fin ys D mu' nu' { s' with heap := h'' }) → Fr h₀ L s'.heap m → News h₀ L s'.heap ((D, lst ys) :: (mu' ++ nu')) →
      s'.heap.Ns C m' → h₀.get? C = none → C ≠ L → C ≠ D → (∀ p ∈ mu' ++ nu', p.1 ≠ C) → (∀ h'' tk, Fr h₀ L h'' m → News h₀ L h'' ((D, lst ys) :: (mu' ++ nu')) → Fin ys D mu' nu' { s' with heap := h'', toks := tk }) → RR (.ref D) C (.ok .next) s') :
    wpAny (model prog w) A (pyIter xv) (fun it s₂ => wpAny (model prog w) A (newList []) (fun acc s₃ => wpAny (model prog w) A (newFunctionEnv scope env.globals cl [] env.qual none .none (some env)) (fun cenv s₄ =>
      codeAny (model prog w) A (.compStart (.ListComp elt [⟨target, iter, ifs, 0⟩] scope pos) 0 it acc { cenv with scope := relabel scope env }) (RR acc cenv.locals) s₄) E s₃) E s₂) E s₁ := by
  obtain ⟨n, P, mu, nu, J, S, hsz, F, N, hap, h0, turn, fin'⟩ := G
  refine S _ E fun oI SI keep hSI W hkeep hfr => ?_
  have up : ∀ b o, s₁.heap.get? b = some o → (s₁.heap.push oI).get? b = some o := fun b o e => Heap.get?_push_of_some _ e
  refine comp_core (mu := mu) (nu := nu) (h₀ := h₀) (L := L) (m := m) (J := J) W hsz hcell hkind (F.keeps up) (fun p hp => ?_) hSI (fun p hp => Nat.ne_of_lt (Heap.lt_size (N p hp).1)) hap hkeep h0 ?_ ?_
  · rcases List.mem_cons.mp hp with rfl | hp
    · exact ⟨Heap.get?_push_size _ hfr, Nat.ne_of_gt F.ns.lt, next_is_new F⟩
    · exact ⟨up _ _ (N p hp).1, (N p hp).2⟩
  · intro i v ys mu' nu' oI' C oC D m₂ s₂ a1 a2 a3 a4 a5 a6 a7 a8 a9 b1 b2 b3 b4 b5
    exact turn i v ys mu' nu' _ oI' C oC D m₂ s₂ a1 a2 a3 a4 a5 ⟨a6.1, a6.2⟩ a7 a8 a9 b1 b2 b3 b4 b5
  · intro D C ys mu' nu' m' s' hJ hs F' N' hD hap' hsub hC hC₀ hCL hCD hCn
    exact fin D C ys mu' nu' m' s' (fun h'' _ F'' N'' => fin' ys D mu' nu' { s' with heap := h'' } hJ ⟨hs.1, hs.2⟩ F'' N'' hD hap' hsub) F' N' hC hC₀ hCL hCD hCn
      (fun h'' tk F'' N'' => fin' ys D mu' nu' { s' with heap := h'', toks := tk } hJ ⟨hs.1, hs.2⟩ F'' N'' hD hap' hsub)

theorem comp_eval {target iter : Expr} {ifs : List Expr} {elt : Expr} {scope : Scope} {cl : List (Str × Addr)} {pos : Pos} {Q : Value → Shared → Prop} (_F₀ : Fr h₀ L s.heap m)
    (hclos : closureFor scope env = pure cl) (hcell : ∀ y ∈ scope.names, y.2 ≠ .cell) (hkind : scope.kind = .function)
    (hnames : ∀ y ∈ scope.names, y.2 = .local → scope.names.lookup y.1 = some .local)
    (h : wpAny (model prog w) A (eval iter env) (CompGoal prog w A h₀ L m env target ifs elt scope cl (fun _ D _ _ s' => Q (.ref D) s')) E s)
    (hs : ∀ x, foldedSetIterable iter env x = pure x := by intro _; rfl) :
    wpAny (model prog w) A (eval (.ListComp elt [⟨target, iter, ifs, 0⟩] scope pos) env) Q E s := by
  rw [eval_ListComp]
  refine wpAny_comprehension_free (use := none) rfl hs hclos hkind hnames (wpAny_mono h (fun xv s₁ h₁ => ?_) fun _ _ e => e)
  refine comp_block hcell hkind h₁ ?_
  intro D C ys mu' nu' m' s' k F' N' hC hC₀ hCL hCD hCn _
  refine ⟨m', hC, fun h'' hs'' => k h'' hs'' (F'.change hs'' hCL hC₀) fun p hp => ?_⟩
  refine ⟨hs''.extBut _ _ ?_ (N' p hp).1, (N' p hp).2⟩
  rcases List.mem_cons.mp hp with rfl | hp
  · exact Ne.symm hCD
  · exact hCn p hp

theorem comp_assign {target iter : Expr} {ifs : List Expr} {elt : Expr} {y : Str} {py : Pos} {scope : Scope} {cl : List (Str × Addr)} {pos spos : Pos} {Q : Flow → Shared → Prop} (_F₀ : Fr h₀ L s.heap m) (hLe : env.locals = L)
    (hsw : swapsWith (.ListComp elt [⟨target, iter, ifs, 0⟩] scope pos) (some (.Name y py)) spos.line env = pure true)
    (hclos : closureFor scope env = pure cl) (hcell : ∀ z ∈ scope.names, z.2 ≠ .cell) (hkind : scope.kind = .function)
    (hnames : ∀ z ∈ scope.names, z.2 = .local → scope.names.lookup z.1 = some .local)
    (hy : env.kindOf y = some .local) (hp : (env.scope.kind == .class || (env.scope.kind == .module && env.locals != env.globals)) = false)
    (h : wpAny (model prog w) A (eval iter env) (CompGoal prog w A h₀ L m env target ifs elt scope cl (fun ys D mu' nu' s' => ∀ s'', Same s' s'' → Fr h₀ L s''.heap (fun z => if z = y then some (.ref D) else m z) → News h₀ L s''.heap ((D, lst ys) :: (mu' ++ nu')) → Q .next s'')) E s)
    (hs : ∀ x, foldedSetIterable iter env x = pure x := by intro _; rfl) :
    wpAny (model prog w) A (exec (.Assign [.Name y py] (.ListComp elt [⟨target, iter, ifs, 0⟩] scope pos) spos) env) Q E s := by
  subst hLe
  rw [exec_Assign_Name_used _ _ _ _ hsw]
  refine wpAny_bind (wpAny_standAt (wpAny_bind ?_))
  show wpAny _ A (do let _ ← comprehension (.ListComp elt [⟨target, iter, ifs, 0⟩] scope pos) scope env _ (newList []) false (eval iter env) (some (assign (.Name y py) env))) _ _ s
  refine wpAny_bind (wpAny_mono (wpAny_comprehension_free (use := some (assign (.Name y py) env)) (Q := fun _ s' => Q .next s') rfl hs hclos hkind hnames
    (wpAny_mono h (fun xv s₁ h₁ => ?_) fun _ _ e => e)) (fun _ s' hq => wpAny_pure (wpAny_pure hq)) fun _ _ e => e)
  refine comp_block hcell hkind h₁ ?_
  intro D C ys mu' nu' m' s' _ F' N' hC hC₀ hCL hCD hCn k
  show wpAny _ A (assign (.Name y py) env (.ref D)) _ _ _
  refine wpAny_assign_Name (wpAny_storeName_local hy F'.ns (fun h₂ hn₂ hs₂ => ?_) hp)
  have hL₀ : h₀.get? env.locals = none := Heap.get?_none_of_le F'.above
  have F₂ : Fr h₀ env.locals h₂ (fun z => if z = y then some (.ref D) else m z) := ⟨hn₂, fun b o e => hs₂.extBut b o (fun q => by rw [q, hL₀] at e; cases e) (F'.keep b o e), F'.above⟩
  refine ⟨m', hC.sameBut hs₂ hCL, fun h'' hs'' => k s'.heap s'.toks F' N' _ ⟨rfl, rfl⟩ (F₂.change hs'' hCL hC₀) fun p hp => ?_⟩
  have z : h₂.get? p.1 = some p.2 := hs₂.extBut _ _ (N' p hp).2.1 (N' p hp).1
  refine ⟨hs''.extBut _ _ ?_ z, (N' p hp).2⟩
  rcases List.mem_cons.mp hp with rfl | hp
  · exact Ne.symm hCD
  · exact hCn p hp

theorem turn_name {x : Str} {px : Pos} {scope : Scope} {cl : List (Str × Addr)} {I C D : Addr} {oI oC oD : Obj} {m₂ : Str → Option Value} {rest : Led} {v : Value} {Q : Unit → Shared → Prop}
    (hkind : scope.kind = .function) (hx : scope.names.lookup x = some .local) (hC : NsObj oC m₂) (F : Fr h₀ L s.heap m) (N : News h₀ L s.heap ((I, oI) :: (C, oC) :: (D, oD) :: rest)) (off : ∀ p ∈ rest, p.1 ≠ I ∧ p.1 ≠ C ∧ p.1 ≠ D) (hIC : I ≠ C) (hCD : C ≠ D)
    (h : ∀ h' oC' m₂', NsObj oC' m₂' → m₂' x = some v → Fr h₀ L h' m → News h₀ L h' ((I, oI) :: (C, oC') :: (D, oD) :: rest) → Q () { s with heap := h', toks := s.toks + 1 }) :
    wpAny (model prog w) A (assign (.Name x px) (compEnvC scope cl C env) v) Q E s := by
  have NC := N (C, oC) (.tail _ (List.mem_cons_self ..))
  refine wpAny_assign_Name (wpAny_storeName_local (lookup_relabel_local hx) (hC.ns NC.1) (fun h' hn hs => ?_) (by simp [compEnvC, relabel, hkind]))
  obtain ⟨oC', e, ho⟩ := LCg.ns_obj hn
  refine h h' oC' _ ho (by simp) (F.change hs NC.2.1 NC.2.2) fun p hp => ?_
  rcases List.mem_cons.mp hp with rfl | hp
  · have z := N _ (List.mem_cons_self ..)
    exact ⟨hs.extBut _ _ hIC z.1, z.2⟩
  · rcases List.mem_cons.mp hp with rfl | hp
    · exact ⟨e, NC.2⟩
    · rcases List.mem_cons.mp hp with rfl | hp
      · have z := N _ (.tail _ (.tail _ (List.mem_cons_self ..)))
        exact ⟨hs.extBut _ _ (Ne.symm hCD) z.1, z.2⟩
      · have z := N _ (.tail _ (.tail _ (.tail _ hp)))
        exact ⟨hs.extBut _ _ (off p hp).2.1 z.1, z.2⟩

theorem turn_pair {x x₂ : Str} {px px₂ tp : Pos} {tk} {scope : Scope} {cl : List (Str × Addr)} {I C D T : Addr} {oI oC oD : Obj} {m₂ : Str → Option Value} {rest : Led} {v₁ v₂ : Value} {k : Nat} {Q : Unit → Shared → Prop}
    (hh : A.handled = none) (hkind : scope.kind = .function) (hx : scope.names.lookup x = some .local) (hx₂ : scope.names.lookup x₂ = some .local) (hxx : x ≠ x₂) (hC : NsObj oC m₂) (F : Fr h₀ L s.heap m)
    (N : News h₀ L s.heap ((I, oI) :: (C, oC) :: (D, oD) :: rest)) (hT : (T, tupO [v₁, v₂] k) ∈ rest) (off : ∀ p ∈ rest, p.1 ≠ I ∧ p.1 ≠ C ∧ p.1 ≠ D) (hIC : I ≠ C) (hCD : C ≠ D)
    (h : ∀ h' tk' oC' m₂', NsObj oC' m₂' → m₂' x = some v₁ → m₂' x₂ = some v₂ → Fr h₀ L h' m → News h₀ L h' ((I, oI) :: (C, oC') :: (D, oD) :: rest) → Q () { s with heap := h', toks := tk' }) :
    wpAny (model prog w) A (assign (.Tuple [.Name x px, .Name x₂ px₂] tk tp) (compEnvC scope cl C env) (.ref T)) Q E s := by
  have NC := N (C, oC) (.tail _ (List.mem_cons_self ..))
  have ht : IsTup s.heap T #[v₁, v₂] := ⟨_, (N _ (.tail _ (.tail _ (.tail _ hT)))).1, rfl, k, rfl⟩
  refine assign_Tuple_tuple hh ht rfl rfl fun h₅ he => ?_
  have he' : ∀ b o, s.heap.get? b = some o → h₅.get? b = some o := fun b o e => he b o (Nat.ne_of_lt (Heap.lt_size e)) e
  refine assignInOrder_cons (wpAny_assign_Name (wpAny_storeName_local (lookup_relabel_local hx) ((hC.ns NC.1).at' fun o e => he' _ o e) (fun h₆ hn₆ hs₆ => ?_) (by simp [compEnvC, relabel, hkind])))
  refine assignInOrder_cons (wpAny_assign_Name (wpAny_storeName_local (lookup_relabel_local hx₂) hn₆ (fun h₃ hn₃ hs₃ => ?_) (by simp [compEnvC, relabel, hkind])))
  refine assignInOrder_nil ?_
  have old3 : ∀ b o, b ≠ C → s.heap.get? b = some o → h₃.get? b = some o := fun b o hb e => hs₃.extBut b o hb (hs₆.extBut b o hb (he' b o e))
  obtain ⟨oC', e, ho⟩ := LCg.ns_obj hn₃
  refine h h₃ _ oC' _ ho (by simp [hxx]) (by simp) (((F.keeps he').change hs₆ NC.2.1 NC.2.2).change hs₃ NC.2.1 NC.2.2) fun p hp => ?_
  rcases List.mem_cons.mp hp with rfl | hp
  · have z := N _ (List.mem_cons_self ..)
    exact ⟨old3 _ _ hIC z.1, z.2⟩
  · rcases List.mem_cons.mp hp with rfl | hp
    · exact ⟨e, NC.2⟩
    · rcases List.mem_cons.mp hp with rfl | hp
      · have z := N _ (.tail _ (.tail _ (List.mem_cons_self ..)))
        exact ⟨old3 _ _ (Ne.symm hCD) z.1, z.2⟩
      · have z := N _ (.tail _ (.tail _ (.tail _ hp)))
        exact ⟨old3 _ _ (off p hp).2.1 z.1, z.2⟩

/-! ### for -/
noncomputable def ForEnd (h₀ : Heap) (L : Addr) (s : Shared) (I : Addr) (oI : Obj) (nu : Led) (J : (Str → Option Value) → Led → Led → Prop) (Q : Flow → Shared → Prop) (f : Flow) (s' : Shared) : Prop :=
  match f with
  | .ret v => Q (.ret v) s'
  | .brk => Q .next s'
  | _ => ∃ (m' : Str → Option Value) (mu' nu' : Led), Same s s' ∧ Fr h₀ L s'.heap m' ∧ News h₀ L s'.heap ((I, oI) :: (mu' ++ nu')) ∧ (∀ p ∈ mu' ++ nu', p.1 ≠ I) ∧ Apart mu' nu' ∧ Sub nu nu' ∧ J m' mu' nu'

noncomputable def ForGoal (prog : Program) (w : World) (A : Around) (h₀ : Heap) (env : Env) (target : Expr) (body : List Stmt) (Q : Flow → Shared → Prop) (xv : Value) (s₁ : Shared) : Prop :=
  ∃ (n : Nat) (P : Nat → Value → Prop) (m : Str → Option Value) (mu nu : Led) (J : Nat → (Str → Option Value) → Led → Led → Prop), Src prog w A s₁ xv n P nu ∧ Fr h₀ env.locals s₁.heap m ∧ News h₀ env.locals s₁.heap (mu ++ nu) ∧ Apart mu nu ∧ J 0 m mu nu ∧
    (∀ i v m' mu' nu' I oI s₂, i < n → P i v → J i m' mu' nu' → Sub nu nu' → Same s₁ s₂ → Fr h₀ env.locals s₂.heap m' → News h₀ env.locals s₂.heap ((I, oI) :: (mu' ++ nu')) → (∀ p ∈ mu' ++ nu', p.1 ≠ I) → Apart mu' nu' →
      wpAny (model prog w) A (assign target env v) (fun _ s₃ => wpAny (model prog w) A (execs body env) (ForEnd h₀ env.locals s₁ I oI nu (J (i + 1)) Q) NoE s₃) NoE s₂) ∧
    (∀ m' mu' nu' s', J n m' mu' nu' → Same s₁ s' → Fr h₀ env.locals s'.heap m' → News h₀ env.locals s'.heap (mu' ++ nu') → Apart mu' nu' → Sub nu nu' → Q .next s')

theorem ForGoal.intro {target : Expr} {body : List Stmt} {Q : Flow → Shared → Prop} {xv : Value} {s₁ : Shared} {n : Nat} {P : Nat → Value → Prop} {m : Str → Option Value} (mu nu : Led) (J : Nat → (Str → Option Value) → Led → Led → Prop)
    (S : Src prog w A s₁ xv n P nu) (F : Fr h₀ env.locals s₁.heap m) (N : News h₀ env.locals s₁.heap (mu ++ nu)) (hap : Apart mu nu) (h0 : J 0 m mu nu)
    (turn : ∀ i v m' mu' nu' I oI s₂, i < n → P i v → J i m' mu' nu' → Sub nu nu' → Same s₁ s₂ → Fr h₀ env.locals s₂.heap m' → News h₀ env.locals s₂.heap ((I, oI) :: (mu' ++ nu')) → (∀ p ∈ mu' ++ nu', p.1 ≠ I) → Apart mu' nu' → ∀ R : Flow → Shared → Prop, (∀ f s', ForEnd h₀ env.locals s₁ I oI nu (J (i + 1)) Q f s' → R f s') →
      wpAny (model prog w) A (assign target env v) (fun _ s₃ => wpAny (model prog w) A (execs body env) R NoE s₃) NoE s₂)
    (fin : ∀ m' mu' nu' s', J n m' mu' nu' → Same s₁ s' → Fr h₀ env.locals s'.heap m' → News h₀ env.locals s'.heap (mu' ++ nu') → Apart mu' nu' → Sub nu nu' → Q .next s') :
    ForGoal prog w A h₀ env target body Q xv s₁ := ⟨n, P, m, mu, nu, J, S, F, N, hap, h0, fun i v m' mu' nu' I oI s₂ a1 a2 a3 a4 a5 a6 a7 a8 a9 => turn i v m' mu' nu' I oI s₂ a1 a2 a3 a4 a5 a6 a7 a8 a9 _ fun _ _ h => h, fin⟩

theorem for_eval {target iter : Expr} {body : List Stmt} {pos : Pos} {Q : Flow → Shared → Prop} (_F₀ : Fr h₀ env.locals s.heap m)
    (h : wpAny (model prog w) A (eval iter env) (ForGoal prog w A h₀ env target body Q) E s)
    (hs : ∀ x, foldedSetIterable iter env x = pure x := by intro _; rfl) :
    wpAny (model prog w) A (exec (.For target iter body [] pos) env) Q E s := by
  refine wpAny_For (wpAny_mono h (fun xv s₁ h₁ => ?_) fun _ _ e => e) hs
  obtain ⟨n, P, m, mu, nu, J, S, F, N, hap, h0, turn, fin⟩ := h₁
  refine S _ E fun oI SI keep hSI W hkeep hfr => ?_
  have up : ∀ b o, s₁.heap.get? b = some o → (s₁.heap.push oI).get? b = some o := fun b o e => Heap.get?_push_of_some _ e
  generalize hII : s₁.heap.objs.size = I at W ⊢
  have hIL : I ≠ env.locals := hII ▸ Nat.ne_of_gt F.ns.lt
  have hI₀ : h₀.get? I = none := hII ▸ next_is_new F
  refine codeAny_forLoop_any (fun k s' => ∃ i oI m' mu' nu', i ≤ n ∧ k = n + 1 - i ∧ SI i oI ∧ Same s₁ s' ∧ Fr h₀ env.locals s'.heap m' ∧ News h₀ env.locals s'.heap ((I, oI) :: (mu' ++ nu')) ∧ (∀ p ∈ mu' ++ nu', p.1 ≠ I) ∧ Apart mu' nu' ∧ Sub nu nu' ∧ J i m' mu' nu') ?_ (n + 1) ?_
  · rintro k s' ⟨i, oI', m', mu', nu', hi, rfl, hSI', hsm, F', N', off', hap', hsub, hJ⟩
    have hk' : ∀ p ∈ keep, s'.heap.get? p.1 = some p.2 := fun p hp => (N' p (.tail _ (List.mem_append_right _ (hsub p (hkeep p hp))))).1
    have nI := N' _ (List.mem_cons_self ..)
    by_cases hlt : i < n
    · refine noE_any (W.item i s' _ _ oI' hlt nI.1 hSI' hk' fun v h₂ tk₂ oI₂ hPv hI₂ hSI₂ hk₂ => ?_)
      refine W.go target v _ _ _ _ oI₂ hI₂ hSI₂ ?_
      have F₂ : Fr h₀ env.locals h₂ m' := ⟨F'.ns.at' fun o e => hk₂ _ o (Ne.symm hIL) e, fun b o e => hk₂ b o (fun q => by rw [q, hI₀] at e; cases e) (F'.keep b o e), F'.above⟩
      have N₂ : News h₀ env.locals h₂ ((I, oI₂) :: (mu' ++ nu')) := fun p hp => by
        rcases List.mem_cons.mp hp with rfl | hp
        · exact ⟨hI₂, nI.2⟩
        · have z := N' p (.tail _ hp)
          exact ⟨hk₂ _ _ (off' p hp) z.1, z.2⟩
      refine noE_any (wpAny_mono (turn i v m' mu' nu' I oI₂ { s' with heap := h₂, toks := tk₂ } hlt hPv hJ hsub (hsm.up _ _) F₂ N₂ off' hap') (fun _ s₃ h₃ => noE_any (wpAny_mono h₃ (fun f s₄ h₄ => ?_) fun _ _ e => e)) fun _ _ e => e)
      cases f with
      | ret v => exact h₄
      | brk => exact h₄
      | next =>
        obtain ⟨m₅, mu₅, nu₅, sm₅, F₅, N₅, off₅, ap₅, sub₅, J₅⟩ := h₄
        exact ⟨n + 1 - (i + 1), by omega, i + 1, oI₂, m₅, mu₅, nu₅, hlt, rfl, hSI₂, sm₅, F₅, N₅, off₅, ap₅, sub₅, J₅⟩
      | cont =>
        obtain ⟨m₅, mu₅, nu₅, sm₅, F₅, N₅, off₅, ap₅, sub₅, J₅⟩ := h₄
        exact ⟨n + 1 - (i + 1), by omega, i + 1, oI₂, m₅, mu₅, nu₅, hlt, rfl, hSI₂, sm₅, F₅, N₅, off₅, ap₅, sub₅, J₅⟩
    · obtain rfl : i = n := Nat.le_antisymm hi (Nat.not_lt.mp hlt)
      refine W.done s' _ _ oI' nI.1 hSI' hk' fun h₂ tk₂ hk₂ => wpAny_execs_nil ?_
      refine fin m' mu' nu' { s' with heap := h₂, toks := tk₂ } hJ (hsm.up _ _) ⟨F'.ns.at' fun o e => hk₂ _ o (Ne.symm hIL) e, fun b o e => hk₂ b o (fun q => by rw [q, hI₀] at e; cases e) (F'.keep b o e), F'.above⟩ (fun p hp => ?_) hap' hsub
      have z := N' p (.tail _ hp)
      exact ⟨hk₂ _ _ (off' p hp) z.1, z.2⟩
  · refine ⟨0, oI, m, mu, nu, Nat.zero_le _, rfl, hSI, (Same.refl s₁).uph _, F.keeps up, fun p hp => ?_, fun p hp => hII ▸ Nat.ne_of_lt (Heap.lt_size (N p hp).1), hap, Sub.refl _, h0⟩
    rcases List.mem_cons.mp hp with rfl | hp
    · exact ⟨hII ▸ Heap.get?_push_size _ hfr, hIL, hI₀⟩
    · exact ⟨up _ _ (N p hp).1, (N p hp).2⟩
end
end PB3
section PB4
section
variable {prog : Program} {w : World} {A : Around} {E : Value → Shared → Prop} {R : Result → Shared → Prop} {s : Shared}
theorem comp_core_cell {elt target iter : Expr} {ifs : List Expr} {scope : Scope} {pos : Pos} {env : Env} {x : Str} {cl : List (Str × Addr)} {s₂ : Shared} {I : Addr} {oI₀ : Obj} {n : Nat} {P : Nat → Value → Prop} {SI : Nat → Obj → Prop} {keep : Led}
    {h₀ : Heap} {L : Addr} {m : Str → Option Value} {mu nu : Led} {RR : Value → Addr → Result → Shared → Prop}
    (W : Itr prog w A I n P SI keep) (hsz : n ≤ sizeLine) (hcf : ∀ k, cellsFrom k scope.names cl = (x, k) :: cl) (hpc : ∀ h, pushCells h scope.names = h.push cellO) (hkind : scope.kind = .function)
    (F : Fr h₀ L s₂.heap m) (N : News h₀ L s₂.heap ((I, oI₀) :: (mu ++ nu))) (hSI : SI 0 oI₀) (hI : ∀ p ∈ mu ++ nu, p.1 ≠ I) (hap : Apart mu nu) (hkeep : Sub keep nu)
    (J : Addr → Nat → List Value → Led → Led → Prop) (h0 : ∀ K, (∀ p ∈ mu ++ nu, p.1 < K) → J K 0 [] ((K, cellO) :: mu) nu)
    (turn : ∀ K i v ys mu' nu' oI C oC D m₂ s₁, i < n → P i v → ys.length ≤ i → J K i ys mu' nu' → Sub nu nu' → (∀ p ∈ mu, p.1 ≠ K) → Same s₂ s₁ → NsObj oC m₂ → Fr h₀ L s₁.heap m → News h₀ L s₁.heap ((I, oI) :: (C, oC) :: (D, lst ys) :: (mu' ++ nu')) →
      (∀ p ∈ mu' ++ nu', p.1 ≠ I ∧ p.1 ≠ C ∧ p.1 ≠ D) → I ≠ C → I ≠ D → C ≠ D → Apart mu' nu' →
      wpAny (model prog w) A (assign target (compEnvC scope ((x, K) :: cl) C env) v) (fun _ s₃ => wpAny (model prog w) A (tests ifs (compEnvC scope ((x, K) :: cl) C env)) (fun ok s₄ =>
        if ok = true then wpAny (model prog w) A (eval elt (compEnvC scope ((x, K) :: cl) C env)) (fun y s₅ => TurnEnd h₀ L m s₂ I oI C D nu (J K (i + 1)) ys (ys ++ [y]) s₅) NoE s₄ else TurnEnd h₀ L m s₂ I oI C D nu (J K (i + 1)) ys ys s₄) NoE s₃) NoE s₁)
    (fin : ∀ K D C ys mu' nu' m' s₁, J K n ys mu' nu' → Same s₂ s₁ → Fr h₀ L s₁.heap m → News h₀ L s₁.heap ((D, lst ys) :: (mu' ++ nu')) → (∀ p ∈ mu' ++ nu', p.1 ≠ D) → Apart mu' nu' → Sub nu nu' →
      s₁.heap.Ns C m' → h₀.get? C = none → C ≠ L → C ≠ D → (∀ p ∈ mu' ++ nu', p.1 ≠ C) → RR (.ref D) C (.ok .next) s₁) :
    wpAny (model prog w) A (newList []) (fun acc s₃ => wpAny (model prog w) A (newFunctionEnv scope env.globals cl [] env.qual none .none (some env)) (fun cenv s₄ =>
      codeAny (model prog w) A (.compStart (.ListComp elt [⟨target, iter, ifs, 0⟩] scope pos) 0 (.ref I) acc { cenv with scope := relabel scope env }) (RR acc cenv.locals) s₄) E s₃) E s₂ := by
  refine wpAny_newObj_type ?_ (by size_fits)
  simp only [newFunctionEnv, Option.isSome_some, if_true]
  refine wpAny_bind (wpAny_alloc ?_)
  refine wpAny_bind (wpAny_layCells _ (fun name kind cells => by cases hkc : kind == NameKind.cell <;> simp [hkc]) _ _ _ _ ?_)
  rw [hcf, hpc, List.forIn_nil]
  refine wpAny_bind (wpAny_pure (wpAny_pure ?_))
  dsimp only
  have hs1 : (s₂.heap.push (lst [])).objs.size = s₂.heap.objs.size + 1 := Heap.size_push ..
  have hs2 : ((s₂.heap.push (lst [])).push { cls := .type "dict", data := .dict #[] }).objs.size = s₂.heap.objs.size + 2 := by rw [Heap.size_push, hs1]
  have hgD : (s₂.heap.push (lst [])).get? s₂.heap.objs.size = some (lst []) := Heap.get?_push_size _ rfl
  have hgC : ((s₂.heap.push (lst [])).push { cls := .type "dict", data := .dict #[] }).get? (s₂.heap.push (lst [])).objs.size = some { cls := .type "dict", data := .dict #[] } := Heap.get?_push_size _ rfl
  have hgK : (((s₂.heap.push (lst [])).push { cls := .type "dict", data := .dict #[] }).push cellO).get? ((s₂.heap.push (lst [])).push { cls := .type "dict", data := .dict #[] }).objs.size = some cellO := Heap.get?_push_size _ rfl
  have hns : (s₂.heap.push (lst [])).objs.size = (s₂.heap.push (lst [])).objs.size := rfl
  have hNs : ((s₂.heap.push (lst [])).push { cls := .type "dict", data := .dict #[] }).Ns (s₂.heap.push (lst [])).objs.size (fun _ => none) := Heap.Ns.new _ (.type "dict")
  have old : ∀ b o, s₂.heap.get? b = some o → (((s₂.heap.push (lst [])).push { cls := .type "dict", data := .dict #[] }).push cellO).get? b = some o := fun b o e => Heap.get?_push_of_some _ (Heap.get?_push_of_some _ (Heap.get?_push_of_some _ e))
  have hgC' : (((s₂.heap.push (lst [])).push { cls := .type "dict", data := .dict #[] }).push cellO).get? (s₂.heap.push (lst [])).objs.size = some { cls := .type "dict", data := .dict #[] } := Heap.get?_push_of_some _ hgC
  have hgD' : (((s₂.heap.push (lst [])).push { cls := .type "dict", data := .dict #[] }).push cellO).get? s₂.heap.objs.size = some (lst []) := Heap.get?_push_of_some _ (Heap.get?_push_of_some _ hgD)
  have lt2 : ∀ b o, s₂.heap.get? b = some o → b < s₂.heap.objs.size := fun b o e => Heap.lt_size e
  have hLlt : L < s₂.heap.objs.size := F.ns.lt
  have fresh₀ : ∀ a, s₂.heap.objs.size ≤ a → h₀.get? a = none := fun a ha => by
    cases e : h₀.get? a with
    | none => rfl
    | some o' => exact absurd (lt2 _ _ (F.keep a o' e)) (Nat.not_lt.mpr ha)
  have NI := N _ (List.mem_cons_self ..)
  have hIlt : I < s₂.heap.objs.size := lt2 _ _ NI.1
  have hltN : ∀ p ∈ mu ++ nu, p.1 < s₂.heap.objs.size := fun p hp => lt2 _ _ (N p (.tail _ hp)).1
  show codeAny (model prog w) A _ _ { s₂ with heap := ((s₂.heap.push (lst [])).push { cls := .type "dict", data := .dict #[] }).push cellO }
  generalize hHH : ((s₂.heap.push (lst [])).push { cls := .type "dict", data := .dict #[] }).push cellO = HH at hgK old hgC' hgD'
  have hCo : NsObj { cls := .type "dict", data := .dict #[] } (fun _ => none) := by
    obtain ⟨oC, e, ho⟩ := LCg.ns_obj hNs
    rw [hgC] at e
    cases e
    exact ho
  generalize hKK : ((s₂.heap.push (lst [])).push { cls := .type "dict", data := .dict #[] }).objs.size = K at hgK hs2
  generalize hCC : (s₂.heap.push (lst [])).objs.size = C at hgC' hs1
  generalize hDD : s₂.heap.objs.size = D at *
  have hKL : K ≠ L := Nat.ne_of_gt (by rw [hs2]; exact Nat.lt_succ_of_lt (Nat.lt_succ_of_lt hLlt))
  have hCL : C ≠ L := Nat.ne_of_gt (by rw [hs1]; exact Nat.lt_succ_of_lt hLlt)
  have hDL : D ≠ L := Nat.ne_of_gt hLlt
  have hK₀ := fresh₀ K (by rw [hs2]; exact Nat.le_add_right _ _)
  have hC₀ := fresh₀ C (by rw [hs1]; exact Nat.le_add_right _ _)
  have hD₀ := fresh₀ D (Nat.le_refl _)
  have loop : codeAny (model prog w) A (.compLoop (.ListComp elt [⟨target, iter, ifs, 0⟩] scope pos) 0 (.ref I) (.ref D) (compEnvC scope ((x, K) :: cl) C env)) (RR (.ref D) C) { s₂ with heap := HH } := by
    refine comp_run (mu := (K, cellO) :: mu) (nu := nu) (oC₀ := { cls := .type "dict", data := .dict #[] }) (h₀ := h₀) (L := L) (m := m) W hsz (F.keeps old) (fun p hp => ?_) hCo hSI (fun p hp => ?_) ?_ ?_ ?_ ?_ hkeep (J K) (h0 K fun p hp => ?_) ?_ ?_
    · rcases List.mem_cons.mp hp with rfl | hp
      · exact ⟨old _ _ NI.1, NI.2⟩
      · rcases List.mem_cons.mp hp with rfl | hp
        · exact ⟨hgC', hCL, hC₀⟩
        · rcases List.mem_cons.mp hp with rfl | hp
          · exact ⟨hgD', hDL, hD₀⟩
          · rcases List.mem_cons.mp hp with rfl | hp
            · exact ⟨hgK, hKL, hK₀⟩
            · have z := N p (.tail _ hp)
              exact ⟨old _ _ z.1, z.2⟩
    · rcases List.mem_cons.mp hp with rfl | hp
      · refine ⟨Nat.ne_of_gt ?_, Nat.ne_of_gt ?_, Nat.ne_of_gt ?_⟩
        · rw [hs2]; exact Nat.lt_succ_of_lt (Nat.lt_succ_of_lt hIlt)
        · rw [hs2, hs1]; exact Nat.lt_succ_self _
        · rw [hs2]; exact Nat.lt_succ_of_lt (Nat.lt_succ_self _)
      · have q := hltN p hp
        exact ⟨hI p hp, Nat.ne_of_lt (by rw [hs1]; exact Nat.lt_succ_of_lt q), Nat.ne_of_lt q⟩
    · exact Nat.ne_of_lt (by rw [hs1]; exact Nat.lt_succ_of_lt hIlt)
    · exact Nat.ne_of_lt hIlt
    · exact Nat.ne_of_lt (by rw [hs1]; exact Nat.lt_succ_self _)
    · intro q hq r hr
      rcases List.mem_cons.mp hq with rfl | hq
      · exact Nat.ne_of_gt (by rw [hs2]; exact Nat.lt_succ_of_lt (Nat.lt_succ_of_lt (hltN r (List.mem_append_right _ hr))))
      · exact hap q hq r hr
    · rw [hs2]; exact Nat.lt_succ_of_lt (Nat.lt_succ_of_lt (hltN p hp))
    · intro i v ys mu' nu' oI C' oC D' m₂ s₁ a1 a2 a3 a4 a5 a6
      exact turn K i v ys mu' nu' oI C' oC D' m₂ s₁ a1 a2 a3 a4 a5 (fun p hp => Nat.ne_of_lt (by rw [hs2]; exact Nat.lt_succ_of_lt (Nat.lt_succ_of_lt (hltN p (List.mem_append_left _ hp))))) ⟨a6.1, a6.2⟩
    · intro D' C' ys mu' nu' m' s₁ b1 b2
      exact fin K D' C' ys mu' nu' m' s₁ b1 ⟨b2.1, b2.2⟩
  exact codeAny_compStart_list loop (W.self 0 _ _ _ oI₀ (old _ _ NI.1) hSI loop)
end
section
variable {prog : Program} {w : World} {A : Around} {E : Value → Shared → Prop} {s : Shared} {h₀ : Heap} {L : Addr} {m : Str → Option Value} {env : Env}
noncomputable def CompGoalC (prog : Program) (w : World) (A : Around) (h₀ : Heap) (L : Addr) (m : Str → Option Value) (env : Env) (target : Expr) (ifs : List Expr) (elt : Expr) (scope : Scope) (x : Str) (cl : List (Str × Addr))
    (Fin : List Value → Addr → Led → Led → Shared → Prop) (xv : Value) (s₁ : Shared) : Prop :=
  ∃ (n : Nat) (P : Nat → Value → Prop) (mu nu : Led) (J : Addr → Nat → List Value → Led → Led → Prop), Src prog w A s₁ xv n P nu ∧ n ≤ sizeLine ∧ Fr h₀ L s₁.heap m ∧ News h₀ L s₁.heap (mu ++ nu) ∧ Apart mu nu ∧ (∀ K, (∀ p ∈ mu ++ nu, p.1 < K) → J K 0 [] ((K, cellO) :: mu) nu) ∧
    (∀ K i v ys mu' nu' I oI C oC D m₂ s₂, i < n → P i v → ys.length ≤ i → J K i ys mu' nu' → Sub nu nu' → (∀ p ∈ mu, p.1 ≠ K) → Same s₁ s₂ → NsObj oC m₂ → Fr h₀ L s₂.heap m → News h₀ L s₂.heap ((I, oI) :: (C, oC) :: (D, lst ys) :: (mu' ++ nu')) →
      (∀ p ∈ mu' ++ nu', p.1 ≠ I ∧ p.1 ≠ C ∧ p.1 ≠ D) → I ≠ C → I ≠ D → C ≠ D → Apart mu' nu' →
      wpAny (model prog w) A (assign target (compEnvC scope ((x, K) :: cl) C env) v) (fun _ s₃ => wpAny (model prog w) A (tests ifs (compEnvC scope ((x, K) :: cl) C env)) (fun ok s₄ =>
        if ok = true then wpAny (model prog w) A (eval elt (compEnvC scope ((x, K) :: cl) C env)) (fun y s₅ => TurnEnd h₀ L m s₁ I oI C D nu (J K (i + 1)) ys (ys ++ [y]) s₅) NoE s₄ else TurnEnd h₀ L m s₁ I oI C D nu (J K (i + 1)) ys ys s₄) NoE s₃) NoE s₂) ∧
    (∀ K ys D mu' nu' s', J K n ys mu' nu' → Same s₁ s' → Fr h₀ L s'.heap m → News h₀ L s'.heap ((D, lst ys) :: (mu' ++ nu')) → (∀ p ∈ mu' ++ nu', p.1 ≠ D) → Apart mu' nu' → Sub nu nu' → Fin ys D mu' nu' s')

theorem CompGoalC.intro {target : Expr} {ifs : List Expr} {elt : Expr} {scope : Scope} {x : Str} {cl : List (Str × Addr)} {Fin : List Value → Addr → Led → Led → Shared → Prop} {xv : Value} {s₁ : Shared}
    {n : Nat} {P : Nat → Value → Prop} (mu nu : Led) (J : Addr → Nat → List Value → Led → Led → Prop) (S : Src prog w A s₁ xv n P nu) (hsz : n ≤ sizeLine) (F : Fr h₀ L s₁.heap m) (N : News h₀ L s₁.heap (mu ++ nu)) (hap : Apart mu nu) (h0 : ∀ K, (∀ p ∈ mu ++ nu, p.1 < K) → J K 0 [] ((K, cellO) :: mu) nu)
    (turn : ∀ K i v ys mu' nu' I oI C oC D m₂ s₂, i < n → P i v → ys.length ≤ i → J K i ys mu' nu' → Sub nu nu' → (∀ p ∈ mu, p.1 ≠ K) → Same s₁ s₂ → NsObj oC m₂ → Fr h₀ L s₂.heap m → News h₀ L s₂.heap ((I, oI) :: (C, oC) :: (D, lst ys) :: (mu' ++ nu')) →
      (∀ p ∈ mu' ++ nu', p.1 ≠ I ∧ p.1 ≠ C ∧ p.1 ≠ D) → I ≠ C → I ≠ D → C ≠ D → Apart mu' nu' → ∀ R : List Value → Shared → Prop, (∀ zs s', TurnEnd h₀ L m s₁ I oI C D nu (J K (i + 1)) ys zs s' → R zs s') →
      wpAny (model prog w) A (assign target (compEnvC scope ((x, K) :: cl) C env) v) (fun _ s₃ => wpAny (model prog w) A (tests ifs (compEnvC scope ((x, K) :: cl) C env)) (fun ok s₄ =>
        if ok = true then wpAny (model prog w) A (eval elt (compEnvC scope ((x, K) :: cl) C env)) (fun y s₅ => R (ys ++ [y]) s₅) NoE s₄ else R ys s₄) NoE s₃) NoE s₂)
    (fin : ∀ K ys D mu' nu' s', J K n ys mu' nu' → Same s₁ s' → Fr h₀ L s'.heap m → News h₀ L s'.heap ((D, lst ys) :: (mu' ++ nu')) → (∀ p ∈ mu' ++ nu', p.1 ≠ D) → Apart mu' nu' → Sub nu nu' → Fin ys D mu' nu' s') :
    CompGoalC prog w A h₀ L m env target ifs elt scope x cl Fin xv s₁ := ⟨n, P, mu, nu, J, S, hsz, F, N, hap, h0, fun K i v ys mu' nu' I oI C oC D m₂ s₂ a1 a2 a3 a4 a5 aK a6 a7 a8 a9 b1 b2 b3 b4 b5 => turn K i v ys mu' nu' I oI C oC D m₂ s₂ a1 a2 a3 a4 a5 aK a6 a7 a8 a9 b1 b2 b3 b4 b5 _ fun _ _ h => h, fin⟩

theorem comp_blockC {target iter : Expr} {ifs : List Expr} {elt : Expr} {scope : Scope} {x : Str} {cl : List (Str × Addr)} {pos : Pos} {Fin : List Value → Addr → Led → Led → Shared → Prop} {xv : Value} {s₁ : Shared} {RR : Value → Addr → Result → Shared → Prop}
    (hcf : ∀ k, cellsFrom k scope.names cl = (x, k) :: cl) (hpc : ∀ h, pushCells h scope.names = h.push cellO) (hkind : scope.kind = .function) (G : CompGoalC prog w A h₀ L m env target ifs elt scope x cl Fin xv s₁)
    (fin : ∀ D C ys mu' nu' m' s', (∀ h'', Heap.SameBut C s'.heap h'' → Fr h₀ L h'' m → News h₀ L h'' ((D, lst ys) :: (mu' ++ nu')) → Fin ys D mu' nu' { s' with heap := h'' }) → Fr h₀ L s'.heap m → News h₀ L s'.heap ((D, lst ys) :: (mu' ++ nu')) →
      s'.heap.Ns C m' → h₀.get? C = none → C ≠ L → C ≠ D → (∀ p ∈ mu' ++ nu', p.1 ≠ C) → (∀ h'' tk, Fr h₀ L h'' m → News h₀ L h'' ((D, lst ys) :: (mu' ++ nu')) → Fin ys D mu' nu' { s' with heap := h'', toks := tk }) → RR (.ref D) C (.ok .next) s') :
    wpAny (model prog w) A (pyIter xv) (fun it s₂ => wpAny (model prog w) A (newList []) (fun acc s₃ => wpAny (model prog w) A (newFunctionEnv scope env.globals cl [] env.qual none .none (some env)) (fun cenv s₄ =>
      codeAny (model prog w) A (.compStart (.ListComp elt [⟨target, iter, ifs, 0⟩] scope pos) 0 it acc { cenv with scope := relabel scope env }) (RR acc cenv.locals) s₄) E s₃) E s₂) E s₁ := by
  obtain ⟨n, P, mu, nu, J, S, hsz, F, N, hap, h0, turn, fin'⟩ := G
  refine S _ E fun oI SI keep hSI W hkeep hfr => ?_
  have up : ∀ b o, s₁.heap.get? b = some o → (s₁.heap.push oI).get? b = some o := fun b o e => Heap.get?_push_of_some _ e
  refine comp_core_cell (mu := mu) (nu := nu) (h₀ := h₀) (L := L) (m := m) (J := J) W hsz hcf hpc hkind (F.keeps up) (fun p hp => ?_) hSI (fun p hp => Nat.ne_of_lt (Heap.lt_size (N p hp).1)) hap hkeep h0 ?_ ?_
  · rcases List.mem_cons.mp hp with rfl | hp
    · exact ⟨Heap.get?_push_size _ hfr, Nat.ne_of_gt F.ns.lt, next_is_new F⟩
    · exact ⟨up _ _ (N p hp).1, (N p hp).2⟩
  · intro K i v ys mu' nu' oI' C oC D m₂ s₂ a1 a2 a3 a4 a5 aK a6 a7 a8 a9 b1 b2 b3 b4 b5
    exact turn K i v ys mu' nu' _ oI' C oC D m₂ s₂ a1 a2 a3 a4 a5 aK ⟨a6.1, a6.2⟩ a7 a8 a9 b1 b2 b3 b4 b5
  · intro K D C ys mu' nu' m' s' hJ hs F' N' hD hap' hsub hC hC₀ hCL hCD hCn
    exact fin D C ys mu' nu' m' s' (fun h'' _ F'' N'' => fin' K ys D mu' nu' { s' with heap := h'' } hJ ⟨hs.1, hs.2⟩ F'' N'' hD hap' hsub) F' N' hC hC₀ hCL hCD hCn
      (fun h'' tk F'' N'' => fin' K ys D mu' nu' { s' with heap := h'', toks := tk } hJ ⟨hs.1, hs.2⟩ F'' N'' hD hap' hsub)

theorem comp_assignC {target iter : Expr} {ifs : List Expr} {elt : Expr} {y : Str} {py : Pos} {scope : Scope} {x : Str} {cl : List (Str × Addr)} {pos spos : Pos} {Q : Flow → Shared → Prop} (_F₀ : Fr h₀ L s.heap m) (hLe : env.locals = L)
    (hsw : swapsWith (.ListComp elt [⟨target, iter, ifs, 0⟩] scope pos) (some (.Name y py)) spos.line env = pure true)
    (hclos : closureFor scope env = pure cl) (hcf : ∀ k, cellsFrom k scope.names cl = (x, k) :: cl) (hpc : ∀ h, pushCells h scope.names = h.push cellO) (hkind : scope.kind = .function)
    (hnames : ∀ z ∈ scope.names, z.2 = .local → scope.names.lookup z.1 = some .local)
    (hy : env.kindOf y = some .local) (hp : (env.scope.kind == .class || (env.scope.kind == .module && env.locals != env.globals)) = false)
    (h : wpAny (model prog w) A (eval iter env) (CompGoalC prog w A h₀ L m env target ifs elt scope x cl (fun ys D mu' nu' s' => ∀ s'', Same s' s'' → Fr h₀ L s''.heap (fun z => if z = y then some (.ref D) else m z) → News h₀ L s''.heap ((D, lst ys) :: (mu' ++ nu')) → Q .next s'')) E s)
    (hs : ∀ x, foldedSetIterable iter env x = pure x := by intro _; rfl) :
    wpAny (model prog w) A (exec (.Assign [.Name y py] (.ListComp elt [⟨target, iter, ifs, 0⟩] scope pos) spos) env) Q E s := by
  subst hLe
  rw [exec_Assign_Name_used _ _ _ _ hsw]
  refine wpAny_bind (wpAny_standAt (wpAny_bind ?_))
  show wpAny _ A (do let _ ← comprehension (.ListComp elt [⟨target, iter, ifs, 0⟩] scope pos) scope env _ (newList []) false (eval iter env) (some (assign (.Name y py) env))) _ _ s
  refine wpAny_bind (wpAny_mono (wpAny_comprehension_free (use := some (assign (.Name y py) env)) (Q := fun _ s' => Q .next s') rfl hs hclos hkind hnames
    (wpAny_mono h (fun xv s₁ h₁ => ?_) fun _ _ e => e)) (fun _ s' hq => wpAny_pure (wpAny_pure hq)) fun _ _ e => e)
  refine comp_blockC hcf hpc hkind h₁ ?_
  intro D C ys mu' nu' m' s' _ F' N' hC hC₀ hCL hCD hCn k
  show wpAny _ A (assign (.Name y py) env (.ref D)) _ _ _
  refine wpAny_assign_Name (wpAny_storeName_local hy F'.ns (fun h₂ hn₂ hs₂ => ?_) hp)
  have hL₀ : h₀.get? env.locals = none := Heap.get?_none_of_le F'.above
  have F₂ : Fr h₀ env.locals h₂ (fun z => if z = y then some (.ref D) else m z) := ⟨hn₂, fun b o e => hs₂.extBut b o (fun q => by rw [q, hL₀] at e; cases e) (F'.keep b o e), F'.above⟩
  refine ⟨m', hC.sameBut hs₂ hCL, fun h'' hs'' => k s'.heap s'.toks F' N' _ ⟨rfl, rfl⟩ (F₂.change hs'' hCL hC₀) fun p hp => ?_⟩
  have z : h₂.get? p.1 = some p.2 := hs₂.extBut _ _ (N' p hp).2.1 (N' p hp).1
  refine ⟨hs''.extBut _ _ ?_ z, (N' p hp).2⟩
  rcases List.mem_cons.mp hp with rfl | hp
  · exact Ne.symm hCD
  · exact hCn p hp

end
end PB4
section PB5
section
variable {prog : Program} {w : World} {A : Around} {E : Value → Shared → Prop} {s : Shared} {h₀ : Heap} {L : Addr} {m : Str → Option Value} {env : Env}
/-- the turn of a comprehension whose target is a cell -/
theorem turn_cell {x : Str} {px : Pos} {scope : Scope} {cl : List (Str × Addr)} {I C D K : Addr} {oI oC oD oK : Obj} {rest : Led} {v : Value} {v₀ : Option Value} {Q : Unit → Shared → Prop}
    (hkind : scope.kind = .function) (hx : (compEnvC scope ((x, K) :: cl) C env).kindOf x = some .cell) (hl : List.lookup x ((x, K) :: cl) = some K) (F : Fr h₀ L s.heap m) (N : News h₀ L s.heap ((I, oI) :: (C, oC) :: (D, oD) :: (K, oK) :: rest)) (hd : oK.data = .cell v₀)
    (hK : K ≠ I ∧ K ≠ C ∧ K ≠ D) (offK : ∀ p ∈ rest, p.1 ≠ K)
    (h : ∀ h' oK', oK'.data = .cell (some v) → Fr h₀ L h' m → News h₀ L h' ((I, oI) :: (C, oC) :: (D, oD) :: (K, oK') :: rest) → Q () { s with heap := h' }) :
    wpAny (model prog w) A (assign (.Name x px) (compEnvC scope ((x, K) :: cl) C env) v) Q E s := by
  have NK := N (K, oK) (.tail _ (.tail _ (.tail _ (.head _))))
  refine wpAny_assign_Name (wpAny_storeName_cell (by simp [compEnvC, relabel, hkind]) hx hl ⟨oK, NK.1, hd⟩ fun h' hv hs => ?_)
  obtain ⟨o', ho', hd'⟩ := hv
  refine h h' o' hd' (F.change hs NK.2.1 NK.2.2) fun p hp => ?_
  rcases List.mem_cons.mp hp with rfl | hp
  · have z := N _ (.head _)
    exact ⟨hs.extBut _ _ (Ne.symm hK.1) z.1, z.2⟩
  · rcases List.mem_cons.mp hp with rfl | hp
    · have z := N _ (.tail _ (.head _))
      exact ⟨hs.extBut _ _ (Ne.symm hK.2.1) z.1, z.2⟩
    · rcases List.mem_cons.mp hp with rfl | hp
      · have z := N _ (.tail _ (.tail _ (.head _)))
        exact ⟨hs.extBut _ _ (Ne.symm hK.2.2) z.1, z.2⟩
      · rcases List.mem_cons.mp hp with rfl | hp
        · exact ⟨ho', NK.2⟩
        · have z := N _ (.tail _ (.tail _ (.tail _ (.tail _ hp))))
          exact ⟨hs.extBut _ _ (offK p hp) z.1, z.2⟩
end
theorem sub_split {a : Int} {l zs : List Int} (h : zs.Sublist (a :: l)) : zs.Sublist l ∨ ∃ t, zs = a :: t ∧ t.Sublist l := by
  cases h with
  | cons _ h => exact .inl h
  | cons_cons _ h => exact .inr ⟨_, rfl, h⟩
end PB5
local macro_rules | `(tactic| ktr_room) => `(tactic| (dsimp only [ktrTop, Around.deeper] at *; omega))
section PS1
theorem fill : PySem.Challenge.rw_pc0058_01 = PySem.Challenge.rw_pc0058_01 ∧ Mine.K = Mine.K := by
  k_fill
  exact ⟨rfl, rfl⟩


/-- a list of known objects, parted: what may turn, what stays -/
noncomputable def Split (l mu nu : Led) : Prop := l = mu ++ nu
theorem Split.base {mu nu : Led} : Split (mu ++ nu) mu nu := rfl
theorem Split.nil {nu : Led} : Split nu [] nu := rfl
theorem Split.cons {p : Addr × Obj} {l mu nu : Led} (h : Split l mu nu) : Split (p :: l) (p :: mu) nu := congrArg (p :: ·) h

/-- the contract of a def -/
noncomputable def Spec (vq : Program) (w : World) (mean : ExcName → Option Value) (mg mb : Str → Option Value) (f : Addr) (vs : List Value) (lev : Nat) (mu nu : Led) (post : Led → Led → Value → Prop) : Prop :=
  ∀ (dp un : Nat) (gd : Option (List Code)) (cn : Str) (cs : Scope) (a : Addr) (ccd : Value) (cl : List (Str × Addr)) (outer : List Env) (A₀ : Around) (base h₀ : Heap) (L : Addr) (m : Str → Option Value) (news : Led) (s : Shared) (Q E : Value → Shared → Prop),
    Below A₀ base outer h₀ → Fr h₀ L s.heap m → (Mine.K w.params).In h₀ → News h₀ L s.heap news → Top vq (looseW vq []) mean mg mb h₀ → cs.kind = .function → Split news mu nu → Apart mu nu → dp + lev < recursionLimit → un + 10 * lev + 200 < cLine →
    (∀ r s' mu' nu', Same s s' → Fr h₀ L s'.heap m → News h₀ L s'.heap (mu' ++ nu') → Apart mu' nu' → Sub nu nu' → post mu' nu' r → Q r s') →
    wpAny (model PySem.Challenge.rw_pc0058_01.row.prog w) (ktrTop dp un gd cn cs L a ccd cl outer) (call (.ref f) vs) Q E s

noncomputable def Stop (P : Prop) : Prop := P
theorem Stop.out {P : Prop} (h : Stop P) : P := h

theorem news_mid {h₀ h : Heap} {L : Addr} {p : Addr × Obj} {mu nu : Led} (N : News h₀ L h (p :: (mu ++ nu))) : News h₀ L h (mu ++ (p :: nu)) := fun q hq => N q (by
  rcases List.mem_append.mp hq with hq | hq
  · exact .tail _ (List.mem_append_left _ hq)
  · rcases List.mem_cons.mp hq with rfl | hq
    · exact .head _
    · exact .tail _ (List.mem_append_right _ hq))
theorem apart_mid {p : Addr × Obj} {mu nu : Led} (h : ∀ q ∈ mu ++ nu, q.1 < p.1) (hap : Apart mu nu) : Apart mu (p :: nu) := fun q hq r hr => by
  rcases List.mem_cons.mp hr with rfl | hr
  · exact Nat.ne_of_lt (h q (List.mem_append_left _ hq))
  · exact hap q hq r hr
theorem sub_cons {p : Addr × Obj} {nu : Led} : Sub nu (p :: nu) := fun _ h => .tail _ h

noncomputable abbrev litD (x : Int) (sg : Str) (k : Int) : Dat := .tuple [.int x, .str sg, .int k]
theorem litD_inv {nu : Led} {v : Value} {x k : Int} {sg : Str} (h : DatIn nu v (litD x sg k)) : ∃ a n t1 t2 t3, v = .ref a ∧ (a, tupO [.int x t1, .str sg t2, .int k t3] n) ∈ nu := by
  cases h with
  | tuple hm r =>
    cases r with
    | cons h1 r =>
      cases h1
      cases r with
      | cons h2 r =>
        cases h2
        cases r with
        | cons h3 r => cases h3; cases r; exact ⟨_, _, _, _, _, rfl, hm⟩
theorem litD_of {nu : Led} {a : Addr} {x k : Int} {sg : Str} {n : Nat} {t1 t2 t3 : Tok} (h : (a, tupO [.int x t1, .str sg t2, .int k t3] n) ∈ nu) : DatIn nu (.ref a) (litD x sg k) :=
  .tuple h (.cons (.int _ _) (.cons (.str _ _) (.cons (.int _ _) .nil)))

noncomputable def negS (sg : Str) : Str := if (sg == Str.ofString "<=") = true then Str.ofString ">=" else if (sg == Str.ofString ">=") = true then Str.ofString "<=" else if (sg == Str.ofString "=") = true then Str.ofString "!=" else Str.ofString "="
noncomputable def negK (sg : Str) (k : Int) : Int := if (sg == Str.ofString "<=") = true then k + 1 else if (sg == Str.ofString ">=") = true then k - 1 else k
set_option maxHeartbeats 8000000 in
theorem negation_spec {vq : Program} {w : World} {mean : ExcName → Option Value} {mg mb : Str → Option Value} {v : Value} {x k : Int} {sg : Str} {mu nu : Led} (hv : DatIn nu v (litD x sg k)) :
    Spec vq w mean mg mb 186 [v] 2 mu nu (fun mu' nu' r => mu' = mu ∧ DatIn nu' r (litD x (negS sg) (negK sg k))) := by
  intro dp un gd cn cs a ccd cl outer A₀ base h₀ L m news s Q E B F X N T hk hsp hap hd hu hret
  cases hsp
  obtain ⟨lit, n, t1, t2, t3, rfl, hl⟩ := litD_inv hv
  w_on
  refine wpAny_call ?_
  k_dflt ktr_enter
  k_steps
  · refine hret _ _ mu (_ :: nu) ⟨rfl, rfl⟩ (by assumption) (news_mid (by assumption)) (apart_mid (by assumption) hap) sub_cons ⟨rfl, ?_⟩
    unfold negS negK
    simp only [*, if_true]
    exact litD_of (.head _)
  · refine hret _ _ mu (_ :: nu) ⟨rfl, rfl⟩ (by assumption) (news_mid (by assumption)) (apart_mid (by assumption) hap) sub_cons ⟨rfl, ?_⟩
    unfold negS negK
    simp only [*, if_true, if_false, Bool.false_eq_true]
    exact litD_of (.head _)
  · refine hret _ _ mu (_ :: nu) ⟨rfl, rfl⟩ (by assumption) (news_mid (by assumption)) (apart_mid (by assumption) hap) sub_cons ⟨rfl, ?_⟩
    unfold negS negK
    simp only [*, if_true, if_false, Bool.false_eq_true]
    exact litD_of (.head _)
  · refine hret _ _ mu (_ :: nu) ⟨rfl, rfl⟩ (by assumption) (news_mid (by assumption)) (apart_mid (by assumption) hap) sub_cons ⟨rfl, ?_⟩
    unfold negS negK
    simp only [*, if_true, if_false, Bool.false_eq_true]
    exact litD_of (.head _)
end PS1
local macro_rules | `(tactic| walk_at "eval ListComp") => `(tactic| refine Stop.out ?_)
local macro_rules | `(tactic| walk_at "exec Assign cons ListComp") => `(tactic| refine Stop.out ?_)
local macro_rules | `(tactic| walk_at "MY enterC") => `(tactic| (refine' code_defC ?k1 ?k2 ?k3 ?k4 ?k5 ?kA ?kF ?kK ?k6 ?k7 ?k8 ?k9 ?kB ?kD ?_ ?c2 ?c3 ?c4; (case kA => exact rfl); (case kF => exact rfl); (case kK => assumption); (case k1 => k_asm); (case k2 => k_asm); (case k3 => k_asm); (case k4 => k_asm); (case k5 => k_asm); (case k6 => k_is); (case k7 => k_is); (case k8 => ktr_room); (case k9 => exact BindsTo.of_eq rfl); (case kB => exact rfl); (case kD => decide +kernel); (case c2 => exact rfl); (case c3 => exact rfl); (case c4 => exact rfl); k_whole; intro g' L' h' tk' cells' FG' F' N' Y' B' X' T' l1; k_cells Y'; (try simp only [List.cons_append, List.nil_append] at N'); (try dsimp only); (try k_fold)))
local macro_rules | `(tactic| walk_at "MY sub") => `(tactic| (intro q hq; simp only [List.mem_append, List.mem_cons, List.cons_append, List.nil_append, List.append_assoc, List.not_mem_nil, or_false, false_or] at hq ⊢; grind))
local macro_rules | `(tactic| walk_at "call type:tuple") => `(tactic| (k_here; (with_reducible show wpAny _ _ (call (Value.type _) [Value.ref _]) _ _ _); k_dflt (refine' kde_tupleOf ?k1 ?k2 ?k3 ?k4 ?k5 ?_; (case k1 => k_asm); (case k2 => k_asm); (case k3 => exact News.isList (by k_asm) (by k_mem)); (case k4 => (rw [List.size_toArray]; omega)); (case k5 => rfl); k_whole); intro D' h' F' N' l1))
section PS2
theorem Stop.mk {P : Prop} (h : P) : Stop P := h
noncomputable abbrev pairD (p : Int × Int) : Dat := .tuple [.int p.1, .int p.2]
noncomputable abbrev domD (d : List (Int × Int)) : Dat := .tuple (d.map pairD)
noncomputable def upTo (d : List (Int × Int)) (k : Int) : List (Int × Int) := (d.filter fun p => decide (p.1 ≤ k)).map fun p => (p.1, min p.2 k)
theorem domD_inv {nu : Led} {v : Value} {d : List (Int × Int)} (h : DatIn nu v (domD d)) : ∃ a n vs, v = .ref a ∧ (a, tupO vs n) ∈ nu ∧ DatAll nu vs (d.map pairD) := by
  cases h with
  | tuple hm r => exact ⟨_, _, _, rfl, hm, r⟩
theorem pairD_inv {nu : Led} {v : Value} {p : Int × Int} (h : DatIn nu v (pairD p)) : ∃ a n t1 t2, v = .ref a ∧ (a, tupO [.int p.1 t1, .int p.2 t2] n) ∈ nu := by
  cases h with
  | tuple hm r =>
    cases r with
    | cons h1 r =>
      cases h1
      cases r with
      | cons h2 r => cases h2; cases r; exact ⟨_, _, _, _, rfl, hm⟩
theorem pairD_of {nu : Led} {a : Addr} {x k : Int} {n : Nat} {t1 t3 : Tok} (h : (a, tupO [.int x t1, .int k t3] n) ∈ nu) : DatIn nu (.ref a) (pairD (x, k)) :=
  .tuple h (.cons (.int _ _) (.cons (.int _ _) .nil))
/-- item i of data -/
theorem datAll_at {nu : Led} {α : Type} {f : α → Dat} {vs : List Value} {d : List α} {i : Nat} {v : Value} (h : DatAll nu vs (d.map f)) (hv : vs[i]? = some v) : ∃ p, d[i]? = some p ∧ DatIn nu v (f p) := by
  have hi : i < (d.map f).length := by rw [← h.length]; exact (List.getElem?_eq_some_iff.mp hv).1
  obtain ⟨v', hv', hD⟩ := h.get hi
  rw [hv] at hv'
  cases hv'
  rw [List.length_map] at hi
  exact ⟨d[i], List.getElem?_eq_getElem hi, by simpa using hD⟩
theorem apart_cons {p : Addr × Obj} {mu nu : Led} (h : ∀ q ∈ nu, p.1 ≠ q.1) (hap : Apart mu nu) : Apart (p :: mu) nu := fun q hq r hr => by
  rcases List.mem_cons.mp hq with rfl | hq
  · exact h r hr
  · exact hap q hq r hr

section
variable {h₀ : Heap} {L : Addr} {m : Str → Option Value} {s s' : Shared} {I C D : Addr} {oI oC : Obj} {nu mu' nu' : Led} {J : List Value → Led → Led → Prop} {old ys : List Value} {m₂ : Str → Option Value}
theorem turnEnd_same (F : Fr h₀ L s'.heap m) (N : News h₀ L s'.heap ((I, oI) :: (C, oC) :: (D, lst old) :: (mu' ++ nu'))) (hC : NsObj oC m₂) (off : ∀ p ∈ mu' ++ nu', p.1 ≠ I ∧ p.1 ≠ C ∧ p.1 ≠ D)
    (sm : Same s s') (hap : Apart mu' nu') (hsub : Sub nu nu') (hJ : J ys mu' nu') : TurnEnd h₀ L m s I oI C D nu J old ys s' :=
  ⟨oC, m₂, mu', nu', sm, F, N, hC, off, hap, hsub, hJ⟩
theorem turnEnd_new {p : Addr × Obj} (F : Fr h₀ L s'.heap m) (N : News h₀ L s'.heap (p :: (I, oI) :: (C, oC) :: (D, lst old) :: (mu' ++ nu'))) (l : I < p.1 ∧ C < p.1 ∧ D < p.1 ∧ AllLt p.1 (mu' ++ nu')) (hC : NsObj oC m₂) (off : ∀ p ∈ mu' ++ nu', p.1 ≠ I ∧ p.1 ≠ C ∧ p.1 ≠ D)
    (sm : Same s s') (hap : Apart mu' nu') (hsub : Sub nu nu') (hJ : J ys mu' (p :: nu')) : TurnEnd h₀ L m s I oI C D nu J old ys s' :=
  ⟨oC, m₂, mu', p :: nu', sm, F, fun q hq => N q (by
    rcases List.mem_cons.mp hq with rfl | hq
    · exact .tail _ (.head _)
    · rcases List.mem_cons.mp hq with rfl | hq
      · exact .tail _ (.tail _ (.head _))
      · rcases List.mem_cons.mp hq with rfl | hq
        · exact .tail _ (.tail _ (.tail _ (.head _)))
        · rcases List.mem_append.mp hq with hq | hq
          · exact .tail _ (.tail _ (.tail _ (.tail _ (List.mem_append_left _ hq))))
          · rcases List.mem_cons.mp hq with rfl | hq
            · exact .head _
            · exact .tail _ (.tail _ (.tail _ (.tail _ (List.mem_append_right _ hq))))), hC,
    fun q hq => by
      rcases List.mem_append.mp hq with hq | hq
      · exact off q (List.mem_append_left _ hq)
      · rcases List.mem_cons.mp hq with rfl | hq
        · exact ⟨Nat.ne_of_gt l.1, Nat.ne_of_gt l.2.1, Nat.ne_of_gt l.2.2.1⟩
        · exact off q (List.mem_append_right _ hq), apart_mid (ktn_ltOf l.2.2.2) hap, hsub.trans sub_cons, hJ⟩
end
theorem take_snoc {α : Type} {d : List α} {i : Nat} {p : α} (h : d[i]? = some p) : d.take (i + 1) = d.take i ++ [p] := by
  rw [List.take_add_one, h]; rfl
theorem upTo_yes {l : List (Int × Int)} {p : Int × Int} {k : Int} (h : p.1 ≤ k) : upTo (l ++ [p]) k = upTo l k ++ [(p.1, min p.2 k)] := by
  unfold upTo; rw [List.filter_append, List.map_append]; simp [h]
theorem upTo_no {l : List (Int × Int)} {p : Int × Int} {k : Int} (h : ¬ p.1 ≤ k) : upTo (l ++ [p]) k = upTo l k := by
  unfold upTo; rw [List.filter_append, List.map_append]; simp [h]
theorem datAll_snoc {nu : Led} {vs : List Value} {v : Value} {ds : List Dat} {d : Dat} (h : DatAll nu vs ds) (k : DatIn nu v d) : DatAll nu (vs ++ [v]) (ds ++ [d]) := h.append (.cons k .nil)

theorem upTo_len (d : List (Int × Int)) (k : Int) : (upTo d k).length ≤ d.length := by
  unfold upTo; rw [List.length_map]; exact List.length_filter_le _ _
theorem apart_tail {p : Addr × Obj} {mu nu : Led} (h : Apart (p :: mu) nu) : Apart mu nu := fun q hq => h q (.tail _ hq)
theorem newsSub {h₀ h : Heap} {L : Addr} {a b : Led} (N : News h₀ L h b) (hs : ∀ q ∈ a, q ∈ b) : News h₀ L h a := fun q hq => N q (hs q hq)
set_option maxHeartbeats 8000000 in
theorem up_to_spec {vq : Program} {w : World} {mean : ExcName → Option Value} {mg mb : Str → Option Value} {v : Value} {d : List (Int × Int)} {k : Int} {t : Tok} {mu nu : Led} (hv : DatIn nu v (domD d)) (hlen : d.length ≤ 100) :
    Spec vq w mean mg mb 160 [v, .int k t] 2 mu nu (fun mu' nu' r => mu' = mu ∧ DatIn nu' r (domD (upTo d k))) := by
  intro dp un gd cn cs a ccd cl outer A₀ base h₀ L m news s Q E B F X N T hk hsp hap hd hu hret
  cases hsp
  obtain ⟨da, n, vs, rfl, hl, hall⟩ := domD_inv hv
  have hvl : vs.length = d.length := by rw [hall.length, List.length_map]
  w_on
  refine wpAny_call ?_
  k_dflt walk_at "MY enterC"
  rename_i g1 L1 h1 tk1 FG1 F1 B1 X1 T1 l1 o1 hd1 N1
  have hap1 : Apart ((L1 + 1, o1) :: mu) nu := apart_cons (fun q hq => by exact Nat.ne_of_gt (Nat.lt_succ_of_lt (l1 q (List.mem_append_right _ hq)))) hap
  k_steps
  refine Stop.mk (comp_eval (cl := [(Str.ofString "k", L1 + 1)]) F1 (by with_unfolding_all rfl) (by decide) rfl (by decide) ?_)
  k_steps
  refine CompGoal.intro ((L1 + 1, o1) :: mu) nu (fun i ys mu' nu' => mu' = (L1 + 1, o1) :: mu ∧ DatAll nu' ys ((upTo (d.take i) k).map pairD)) (src_tuple rfl N1 hl (fun p hp => .tail _ (List.mem_append_right _ hp))) (by rw [hvl, sizeLine_eq]; omega) F1 N1 hap1 ⟨rfl, .nil⟩ ?_ ?_
  · intro i v ys mu' nu' I oI C oC D m₂ s₂ hi hP hyl hJ hsub hsm hoC F2 N2 off hIC hID hCD hap2 R1 hR1
    obtain ⟨rfl, hys⟩ := hJ
    obtain ⟨p, hp, hpd⟩ := datAll_at hall hP
    obtain ⟨pT, np, t1, t2, rfl, hT⟩ := pairD_inv hpd
    refine turn_pair rfl rfl (by rfl) (by rfl) (by decide) hoC F2 N2 (List.mem_append_right _ (hsub _ hT)) off hIC hCD ?_
    intro h3 tk3 oC3 m3 hoC3 hlow hhigh F3 N3
    refine wpAny_tests_one ?_
    k_steps
    · refine hR1 _ _ (turnEnd_new (by assumption) (by assumption) (by assumption) hoC3 off (hsm.up _ _) hap2 hsub ⟨rfl, ?_⟩)
      rw [take_snoc hp, upTo_yes (by assumption), List.map_append]
      refine datAll_snoc (hys.mono sub_cons) ?_
      have e : (if k < p.2 then k else p.2) = min p.2 k := by split <;> omega
      rw [← e]
      exact pairD_of (.head _)
    · refine hR1 _ _ (turnEnd_same (by assumption) (by assumption) hoC3 off (hsm.up _ _) hap2 hsub ⟨rfl, ?_⟩)
      rw [take_snoc hp, upTo_no (by assumption)]
      exact hys
  · intro ys D mu' nu' s' hJ hsm F2 N2 hD hap2 hsub
    obtain ⟨rfl, hys⟩ := hJ
    rw [hvl, List.take_length] at hys
    have hyl : ys.length ≤ 100 := by
      rw [hys.length, List.length_map]; exact Nat.le_trans (upTo_len _ _) hlen
    k_steps
    rename_i D' h3 _ _ l3 _ kN _ _
    refine hret _ _ mu ((D', tupO ys 0) :: nu') ⟨hsm.1, hsm.2⟩ (by assumption) (newsSub kN (by walk_at "MY sub")) (apart_mid (fun q hq => l3 q (by revert q; walk_at "MY sub")) (apart_tail hap2)) (hsub.trans sub_cons) ⟨rfl, .tuple (.head _) (hys.mono sub_cons)⟩
end PS2
local macro_rules | `(tactic| walk_at "MY leaf") => `(tactic| first | exact Sub.refl _ | with_reducible assumption | (with_reducible refine sub_tl ?_; walk_at "MY leaf") | (with_reducible refine sub_l ?_; walk_at "MY leaf") | (with_reducible refine sub_r ?_; walk_at "MY leaf"))
local macro_rules | `(tactic| walk_at "MY sub") => `(tactic| first | with_reducible exact Sub.refl _ | with_reducible assumption | (with_reducible refine sub_cons' ?_ ?_; (· walk_at "MY mem"); (· walk_at "MY sub")) | (with_reducible refine sub_app ?_ ?_; (· walk_at "MY sub"); (· walk_at "MY sub")) | with_reducible exact sub_nil' | walk_at "MY leaf")
local macro_rules | `(tactic| walk_at "MY subs") => `(tactic| walk_at "MY sub")
section PS3
noncomputable def fromOn (d : List (Int × Int)) (k : Int) : List (Int × Int) := (d.filter fun p => decide (k ≤ p.2)).map fun p => (max p.1 k, p.2)
theorem fromOn_yes {l : List (Int × Int)} {p : Int × Int} {k : Int} (h : k ≤ p.2) : fromOn (l ++ [p]) k = fromOn l k ++ [(max p.1 k, p.2)] := by
  unfold fromOn; rw [List.filter_append, List.map_append]; simp [h]
theorem fromOn_no {l : List (Int × Int)} {p : Int × Int} {k : Int} (h : ¬ k ≤ p.2) : fromOn (l ++ [p]) k = fromOn l k := by
  unfold fromOn; rw [List.filter_append, List.map_append]; simp [h]
theorem fromOn_len (d : List (Int × Int)) (k : Int) : (fromOn d k).length ≤ d.length := by
  unfold fromOn; rw [List.length_map]; exact List.length_filter_le _ _
set_option maxHeartbeats 8000000 in
theorem from_on_spec {vq : Program} {w : World} {mean : ExcName → Option Value} {mg mb : Str → Option Value} {v : Value} {d : List (Int × Int)} {k : Int} {t : Tok} {mu nu : Led} (hv : DatIn nu v (domD d)) (hlen : d.length ≤ 100) :
    Spec vq w mean mg mb 165 [v, .int k t] 2 mu nu (fun mu' nu' r => mu' = mu ∧ DatIn nu' r (domD (fromOn d k))) := by
  intro dp un gd cn cs a ccd cl outer A₀ base h₀ L m news s Q E B F X N T hk hsp hap hd hu hret
  cases hsp
  obtain ⟨da, n, vs, rfl, hl, hall⟩ := domD_inv hv
  have hvl : vs.length = d.length := by rw [hall.length, List.length_map]
  w_on
  refine wpAny_call ?_
  k_dflt walk_at "MY enterC"
  rename_i g1 L1 h1 tk1 FG1 F1 B1 X1 T1 l1 o1 hd1 N1
  have hap1 : Apart ((L1 + 1, o1) :: mu) nu := apart_cons (fun q hq => by exact Nat.ne_of_gt (Nat.lt_succ_of_lt (l1 q (List.mem_append_right _ hq)))) hap
  k_steps
  refine Stop.mk (comp_eval (cl := [(Str.ofString "k", L1 + 1)]) F1 (by with_unfolding_all rfl) (by decide) rfl (by decide) ?_)
  k_steps
  refine CompGoal.intro ((L1 + 1, o1) :: mu) nu (fun i ys mu' nu' => mu' = (L1 + 1, o1) :: mu ∧ DatAll nu' ys ((fromOn (d.take i) k).map pairD)) (src_tuple rfl N1 hl (fun p hp => .tail _ (List.mem_append_right _ hp))) (by rw [hvl, sizeLine_eq]; omega) F1 N1 hap1 ⟨rfl, .nil⟩ ?_ ?_
  · intro i v ys mu' nu' I oI C oC D m₂ s₂ hi hP hyl hJ hsub hsm hoC F2 N2 off hIC hID hCD hap2 R1 hR1
    obtain ⟨rfl, hys⟩ := hJ
    obtain ⟨p, hp, hpd⟩ := datAll_at hall hP
    obtain ⟨pT, np, t1, t2, rfl, hT⟩ := pairD_inv hpd
    refine turn_pair rfl rfl (by rfl) (by rfl) (by decide) hoC F2 N2 (List.mem_append_right _ (hsub _ hT)) off hIC hCD ?_
    intro h3 tk3 oC3 m3 hoC3 hlow hhigh F3 N3
    refine wpAny_tests_one ?_
    k_steps
    · refine hR1 _ _ (turnEnd_new (by assumption) (by assumption) (by assumption) hoC3 off (hsm.up _ _) hap2 hsub ⟨rfl, ?_⟩)
      rw [take_snoc hp, fromOn_yes (by assumption), List.map_append]
      refine datAll_snoc (hys.mono sub_cons) ?_
      have e : (if k > p.1 then k else p.1) = max p.1 k := by split <;> omega
      rw [← e]
      exact pairD_of (.head _)
    · refine hR1 _ _ (turnEnd_same (by assumption) (by assumption) hoC3 off (hsm.up _ _) hap2 hsub ⟨rfl, ?_⟩)
      rw [take_snoc hp, fromOn_no (by assumption)]
      exact hys
  · intro ys D mu' nu' s' hJ hsm F2 N2 hD hap2 hsub
    obtain ⟨rfl, hys⟩ := hJ
    rw [hvl, List.take_length] at hys
    have hyl : ys.length ≤ 100 := by
      rw [hys.length, List.length_map]; exact Nat.le_trans (fromOn_len _ _) hlen
    k_steps
    rename_i D' h3 _ _ l3 _ kN _ _
    refine hret _ _ mu ((D', tupO ys 0) :: nu') ⟨hsm.1, hsm.2⟩ (by assumption) (newsSub kN (by walk_at "MY sub")) (apart_mid (fun q hq => l3 q (by revert q; walk_at "MY sub")) (apart_tail hap2)) (hsub.trans sub_cons) ⟨rfl, .tuple (.head _) (hys.mono sub_cons)⟩
end PS3
local macro_rules | `(tactic| ktr_units) => `(tactic| (have hcL9 := cLine_is; dsimp only [ktrTop, Around.deeper] at *; omega))
local macro_rules | `(tactic| walk_at "call ref") => `(tactic| refine Stop.out ?_)
section PS4
section
variable {w : World} {mean : ExcName → Option Value} {mg mb : Str → Option Value} {f : Addr} {vs : List Value} {lev : Nat} {mu nu : Led} {post : Led → Led → Value → Prop}
theorem Spec.use {vq : Program} (S : Spec vq w mean mg mb f vs lev mu nu post) {dp un : Nat} {gd : Option (List Code)} {cn : Str} {cs : Scope} {a : Addr} {ccd : Value} {cl : List (Str × Addr)} {outer : List Env} {A₀ : Around} {base h₀ : Heap} {L : Addr} {m : Str → Option Value} {news : Led} {s : Shared} {Q E : Value → Shared → Prop}
    (B : Below A₀ base outer h₀) (F : Fr h₀ L s.heap m) (X : (Mine.K w.params).In h₀) (N : News h₀ L s.heap news) (T : Top vq (looseW vq []) mean mg mb h₀) (hk : cs.kind = .function) (hsp : Split news mu nu) (hap : Apart mu nu) (hd : dp + lev < recursionLimit) (hu : un + 10 * lev + 200 < cLine)
    (hret : ∀ r s' mu' nu', Same s s' → Fr h₀ L s'.heap m → News h₀ L s'.heap (mu' ++ nu') → Apart mu' nu' → Sub nu nu' → post mu' nu' r → Q r s') :
    wpAny (model PySem.Challenge.rw_pc0058_01.row.prog w) (ktrTop dp un gd cn cs L a ccd cl outer) (call (.ref f) vs) Q E s :=
  S _ _ _ _ _ _ _ _ _ _ _ _ _ _ _ _ _ _ B F X N T hk hsp hap hd hu hret
end
section
variable {prog : Program} {w : World} {A : Around} {E : Value → Shared → Prop} {s : Shared} {h₀ : Heap} {L : Addr} {m : Str → Option Value} {mu nu news : Led} {a b : Value} {ds es : List Dat} {Q : Value → Shared → Prop}
theorem tupD_inv (h : DatIn nu a (.tuple ds)) : ∃ x n vs, a = .ref x ∧ (x, tupO vs n) ∈ nu ∧ DatAll nu vs ds := by
  cases h with
  | tuple hm r => exact ⟨_, _, _, rfl, hm, r⟩
theorem listD_inv (h : DatIn nu a (.list ds)) : ∃ x n vs, a = .ref x ∧ (x, lstO vs n) ∈ nu ∧ DatAll nu vs ds := by
  cases h with
  | list hm r => exact ⟨_, _, _, rfl, hm, r⟩
theorem datAll_nil_iff {vs : List Value} (h : DatAll nu vs ds) : vs = [] ↔ ds = [] := by
  constructor
  · intro e; subst e; cases h; rfl
  · intro e; subst e; cases h; rfl
theorem Split.subR (h : Split news mu nu) : Sub nu news := fun p hp => by rw [show news = mu ++ nu from h]; exact List.mem_append_right _ hp
theorem add_tupD (F : Fr h₀ L s.heap m) (N : News h₀ L s.heap news) (hsp : Split news mu nu) (hap : Apart mu nu) (ha : DatIn nu a (.tuple ds)) (hb : DatIn nu b (.tuple es)) (hz : ds.length + es.length ≤ 16384)
    (h : ∀ r h' nu', Fr h₀ L h' m → News h₀ L h' (mu ++ nu') → Apart mu nu' → Sub nu nu' → DatIn nu' r (.tuple (ds ++ es)) → Q r { s with heap := h' }) : wpAny (model prog w) A (binaryOp .Add a b) Q E s := by
  obtain ⟨x, n, vs, rfl, hx, hvs⟩ := tupD_inv ha
  obtain ⟨y, k, ws, rfl, hy, hws⟩ := tupD_inv hb
  have es' : s = { s with heap := s.heap } := by cases s; rfl
  have N' := N
  rw [show news = mu ++ nu from hsp] at N'
  refine add_tuples F N (vs := vs) (ws := ws) ⟨_, (N _ (hsp.subR _ hx)).1, rfl, _, rfl⟩ ⟨_, (N _ (hsp.subR _ hy)).1, rfl, _, rfl⟩ (fun e => ?_) (fun _ e => ?_) (fun _ _ h' F' N'' => ?_) (by rw [hvs.length, hws.length, sizeLine_eq]; omega)
  · have := (datAll_nil_iff hvs).mp e
    subst this
    exact h _ s.heap nu F N' hap (Sub.refl _) hb
  · have := (datAll_nil_iff hws).mp e
    subst this
    rw [List.append_nil] at h
    exact h _ s.heap nu F N' hap (Sub.refl _) ha
  · refine h _ h' ((s.heap.objs.size, tupO (vs ++ ws) 0) :: nu) F' (news_mid ?_) (apart_mid (fun q hq => Heap.lt_size (N' q hq).1) hap) sub_cons (.tuple (.head _) ((hvs.append hws).mono sub_cons))
    rw [show news = mu ++ nu from hsp] at N''
    exact N''
end
local macro_rules | `(tactic| walk_at "MY split") => `(tactic| first | exact Split.base | exact Split.nil | (refine Split.cons ?_; walk_at "MY split"))
local macro_rules | `(tactic| walk_at "binaryOp Add ref ref") => `(tactic| refine Stop.out ?_)
noncomputable def without (d : List (Int × Int)) (v : Int) : List (Int × Int) := upTo d (v - 1) ++ fromOn d (v + 1)
theorem without_len (d : List (Int × Int)) (v : Int) : (without d v).length ≤ d.length + d.length := by
  unfold without; rw [List.length_append]; exact Nat.add_le_add (upTo_len _ _) (fromOn_len _ _)

set_option maxHeartbeats 8000000 in
theorem without_spec {vq : Program} {w : World} {mean : ExcName → Option Value} {mg mb : Str → Option Value} {v : Value} {d : List (Int × Int)} {k : Int} {t : Tok} {mu nu : Led} (hv : DatIn nu v (domD d)) (hlen : d.length ≤ 100) :
    Spec vq w mean mg mb 172 [v, .int k t] 3 mu nu (fun mu' nu' r => mu' = mu ∧ DatIn nu' r (domD (without d k))) := by
  intro dp un gd cn cs a ccd cl outer A₀ base h₀ L m news s Q E B F X N T hk hsp hap hd hu hret
  cases hsp
  obtain ⟨da, n, vs, rfl, hl, hall⟩ := domD_inv hv
  w_on
  refine wpAny_call ?_
  k_dflt ktr_enter
  k_steps
  refine Stop.mk (Spec.use (up_to_spec hv hlen) (by assumption) (by assumption) (by assumption) (by assumption) (by assumption) rfl (by walk_at "MY split") (by assumption) (by ktr_room) (by ktr_units) ?_)
  rintro r2 s2 _ nu2 sm2 F2 N2 ap2 sub2 ⟨rfl, hr2⟩
  k_steps
  refine Stop.mk (Spec.use (from_on_spec (hv.mono sub2) hlen) (by assumption) (by assumption) (by assumption) (by assumption) (by assumption) rfl (by walk_at "MY split") (by assumption) (by ktr_room) (by ktr_units) ?_)
  rintro r3 s3 _ nu3 sm3 F3 N3 ap3 sub3 ⟨rfl, hr3⟩
  k_steps
  refine Stop.mk (add_tupD (by assumption) (by assumption) Split.base ap3 (hr2.mono sub3) hr3 (by rw [List.length_map, List.length_map]; have := upTo_len d (k - 1); have := fromOn_len d (k + 1); omega) ?_)
  intro r4 h4 nu4 F4 N4 ap4 sub4 hr4
  k_steps
  rename_i kF kN _ _
  refine hret _ _ _ nu4 ⟨sm3.1.trans sm2.1, sm3.2.trans sm2.2⟩ kF kN ap4 ((sub2.trans sub3).trans sub4) ⟨rfl, ?_⟩
  rw [← List.map_append] at hr4
  exact hr4
end PS4
local macro_rules | `(tactic| walk_at "MY mem") => `(tactic| first | with_reducible assumption | exact List.mem_cons_self .. | (refine List.mem_cons_of_mem _ ?_; walk_at "MY mem") | (refine List.mem_append_right _ ?_; walk_at "MY mem") | (refine List.mem_append_left _ ?_; walk_at "MY mem") | fail "MY mem")
local macro_rules | `(tactic| k_mem) => `(tactic| walk_at "MY mem")
local macro_rules | `(tactic| walk_at "subscriptTail") => `(tactic| (k_here; (with_reducible show wpAny _ _ (subscriptTail _ _ (Value.ref _) (Value.int _ _)) _ _ _); k_dflt (refine' item_tupleT ?t ?a ?b ?c ?d ?_; (case t => exact News.isTup (by k_asm) (by walk_at "MY mem")); (case a => decide); (case b => decide); (case c => with_unfolding_all rfl); (case d => with_unfolding_all rfl); k_whole)))
section PS5
section
variable {prog : Program} {w : World} {A : Around} {E : Value → Shared → Prop} {s : Shared} {h₀ h : Heap} {L : Addr} {m : Str → Option Value} {mu nu news : Led} {env : Env}
noncomputable def WhileEnd (I : Nat → Shared → Prop) (n : Nat) (Q : Flow → Shared → Prop) (f : Flow) (s : Shared) : Prop := match f with
  | .next | .cont => ∃ m, m < n ∧ I m s
  | .brk => Q .next s
  | .ret v => Q (.ret v) s
theorem WhileEnd.next {I : Nat → Shared → Prop} {n k : Nat} {Q : Flow → Shared → Prop} {s : Shared} (hk : k < n) (h : I k s) : WhileEnd I n Q .next s := ⟨k, hk, h⟩
theorem while_eval {test : Expr} {body : List Stmt} {pos : Pos} {Q : Flow → Shared → Prop} (I : Nat → Shared → Prop) (n : Nat) (h : I n s)
    (turn : ∀ n s, I n s → ∀ R : Flow → Shared → Prop, (∀ f s', WhileEnd I n Q f s' → R f s') → wpAny (model prog w) A (isTrue test env (eval test env)) (fun b s₂ => if b = true then wpAny (model prog w) A (execs body env) R NoE s₂ else Q .next s₂) NoE s) : wpAny (model prog w) A (exec (.While test body [] pos) env) Q E s := by
  refine wpAny_While ?_
  refine codeAny_whileLoop I (fun n s hI => noE_any (wpAny_mono (turn n s hI (WhileEnd I n Q) (fun _ _ x => x)) (fun b s₂ h₂ => ?_) fun _ _ x => x)) n h
  cases b with
  | true =>
    simp only [if_true] at h₂ ⊢
    refine noE_any (wpAny_mono h₂ (fun f s₃ h₃ => ?_) fun _ _ x => x)
    cases f <;> exact h₃
  | false =>
    simp only [Bool.false_eq_true, if_false] at h₂ ⊢
    exact wpAny_execs_nil h₂
theorem fr_set (F : Fr h₀ L h m) {x : Str} {v : Value} (hx : m x = some v) : Fr h₀ L h (fun y => if y = x then some v else m y) := by
  have e : (fun y => if y = x then some v else m y) = m := by
    funext y
    by_cases hy : y = x
    · rw [if_pos hy, hy, hx]
    · rw [if_neg hy]
  rw [e]; exact F
theorem item_dom {value slice : PySem.Expr} {x : Addr} {vs : List Value} {k : Nat} {d : List (Int × Int)} {i : Int} {u : Tok} {Q : Value → Shared → Prop} (N : News h₀ L s.heap news) (hm : (x, tupO vs k) ∈ news) (hall : DatAll nu vs (d.map pairD)) (h0 : 0 ≤ i) (h1 : i < d.length) (hlen : d.length ≤ 100)
    (h : ∀ T n t1 t2 p, d[i.toNat]? = some p → (T, tupO [.int p.1 t1, .int p.2 t2] n) ∈ nu → Q (.ref T) s)
    (hs : subscripted slice false (.ref x) (.int i u) = operate [.ref x, .int i u] (getItem (.ref x) (.int i u)) := by with_unfolding_all rfl) :
    wpAny (model prog w) A (subscriptTail value slice (.ref x) (.int i u)) Q E s := by
  have hvl : vs.length = d.length := by rw [hall.length, List.length_map]
  have hi : i.toNat < vs.length := by omega
  obtain ⟨p, hp, hpd⟩ := datAll_at hall (List.getElem?_eq_getElem hi)
  obtain ⟨T, n, t1, t2, e, hT⟩ := pairD_inv hpd
  have hj : seqIndex? i vs.length = some i.toNat := by
    unfold seqIndex?
    have a1 : ¬ i < 0 := by omega
    simp [a1, h0]; omega
  refine item_tupleT (l := vs) (j := i.toNat) ⟨_, (N _ hm).1, rfl, _, rfl⟩ (by omega) (by omega) hj (List.getElem?_eq_getElem hi) ?_ hs
  rw [e]
  exact h T n t1 t2 p hp hT
theorem append_new2 {p q : Addr × Obj} {D : Addr} {ys : List Value} {x : Value} {Q : Value → Shared → Prop} (F : Fr h₀ L s.heap m) (N : News h₀ L s.heap (p :: q :: (D, LCg.lst ys) :: (mu ++ nu))) (hD : ∀ r ∈ mu ++ nu, r.1 ≠ D) (l : q.1 < p.1 ∧ D < p.1 ∧ AllLt p.1 (mu ++ nu)) (hap : Apart mu nu) (hsz : ys.length ≤ 100000)
    (h : ∀ h', Fr h₀ L h' m → News h₀ L h' ((D, LCg.lst (ys ++ [x])) :: (mu ++ (p :: nu))) → (∀ r ∈ mu ++ (p :: nu), r.1 ≠ D) → Apart mu (p :: nu) → Q .none { s with heap := h' }) : wpAny (model prog w) A (call (.builtin "list.append") [.ref D, x]) Q E s := by
  have hD' : ∀ r ∈ mu ++ (p :: nu), r.1 ≠ D := fun r hr => by
    rcases List.mem_append.mp hr with hr | hr
    · exact hD r (List.mem_append_left _ hr)
    · rcases List.mem_cons.mp hr with rfl | hr
      · exact Nat.ne_of_gt l.2.1
      · exact hD r (List.mem_append_right _ hr)
  refine append_head F (rest := mu ++ (p :: nu)) (its := ys.toArray) (n := ys.length) (newsSub N fun r hr => ?_) hD' (fun h' F' N' => h h' F' ?_ hD' (apart_mid (ktn_ltOf l.2.2) hap)) (by rw [List.size_toArray, sizeLine_eq]; omega)
  · rcases List.mem_cons.mp hr with rfl | hr
    · exact .tail _ (.tail _ (.head _))
    · rcases List.mem_append.mp hr with hr | hr
      · exact .tail _ (.tail _ (.tail _ (List.mem_append_left _ hr)))
      · rcases List.mem_cons.mp hr with rfl | hr
        · exact .head _
        · exact .tail _ (.tail _ (.tail _ (List.mem_append_right _ hr)))
  · rw [LCg.lst_snoc] at N'; exact N'
theorem len_tupV {x : Addr} {vs : List Value} {k n : Nat} {Q : Value → Shared → Prop} (N : News h₀ L s.heap news) (hm : (x, tupO vs k) ∈ news) (hn : vs.length = n) (hf : n ≤ 1000000)
    (h : Q (.int n (s.toks + 1)) { s with toks := s.toks + 1 + 1 }) : wpAny (model prog w) A (call (.builtin "len") [.ref x]) Q E s := by
  subst hn
  exact len_tuple (items := vs.toArray) ⟨_, (N _ hm).1, rfl, _, rfl⟩ (by rw [List.size_toArray]; omega) (by rw [List.size_toArray]; exact h)
theorem len_lstV {x : Addr} {vs : List Value} {k n : Nat} {Q : Value → Shared → Prop} (N : News h₀ L s.heap news) (hm : (x, lstO vs k) ∈ news) (hn : vs.length = n) (hf : n ≤ 1000000)
    (h : Q (.int n (s.toks + 1)) { s with toks := s.toks + 1 + 1 }) : wpAny (model prog w) A (call (.builtin "len") [.ref x]) Q E s := by
  subst hn
  exact PyProof.Rows.len_list (items := vs.toArray) ⟨_, (N _ hm).1, rfl, _, rfl⟩ (by rw [List.size_toArray]; omega) (by rw [List.size_toArray]; exact h)
end
local macro_rules | `(tactic| walk_at "MY split") => `(tactic| first | exact Split.base | exact Split.nil | (refine Split.cons ?_; walk_at "MY split"))
local macro_rules | `(tactic| walk_at "exec While BoolOp cons nil") => `(tactic| refine Stop.out ?_)
local macro_rules | `(tactic| walk_at "call builtin:list.append") => `(tactic| refine Stop.out ?_)
local macro_rules | `(tactic| walk_at "subscriptTail") => `(tactic| (k_here; (with_reducible show wpAny _ _ (subscriptTail _ _ (Value.ref _) (Value.int _ _)) _ _ _); k_dflt (refine' item_dom ?N ?m ?a ?b ?c ?d ?_; (case N => k_asm); (case m => k_mem); (case a => assumption); (case b => omega); (case c => omega); (case d => omega); k_whole); intro T' n' t1' t2' p' hp' hT'))
local macro_rules | `(tactic| walk_at "call builtin:len") => `(tactic| (k_here; (with_reducible show wpAny _ _ (call (Value.builtin "len") [Value.ref _]) _ _ _); k_dflt (first
  | (refine' len_tupV ?N ?m ?n ?f ?_; (case N => k_asm); (case m => k_mem); (case n => first | assumption | rfl); (case f => omega); k_whole)
  | (refine' len_lstV ?N ?m ?n ?f ?_; (case N => k_asm); (case m => k_mem); (case n => first | assumption | rfl); (case f => omega); k_whole))))
noncomputable def meet1 : List (Int × Int) → Int → List (Int × Int)
  | [], _ => []
  | p :: r, k => (if max p.1 k ≤ min p.2 k then [(max p.1 k, min p.2 k)] else []) ++ (if p.2 < k then meet1 r k else [])
theorem meet1_len : ∀ (d : List (Int × Int)) (k : Int), (meet1 d k).length ≤ d.length
  | [], _ => Nat.le_refl _
  | p :: r, k => by
    have := meet1_len r k
    unfold meet1
    rw [List.length_append, List.length_cons]
    split <;> split <;> simp <;> omega

set_option maxHeartbeats 8000000 in
theorem meet_spec {vq : Program} {w : World} {mean : ExcName → Option Value} {mg mb : Str → Option Value} {v ev : Value} {d : List (Int × Int)} {k : Int} {mu nu : Led} (hv : DatIn nu v (domD d)) (he : DatIn nu ev (domD [(k, k)])) (hlen : d.length ≤ 100) :
    Spec vq w mean mg mb 179 [v, ev] 2 mu nu (fun mu' nu' r => mu' = mu ∧ DatIn nu' r (domD (meet1 d k))) := by
  intro dp un gd cn cs a ccd cl outer A₀ base h₀ L m news s Q E B F X N T hk hsp hap hd hu hret
  cases hsp
  obtain ⟨da, n, vs, rfl, hl, hall⟩ := domD_inv hv
  obtain ⟨ea, ne, es, rfl, hel, hes⟩ := domD_inv he
  obtain ⟨e1, n1, t1, t2, rfl, hel2⟩ : ∃ e1 n1 t1 t2, es = [.ref e1] ∧ (e1, tupO [.int k t1, .int k t2] n1) ∈ nu := by
    cases hes with
    | cons h1 r =>
      cases r
      obtain ⟨x, n, t1, t2, rfl, hm⟩ := pairD_inv h1
      exact ⟨_, _, _, _, rfl, hm⟩
  w_on
  refine wpAny_call ?_
  k_dflt ktr_enter
  k_steps
  rename_i g1 L1 _ FG1 B1 X1 T1 D _ l1 Tt _ l2 _ _ _ h2 F1 N1
  have hvl : vs.length = d.length := by rw [hall.length, List.length_map]
  have N2 : News g1 L1 h2 ((D, lst []) :: (mu ++ nu)) := newsSub N1 (fun q hq => .tail _ hq)
  have hD : ∀ p ∈ mu ++ nu, p.1 ≠ D := fun p hp => Nat.ne_of_lt (l1 p hp)
  refine Stop.mk (while_eval (fun n s' => ∃ (i : Nat) (j : Bool) (ti tj : Tok) (ys : List Value) (nu' : Led) (u : Str → Option Value) (out : List (Int × Int)), Same s s' ∧
    Fr g1 L1 s'.heap (fun y => if y = Str.ofString "found" then some (.ref D) else if y = Str.ofString "i" then some (.int i ti) else if y = Str.ofString "j" then some (.int (if j = true then 1 else 0) tj) else if y = Str.ofString "d" then some (.ref da) else if y = Str.ofString "e" then some (.ref ea) else u y) ∧
    News g1 L1 s'.heap ((D, lst ys) :: (mu ++ nu')) ∧ (∀ p ∈ mu ++ nu', p.1 ≠ D) ∧ Apart mu nu' ∧ Sub nu nu' ∧ i ≤ d.length ∧ DatAll nu' ys (out.map pairD) ∧ out.length ≤ 100 ∧
    (if j = true then out = meet1 d k else out ++ meet1 (d.drop i) k = meet1 d k) ∧ n = (d.length - i) + (if j = true then 0 else 1)) (d.length + 1) ?_ ?_)
  · refine ⟨0, false, _, _, [], nu, _, [], ⟨rfl, rfl⟩, fr_set (fr_set (fr_set (fr_set (fr_set F1 rfl) rfl) rfl) rfl) rfl, N2, hD, hap, Sub.refl _, Nat.zero_le _, .nil, Nat.zero_le _, rfl, rfl⟩
  · rintro n s' ⟨i, j, ti, tj, ys, nu', u, out, sm', F', N', hD', hap', hsub', hi, hys, hlo, hinv, rfl⟩ R hR
    have hl' := hsub' _ hl
    have hel' := hsub' _ hel
    have hel2' := hsub' _ hel2
    have hall' := hall.mono hsub'
    clear hl hel hel2 hall N1 N2 hv he hes F1 N
    have hyl : ys.length ≤ 100 := by rw [hys.length, List.length_map]; exact hlo
    cases j with
    | true =>
      simp only [if_true] at F' hinv
      subst hinv
      k_steps
      all_goals (
        rename_i D' h3 _ _ l3 _ kN _ _
        exact hret _ _ mu ((D', tupO ys 0) :: nu') ⟨sm'.1, sm'.2⟩ (by assumption) (newsSub kN (by walk_at "MY sub")) (apart_mid (fun q hq => l3 q (by revert q; walk_at "MY sub")) hap') (hsub'.trans sub_cons) ⟨rfl, .tuple (.head _) (hys.mono sub_cons)⟩)
    | false =>
      simp only [Bool.false_eq_true, if_false] at F' hinv
      have hmax : ∀ x : Int, (if k > x then k else x) = max x k := fun x => by split <;> omega
      have hmin : ∀ x : Int, (if k < x then k else x) = min x k := fun x => by split <;> omega
      have hil : ∀ p, d[(i : Int).toNat]? = some p → i < d.length ∧ d.drop i = p :: d.drop (i + 1) := fun p hp => by
        rw [Int.toNat_natCast] at hp
        obtain ⟨h1, h2⟩ := List.getElem?_eq_some_iff.mp hp
        exact ⟨h1, by rw [List.drop_eq_getElem_cons h1, h2]⟩
      have hm1 := meet1_len d k
      k_steps
      · rename_i T3 n3 t13 t23 p3 hp3 hT3 _ _ T4 n4 t14 t24 p4 hp4 hT4 _ _ T1' _ l3 _ _ _ hle T2' h5 F5 N5 l5
        obtain rfl : p3 = p4 := Option.some.inj (hp3.symm.trans hp4)
        obtain ⟨hi', hdr⟩ := hil _ hp3
        refine Stop.mk (append_new2 F5 N5 hD' l5 hap' (by omega) ?_)
        intro h6 F6 N6 hD6 hap6
        have hl6 := List.mem_cons_of_mem (T2', tupO [.int (if k > p3.1 then k else p3.1) (if k > p3.1 then t1 else t13), .int (if k < p3.2 then k else p3.2) (if k < p3.2 then t2 else t24)] 0) hl'
        have hel6 := List.mem_cons_of_mem (T2', tupO [.int (if k > p3.1 then k else p3.1) (if k > p3.1 then t1 else t13), .int (if k < p3.2 then k else p3.2) (if k < p3.2 then t2 else t24)] 0) hel'
        have hel26 := List.mem_cons_of_mem (T2', tupO [.int (if k > p3.1 then k else p3.1) (if k > p3.1 then t1 else t13), .int (if k < p3.2 then k else p3.2) (if k < p3.2 then t2 else t24)] 0) hel2'
        have hall6 := hall'.mono (sub_cons (p := (T2', tupO [.int (if k > p3.1 then k else p3.1) (if k > p3.1 then t1 else t13), .int (if k < p3.2 then k else p3.2) (if k < p3.2 then t2 else t24)] 0)))
        clear N5 F5
        rw [hmax, hmin] at hle
        have hys6 : DatAll ((T2', tupO [.int (if k > p3.1 then k else p3.1) (if k > p3.1 then t1 else t13), .int (if k < p3.2 then k else p3.2) (if k < p3.2 then t2 else t24)] 0) :: nu') (ys ++ [.ref T2']) ((out ++ [(max p3.1 k, min p3.2 k)]).map pairD) := by
          rw [List.map_append, ← hmax, ← hmin]
          exact datAll_snoc (hys.mono sub_cons) (pairD_of (.head _))
        have hinv6 : (out ++ [(max p3.1 k, min p3.2 k)]) ++ (if p3.2 < k then meet1 (d.drop (i + 1)) k else []) = meet1 d k := by
          rw [← hinv, hdr]
          simp [meet1, hle]
        have hlo6 : (out ++ [(max p3.1 k, min p3.2 k)]).length ≤ 100 := by
          have := congrArg List.length hinv6
          rw [List.length_append] at this
          omega
        k_steps
        · rename_i p7 hp7 _ hlt _ F7 N7
          obtain rfl : p3 = p7 := Option.some.inj (hp3.symm.trans hp7)
          rw [if_pos hlt] at hinv6
          refine hR _ _ (WhileEnd.next (k := (d.length - (i + 1)) + 1) (by simp; omega) ⟨i + 1, false, _, _, _, _, _, _, ⟨sm'.1, sm'.2⟩, fr_set (fr_set (fr_set (fr_set (fr_set F7 rfl) rfl) rfl) rfl) rfl, N7, hD6, hap6, hsub'.trans sub_cons, hi', hys6, hlo6, by simpa using hinv6, by simp⟩)
        · rename_i p7 hp7 _ hlt _ F7 N7
          obtain rfl : p3 = p7 := Option.some.inj (hp3.symm.trans hp7)
          rw [if_neg hlt, List.append_nil] at hinv6
          refine hR _ _ (WhileEnd.next (k := (d.length - i)) (by simp) ⟨i, true, _, _, _, _, _, _, ⟨sm'.1, sm'.2⟩, fr_set (fr_set (fr_set (fr_set (fr_set F7 rfl) rfl) rfl) rfl) rfl, N7, hD6, hap6, hsub'.trans sub_cons, hi, hys6, hlo6, by simpa using hinv6, by simp⟩)
      · rename_i T3 n3 t13 t23 p3 hp3 hT3 _ _ T4 n4 t14 t24 p4 hp4 hT4 _ _ T1' _ l3 _ _ _ hle _ T5 n5 t15 t25 p5 hp5 hT5 hlt h7 F7 N7
        obtain rfl : p3 = p4 := Option.some.inj (hp3.symm.trans hp4)
        obtain rfl : p3 = p5 := Option.some.inj (hp3.symm.trans hp5)
        obtain ⟨hi', hdr⟩ := hil _ hp3
        rw [hmax, hmin] at hle
        have hinv6 : out ++ meet1 (d.drop (i + 1)) k = meet1 d k := by rw [← hinv, hdr]; simp [meet1, hle, hlt]
        exact hR _ _ (WhileEnd.next (k := (d.length - (i + 1)) + 1) (by simp; omega) ⟨i + 1, false, _, _, _, nu', _, _, ⟨sm'.1, sm'.2⟩, fr_set (fr_set (fr_set (fr_set (fr_set F7 rfl) rfl) rfl) rfl) rfl, newsSub N7 (fun q hq => .tail _ hq), hD', hap', hsub', hi', hys, hlo, by simpa using hinv6, by simp⟩)
      · rename_i T3 n3 t13 t23 p3 hp3 hT3 _ _ T4 n4 t14 t24 p4 hp4 hT4 _ _ T1' _ l3 _ _ _ hle _ T5 n5 t15 t25 p5 hp5 hT5 hlt h7 F7 N7
        obtain rfl : p3 = p4 := Option.some.inj (hp3.symm.trans hp4)
        obtain rfl : p3 = p5 := Option.some.inj (hp3.symm.trans hp5)
        obtain ⟨hi', hdr⟩ := hil _ hp3
        rw [hmax, hmin] at hle
        have hinv6 : out = meet1 d k := by rw [← hinv, hdr]; simp [meet1, hle, hlt]
        exact hR _ _ (WhileEnd.next (k := (d.length - i)) (by simp) ⟨i, true, _, _, _, nu', _, _, ⟨sm'.1, sm'.2⟩, fr_set (fr_set (fr_set (fr_set (fr_set F7 rfl) rfl) rfl) rfl) rfl, newsSub N7 (fun q hq => .tail _ hq), hD', hap', hsub', hi, hys, hlo, by simpa using hinv6, by simp⟩)
      · rename_i hge D' h3 _ _ l3 _ kN _ _
        have : i = d.length := by omega
        subst this
        rw [List.drop_length, meet1, List.append_nil] at hinv
        subst hinv
        exact hret _ _ mu ((D', tupO ys 0) :: nu') ⟨sm'.1, sm'.2⟩ (by assumption) (newsSub kN (by walk_at "MY sub")) (apart_mid (fun q hq => l3 q (by revert q; walk_at "MY sub")) hap') (hsub'.trans sub_cons) ⟨rfl, .tuple (.head _) (hys.mono sub_cons)⟩
end PS5
local macro_rules | `(tactic| walk_at "call builtin:len") => `(tactic| (k_here; (with_reducible show wpAny _ _ (call (Value.builtin "len") [Value.ref _]) _ _ _); k_dflt (first
  | (refine' len_tupV ?N ?m ?n ?f ?_; (case N => k_asm); (case m => k_mem); (case n => first | assumption | rfl); (case f => omega); k_whole)
  | (refine' len_lstV ?N ?m ?n ?f ?_; (case N => k_asm); (case m => k_mem); (case n => first | assumption | rfl); (case f => omega); k_whole))))
section PS6
local macro_rules | `(tactic| walk_at "MY subs") => `(tactic| (intro q hq; first | exact hq | (repeat (first | exact hq | refine List.mem_cons_of_mem _ ?_)) | (revert q; walk_at "MY sub")))
theorem Spec.on {vq : Program} {w : World} {mean : ExcName → Option Value} {mg mb : Str → Option Value} {f : Addr} {vs : List Value} {lev : Nat} {mu nu : Led} {post : Led → Led → Value → Prop} (S : Spec vq w mean mg mb f vs lev mu nu post) {dp un : Nat} {gd : Option (List Code)} {cn : Str} {cs : Scope} {a : Addr} {ccd : Value} {cl : List (Str × Addr)} {outer : List Env} {A₀ : Around} {base h₀ : Heap} {L : Addr} {m : Str → Option Value} {news : Led} {s : Shared} {Q E : Value → Shared → Prop}
    (B : Below A₀ base outer h₀) (F : Fr h₀ L s.heap m) (X : (Mine.K w.params).In h₀) (N : News h₀ L s.heap news) (T : Top vq (looseW vq []) mean mg mb h₀) (hk : cs.kind = .function) (hap : Apart mu nu) (hs : Sub (mu ++ nu) news) (hd : dp + lev < recursionLimit) (hu : un + 10 * lev + 200 < cLine)
    (hret : ∀ r s' mu' nu', Same s s' → Fr h₀ L s'.heap m → News h₀ L s'.heap (mu' ++ nu') → Apart mu' nu' → Sub nu nu' → post mu' nu' r → Q r s') :
    wpAny (model PySem.Challenge.rw_pc0058_01.row.prog w) (ktrTop dp un gd cn cs L a ccd cl outer) (call (.ref f) vs) Q E s :=
  S _ _ _ _ _ _ _ _ _ _ _ _ _ _ _ _ _ _ B F X (newsSub N hs) T hk Split.base hap hd hu hret

theorem apart_mid2 {p q : Addr × Obj} {mu nu : Led} (h : ∀ r ∈ mu ++ nu, r.1 < p.1) (h' : ∀ r ∈ mu ++ nu, r.1 < q.1) (hap : Apart mu nu) : Apart mu (p :: q :: nu) := fun x hx r hr => by
  rcases List.mem_cons.mp hr with rfl | hr
  · exact Nat.ne_of_lt (h x (List.mem_append_left _ hx))
  · rcases List.mem_cons.mp hr with rfl | hr
    · exact Nat.ne_of_lt (h' x (List.mem_append_left _ hx))
    · exact hap x hx r hr
noncomputable def struckF (sg : Str) (k : Int) (d : List (Int × Int)) : List (Int × Int) := if (sg == Str.ofString "<=") = true then upTo d k else if (sg == Str.ofString ">=") = true then fromOn d k else if (sg == Str.ofString "=") = true then meet1 d k else without d k

set_option maxHeartbeats 8000000 in
theorem struck_spec {vq : Program} {w : World} {mean : ExcName → Option Value} {mg mb : Str → Option Value} {lv v : Value} {d : List (Int × Int)} {x k : Int} {sg : Str} {mu nu : Led} (hlit : DatIn nu lv (litD x sg k)) (hv : DatIn nu v (domD d)) (hlen : d.length ≤ 100) :
    Spec vq w mean mg mb 193 [lv, v] 4 mu nu (fun mu' nu' r => mu' = mu ∧ DatIn nu' r (domD (struckF sg k d))) := by
  intro dp un gd cn cs a ccd cl outer A₀ base h₀ L m news s Q E B F X N T hk hsp hap hd hu hret
  cases hsp
  obtain ⟨la, n, t1, t2, t3, rfl, hl⟩ := litD_inv hlit
  obtain ⟨da, nd, vs, rfl, hdl, hall⟩ := domD_inv hv
  unfold struckF at hret
  w_on
  refine wpAny_call ?_
  k_dflt ktr_enter
  k_steps
  · refine Stop.mk (Spec.on (up_to_spec hv hlen) (by assumption) (by assumption) (by assumption) (by assumption) (by assumption) rfl (by assumption) (by walk_at "MY subs") (by ktr_room) (by ktr_units) ?_)
    rintro r2 s2 _ nu2 sm2 F2 N2 ap2 sub2 ⟨rfl, hr2⟩
    k_steps
    rename_i kF kN _ _
    refine hret _ _ _ nu2 ⟨sm2.1, sm2.2⟩ kF kN ap2 sub2 ⟨rfl, ?_⟩
    simp only [*, if_true]
  · refine Stop.mk (Spec.on (from_on_spec hv hlen) (by assumption) (by assumption) (by assumption) (by assumption) (by assumption) rfl (by assumption) (by walk_at "MY subs") (by ktr_room) (by ktr_units) ?_)
    rintro r2 s2 _ nu2 sm2 F2 N2 ap2 sub2 ⟨rfl, hr2⟩
    k_steps
    rename_i kF kN _ _
    refine hret _ _ _ nu2 ⟨sm2.1, sm2.2⟩ kF kN ap2 sub2 ⟨rfl, ?_⟩
    simp only [*, if_true, if_false, Bool.false_eq_true]
  · rename_i D2 _ l2 D1 _ F5 N5 l1
    have hap5 : Apart mu ((D1, tupO [.ref D2] 0) :: (D2, tupO [.int k t3, .int k t3] 0) :: nu) := apart_mid2 (ktn_ltOf l1.2.2) (ktn_ltOf l2.2) hap
    have he : DatIn ((D1, tupO [.ref D2] 0) :: (D2, tupO [.int k t3, .int k t3] 0) :: nu) (.ref D1) (domD [(k, k)]) := .tuple (.head _) (.cons (pairD_of (.tail _ (.head _))) .nil)
    have N6 := newsSub N5 (a := mu ++ ((D1, tupO [.ref D2] 0) :: (D2, tupO [.int k t3, .int k t3] 0) :: nu)) (by walk_at "MY sub")
    clear N5
    refine Stop.mk (Spec.on (meet_spec (hv.mono (sub_cons.trans sub_cons)) he hlen) (by assumption) (by assumption) (by assumption) (by assumption) (by assumption) rfl (by assumption) (by walk_at "MY subs") (by ktr_room) (by ktr_units) ?_)
    rintro r2 s2 _ nu2 sm2 F2 N2 ap2 sub2 ⟨rfl, hr2⟩
    k_steps
    rename_i kF kN _ _
    refine hret _ _ _ nu2 ⟨sm2.1, sm2.2⟩ kF kN ap2 ((sub_cons.trans sub_cons).trans sub2) ⟨rfl, ?_⟩
    simp only [*, if_true, if_false, Bool.false_eq_true]
  · refine Stop.mk (Spec.on (without_spec hv hlen) (by assumption) (by assumption) (by assumption) (by assumption) (by assumption) rfl (by assumption) (by walk_at "MY subs") (by ktr_room) (by ktr_units) ?_)
    rintro r2 s2 _ nu2 sm2 F2 N2 ap2 sub2 ⟨rfl, hr2⟩
    k_steps
    rename_i kF kN _ _
    refine hret _ _ _ nu2 ⟨sm2.1, sm2.2⟩ kF kN ap2 sub2 ⟨rfl, ?_⟩
    simp only [*, if_true, if_false, Bool.false_eq_true]
end PS6
section PM1
noncomputable def signs : List Str := [Str.ofString "<=", Str.ofString ">=", Str.ofString "=", Str.ofString "!="]
noncomputable def ks : List Int := [-3, -2, -1, 0, 1, 2, 3, 4]
noncomputable def allLots : List (List Int) := [[], [-1], [0], [-1, 0], [1], [-1, 1], [0, 1], [-1, 0, 1], [2], [-1, 2], [0, 2], [-1, 0, 2], [1, 2], [-1, 1, 2], [0, 1, 2], [-1, 0, 1, 2]]
noncomputable def keepF (sg : Str) (k : Int) (l : List Int) : List Int :=
  if (sg == Str.ofString "<=") = true then l.filter fun v => decide (v ≤ k) else if (sg == Str.ofString ">=") = true then l.filter fun v => decide (k ≤ v) else l.filter fun v => decide (v = k) == (sg == Str.ofString "=")
noncomputable def rangeStep (found : List (Int × Int)) (v : Int) : List (Int × Int) := match found.getLast? with
  | some p => if p.2 = v - 1 then found.dropLast ++ [(p.1, v)] else found ++ [(v, v)]
  | none => [(v, v)]
noncomputable def rangesF (l : List Int) : List (Int × Int) := l.foldl rangeStep []

theorem fin_struck : (allLots.all fun l => signs.all fun sg => ks.all fun k => decide (struckF sg k (rangesF l) = rangesF (keepF sg k l)) && allLots.contains (keepF sg k l)) = true := by decide +kernel
theorem fin_neg : (allLots.all fun l => signs.all fun sg => ks.all fun k => decide (keepF (negS sg) (negK sg k) l = l.filter fun v => !(keepF sg k l).contains v)) = true := by decide +kernel
theorem fin_inj : (allLots.all fun l => allLots.all fun l' => decide (rangesF l = rangesF l') == decide (l = l')) = true := by decide +kernel
theorem fin_len : (allLots.all fun l => decide ((rangesF l).length ≤ 4) && decide (l.length ≤ 4)) = true := by decide +kernel
theorem neg_signs : (signs.all fun sg => signs.contains (negS sg)) = true := by decide +kernel

structure LitOk (p : Int × Str × Int) : Prop where
  lo : 0 ≤ p.1
  hi : p.1 < 3
  sg : p.2.1 ∈ signs
  klo : -2 ≤ p.2.2
  khi : p.2.2 ≤ 3
theorem ks_of {k : Int} (h : -3 ≤ k) (h' : k ≤ 4) : k ∈ ks := by
  simp only [ks, List.mem_cons, List.not_mem_nil, or_false]; omega
theorem struck_lot {l : List Int} {sg : Str} {k : Int} (hl : l ∈ allLots) (hs : sg ∈ signs) (hk : k ∈ ks) : struckF sg k (rangesF l) = rangesF (keepF sg k l) ∧ keepF sg k l ∈ allLots := by
  have h := List.all_eq_true.mp (List.all_eq_true.mp (List.all_eq_true.mp fin_struck l hl) sg hs) k hk
  rw [Bool.and_eq_true, decide_eq_true_eq] at h
  exact ⟨h.1, List.contains_iff_mem.mp h.2⟩
theorem neg_lot {l : List Int} {sg : Str} {k : Int} (hl : l ∈ allLots) (hs : sg ∈ signs) (hk : k ∈ ks) : keepF (negS sg) (negK sg k) l = l.filter fun v => !(keepF sg k l).contains v :=
  of_decide_eq_true (List.all_eq_true.mp (List.all_eq_true.mp (List.all_eq_true.mp fin_neg l hl) sg hs) k hk)
theorem ranges_inj {l l' : List Int} (hl : l ∈ allLots) (hl' : l' ∈ allLots) : rangesF l = rangesF l' ↔ l = l' := by
  have h := List.all_eq_true.mp (List.all_eq_true.mp fin_inj l hl) l' hl'
  rw [beq_iff_eq] at h
  constructor
  · intro e; rw [decide_eq_true e] at h; exact of_decide_eq_true h.symm
  · rintro rfl; rfl
theorem nil_lot : ([] : List Int) ∈ allLots := .head _
theorem ranges_nil {l : List Int} (hl : l ∈ allLots) : rangesF l = [] ↔ l = [] := ranges_inj hl nil_lot
theorem ranges_len {l : List Int} (hl : l ∈ allLots) : (rangesF l).length ≤ 4 ∧ l.length ≤ 4 := by
  have h := List.all_eq_true.mp fin_len l hl
  rw [Bool.and_eq_true, decide_eq_true_eq, decide_eq_true_eq] at h
  exact h
theorem negS_signs {sg : Str} (h : sg ∈ signs) : negS sg ∈ signs := List.contains_iff_mem.mp (List.all_eq_true.mp neg_signs sg h)
theorem negK_ks {sg : Str} {k : Int} (h : -2 ≤ k) (h' : k ≤ 3) : negK sg k ∈ ks := by
  unfold negK; split
  · exact ks_of (by omega) (by omega)
  · split <;> exact ks_of (by omega) (by omega)
end PM1
section PM2
theorem sub_lot {zs : List Int} (h : zs.Sublist [-1, 0, 1, 2]) : zs ∈ allLots := by
  have k0 : ∀ t : List Int, t.Sublist [] → t = [] := fun t h => by cases h; rfl
  have k1 : ∀ t : List Int, t.Sublist [2] → t ∈ [[], [2]] := fun t h => by
    rcases sub_split h with h1 | ⟨u, e, h1⟩
    · rw [k0 _ h1]; decide
    · rw [e, k0 _ h1]; decide
  have k2 : ∀ t : List Int, t.Sublist [1, 2] → t ∈ [[], [2], [1], [1, 2]] := fun t h => by
    rcases sub_split h with h1 | ⟨u, e, h1⟩
    · have := k1 _ h1; simp only [List.mem_cons, List.not_mem_nil, or_false] at this; rcases this with rfl | rfl <;> decide
    · subst e; have := k1 _ h1; simp only [List.mem_cons, List.not_mem_nil, or_false] at this; rcases this with rfl | rfl <;> decide
  have k3 : ∀ t : List Int, t.Sublist [0, 1, 2] → t ∈ [[], [2], [1], [1, 2], [0], [0, 2], [0, 1], [0, 1, 2]] := fun t h => by
    rcases sub_split h with h1 | ⟨u, e, h1⟩
    · have := k2 _ h1; simp only [List.mem_cons, List.not_mem_nil, or_false] at this; rcases this with rfl | rfl | rfl | rfl <;> decide
    · subst e; have := k2 _ h1; simp only [List.mem_cons, List.not_mem_nil, or_false] at this; rcases this with rfl | rfl | rfl | rfl <;> decide
  rcases sub_split h with h1 | ⟨u, e, h1⟩
  · have := k3 _ h1; simp only [List.mem_cons, List.not_mem_nil, or_false] at this; rcases this with rfl | rfl | rfl | rfl | rfl | rfl | rfl | rfl <;> decide
  · subst e; have := k3 _ h1; simp only [List.mem_cons, List.not_mem_nil, or_false] at this; rcases this with rfl | rfl | rfl | rfl | rfl | rfl | rfl | rfl <;> decide
end PM2
local macro_rules | `(tactic| walk_at "MY subs") => `(tactic| (intro q hq; first | exact hq | walk_at "MY mem" | (revert q; walk_at "MY sub")))
local macro_rules | `(tactic| walk_at "compareOp Eq ref ref") => `(tactic| refine Stop.out ?_)
local macro_rules | `(tactic| walk_at "compareOp NotEq ref ref") => `(tactic| refine Stop.out ?_)
section PS7
section
variable {prog : Program} {w : World} {A : Around} {E : Value → Shared → Prop} {s : Shared} {h₀ : Heap} {L : Addr} {m : Str → Option Value} {mu nu news n₁ n₂ : Led} {a b : Value} {d e : Dat}
theorem eq_dat {Q : Value → Shared → Prop} (N : News h₀ L s.heap news) (ha : DatIn n₁ a d) (sa : Sub n₁ news) (hb : DatIn n₂ b e) (sb : Sub n₂ news) (ka : kqdOk 9 d = true) (kb : kqdOk 9 e = true) (hu : A.units + 64 < cLine)
    (h : ∀ r : Bool, (r = true ↔ d = e) → Q (.bool r) s) : wpAny (model prog w) A (compareOp .Eq a b) Q E s := by
  obtain ⟨as, ra⟩ := kqd_in N 9 (ha.mono sa) ka
  obtain ⟨bs, rb⟩ := kqd_in N 9 (hb.mono sb) kb
  have la := kqd_lay 9 d ka
  have lb := kqd_lay 9 e kb
  refine eq_dataH ra rb ?_ ?_ hu (h _ (kqd_eqv 9 d e 9 ka kb))
  · unfold SeqAt.shaped; rw [la.1, Bool.true_and]; exact decide_eq_true (Nat.le_trans la.2 (by decide))
  · unfold SeqAt.shaped; rw [lb.1, Bool.true_and]; exact decide_eq_true (Nat.le_trans lb.2 (by decide))
theorem ne_dat {Q : Value → Shared → Prop} (N : News h₀ L s.heap news) (ha : DatIn n₁ a d) (sa : Sub n₁ news) (hb : DatIn n₂ b e) (sb : Sub n₂ news) (ka : kqdOk 9 d = true) (kb : kqdOk 9 e = true) (hu : A.units + 64 < cLine)
    (h : ∀ r : Bool, (r = true ↔ ¬ d = e) → Q (.bool r) s) : wpAny (model prog w) A (compareOp .NotEq a b) Q E s := by
  obtain ⟨as, ra⟩ := kqd_in N 9 (ha.mono sa) ka
  obtain ⟨bs, rb⟩ := kqd_in N 9 (hb.mono sb) kb
  have la := kqd_lay 9 d ka
  have lb := kqd_lay 9 e kb
  refine ne_dataH ra rb ?_ ?_ hu (h _ ?_)
  · unfold SeqAt.shaped; rw [la.1, Bool.true_and]; exact decide_eq_true (Nat.le_trans la.2 (by decide))
  · unfold SeqAt.shaped; rw [lb.1, Bool.true_and]; exact decide_eq_true (Nat.le_trans lb.2 (by decide))
  · rw [← kqd_eqv 9 d e 9 ka kb]; simp
theorem kqd_dom (d : List (Int × Int)) : kqdOk 9 (domD d) = true := by
  simp [kqdOk]
theorem domD_inj {d e : List (Int × Int)} : domD d = domD e ↔ d = e := by
  constructor
  · intro h
    have h' : d.map pairD = e.map pairD := Dat.tuple.inj h
    induction d generalizing e with
    | nil => cases e with
      | nil => rfl
      | cons q e => cases h'
    | cons p d ih => cases e with
      | nil => cases h'
      | cons q e =>
        rw [List.map_cons, List.map_cons, List.cons.injEq] at h'
        have h1 := Dat.tuple.inj h'.1
        simp only [List.cons.injEq, Dat.int.injEq, and_true] at h1
        rw [ih (congrArg Dat.tuple h'.2) h'.2, Prod.ext h1.1 h1.2]
  · rintro rfl; rfl
/-- an item of a list of data -/
theorem item_lst {value slice : PySem.Expr} {x : Addr} {vs : List Value} {k : Nat} {ds : List Dat} {i : Int} {u : Tok} {Q : Value → Shared → Prop} (N : News h₀ L s.heap news) (hm : (x, lstO vs k) ∈ news) (hall : DatAll nu vs ds) (h0 : 0 ≤ i) (h1 : i < ds.length) (hf : ds.length ≤ 1000000)
    (h : ∀ v d, ds[i.toNat]? = some d → DatIn nu v d → Q v s)
    (hs : subscripted slice false (.ref x) (.int i u) = operate [.ref x, .int i u] (getItem (.ref x) (.int i u)) := by with_unfolding_all rfl) :
    wpAny (model prog w) A (subscriptTail value slice (.ref x) (.int i u)) Q E s := by
  have hi : i.toNat < ds.length := by omega
  obtain ⟨v, hv, hD⟩ := hall.get hi
  have hl : s.heap.IsList x vs.toArray := ⟨_, (N _ hm).1, rfl, k, rfl⟩
  exact tail_any hl.typeIs slot_list_getitem.lookup (wpAny_getItem_list hl h0 (by omega) (by simpa using hv) (h v _ (List.getElem?_eq_getElem hi) hD)) hs
end
noncomputable abbrev boxE (h1 h2 : Int) (t1 t2 : Tok) (ld td : Addr) : List DictEntry := [⟨h1, .str (Str.ofString "domains") t1, .ref ld⟩, ⟨h2, .str (Str.ofString "turned") t2, .ref td⟩]
/-- a Box: its dict of turned domains is o, at td; lots is what it holds -/
structure BoxOk (w : World) (o : Obj) (nu : Led) (B td : Addr) (lots : Int → List Int) (nb : Nat) : Prop where
  ex : ∃ (dx ld n k : Nat) (h1 h2 : Int) (t1 t2 : Tok) (vs : List Value) (D : List (List (Int × Int))) (kvs : List (Int × Value)), (B, instObj 309 dx) ∈ nu ∧ (dx, dictOf (boxE h1 h2 t1 t2 ld td) k) ∈ nu ∧ (ld, lstO vs n) ∈ nu ∧ DatAll nu vs (D.map domD) ∧ D.length = 3 ∧
    o.IsDictOf (PySem.intKind PySem.Challenge.rw_pc0058_01.row.prog w) kvs ∧ kvs.length ≤ nb ∧ (td == sysModules) = false ∧
    (∀ x : Int, 0 ≤ x → x < 3 → (∃ v, valueAt kvs x = some v ∧ DatIn nu v (domD (rangesF (lots x)))) ∨ (valueAt kvs x = none ∧ D[x.toNat]? = some (rangesF (lots x))))
  lots : ∀ x : Int, lots x ∈ allLots
local macro_rules | `(tactic| walk_at "getMethod ref") => `(tactic| (k_here; (with_reducible show wpAny _ _ (getMethod (Value.ref _) (Str.ofString "get") _) _ _ _); k_dflt (refine kdg_method (knd := PySem.intKind _ _) (by k_asm) (by k_mem) (by k_asm) ?_)))
local macro_rules | `(tactic| walk_at "call builtin:dict.get") => `(tactic| (k_here; k_dflt (refine kdg_get2 (knd := PySem.intKind _ _) (by k_asm) (by k_mem) (by k_asm) (by k_asm) (intKind_is _ _ _ _) _ rfl ?_)))
local macro_rules | `(tactic| walk_at "subscriptTail") => `(tactic| (k_here; (with_reducible show wpAny _ _ (subscriptTail _ _ (Value.ref _) (Value.int _ _)) _ _ _); k_dflt (refine' item_lst ?N ?m ?a ?b ?c ?d ?_; (case N => k_asm); (case m => k_mem); (case a => assumption); (case b => omega); (case c => (rw [List.length_map]; omega)); (case d => (rw [List.length_map]; omega)); k_whole); intro v' d' hd' hv'))
set_option maxHeartbeats 8000000 in
theorem domain_spec {vq : Program} {w : World} {mean : ExcName → Option Value} {mg mb : Str → Option Value} {B td : Addr} {x : Int} {t : Tok} {o : Obj} {lots : Int → List Int} {nb : Nat} {mu nu : Led} (hb : BoxOk w o nu B td lots nb) (hto : (td, o) ∈ mu) (h0 : 0 ≤ x) (h3 : x < 3) :
    Spec vq w mean mg mb 278 [.ref B, .int x t] 1 mu nu (fun mu' nu' r => mu' = mu ∧ DatIn nu' r (domD (rangesF (lots x)))) := by
  intro dp un gd cn cs a ccd cl outer A₀ base h₀ L m news s Q E B₀ F X N T hk hsp hap hd hu hret
  cases hsp
  obtain ⟨dx, ld, n, k, k1, k2, t1, t2, vs, D, kvs, hB, hdx, hld, hall, hD3, hod, hkl, hsm, hcur⟩ := hb.ex
  w_on
  refine wpAny_call ?_
  k_dflt ktr_enter
  k_steps
  rename_i v' d' hd' hv' kF kN _ _
  refine hret _ _ mu nu ⟨rfl, rfl⟩ kF kN hap (Sub.refl _) ⟨rfl, ?_⟩
  rcases hcur x h0 h3 with ⟨v, e, hv⟩ | ⟨e, hD⟩
  · rw [e]; exact hv
  · rw [e]
    rw [List.getElem?_map, hD] at hd'
    cases hd'
    exact hv'

theorem BoxOk.mono {w : World} {o : Obj} {nu nu' : Led} {B td : Addr} {lots : Int → List Int} {nb : Nat} (h : BoxOk w o nu B td lots nb) (hs : Sub nu nu') : BoxOk w o nu' B td lots nb := by
  obtain ⟨dx, ld, n, k, k1, k2, t1, t2, vs, D, kvs, hB, hdx, hld, hall, hD3, hod, hkl, hsm, hcur⟩ := h.ex
  refine ⟨⟨dx, ld, n, k, k1, k2, t1, t2, vs, D, kvs, hs _ hB, hs _ hdx, hs _ hld, hall.mono hs, hD3, hod, hkl, hsm, fun x h0 h3 => ?_⟩, h.lots⟩
  rcases hcur x h0 h3 with ⟨v, e, hv⟩ | r
  · exact .inl ⟨v, e, hv.mono hs⟩
  · exact .inr r
local macro_rules | `(tactic| walk_at "compareOp Eq") => `(tactic| refine Stop.out ?_)
local macro_rules | `(tactic| walk_at "compareOp NotEq") => `(tactic| refine Stop.out ?_)
theorem struckF_len {sg : Str} {k : Int} {d : List (Int × Int)} : (struckF sg k d).length ≤ d.length + d.length := by
  unfold struckF
  split
  · exact Nat.le_trans (upTo_len _ _) (Nat.le_add_right _ _)
  · split
    · exact Nat.le_trans (fromOn_len _ _) (Nat.le_add_right _ _)
    · split
      · exact Nat.le_trans (meet1_len _ _) (Nat.le_add_right _ _)
      · exact without_len _ _

set_option maxHeartbeats 8000000 in
theorem can_hold_spec {vq : Program} {w : World} {mean : ExcName → Option Value} {mg mb : Str → Option Value} {B td : Addr} {lv : Value} {x k : Int} {sg : Str} {o : Obj} {lots : Int → List Int} {nb : Nat} {mu nu : Led} (hb : BoxOk w o nu B td lots nb) (hto : (td, o) ∈ mu) (hl : DatIn nu lv (litD x sg k)) (h0 : 0 ≤ x) (h3 : x < 3) (hsg : sg ∈ signs) (hkk : k ∈ ks) :
    Spec vq w mean mg mb 285 [.ref B, lv] 5 mu nu (fun mu' nu' r => mu' = mu ∧ ∃ b : Bool, r = .bool b ∧ (b = true ↔ keepF sg k (lots x) ≠ [])) := by
  intro dp un gd cn cs a ccd cl outer A₀ base h₀ L m news s Q E B₀ F X N T hk hsp hap hd hu hret
  cases hsp
  obtain ⟨dx, ld, n, kk, k1, k2, t1, t2, vs, D, kvs, hB, hdx, hld, hall, hD3, hod, hkl, hsm, hcur⟩ := hb.ex
  obtain ⟨la, ln, t4, t5, t6, rfl, hla⟩ := litD_inv hl
  have hlx := hb.lots x
  have hclx := (ranges_len hlx).1
  obtain ⟨hst, hstl⟩ := struck_lot hlx hsg hkk
  w_on
  refine wpAny_call ?_
  k_dflt ktr_enter
  k_steps
  refine Stop.mk (Spec.on (domain_spec hb hto h0 h3) (by assumption) (by assumption) (by assumption) (by assumption) (by assumption) rfl (by assumption) (by walk_at "MY subs") (by ktr_room) (by ktr_units) ?_)
  rintro r2 s2 _ nu2 sm2 F2 N2 ap2 sub2 ⟨rfl, hr2⟩
  k_steps
  refine Stop.mk (Spec.on (struck_spec (hl.mono sub2) hr2 (by omega)) (by assumption) (by assumption) (by assumption) (by assumption) (by assumption) rfl (by assumption) (by walk_at "MY subs") (by ktr_room) (by ktr_units) ?_)
  rintro r3 s3 _ nu3 sm3 F3 N3 ap3 sub3 ⟨rfl, hr3⟩
  k_steps
  rename_i D' h4 F4 N4 l4
  refine Stop.mk (ne_dat (n₂ := [(D', tupO [] 0)]) N4 hr3 (by walk_at "MY subs") (.tuple (.head _) .nil) (by walk_at "MY sub") (kqd_dom _) rfl (by ktr_units) ?_)
  intro b hb
  k_steps
  rename_i kF kN _ _
  refine hret _ _ _ nu3 ⟨sm3.1.trans sm2.1, sm3.2.trans sm2.2⟩ kF (newsSub kN (by walk_at "MY subs")) ap3 (sub2.trans sub3) ⟨rfl, b, rfl, hb.trans ?_⟩
  rw [show (Dat.tuple [] : Dat) = domD [] from rfl, domD_inj, hst, ranges_nil hstl]

set_option maxHeartbeats 8000000 in
theorem does_hold_spec {vq : Program} {w : World} {mean : ExcName → Option Value} {mg mb : Str → Option Value} {B td : Addr} {lv : Value} {x k : Int} {sg : Str} {o : Obj} {lots : Int → List Int} {nb : Nat} {mu nu : Led} (hb : BoxOk w o nu B td lots nb) (hto : (td, o) ∈ mu) (hl : DatIn nu lv (litD x sg k)) (h0 : 0 ≤ x) (h3 : x < 3) (hsg : sg ∈ signs) (hkk : k ∈ ks) :
    Spec vq w mean mg mb 292 [.ref B, lv] 5 mu nu (fun mu' nu' r => mu' = mu ∧ ∃ b : Bool, r = .bool b ∧ (b = true ↔ keepF sg k (lots x) = lots x)) := by
  intro dp un gd cn cs a ccd cl outer A₀ base h₀ L m news s Q E B₀ F X N T hk hsp hap hd hu hret
  cases hsp
  obtain ⟨dx, ld, n, kk, k1, k2, t1, t2, vs, D, kvs, hB, hdx, hld, hall, hD3, hod, hkl, hsm, hcur⟩ := hb.ex
  obtain ⟨la, ln, t4, t5, t6, rfl, hla⟩ := litD_inv hl
  have hlx := hb.lots x
  have hclx := (ranges_len hlx).1
  obtain ⟨hst, hstl⟩ := struck_lot hlx hsg hkk
  w_on
  refine wpAny_call ?_
  k_dflt ktr_enter
  k_steps
  refine Stop.mk (Spec.on (domain_spec hb hto h0 h3) (by assumption) (by assumption) (by assumption) (by assumption) (by assumption) rfl (by assumption) (by walk_at "MY subs") (by ktr_room) (by ktr_units) ?_)
  rintro r2 s2 _ nu2 sm2 F2 N2 ap2 sub2 ⟨rfl, hr2⟩
  k_steps
  refine Stop.mk (Spec.on (struck_spec (hl.mono sub2) hr2 (by omega)) (by assumption) (by assumption) (by assumption) (by assumption) (by assumption) rfl (by assumption) (by walk_at "MY subs") (by ktr_room) (by ktr_units) ?_)
  rintro r3 s3 _ nu3 sm3 F3 N3 ap3 sub3 ⟨rfl, hr3⟩
  have hb3 := (hb.mono sub2).mono sub3
  have hla3 := sub3 _ (sub2 _ hla)
  have hB3 := sub3 _ (sub2 _ hB)
  have hdx3 := sub3 _ (sub2 _ hdx)
  k_steps
  refine Stop.mk (Spec.on (domain_spec hb3 hto h0 h3) (by assumption) (by assumption) (by assumption) (by assumption) (by assumption) rfl (by assumption) (by walk_at "MY subs") (by ktr_room) (by ktr_units) ?_)
  rintro r4 s4 _ nu4 sm4 F4 N4 ap4 sub4 ⟨rfl, hr4⟩
  k_steps
  refine Stop.mk (eq_dat N4 (hr3.mono sub4) (by walk_at "MY subs") hr4 (by walk_at "MY subs") (kqd_dom _) (kqd_dom _) (by ktr_units) ?_)
  intro b hb
  k_steps
  rename_i kF kN _ _
  refine hret _ _ _ nu4 ⟨sm4.1.trans (sm3.1.trans sm2.1), sm4.2.trans (sm3.2.trans sm2.2)⟩ kF kN ap4 ((sub2.trans sub3).trans sub4) ⟨rfl, b, rfl, hb.trans (domD_inj.trans (by rw [hst, ranges_inj hstl hlx]))⟩
end PS7
local macro_rules | `(tactic| walk_at "setItem ref int") => `(tactic| refine Stop.out ?_)
local macro_rules | `(tactic| walk_at "setItem ref int ref") => `(tactic| refine Stop.out ?_)
section PS8
noncomputable def upd {α : Type} (f : Int → α) (x : Int) (v : α) : Int → α := fun y => if y = x then v else f y
theorem valueAt_stored (kvs : List (Int × Value)) (k : Int) (v : Value) (x : Int) : valueAt (stored kvs k v) x = if x = k then some v else valueAt kvs x := by
  unfold stored valueAt
  by_cases h : (kvs.any fun kv => decide (kv.1 = k)) = true
  · rw [if_pos h]
    induction kvs with
    | nil => simp at h
    | cons q r ih =>
      rw [List.map_cons, List.find?_cons, List.find?_cons]
      by_cases hq : q.1 = k
      · by_cases hx : x = k
        · subst hx; simp [hq]
        · have h1 : ¬ k = x := fun e => hx e.symm
          have h2 : ¬ q.1 = x := by rw [hq]; exact h1
          simp only [hq, if_true, h1, decide_false, if_neg hx]
          by_cases hr : (r.any fun kv => decide (kv.1 = k)) = true
          · rw [ih hr, if_neg hx]
          · congr 2
            have : ∀ kv ∈ r, ¬ kv.1 = k := fun kv hkv e => hr (List.any_eq_true.mpr ⟨kv, hkv, by simp [e]⟩)
            have e2 : r.map (fun kv => if kv.1 = k then (kv.1, v) else kv) = r := by
              conv => rhs; rw [← List.map_id r]
              exact List.map_congr_left fun kv hkv => by simp [this kv hkv]
            rw [e2]
      · simp only [hq, if_false]
        have hr : (r.any fun kv => decide (kv.1 = k)) = true := by simpa [hq] using h
        by_cases hqx : q.1 = x
        · have : ¬ x = k := by rw [← hqx]; exact hq
          simp [hqx, this]
        · simp only [hqx, decide_false]
          exact ih hr
  · rw [if_neg h, List.find?_append]
    by_cases hx : x = k
    · subst hx
      have : kvs.find? (fun kv => decide (kv.1 = x)) = none := by
        rw [List.find?_eq_none]
        intro kv hkv e
        exact h (List.any_eq_true.mpr ⟨kv, hkv, e⟩)
      rw [this]; simp
    · have h1 : ¬ k = x := fun e => hx e.symm
      simp [h1, hx]
local macro_rules | `(tactic| walk_at "compareOp Eq") => `(tactic| refine Stop.out ?_)
local macro_rules | `(tactic| walk_at "compareOp NotEq") => `(tactic| refine Stop.out ?_)
local macro_rules | `(tactic| walk_at "setItem ref") => `(tactic| refine Stop.out ?_)
local macro_rules | `(tactic| walk_at "subscriptTail") => `(tactic| (k_here; (with_reducible show wpAny _ _ (subscriptTail _ _ (Value.ref _) (Value.int _ _)) _ _ _); k_dflt (refine kda_item (knd := PySem.intKind _ _) (by k_asm) (by k_mem) (by k_asm) (intKind_is _ _ _ _) (by assumption) ?_)))
set_option maxHeartbeats 8000000 in
theorem say_spec {vq : Program} {w : World} {mean : ExcName → Option Value} {mg mb : Str → Option Value} {B td : Addr} {lv : Value} {x k : Int} {sg : Str} {o : Obj} {lots : Int → List Int} {nb : Nat} {mu nu : Led} (hb : BoxOk w o nu B td lots nb) (hnb : nb ≤ 1000) (hl : DatIn nu lv (litD x sg k)) (h0 : 0 ≤ x) (h3 : x < 3) (hsg : sg ∈ signs) (hkk : k ∈ ks) (hne : ∀ p ∈ mu, p.1 ≠ td) :
    Spec vq w mean mg mb 299 [.ref B, lv] 6 ((td, o) :: mu) nu (fun mu' nu' r => ∃ o', mu' = (td, o') :: mu ∧ BoxOk w o' nu' B td (upd lots x (keepF sg k (lots x))) (nb + 1) ∧ ∃ b : Bool, r = .bool b ∧ (b = true ↔ keepF sg k (lots x) ≠ [])) := by
  intro dp un gd cn cs a ccd cl outer A₀ base h₀ L m news s Q E B₀ F X N T hk hsp hap hd hu hret
  cases hsp
  obtain ⟨dx, ld, n, kk, k1, k2, t1, t2, vs, D, kvs, hB, hdx, hld, hall, hD3, hod, hkl, hsm, hcur⟩ := hb.ex
  obtain ⟨la, ln, t4, t5, t6, rfl, hla⟩ := litD_inv hl
  have hlx := hb.lots x
  have hclx := (ranges_len hlx).1
  obtain ⟨hst, hstl⟩ := struck_lot hlx hsg hkk
  w_on
  refine wpAny_call ?_
  k_dflt ktr_enter
  k_steps
  refine Stop.mk (Spec.on (domain_spec hb (List.mem_cons_self ..) h0 h3) (by assumption) (by assumption) (by assumption) (by assumption) (by assumption) rfl (by assumption) (by walk_at "MY subs") (by ktr_room) (by ktr_units) ?_)
  rintro r2 s2 mu2 nu2 sm2 F2 N2 ap2 sub2 ⟨hmu, hr2⟩
  subst hmu
  k_steps
  refine Stop.mk (Spec.on (struck_spec (hl.mono sub2) hr2 (by omega)) (by assumption) (by assumption) (by assumption) (by assumption) (by assumption) rfl (by assumption) (by walk_at "MY subs") (by ktr_room) (by ktr_units) ?_)
  rintro r3 s3 mu3 nu3 sm3 F3 N3 ap3 sub3 ⟨hmu, hr3⟩
  subst hmu
  rw [hst] at hr3
  have hla3 := sub3 _ (sub2 _ hla)
  have hB3 := sub3 _ (sub2 _ hB)
  have hdx3 := sub3 _ (sub2 _ hdx)
  have hne3 : ∀ p ∈ mu ++ nu3, p.1 ≠ td := fun p hp => by
    rcases List.mem_append.mp hp with hp | hp
    · exact hne p hp
    · exact Ne.symm (ap3 (td, o) (.head _) p hp)
  k_steps
  refine Stop.mk (kda_set (knd := PySem.intKind _ _) F3 N3 (UpdF.head hne3) hod (intKind_is _ _ _ _) (by rw [sizeLine_eq]; omega) ?_)
  intro h4 o4 F4 N4 hod4
  have hval : valueAt (stored kvs x r3) x = some r3 := by rw [valueAt_stored, if_pos rfl]
  have hto4 : (td, o4) ∈ (td, o4) :: (mu ++ nu3) := .head _
  k_steps
  refine wpAny_getItem_of (intKind_is _ _ _ _) (kda_dict N4 (.head _) hod4).mapOf hval ?_
  k_steps
  rename_i D' h5 F5 N5 l5
  refine Stop.mk (ne_dat (n₁ := nu3) (n₂ := [(D', tupO [] 0)]) N5 hr3 (fun q hq => .tail _ (.tail _ (List.mem_append_right _ hq))) (.tuple (.head _) .nil) (fun q hq => by rw [List.mem_singleton.mp hq]; exact .head _) (kqd_dom _) rfl (by ktr_units) ?_)
  intro b hb'
  k_steps
  rename_i kF kN _ _
  refine hret _ _ ((td, o4) :: mu) nu3 ⟨sm3.1.trans sm2.1, sm3.2.trans sm2.2⟩ kF (newsSub kN (fun q hq => .tail _ hq)) (fun q hq r hr => ?_) (sub2.trans sub3) ⟨o4, rfl, ?_, b, rfl, hb'.trans ?_⟩
  · rcases List.mem_cons.mp hq with rfl | hq
    · exact ap3 (td, o) (.head _) r hr
    · exact ap3 q (.tail _ hq) r hr
  · refine ⟨⟨dx, ld, n, kk, k1, k2, t1, t2, vs, D, _, hB3, hdx3, sub3 _ (sub2 _ hld), (hall.mono sub2).mono sub3, hD3, hod4, Nat.le_trans (stored_length_le _ _ _) (Nat.succ_le_succ hkl), hsm, fun y y0 y3 => ?_⟩, fun y => ?_⟩
    · rw [valueAt_stored]
      unfold upd
      by_cases hy : y = x
      · rw [if_pos hy, if_pos hy]
        exact .inl ⟨_, rfl, hr3⟩
      · rw [if_neg hy, if_neg hy]
        rcases hcur y y0 y3 with ⟨v, e, hv⟩ | r
        · exact .inl ⟨v, e, (hv.mono sub2).mono sub3⟩
        · exact .inr r
    · unfold upd
      split
      · exact hstl
      · exact hb.lots y
  · rw [show (Dat.tuple [] : Dat) = domD [] from rfl, domD_inj, ranges_nil hstl]
end PS8
local macro_rules | `(tactic| walk_at "exec For Name Name cons nil") => `(tactic| refine Stop.out ?_)
local macro_rules | `(tactic| walk_at "exec For Name Subscript cons nil") => `(tactic| refine Stop.out ?_)
local macro_rules | `(tactic| walk_at "exec For Name BinOp cons nil") => `(tactic| refine Stop.out ?_)
section PS9
noncomputable abbrev Lit := Int × Str × Int
noncomputable abbrev litP (p : Lit) : Dat := litD p.1 p.2.1 p.2.2
noncomputable def denyF : (Int → List Int) → List Lit → Option (Int → List Int)
  | lots, [] => some lots
  | lots, p :: r => if keepF (negS p.2.1) (negK p.2.1 p.2.2) (lots p.1) = [] then none else denyF (upd lots p.1 (keepF (negS p.2.1) (negK p.2.1 p.2.2) (lots p.1))) r
theorem apart_swap {p q : Addr × Obj} {mu nu : Led} (h : Apart (p :: q :: mu) nu) : Apart (q :: p :: mu) nu := fun x hx => h x (by
  rcases List.mem_cons.mp hx with rfl | hx
  · exact .tail _ (.head _)
  · rcases List.mem_cons.mp hx with rfl | hx
    · exact .head _
    · exact .tail _ (.tail _ hx))
theorem ForEnd.ret {h₀ : Heap} {L : Addr} {s : Shared} {I : Addr} {oI : Obj} {nu : Led} {J : (Str → Option Value) → Led → Led → Prop} {Q : Flow → Shared → Prop} {v : Value} {s' : Shared} (h : Q (.ret v) s') : ForEnd h₀ L s I oI nu J Q (.ret v) s' := h
theorem drop_at {α : Type} {c : List α} {i : Nat} {p : α} (h : c[i]? = some p) : c.drop i = p :: c.drop (i + 1) := by
  obtain ⟨h1, h2⟩ := List.getElem?_eq_some_iff.mp h
  rw [List.drop_eq_getElem_cons h1, h2]
set_option maxHeartbeats 8000000 in
theorem deny_spec {vq : Program} {w : World} {mean : ExcName → Option Value} {mg mb : Str → Option Value} {B td : Addr} {cv : Value} {c : List Lit} {o : Obj} {lots : Int → List Int} {nb : Nat} {mu nu : Led} (hb : BoxOk w o nu B td lots nb) (hnb : nb + c.length ≤ 1000) (hc : DatIn nu cv (.tuple (c.map litP))) (hok : ∀ p ∈ c, LitOk p) (hne : ∀ p ∈ mu, p.1 ≠ td) :
    Spec vq w mean mg mb 306 [.ref B, cv] 7 ((td, o) :: mu) nu (fun mu' nu' r => ∃ o', mu' = (td, o') :: mu ∧ ((∃ lots', denyF lots c = some lots' ∧ r = .bool true ∧ BoxOk w o' nu' B td lots' (nb + c.length)) ∨ (denyF lots c = none ∧ r = .bool false))) := by
  intro dp un gd cn cs a ccd cl outer A₀ base h₀ L m news s Q E B₀ F X N T hk hsp hap hd hu hret
  cases hsp
  obtain ⟨ca, n, vs, rfl, hcm, hall⟩ := tupD_inv hc
  obtain ⟨dx, ld, n', kk, k1, k2, t1, t2, vs', D, kvs, hB, hdx, _⟩ := hb.ex
  w_on
  refine wpAny_call ?_
  k_dflt ktr_enter
  rename_i g1 L1 h1 FG1 F1 N1 B1 X1 T1
  k_steps
  refine Stop.mk (for_eval F1 ?_)
  k_steps
  refine ForGoal.intro ((td, o) :: mu) nu (fun i m' mu' nu' => ∃ (o' : Obj) (lots' : Int → List Int) (u : Str → Option Value), m' = (fun y => if y = Str.ofString "self" then some (.ref B) else u y) ∧ mu' = (td, o') :: mu ∧ BoxOk w o' nu' B td lots' (nb + i) ∧ denyF lots' (c.drop i) = denyF lots c) (src_tuple rfl N1 hcm (fun p hp => .tail _ (List.mem_append_right _ hp))) (fr_set F1 rfl) N1 hap ⟨o, lots, _, rfl, rfl, hb, rfl⟩ ?_ ?_
  · rintro i v m' mu' nu' I oI s2 hi hP ⟨o', lots', u, rfl, rfl, hb', hden⟩ hsub hsm F2 N2 off ap2 R1 hR1
    obtain ⟨p, hp, hpd⟩ := datAll_at hall hP
    have hci : i < c.length := (List.getElem?_eq_some_iff.mp hp).1
    have hpok := hok p (List.mem_of_getElem? hp)
    have hpd' := hpd.mono hsub
    rw [drop_at hp, denyF] at hden
    have hB2 := hsub _ hB
    have hdx2 := hsub _ hdx
    have apI : Apart ((I, oI) :: (td, o') :: mu) nu' := apart_cons (fun q hq => Ne.symm (off q (List.mem_append_right _ hq))) ap2
    k_steps
    refine Stop.mk (Spec.on (negation_spec hpd') (by assumption) (by assumption) (by assumption) (by assumption) (by assumption) rfl (by assumption) (by walk_at "MY subs") (by ktr_room) (by ktr_units) ?_)
    rintro r3 s3 mu3 nu3 sm3 F3 N3 ap3 sub3 ⟨hmu, hr3⟩
    subst hmu
    have ap3' := apart_swap ap3
    have hB3 := sub3 _ hB2
    k_steps
    have hne' : ∀ q ∈ (I, oI) :: mu, q.1 ≠ td := fun q hq => by
      rcases List.mem_cons.mp hq with rfl | hq
      · exact fun e => off (td, o') (.head _) e.symm
      · exact hne q hq
    refine Stop.mk (Spec.on (say_spec (hb'.mono sub3) (by omega) hr3 hpok.lo hpok.hi (negS_signs hpok.sg) (negK_ks hpok.klo hpok.khi) hne') (by assumption) (by assumption) (by assumption) (by assumption) (by assumption) rfl (by assumption) (by walk_at "MY subs") (by ktr_room) (by ktr_units) ?_)
    rintro r4 s4 mu4 nu4 sm4 F4 N4 ap4 sub4 ⟨o4, hmu, hb4, b, rfl, hbb⟩
    subst hmu
    k_steps
    · rename_i hbt
      rw [if_neg (hbb.mp hbt)] at hden
      refine hR1 _ _ ⟨_, (td, o4) :: mu, nu4, hsm.trans ((Same.trans ⟨sm3.1, sm3.2⟩ sm4)), fr_set (x := Str.ofString "self") (v := .ref B) F4 rfl, newsSub N4 (by walk_at "MY sub"), fun q hq => ?_, fun q hq => ?_, (hsub.trans sub3).trans sub4, o4, _, _, rfl, rfl, hb4, hden⟩
      · rcases List.mem_append.mp hq with hq | hq
        · rcases List.mem_cons.mp hq with rfl | hq
          · exact off (td, o') (.head _)
          · exact off q (List.mem_append_left _ (.tail _ hq))
        · exact Ne.symm (ap4 (I, oI) (.tail _ (.head _)) q hq)
      · rcases List.mem_cons.mp hq with rfl | hq
        · exact ap4 _ (.head _)
        · exact ap4 q (.tail _ (.tail _ hq))
    · rename_i hbf
      have hz : keepF (negS p.2.1) (negK p.2.1 p.2.2) (lots' p.1) = [] := Classical.byContradiction fun e => by
        rw [hbb.mpr e] at hbf; cases hbf
      rw [if_pos hz] at hden
      refine hR1 _ _ (ForEnd.ret ?_)
      dsimp only
      k_steps
      rename_i kF kN _ _
      exact hret _ _ _ nu4 (Same.trans (⟨hsm.1, hsm.2⟩ : Same s s2) (Same.trans ⟨sm3.1, sm3.2⟩ sm4)) kF (newsSub kN (by walk_at "MY sub")) (fun q hq => by
        rcases List.mem_cons.mp hq with rfl | hq
        · exact ap4 _ (.head _)
        · exact ap4 q (.tail _ (.tail _ hq))) ((hsub.trans sub3).trans sub4) ⟨o4, rfl, .inr ⟨hden.symm, rfl⟩⟩
  · rintro m' mu' nu' s' ⟨o', lots', u, rfl, rfl, hb', hden⟩ hsm F2 N2 ap2 hsub
    rw [show vs.length = c.length by rw [hall.length, List.length_map], List.drop_length] at hden
    dsimp only
    k_steps
    rename_i kF kN _ _
    exact hret _ _ _ nu' ⟨hsm.1, hsm.2⟩ kF kN ap2 hsub ⟨o', rfl, .inl ⟨lots', hden.symm, rfl, by rw [hall.length, List.length_map] at hb'; exact hb'⟩⟩
end PS9
local macro_rules | `(tactic| k_all) => `(tactic| (refine' List.forall_mem_cons.mpr ⟨?a, ?b⟩; (case a => k_ne); (case b => k_all)))
local macro_rules | `(tactic| k_all) => `(tactic| exact fun p hp => Nat.ne_of_lt (Nat.lt_of_lt_of_le ((by assumption : ∀ q ∈ _, q.1 < _) p hp) (by (show @LE.le Nat _ _ _); (try dsimp only); omega)))
section PS10
noncomputable abbrev clD (c : List Lit) : Dat := .tuple (c.map litP)
noncomputable abbrev keepP (lots : Int → List Int) (p : Lit) : List Int := keepF p.2.1 p.2.2 (lots p.1)
noncomputable def holdsB (lots : Int → List Int) (p : Lit) : Bool := decide (keepP lots p = lots p.1)
noncomputable def canB (lots : Int → List Int) (p : Lit) : Bool := decide (keepP lots p ≠ [])
noncomputable def linesF : (Int → List Int) → List (List Lit) → Bool
  | _, [] => false
  | lots, l :: r => if l.filter (holdsB lots) ≠ [] then linesF lots r else
    match l.filter (canB lots) with
    | [] => true
    | [p] => linesF (upd lots p.1 (keepP lots p)) r
    | _ => false
noncomputable def goF (lots : Int → List Int) (c : List Lit) (ls : List (List Lit)) : Bool :=
  if lots 0 = [] ∨ lots 1 = [] ∨ lots 2 = [] then true else match denyF lots c with
    | none => true
    | some lots' => linesF lots' ls
noncomputable def rng (lots : Int → List Int) : List (List (Int × Int)) := [rangesF (lots 0), rangesF (lots 1), rangesF (lots 2)]
noncomputable abbrev chkE (h1 h2 h3 h4 : Int) (t1 t2 t3 t4 : Tok) (ld : Addr) (v2 v3 v4 : Value) : List DictEntry := [⟨h1, .str (Str.ofString "domains") t1, .ref ld⟩, ⟨h2, .str (Str.ofString "tolds") t2, v2⟩, ⟨h3, .str (Str.ofString "goal") t3, v3⟩, ⟨h4, .str (Str.ofString "judge") t4, v4⟩]
/-- a LogChecker over the ranges of lots -/
structure ChkOk (nu : Led) (ck ld : Addr) (lots : Int → List Int) : Prop where
  ex : ∃ (dx n k : Nat) (h1 h2 h3 h4 : Int) (t1 t2 t3 t4 : Tok) (v2 v3 v4 : Value) (vs : List Value), (ck, instObj 451 dx) ∈ nu ∧ (dx, dictOf (chkE h1 h2 h3 h4 t1 t2 t3 t4 ld v2 v3 v4) k) ∈ nu ∧ (ld, lstO vs n) ∈ nu ∧ DatAll nu vs ((rng lots).map domD)
  lots : ∀ x : Int, lots x ∈ allLots
theorem kqd_dom8 (d : List (Int × Int)) : kqdOk 8 (domD d) = true := by
  simp [kqdOk]
theorem box_new {w : World} {o : Obj} {nu : Led} {x d td ld n k : Nat} {vs : List Value} {lots : Int → List Int} {h1 h2 : Int} {t1 t2 : Tok} (hld : (ld, lstO vs n) ∈ nu) (hall : DatAll nu vs ((rng lots).map domD)) (hsm : (td == sysModules) = false) (hi : o.IsDictOf (PySem.intKind PySem.Challenge.rw_pc0058_01.row.prog w) []) (hl : ∀ x : Int, lots x ∈ allLots) :
    BoxOk w o ((x, instObj 309 d) :: (d, dictOf (boxE h1 h2 t1 t2 ld td) k) :: nu) x td lots 0 where
  ex := ⟨d, ld, n, k, h1, h2, t1, t2, vs, rng lots, [], .head _, .tail _ (.head _), .tail _ (.tail _ hld), hall.mono (sub_cons.trans sub_cons), rfl, hi, Nat.le_refl _, hsm, fun x x0 x3 => .inr ⟨rfl, by
    have : x = 0 ∨ x = 1 ∨ x = 2 := by omega
    rcases this with rfl | rfl | rfl <;> rfl⟩⟩
  lots := hl
local macro_rules | `(tactic| ktr_room) => `(tactic| (dsimp only [ktrTop, Around.deeper, Around.under] at *; omega))
local macro_rules | `(tactic| walk_at "call ref") => `(tactic| (k_here; k_dflt (refine' call_cls ?k1 ?k2 ?k3 ?k4 ?k5 ?k6 ?_; (case k1 => k_asm); (case k2 => k_asm); (case k3 => k_asm); (case k4 => k_is); (case k5 => k_is); (case k6 => k_is); k_whole; intro x' d' h' F' N' l1 l2; (try k_lt l1); (try k_lt2 l2); (refine' code_def ?k1 ?k2 ?k3 ?k4 ?k5 ?kA ?kF ?kK ?k6 ?k7 ?k8 ?k9 ?kB ?_ ?c2 ?c3 ?c4 ?c5; (case kA => exact rfl); (case kF => exact rfl); (case kK => first | exact rfl | assumption); (case k1 => k_asm); (case k2 => k_asm); (case k3 => k_asm); (case k4 => k_asm); (case k5 => k_asm); (case k6 => k_is); (case k7 => k_is); (case k8 => ktr_room); (case k9 => exact BindsTo.of_eq rfl); (case c5 => decide); (case kB => exact locs rfl); (case c2 => exact rfl); (case c3 => exact rfl); (case c4 => exact rfl); k_whole; intro g' L' h' FG' F' N' B' X' T'; (try dsimp only); (try k_fold)))))
local macro_rules | `(tactic| walk_at "subscriptTail") => `(tactic| (k_here; (with_reducible show wpAny _ _ (subscriptTail _ _ (Value.ref _) (Value.int _ _)) _ _ _); k_dflt (refine' item_lst ?N ?m ?a ?b ?c ?d ?_; (case N => k_asm); (case m => k_mem); (case a => assumption); (case b => omega); (case c => (simp only [List.length_map]; omega)); (case d => (simp only [List.length_map]; omega)); k_whole); intro v' d' hd' hv'))
local macro_rules | `(tactic| walk_at "compareOp Eq") => `(tactic| refine Stop.out ?_)
local macro_rules | `(tactic| walk_at "compareOp NotEq") => `(tactic| refine Stop.out ?_)
local macro_rules | `(tactic| walk_at "compareOp In ref ref") => `(tactic| refine Stop.out ?_)
local macro_rules | `(tactic| walk_at "compareOp In") => `(tactic| refine Stop.out ?_)
theorem decT {p : Prop} {i : Decidable p} (h : @decide p i = true) : p := @of_decide_eq_true p i h
theorem decF {p : Prop} {i : Decidable p} (h : @decide p i = false) : ¬ p := @of_decide_eq_false p i h
theorem filter_yes {α : Type} {f : α → Bool} {l : List α} {p : α} (h : f p = true) : (l ++ [p]).filter f = l.filter f ++ [p] := by rw [List.filter_append]; simp [h]
theorem filter_no {α : Type} {f : α → Bool} {l : List α} {p : α} (h : f p = false) : (l ++ [p]).filter f = l.filter f := by rw [List.filter_append]; simp [h]
theorem signs_ok : ∀ sg ∈ signs, PyData.strOk sg = true := by decide +kernel
theorem kqd_lits {l : List Lit} (h : ∀ p ∈ l, LitOk p) : kqdOk 9 (.list (l.map litP)) = true := by
  simp [kqdOk]
  exact fun x sg k hm => signs_ok _ (h _ hm).sg
theorem BoxOk.le {w : World} {o : Obj} {nu : Led} {B td : Addr} {lots : Int → List Int} {nb nb' : Nat} (h : BoxOk w o nu B td lots nb) (hn : nb ≤ nb') : BoxOk w o nu B td lots nb' := by
  obtain ⟨dx, ld, n, k, k1, k2, t1, t2, vs, D, kvs, hB, hdx, hld, hall, hD3, hod, hkl, hsm, hcur⟩ := h.ex
  exact ⟨⟨dx, ld, n, k, k1, k2, t1, t2, vs, D, kvs, hB, hdx, hld, hall, hD3, hod, Nat.le_trans hkl hn, hsm, hcur⟩, h.lots⟩
theorem lits_nil {l : List Lit} : ¬ (Dat.list (l.map litP) = .list []) ↔ l ≠ [] := by
  rw [Dat.list.injEq, List.map_eq_nil_iff]
theorem apart3 {I C D : Addr} {oI oC oD : Obj} {mu nu : Led} (off : ∀ p ∈ mu ++ nu, p.1 ≠ I ∧ p.1 ≠ C ∧ p.1 ≠ D) (ap : Apart mu nu) : Apart ((I, oI) :: (C, oC) :: (D, oD) :: mu) nu :=
  apart_cons (fun q hq => Ne.symm (off q (List.mem_append_right _ hq)).1) (apart_cons (fun q hq => Ne.symm (off q (List.mem_append_right _ hq)).2.1) (apart_cons (fun q hq => Ne.symm (off q (List.mem_append_right _ hq)).2.2) ap))
theorem off3 {I C D : Addr} {oI oC oD : Obj} {mu nu nu' : Led} (off : ∀ p ∈ mu ++ nu, p.1 ≠ I ∧ p.1 ≠ C ∧ p.1 ≠ D) (ap : Apart ((I, oI) :: (C, oC) :: (D, oD) :: mu) nu') : ∀ p ∈ mu ++ nu', p.1 ≠ I ∧ p.1 ≠ C ∧ p.1 ≠ D := fun p hp => by
  rcases List.mem_append.mp hp with hp | hp
  · exact off p (List.mem_append_left _ hp)
  · exact ⟨Ne.symm (ap _ (.head _) p hp), Ne.symm (ap _ (.tail _ (.head _)) p hp), Ne.symm (ap _ (.tail _ (.tail _ (.head _))) p hp)⟩
theorem turnEnd_call {h₀ : Heap} {L : Addr} {m : Str → Option Value} {s s' : Shared} {I C D : Addr} {oI oC : Obj} {nu mu' nu1 nu' : Led} {J : List Value → Led → Led → Prop} {old ys : List Value} {m₂ : Str → Option Value} (F : Fr h₀ L s'.heap m) (N : News h₀ L s'.heap (((I, oI) :: (C, oC) :: (D, lst old) :: mu') ++ nu')) (hC : NsObj oC m₂) (off : ∀ p ∈ mu' ++ nu1, p.1 ≠ I ∧ p.1 ≠ C ∧ p.1 ≠ D)
    (sm : Same s s') (hap : Apart ((I, oI) :: (C, oC) :: (D, lst old) :: mu') nu') (hsub : Sub nu nu') (hJ : J ys mu' nu') : TurnEnd h₀ L m s I oI C D nu J old ys s' :=
  ⟨oC, m₂, mu', nu', sm, F, N, hC, off3 off hap, apart_tail (apart_tail (apart_tail hap)), hsub, hJ⟩
theorem news_box {h₀ h : Heap} {L : Addr} {p1 p2 p3 p4 p5 : Addr × Obj} {mu nu : Led} (N : News h₀ L h (p1 :: p2 :: p3 :: p4 :: p5 :: (mu ++ nu))) : News h₀ L h ((p2 :: p5 :: mu) ++ (p1 :: p3 :: p4 :: nu)) := newsSub N (by walk_at "MY sub")
set_option maxHeartbeats 8000000 in
theorem clashes_spec {vq : Program} {w : World} {mean : ExcName → Option Value} {mg mb : Str → Option Value} {ck ld : Addr} {cv lv : Value} {c : List Lit} {ls : List (List Lit)} {lots : Int → List Int} {mu nu : Led} (hb : ChkOk nu ck ld lots) (hnb : c.length + ls.length ≤ 500) (hc : DatIn nu cv (clD c)) (hok : ∀ p ∈ c, LitOk p) (hls : DatIn nu lv (.list (ls.map clD))) (hoks : ∀ l ∈ ls, l.length ≤ 100 ∧ ∀ p ∈ l, LitOk p) :
    Spec vq w mean mg mb 427 [.ref ck, cv, lv] 9 mu nu (fun mu' nu' r => mu' = mu ∧ r = .bool (goF lots c ls)) := by
  intro dp un gd cn cs a ccd cl outer A₀ base h₀ L m news s Q E B F X N T hk hsp hap hd hu hret
  cases hsp
  obtain ⟨dx, n, k, k1, k2, k3, k4, t1, t2, t3, t4, v2, v3, v4, vs, hck, hdx, hld, hall⟩ := hb.ex
  obtain ⟨ca, cn', cvs, rfl, hcm, hcall⟩ := tupD_inv hc
  obtain ⟨la, ln, lvs, rfl, hlm, hlall⟩ := listD_inv hls
  w_on
  refine wpAny_call ?_
  k_dflt walk_at "MY enterC"
  rename_i g1 L1 h1 tk1 FG1 F1 B1 X1 T1 l1 o1 hd1 N1
  k_steps
  rename_i x2 d2 _ l1x l2 _ _ _ _ _ _ _ _ td _ o2 lo2 _ _ hi2 _ l3 _ _ _ _ _ _ oc hoc D2 h2 F2 N2 l4
  refine Stop.mk (kqd_isIn (n₁ := nu) (n₂ := [(D2, tupO [] 0)]) (d := domD []) N2 (by walk_at "MY mem") rfl rfl hall (by walk_at "MY sub") (.tuple (.head _) .nil) (by walk_at "MY sub") (fun d hd => by obtain ⟨e, _, rfl⟩ := List.mem_map.mp hd; exact kqd_dom8 e) (kqd_dom8 _) (by ktr_units) ?_)
  k_steps
  · rename_i hin kF kN _ _
    have hgo : goF lots c ls = true := by
      unfold goF
      rw [if_pos]
      have hm := decT hin
      simp only [rng, List.map_cons, List.map_nil, List.mem_cons, List.not_mem_nil, or_false, domD_inj] at hm
      exact hm.imp (fun e => (ranges_nil (hb.lots 0)).mp e.symm) fun hm => hm.imp (fun e => (ranges_nil (hb.lots 1)).mp e.symm) fun e => (ranges_nil (hb.lots 2)).mp e.symm
    exact hret _ _ mu nu ⟨rfl, rfl⟩ kF (newsSub kN (by walk_at "MY subs")) hap (Sub.refl _) ⟨rfl, by rw [hgo]⟩
  · rename_i hin
    have hne0 : ¬ (lots 0 = [] ∨ lots 1 = [] ∨ lots 2 = []) := fun h => by
      have : domD [] ∈ (rng lots).map domD := by
        simp only [rng, List.map_cons, List.map_nil, List.mem_cons, List.not_mem_nil, or_false, domD_inj]
        exact h.imp (fun e => ((ranges_nil (hb.lots 0)).mpr e).symm) fun h => h.imp (fun e => ((ranges_nil (hb.lots 1)).mpr e).symm) fun e => ((ranges_nil (hb.lots 2)).mpr e).symm
      exact absurd this (decF hin)
    obtain ⟨q1, q2, u1, u2, kk, N3, hbx⟩ : ∃ q1 q2 u1 u2 kk, News g1 L1 h2 (((td, o2) :: (L1 + 1, oc) :: mu) ++ ((D2, tupO [] 0) :: (x2, instObj 309 d2) :: (d2, dictOf (boxE q1 q2 u1 u2 ld td) kk) :: nu)) ∧ BoxOk w o2 ((D2, tupO [] 0) :: (x2, instObj 309 d2) :: (d2, dictOf (boxE q1 q2 u1 u2 ld td) kk) :: nu) x2 td lots 0 :=
      ⟨_, _, _, _, _, news_box N2, (box_new hld hall lo2 hi2 hb.lots).mono sub_cons⟩
    have l5 := ktn_ltOf l4.2.2.2.2
    have l6 := ktn_ltOf l1x.2
    have l7 := ktn_ltOf l3.2.2.2
    have ap3 : Apart ((td, o2) :: (L1 + 1, oc) :: mu) ((D2, tupO [] 0) :: (x2, instObj 309 d2) :: (d2, dictOf (boxE q1 q2 u1 u2 ld td) kk) :: nu) := by
      have hx2 : ∀ r ∈ mu ++ nu, r.1 < x2 := fun r hr => Nat.lt_trans (l6 r hr) l2
      refine apart_cons (fun q hq => ?_) (apart_cons (fun q hq => ?_) (apart_mid (fun r hr => ?_) (apart_mid2 hx2 l6 hap)))
      · rcases List.mem_cons.mp hq with rfl | hq
        · exact Nat.ne_of_lt l4.1
        · rcases List.mem_cons.mp hq with rfl | hq
          · exact Nat.ne_of_gt l3.1
          · rcases List.mem_cons.mp hq with rfl | hq
            · exact Nat.ne_of_gt l3.2.1
            · exact Nat.ne_of_gt (l7 q (List.mem_append_right _ hq))
      · rcases List.mem_cons.mp hq with rfl | hq
        · exact Nat.ne_of_lt l4.2.2.2.1
        · rcases List.mem_cons.mp hq with rfl | hq
          · exact Nat.ne_of_lt (Nat.lt_trans l1x.1 l2)
          · rcases List.mem_cons.mp hq with rfl | hq
            · exact Nat.ne_of_lt l1x.1
            · exact Nat.ne_of_gt (Nat.lt_succ_of_lt (l1 q (List.mem_append_right _ hq)))
      · rcases List.mem_append.mp hr with hr | hr
        · exact l5 r (List.mem_append_left _ hr)
        · rcases List.mem_cons.mp hr with rfl | hr
          · exact l4.2.1
          · rcases List.mem_cons.mp hr with rfl | hr
            · exact l4.2.2.1
            · exact l5 r (List.mem_append_right _ hr)
    clear N2
    have hlm3 : (la, lstO lvs ln) ∈ ((D2, tupO [] 0) :: (x2, instObj 309 d2) :: (d2, dictOf (boxE q1 q2 u1 u2 ld td) kk) :: nu) := .tail _ (.tail _ (.tail _ hlm))
    generalize hnu3 : (D2, tupO [] 0) :: (x2, instObj 309 d2) :: (d2, dictOf (boxE q1 q2 u1 u2 ld td) kk) :: nu = nu3 at N3 hbx ap3 hlm3
    have hB3 : (x2, instObj 309 d2) ∈ nu3 := hnu3 ▸ .tail _ (.head _)
    have hdx3 : (d2, dictOf (boxE q1 q2 u1 u2 ld td) kk) ∈ nu3 := hnu3 ▸ .tail _ (.tail _ (.head _))
    have hsub3 : Sub nu nu3 := hnu3 ▸ fun q hq => .tail _ (.tail _ (.tail _ hq))
    have hne3 : ∀ p ∈ (L1 + 1, oc) :: mu, p.1 ≠ td := fun p hp => by
      rcases List.mem_cons.mp hp with rfl | hp
      · exact Nat.ne_of_lt l3.2.2.1
      · exact Nat.ne_of_lt (l7 p (List.mem_append_left _ hp))
    refine Stop.mk (Spec.on (deny_spec hbx (by omega) (hc.mono hsub3) hok hne3) (by assumption) (by assumption) (by assumption) (by assumption) (by assumption) rfl (by assumption) (by walk_at "MY subs") (by ktr_room) (by ktr_units) ?_)
    rintro r4 s4 mu4 nu4 sm4 F4 N4 ap4 sub4 ⟨o4, hmu, hr4⟩
    subst hmu
    have hB4 := sub4 _ hB3
    have hdx4 := sub4 _ hdx3
    have hlm4 := sub4 _ hlm3
    rcases hr4 with ⟨lots4, hden, rfl, hb4⟩ | ⟨hden, rfl⟩
    · k_steps
      refine Stop.mk (for_eval F4 ?_)
      k_steps
      refine ForGoal.intro ((td, o4) :: (L1 + 1, oc) :: mu) nu4 (fun i m' mu' nu' => ∃ (o' : Obj) (lots' : Int → List Int), mu' = (td, o') :: (L1 + 1, oc) :: mu ∧ BoxOk w o' nu' x2 td lots' (c.length + i) ∧ linesF lots' (ls.drop i) = linesF lots4 ls) (src_list rfl N4 hlm4 (fun p hp => List.mem_append_right _ hp)) F4 N4 ap4 ⟨o4, lots4, rfl, by rw [Nat.zero_add] at hb4; exact hb4, rfl⟩ ?_ ?_
      · rintro i v m' mu' nu' I oI s5 hi hP ⟨o', lots5, rfl, hb5, hlin⟩ hsub5 hsm5 F5 N5 off5 ap5 R1 hR1
        obtain ⟨l, hl, hld'⟩ := datAll_at (hlall.mono (hsub3.trans (sub4.trans hsub5))) hP
        have hil : i < ls.length := (List.getElem?_eq_some_iff.mp hl).1
        obtain ⟨hllen, hlok⟩ := hoks l (List.mem_of_getElem? hl)
        obtain ⟨va, vn, vvs, rfl, hvm, hvall⟩ := tupD_inv hld'
        have hvlen : vvs.length = l.length := by rw [hvall.length, List.length_map]
        rw [drop_at hl, linesF] at hlin
        have hB5 := hsub5 _ hB4
        have hdx5 := hsub5 _ hdx4
        have ap6 : Apart ((I, oI) :: (td, o') :: (L1 + 1, oc) :: mu) nu' := apart_cons (fun q hq => Ne.symm (off5 q (List.mem_append_right _ hq))) ap5
        k_steps
        rename_i h6 F6 N6
        refine Stop.mk (comp_eval (cl := [(Str.ofString "box", L1 + 1)]) F6 (by with_unfolding_all rfl) (by decide) rfl (by decide) ?_)
        k_steps
        refine CompGoal.intro ((I, oI) :: (td, o') :: (L1 + 1, oc) :: mu) nu' (fun j ys mu' nu'' => mu' = (I, oI) :: (td, o') :: (L1 + 1, oc) :: mu ∧ DatAll nu'' ys (((l.take j).filter (holdsB lots5)).map litP)) (src_tuple rfl N6 hvm (fun p hp => .tail _ (List.mem_append_right _ hp))) (by rw [hvlen, sizeLine_eq]; omega) F6 N6 ap6 ⟨rfl, .nil⟩ ?_ ?_
        · rintro j v ys mu' nu7 I2 oI2 C oC D m₂ s7 hj hP7 hyl ⟨rfl, hys⟩ hsub7 hsm7 hoC F7 N7 off7 hIC hID hCD ap7 R2 hR2
          obtain ⟨p, hp, hpd⟩ := datAll_at hvall hP7
          have hpok := hlok p (List.mem_of_getElem? hp)
          have hB7 := hsub7 _ hB5
          have hdx7 := hsub7 _ hdx5
          refine turn_name rfl rfl hoC F7 N7 off7 hIC hCD ?_
          intro h8 oC8 m8 hoC8 hlit F8 N8
          have ap8 := apart3 (oI := oI2) (oC := oC8) (oD := lst ys) off7 ap7
          refine wpAny_tests_one ?_
          k_steps
          refine Stop.mk (Spec.on (does_hold_spec (hb5.mono hsub7) (.tail _ (.tail _ (.tail _ (.tail _ (.head _))))) (hpd.mono hsub7) hpok.lo hpok.hi hpok.sg (ks_of (Int.le_trans (by decide) hpok.klo) (Int.le_trans hpok.khi (by decide)))) (by assumption) (by assumption) (by assumption) (by assumption) (by assumption) rfl (by assumption) (by walk_at "MY subs") (by ktr_room) (by ktr_units) ?_)
          rintro r9 s9 mu9 nu9 sm9 F9 N9 ap9 sub9 ⟨hmu, b9, rfl, hb9⟩
          subst hmu
          k_steps
          · refine hR2 _ _ (turnEnd_call F9 N9 hoC8 off7 ⟨sm9.1.trans hsm7.1, sm9.2.trans hsm7.2⟩ ap9 (hsub7.trans sub9) ⟨rfl, ?_⟩)
            rename_i hbt
            rw [take_snoc hp, filter_yes (f := holdsB lots5) (decide_eq_true (hb9.mp hbt)), List.map_append]
            exact datAll_snoc (hys.mono sub9) ((hpd.mono hsub7).mono sub9)
          · refine hR2 _ _ (turnEnd_call F9 N9 hoC8 off7 ⟨sm9.1.trans hsm7.1, sm9.2.trans hsm7.2⟩ ap9 (hsub7.trans sub9) ⟨rfl, ?_⟩)
            rename_i hbt
            rw [take_snoc hp, filter_no (f := holdsB lots5) (decide_eq_false fun e => by rw [hb9.mpr e] at hbt; cases hbt)]
            exact hys.mono sub9
        · rintro ys D mu' nu7 s7 ⟨rfl, hys⟩ hsm7 F7 N7 hD ap7 hsub7
          rw [hvlen, List.take_length] at hys
          have hDD : DatIn ((D, lst ys) :: nu7) (.ref D) (.list ((l.filter (holdsB lots5)).map litP)) := .list (.head _) (hys.mono sub_cons)
          k_steps
          rename_i D0 h8 F8 N8 l8
          refine Stop.mk (ne_dat (n₂ := [(D0, lstO [] 0)]) N8 hDD (by walk_at "MY sub") (.list (.head _) .nil) (by walk_at "MY sub") (kqd_lits fun p hp => hlok p (List.mem_filter.mp hp).1) rfl (by ktr_units) ?_)
          intro b hb
          rw [lits_nil] at hb
          have hB7 := hsub7 _ hB5
          have hdx7 := hsub7 _ hdx5
          k_steps
          · rename_i hbt
            rw [if_pos (hb.mp hbt)] at hlin
            refine hR1 _ _ ⟨_, (td, o') :: (L1 + 1, oc) :: mu, nu7, ⟨hsm7.1.trans hsm5.1, hsm7.2.trans hsm5.2⟩, F8, newsSub N8 (by walk_at "MY sub"), fun q hq => ?_, apart_tail ap7, hsub5.trans hsub7, o', lots5, rfl, (hb5.mono hsub7).le (by omega), hlin⟩
            · rcases List.mem_append.mp hq with hq | hq
              · exact off5 q (List.mem_append_left _ hq)
              · exact Ne.symm (ap7 _ (.head _) q hq)
          · rename_i hbt
            rw [if_neg (fun e => by rw [hb.mpr e] at hbt; cases hbt)] at hlin
            have N9 : News g1 L1 h8 (((I, oI) :: (td, o') :: (L1 + 1, oc) :: mu) ++ nu7) := newsSub N8 (by walk_at "MY sub")
            have hvm7 := hsub7 _ hvm
            have hvall7 := hvall.mono hsub7
            have hb7 := hb5.mono hsub7
            clear N8 hys hDD
            refine Stop.mk (comp_assign (cl := [(Str.ofString "box", L1 + 1)]) F8 rfl (by with_unfolding_all rfl) (by with_unfolding_all rfl) (by decide) rfl (by decide) (by with_unfolding_all rfl) (by with_unfolding_all rfl) ?_)
            k_steps
            refine CompGoal.intro ((I, oI) :: (td, o') :: (L1 + 1, oc) :: mu) nu7 (fun j ys mu' nu'' => mu' = (I, oI) :: (td, o') :: (L1 + 1, oc) :: mu ∧ DatAll nu'' ys (((l.take j).filter (canB lots5)).map litP)) (src_tuple rfl N9 hvm7 (fun p hp => List.mem_append_right _ hp)) (by rw [hvlen, sizeLine_eq]; omega) F8 N9 ap7 ⟨rfl, .nil⟩ ?_ ?_
            · rintro j v ys mu' nu8 I2 oI2 C oC D m₂ s7 hj hP7 hyl ⟨rfl, hys⟩ hsub8 hsm7 hoC F7 N7 off7 hIC hID hCD ap8 R3 hR3
              obtain ⟨p, hp, hpd⟩ := datAll_at hvall7 hP7
              have hpok := hlok p (List.mem_of_getElem? hp)
              have hB8 := hsub8 _ hB7
              have hdx8 := hsub8 _ hdx7
              refine turn_name rfl rfl hoC F7 N7 off7 hIC hCD ?_
              intro h8 oC8 m8 hoC8 hlit F8 N8
              have ap8 := apart3 (oI := oI2) (oC := oC8) (oD := lst ys) off7 ap8
              refine wpAny_tests_one ?_
              k_steps
              refine Stop.mk (Spec.on (can_hold_spec (hb7.mono hsub8) (.tail _ (.tail _ (.tail _ (.tail _ (.head _))))) (hpd.mono hsub8) hpok.lo hpok.hi hpok.sg (ks_of (Int.le_trans (by decide) hpok.klo) (Int.le_trans hpok.khi (by decide)))) (by assumption) (by assumption) (by assumption) (by assumption) (by assumption) rfl (by assumption) (by walk_at "MY subs") (by ktr_room) (by ktr_units) ?_)
              rintro r9 s9 mu9 nu9 sm9 F9 N9 ap9 sub9 ⟨hmu, b9, rfl, hb9⟩
              subst hmu
              k_steps
              · refine hR3 _ _ (turnEnd_call F9 N9 hoC8 off7 ⟨sm9.1.trans hsm7.1, sm9.2.trans hsm7.2⟩ ap9 (hsub8.trans sub9) ⟨rfl, ?_⟩)
                rename_i hbt
                rw [take_snoc hp, filter_yes (f := canB lots5) (decide_eq_true (hb9.mp hbt)), List.map_append]
                exact datAll_snoc (hys.mono sub9) ((hpd.mono hsub8).mono sub9)
              · refine hR3 _ _ (turnEnd_call F9 N9 hoC8 off7 ⟨sm9.1.trans hsm7.1, sm9.2.trans hsm7.2⟩ ap9 (hsub8.trans sub9) ⟨rfl, ?_⟩)
                rename_i hbt
                rw [take_snoc hp, filter_no (f := canB lots5) (decide_eq_false fun e => by rw [hb9.mpr e] at hbt; cases hbt)]
                exact hys.mono sub9
            · rintro ys D mu' nu8 s9 ⟨rfl, hys⟩ hsm9 F9' N9' hD ap9 hsub9 s9' hsm9' F9 N9
              rw [hvlen, List.take_length] at hys
              have hDm : (D, lst ys) ∈ (D, lst ys) :: nu8 := .head _
              have hDD : DatIn ((D, lst ys) :: nu8) (.ref D) (.list ((l.filter (canB lots5)).map litP)) := .list (.head _) (hys.mono sub_cons)
              have hylen : ys.length = (l.filter (canB lots5)).length := by rw [hys.length, List.length_map]
              have hyll : (l.filter (canB lots5)).length ≤ l.length := List.length_filter_le _ _
              have hB9 := hsub9 _ hB7
              have hdx9 := hsub9 _ hdx7
              clear F9' N9'
              k_steps
              rename_i D0 h8 F8 N8 l8
              refine Stop.mk (eq_dat (n₂ := [(D0, lstO [] 0)]) N8 hDD (by walk_at "MY sub") (.list (.head _) .nil) (by walk_at "MY sub") (kqd_lits fun p hp => hlok p (List.mem_filter.mp hp).1) rfl (by ktr_units) ?_)
              intro b2 hb2
              rw [Dat.list.injEq, List.map_eq_nil_iff] at hb2
              have N8' : News g1 L1 h8 (((I, oI) :: (td, o') :: (L1 + 1, oc) :: mu) ++ ((D, lst ys) :: nu8)) := newsSub N8 (by walk_at "MY sub")
              clear N8
              by_cases hfl : l.filter (canB lots5) = []
              · obtain rfl : b2 = true := hb2.mpr hfl
                k_steps
                dsimp only
                k_steps
                refine hR1 _ _ (ForEnd.ret ?_)
                dsimp only
                k_steps
                rename_i kF kN _ _
                refine hret _ _ mu nu8 ⟨(((hsm9'.1.trans hsm9.1).trans hsm7.1).trans hsm5.1).trans sm4.1, (((hsm9'.2.trans hsm9.2).trans hsm7.2).trans hsm5.2).trans sm4.2⟩ kF (newsSub kN (by walk_at "MY sub")) (apart_tail (apart_tail (apart_tail ap9))) (hsub3.trans (sub4.trans (hsub5.trans (hsub7.trans hsub9)))) ⟨rfl, ?_⟩
                rw [hfl] at hlin
                unfold goF; rw [if_neg hne0, hden]; dsimp only; rw [← hlin]
              · obtain rfl : b2 = false := Bool.eq_false_iff.mpr fun e => hfl (hb2.mp e)
                obtain ⟨p, rest, hfil⟩ := List.exists_cons_of_ne_nil hfl
                rw [hfil] at hys hylen hyll hlin hDD
                have hpm : p ∈ l := (List.mem_filter.mp (hfil ▸ List.mem_cons_self .. : p ∈ l.filter (canB lots5))).1
                have hpc : keepP lots5 p ≠ [] := of_decide_eq_true (List.mem_filter.mp (hfil ▸ List.mem_cons_self .. : p ∈ l.filter (canB lots5))).2
                have hpok := hlok p hpm
                have hylr : (p :: rest).length = rest.length + 1 := rfl
                k_steps
                · rename_i hgt
                  dsimp only
                  k_steps
                  refine hR1 _ _ (ForEnd.ret ?_)
                  dsimp only
                  k_steps
                  rename_i kF kN _ _
                  refine hret _ _ mu nu8 ⟨(((hsm9'.1.trans hsm9.1).trans hsm7.1).trans hsm5.1).trans sm4.1, (((hsm9'.2.trans hsm9.2).trans hsm7.2).trans hsm5.2).trans sm4.2⟩ kF (newsSub kN (by walk_at "MY sub")) (apart_tail (apart_tail (apart_tail ap9))) (hsub3.trans (sub4.trans (hsub5.trans (hsub7.trans hsub9)))) ⟨rfl, ?_⟩
                  obtain ⟨p2, rest2, rfl⟩ : ∃ p2 rest2, rest = p2 :: rest2 := List.exists_cons_of_ne_nil fun e => by subst e; simp at hgt
                  unfold goF; rw [if_neg hne0, hden]; dsimp only; rw [← hlin]
                · rename_i hgt v' d' hd' hv'
                  obtain rfl : rest = [] := List.eq_nil_of_length_eq_zero (by omega)
                  obtain rfl : litP p = d' := by simpa using hd'
                  have hne' : ∀ q ∈ (I, oI) :: (L1 + 1, oc) :: mu, q.1 ≠ td := fun q hq => by
                    rcases List.mem_cons.mp hq with rfl | hq
                    · exact fun e => off5 (td, o') (.head _) e.symm
                    · exact hne3 q hq
                  have ap10 := apart_swap ap9
                  refine Stop.mk (Spec.on (say_spec (hb7.mono hsub9) (by omega) hv' hpok.lo hpok.hi hpok.sg (ks_of (Int.le_trans (by decide) hpok.klo) (Int.le_trans hpok.khi (by decide))) hne') (by assumption) (by assumption) (by assumption) (by assumption) (by assumption) rfl (by assumption) (by walk_at "MY subs") (by ktr_room) (by ktr_units) ?_)
                  rintro r11 s11 mu11 nu11 sm11 F11 N11 ap11 sub11 ⟨o11, hmu, hb11, b11, rfl, hbb11⟩
                  subst hmu
                  obtain rfl : b11 = true := hbb11.mpr hpc
                  k_steps
                  refine hR1 _ _ ⟨_, (td, o11) :: (L1 + 1, oc) :: mu, nu11, ⟨((((sm11.1.trans hsm9'.1).trans hsm9.1).trans hsm7.1).trans hsm5.1), ((((sm11.2.trans hsm9'.2).trans hsm9.2).trans hsm7.2).trans hsm5.2)⟩, F11, newsSub N11 (by walk_at "MY sub"), fun q hq => ?_, fun q hq => ?_, hsub5.trans (hsub7.trans (hsub9.trans sub11)), o11, _, rfl, hb11, hlin⟩
                  · rcases List.mem_append.mp hq with hq | hq
                    · rcases List.mem_cons.mp hq with rfl | hq
                      · exact off5 (td, o') (.head _)
                      · exact off5 q (List.mem_append_left _ (.tail _ hq))
                    · exact Ne.symm (ap11 (I, oI) (.tail _ (.head _)) q hq)
                  · rcases List.mem_cons.mp hq with rfl | hq
                    · exact ap11 _ (.head _)
                    · exact ap11 q (.tail _ (.tail _ hq))
      · rintro m' mu' nu' s' ⟨o', lots5, rfl, hb5, hlin⟩ hsm5 F5 N5 ap5 hsub5
        rw [show lvs.length = ls.length by rw [hlall.length, List.length_map], List.drop_length, linesF] at hlin
        dsimp only
        k_steps
        rename_i kF kN _ _
        refine hret _ _ mu nu' ⟨hsm5.1.trans sm4.1, hsm5.2.trans sm4.2⟩ kF (newsSub kN (by walk_at "MY sub")) (apart_tail (apart_tail ap5)) (hsub3.trans (sub4.trans hsub5)) ⟨rfl, ?_⟩
        unfold goF; rw [if_neg hne0, hden]; dsimp only; rw [← hlin]
    · k_steps
      rename_i kF kN _ _
      refine hret _ _ mu nu4 ⟨sm4.1, sm4.2⟩ kF (newsSub kN (by walk_at "MY sub")) (apart_tail (apart_tail ap4)) (hsub3.trans sub4) ⟨rfl, ?_⟩
      unfold goF; rw [if_neg hne0, hden]
end PS10
section PS11
noncomputable abbrev intsD (l : List Int) : Dat := .list (l.map Dat.int)
set_option maxHeartbeats 8000000 in
theorem kept_spec {vq : Program} {w : World} {mean : ExcName → Option Value} {mg mb : Str → Option Value} {lv tv : Value} {l : List Int} {x k : Int} {sg : Str} {mu nu : Led} (hl : DatIn nu lv (intsD l)) (hlit : DatIn nu tv (litD x sg k)) (hlen : l.length ≤ 100) :
    Spec vq w mean mg mb 480 [lv, tv] 2 mu nu (fun mu' nu' r => mu' = mu ∧ DatIn nu' r (intsD (keepF sg k l))) := by
  intro dp un gd cn cs a ccd cl outer A₀ base h₀ L m news s Q E B F X N T hk hsp hap hd hu hret
  cases hsp
  obtain ⟨la, ln, vs, rfl, hlm, hall⟩ := listD_inv hl
  obtain ⟨ta, tn, t1, t2, t3, rfl, htm⟩ := litD_inv hlit
  have hvl : vs.length = l.length := by rw [hall.length, List.length_map]
  w_on
  refine wpAny_call ?_
  k_dflt walk_at "MY enterC"
  rename_i g1 L1 h1 tk1 FG1 F1 B1 X1 T1 l1 o1 o1' hd1 hd1' N1
  k_steps

  · rename_i oS dS h2 oK F2 N2 dK hs1
    have N3 : News g1 L1 h2 (((L1 + 1 + 1, oK) :: (L1 + 1, oS) :: mu) ++ nu) := newsSub N2 (by walk_at "MY sub")
    have ap3 : Apart ((L1 + 1 + 1, oK) :: (L1 + 1, oS) :: mu) nu := apart_cons (fun q hq => Nat.ne_of_gt (Nat.lt_succ_of_lt (Nat.lt_succ_of_lt (l1 q (List.mem_append_right _ hq))))) (apart_cons (fun q hq => Nat.ne_of_gt (Nat.lt_succ_of_lt (l1 q (List.mem_append_right _ hq)))) hap)
    clear N2
    refine Stop.mk (comp_eval (cl := [(Str.ofString "k", L1 + 1 + 1)]) F2 (by with_unfolding_all rfl) (by decide) rfl (by decide) ?_)
    k_steps
    refine CompGoal.intro ((L1 + 1 + 1, oK) :: (L1 + 1, oS) :: mu) nu (fun i ys mu' nu' => mu' = (L1 + 1 + 1, oK) :: (L1 + 1, oS) :: mu ∧ DatAll nu' ys (((l.take i).filter (fun v => decide (v ≤ k))).map Dat.int)) (src_list rfl N3 hlm (fun p hp => List.mem_append_right _ hp)) (by rw [hvl, sizeLine_eq]; omega) F2 N3 ap3 ⟨rfl, .nil⟩ ?_ ?_
    · intro i v ys mu' nu' I oI C oC D m₂ s₂ hi hP hyl hJ hsub hsm hoC F4 N4 off hIC hID hCD hap4 R1 hR1
      obtain ⟨rfl, hys⟩ := hJ
      obtain ⟨x, hp, hpd⟩ := datAll_at hall hP
      cases hpd
      refine turn_name rfl rfl hoC F4 N4 off hIC hCD ?_
      intro h5 oC5 m5 hoC5 hv F5 N5
      refine wpAny_tests_one ?_
      k_steps
      · refine hR1 _ _ (turnEnd_same (by assumption) (by assumption) hoC5 off ⟨hsm.1, hsm.2⟩ hap4 hsub ⟨rfl, ?_⟩)
        rw [take_snoc hp, filter_yes (f := (fun v => decide (v ≤ k))) (decide_eq_true (by assumption)), List.map_append]
        exact datAll_snoc hys (.int _ _)
      · refine hR1 _ _ (turnEnd_same (by assumption) (by assumption) hoC5 off ⟨hsm.1, hsm.2⟩ hap4 hsub ⟨rfl, ?_⟩)
        rw [take_snoc hp, filter_no (f := (fun v => decide (v ≤ k))) (decide_eq_false (by assumption))]
        exact hys
    · intro ys D mu' nu' s' hJ hsm F4 N4 hD ap4 hsub
      obtain ⟨rfl, hys⟩ := hJ
      rw [hvl, List.take_length] at hys
      k_steps
      rename_i kF kN _ _
      refine hret _ _ mu ((D, lst ys) :: nu') ⟨hsm.1, hsm.2⟩ kF (newsSub kN (by walk_at "MY sub")) (fun q hq r hr => ?_) (hsub.trans sub_cons) ⟨rfl, .list (.head _) ((by unfold keepF; rw [if_pos hs1]; exact hys : DatAll nu' ys ((keepF sg k l).map Dat.int)).mono sub_cons)⟩
      rcases List.mem_cons.mp hr with rfl | hr
      · exact hD q (List.mem_append_left _ (.tail _ (.tail _ hq)))
      · exact ap4 q (.tail _ (.tail _ hq)) r hr

  · rename_i oS dS h2 oK F2 N2 dK hs1 _ hs2
    have N3 : News g1 L1 h2 (((L1 + 1 + 1, oK) :: (L1 + 1, oS) :: mu) ++ nu) := newsSub N2 (by walk_at "MY sub")
    have ap3 : Apart ((L1 + 1 + 1, oK) :: (L1 + 1, oS) :: mu) nu := apart_cons (fun q hq => Nat.ne_of_gt (Nat.lt_succ_of_lt (Nat.lt_succ_of_lt (l1 q (List.mem_append_right _ hq))))) (apart_cons (fun q hq => Nat.ne_of_gt (Nat.lt_succ_of_lt (l1 q (List.mem_append_right _ hq)))) hap)
    clear N2
    refine Stop.mk (comp_eval (cl := [(Str.ofString "k", L1 + 1 + 1)]) F2 (by with_unfolding_all rfl) (by decide) rfl (by decide) ?_)
    k_steps
    refine CompGoal.intro ((L1 + 1 + 1, oK) :: (L1 + 1, oS) :: mu) nu (fun i ys mu' nu' => mu' = (L1 + 1 + 1, oK) :: (L1 + 1, oS) :: mu ∧ DatAll nu' ys (((l.take i).filter (fun v => decide (k ≤ v))).map Dat.int)) (src_list rfl N3 hlm (fun p hp => List.mem_append_right _ hp)) (by rw [hvl, sizeLine_eq]; omega) F2 N3 ap3 ⟨rfl, .nil⟩ ?_ ?_
    · intro i v ys mu' nu' I oI C oC D m₂ s₂ hi hP hyl hJ hsub hsm hoC F4 N4 off hIC hID hCD hap4 R2 hR2
      obtain ⟨rfl, hys⟩ := hJ
      obtain ⟨x, hp, hpd⟩ := datAll_at hall hP
      cases hpd
      refine turn_name rfl rfl hoC F4 N4 off hIC hCD ?_
      intro h5 oC5 m5 hoC5 hv F5 N5
      refine wpAny_tests_one ?_
      k_steps
      · refine hR2 _ _ (turnEnd_same (by assumption) (by assumption) hoC5 off ⟨hsm.1, hsm.2⟩ hap4 hsub ⟨rfl, ?_⟩)
        rw [take_snoc hp, filter_yes (f := (fun v => decide (k ≤ v))) (decide_eq_true (by assumption)), List.map_append]
        exact datAll_snoc hys (.int _ _)
      · refine hR2 _ _ (turnEnd_same (by assumption) (by assumption) hoC5 off ⟨hsm.1, hsm.2⟩ hap4 hsub ⟨rfl, ?_⟩)
        rw [take_snoc hp, filter_no (f := (fun v => decide (k ≤ v))) (decide_eq_false (by assumption))]
        exact hys
    · intro ys D mu' nu' s' hJ hsm F4 N4 hD ap4 hsub
      obtain ⟨rfl, hys⟩ := hJ
      rw [hvl, List.take_length] at hys
      k_steps
      rename_i kF kN _ _
      refine hret _ _ mu ((D, lst ys) :: nu') ⟨hsm.1, hsm.2⟩ kF (newsSub kN (by walk_at "MY sub")) (fun q hq r hr => ?_) (hsub.trans sub_cons) ⟨rfl, .list (.head _) ((by unfold keepF; rw [if_neg (by rw [hs1]; decide), if_pos hs2]; exact hys : DatAll nu' ys ((keepF sg k l).map Dat.int)).mono sub_cons)⟩
      rcases List.mem_cons.mp hr with rfl | hr
      · exact hD q (List.mem_append_left _ (.tail _ (.tail _ hq)))
      · exact ap4 q (.tail _ (.tail _ hq)) r hr

  · rename_i oS dS h2 oK F2 N2 dK hs1 _ hs2
    have N3 : News g1 L1 h2 (((L1 + 1 + 1, oK) :: (L1 + 1, oS) :: mu) ++ nu) := newsSub N2 (by walk_at "MY sub")
    have ap3 : Apart ((L1 + 1 + 1, oK) :: (L1 + 1, oS) :: mu) nu := apart_cons (fun q hq => Nat.ne_of_gt (Nat.lt_succ_of_lt (Nat.lt_succ_of_lt (l1 q (List.mem_append_right _ hq))))) (apart_cons (fun q hq => Nat.ne_of_gt (Nat.lt_succ_of_lt (l1 q (List.mem_append_right _ hq)))) hap)
    clear N2
    refine Stop.mk (comp_eval (cl := [(Str.ofString "sign", L1 + 1), (Str.ofString "k", L1 + 1 + 1)]) F2 (by with_unfolding_all rfl) (by decide) rfl (by decide) ?_)
    k_steps
    refine CompGoal.intro ((L1 + 1 + 1, oK) :: (L1 + 1, oS) :: mu) nu (fun i ys mu' nu' => mu' = (L1 + 1 + 1, oK) :: (L1 + 1, oS) :: mu ∧ DatAll nu' ys (((l.take i).filter (fun v => (v == k) == (sg == Str.ofString "="))).map Dat.int)) (src_list rfl N3 hlm (fun p hp => List.mem_append_right _ hp)) (by rw [hvl, sizeLine_eq]; omega) F2 N3 ap3 ⟨rfl, .nil⟩ ?_ ?_
    · intro i v ys mu' nu' I oI C oC D m₂ s₂ hi hP hyl hJ hsub hsm hoC F4 N4 off hIC hID hCD hap4 R3 hR3
      obtain ⟨rfl, hys⟩ := hJ
      obtain ⟨x, hp, hpd⟩ := datAll_at hall hP
      cases hpd
      refine turn_name rfl rfl hoC F4 N4 off hIC hCD ?_
      intro h5 oC5 m5 hoC5 hv F5 N5
      refine wpAny_tests_one ?_
      k_steps
      · refine hR3 _ _ (turnEnd_same (by assumption) (by assumption) hoC5 off ⟨hsm.1, hsm.2⟩ hap4 hsub ⟨rfl, ?_⟩)
        rw [take_snoc hp, filter_yes (f := (fun v => (v == k) == (sg == Str.ofString "="))) (by assumption), List.map_append]
        exact datAll_snoc hys (.int _ _)
      · refine hR3 _ _ (turnEnd_same (by assumption) (by assumption) hoC5 off ⟨hsm.1, hsm.2⟩ hap4 hsub ⟨rfl, ?_⟩)
        rw [take_snoc hp, filter_no (f := (fun v => (v == k) == (sg == Str.ofString "="))) (by assumption)]
        exact hys
    · intro ys D mu' nu' s' hJ hsm F4 N4 hD ap4 hsub
      obtain ⟨rfl, hys⟩ := hJ
      rw [hvl, List.take_length] at hys
      k_steps
      rename_i kF kN _ _
      refine hret _ _ mu ((D, lst ys) :: nu') ⟨hsm.1, hsm.2⟩ kF (newsSub kN (by walk_at "MY sub")) (fun q hq r hr => ?_) (hsub.trans sub_cons) ⟨rfl, .list (.head _) ((by unfold keepF; rw [if_neg (by rw [hs1]; decide), if_neg (by rw [hs2]; decide)]; exact hys : DatAll nu' ys ((keepF sg k l).map Dat.int)).mono sub_cons)⟩
      rcases List.mem_cons.mp hr with rfl | hr
      · exact hD q (List.mem_append_left _ (.tail _ (.tail _ hq)))
      · exact ap4 q (.tail _ (.tail _ hq)) r hr
end PS11
local macro_rules | `(tactic| k_all) => `(tactic| with_reducible assumption)
local macro_rules | `(tactic| k_ne) => `(tactic| with_reducible assumption)
section PS12
section
variable {prog : Program} {w : World} {A : Around} {E : Value → Shared → Prop} {s : Shared} {h₀ h : Heap} {L : Addr} {m : Str → Option Value} {mu nu news rest : Led} {D : Addr} {ys : List Value} {n : Nat} {v : Value}
theorem app_led {x : Value} {Q : Value → Shared → Prop} (F : Fr h₀ L s.heap m) (N : News h₀ L s.heap ((D, lstO ys n) :: rest)) (hD : ∀ r ∈ rest, r.1 ≠ D) (hsz : ys.length ≤ 100000)
    (h : ∀ h', Fr h₀ L h' m → News h₀ L h' ((D, lstO (ys ++ [x]) (n + 1)) :: rest) → Q .none { s with heap := h' }) : wpAny (model prog w) A (call (.builtin "list.append") [.ref D, x]) Q E s :=
  append_head F (its := ys.toArray) (n := n) N hD (fun h' F' N' => h h' F' (by rw [List.push_toArray] at N'; exact N')) (by rw [List.size_toArray, sizeLine_eq]; omega)
theorem setL_of : ∀ (l : List Value) (j : Nat) (v : Value), j < l.length → ki_setL l j v = some (l.set j v)
  | [], j, v, h => absurd h (Nat.not_lt_zero _)
  | a :: r, 0, v, _ => rfl
  | a :: r, j + 1, v, h => by
    have := setL_of r j v (Nat.lt_of_succ_lt_succ h)
    simp only [ki_setL, this, List.set_cons_succ]
theorem set_led {i : Int} {t : Tok} {Q : Unit → Shared → Prop} (F : Fr h₀ L s.heap m) (N : News h₀ L s.heap ((D, lstO ys n) :: rest)) (hD : ∀ r ∈ rest, r.1 ≠ D) (h0 : 0 ≤ i) (h1 : i < ys.length) (hsz : ys.length ≤ 100000)
    (h : ∀ h', Fr h₀ L h' m → News h₀ L h' ((D, lstO (ys.set i.toNat v) n) :: rest) → Q () { s with heap := h' }) : wpAny (model prog w) A (setItem (.ref D) (.int i t) v) Q E s :=
  ki_set F N h0 (by omega) (setL_of _ _ _ (by rw [List.toList_toArray]; omega)) (Upd.head hD) h
theorem setNeg_led {t : Tok} {Q : Unit → Shared → Prop} (F : Fr h₀ L s.heap m) (N : News h₀ L s.heap ((D, lstO ys n) :: rest)) (hD : ∀ r ∈ rest, r.1 ≠ D) (h1 : 0 < ys.length) (hsz : ys.length ≤ 100000)
    (h : ∀ h', Fr h₀ L h' m → News h₀ L h' ((D, lstO (ys.set (ys.length - 1) v) n) :: rest) → Q () { s with heap := h' }) : wpAny (model prog w) A (setItem (.ref D) (.int (-1) t) v) Q E s :=
  ki_setNeg F N (by decide) (by decide) (j := ys.length - 1) (by
    have hs : ys.toArray.size = ys.length := List.size_toArray
    rw [hs, PySem.seqIndex_neg (by decide) (by omega)]; congr 1; omega) (setL_of _ _ _ (by rw [List.toList_toArray]; omega)) (Upd.head hD) h
theorem item_lstV {value slice : PySem.Expr} {i : Int} {u : Tok} {x : Value} {Q : Value → Shared → Prop} (N : News h₀ L s.heap news) (hm : (D, lstO ys n) ∈ news) (h0 : 0 ≤ i) (hf : i < 1000000) (hx : ys[i.toNat]? = some x) (h : Q x s)
    (hs : subscripted slice false (.ref D) (.int i u) = operate [.ref D, .int i u] (getItem (.ref D) (.int i u)) := by with_unfolding_all rfl) :
    wpAny (model prog w) A (subscriptTail value slice (.ref D) (.int i u)) Q E s := by
  have hl : s.heap.IsList D ys.toArray := ⟨_, (N _ hm).1, rfl, n, rfl⟩
  exact tail_any hl.typeIs slot_list_getitem.lookup (wpAny_getItem_list hl h0 (by omega) (by simpa using hx) h) hs
theorem item_lstN {value slice : PySem.Expr} {u : Tok} {x : Value} {Q : Value → Shared → Prop} (N : News h₀ L s.heap news) (hm : (D, lstO ys n) ∈ news) (h0 : 0 < ys.length) (hx : ys[ys.length - 1]? = some x) (h : Q x s)
    (hs : subscripted slice false (.ref D) (.int (-1) u) = operate [.ref D, .int (-1) u] (getItem (.ref D) (.int (-1) u)) := by with_unfolding_all rfl) :
    wpAny (model prog w) A (subscriptTail value slice (.ref D) (.int (-1) u)) Q E s := by
  have hl : s.heap.IsList D ys.toArray := ⟨_, (N _ hm).1, rfl, n, rfl⟩
  have hs' : ys.toArray.size = ys.length := List.size_toArray
  exact tail_any hl.typeIs slot_list_getitem.lookup (wpAny_getItem_list_neg hl (by decide) (by omega) (by decide) (by
    have e : (-1 + (ys.toArray.size : Int)).toNat = ys.length - 1 := by omega
    rw [e]; simpa using hx) h) hs
theorem datAll_set {ds : List Dat} {d : Dat} {nu : Led} : ∀ {vs : List Value} {ds : List Dat} (i : Nat), DatAll nu vs ds → DatIn nu v d → DatAll nu (vs.set i v) (ds.set i d)
  | _, _, _, .nil, _ => .nil
  | _, _, 0, .cons _ r, hd => .cons hd r
  | _, _, i + 1, .cons h r, hd => .cons h (datAll_set (ds := ds) i r hd)
end
theorem rangeStep_yes {f : List (Int × Int)} {v : Int} {p : Int × Int} (hp : f[f.length - 1]? = some p) (h : p.2 = v - 1) : rangeStep f v = f.set (f.length - 1) (p.1, v) := by
  unfold rangeStep
  rw [List.getLast?_eq_getElem?, hp]
  dsimp only
  rw [if_pos h]
  rcases List.eq_nil_or_concat f with rfl | ⟨g, a, rfl⟩
  · cases hp
  · simp
theorem rangeStep_no {f : List (Int × Int)} {v : Int} (h : ∀ p, f[f.length - 1]? = some p → ¬ p.2 = v - 1) : rangeStep f v = f ++ [(v, v)] := by
  unfold rangeStep
  rw [List.getLast?_eq_getElem?]
  split
  · rename_i p hp
    rw [if_neg (h p hp)]
  · rename_i hp
    rw [List.getElem?_eq_none_iff] at hp
    have : f = [] := List.eq_nil_of_length_eq_zero (by omega)
    subst this; rfl
theorem rangeStep_len (f : List (Int × Int)) (v : Int) : (rangeStep f v).length ≤ f.length + 1 := by
  unfold rangeStep
  split
  · split
    · rw [List.length_append, List.length_dropLast]; simp
    · rw [List.length_append]; exact Nat.le_refl _
  · exact Nat.succ_le_succ (Nat.zero_le _)
theorem kqd_pairs (l : List (Int × Int)) : kqdOk 9 (.list (l.map pairD)) = true := by
  simp [kqdOk]
local macro_rules | `(tactic| walk_at "call builtin:list.append") => `(tactic| refine Stop.out ?_)
local macro_rules | `(tactic| walk_at "subscriptTail") => `(tactic| (k_here; (with_reducible show wpAny _ _ (subscriptTail _ _ (Value.ref _) (Value.int (-1) _)) _ _ _); k_dflt (refine' item_lstN ?N ?m ?a ?b ?_; (case N => k_asm); (case m => k_mem); (case a => assumption); (case b => assumption); k_whole)))
set_option maxHeartbeats 8000000 in
theorem ranges_spec {vq : Program} {w : World} {mean : ExcName → Option Value} {mg mb : Str → Option Value} {lv : Value} {l : List Int} {mu nu : Led} (hl : DatIn nu lv (intsD l)) (hlen : l.length ≤ 100) :
    Spec vq w mean mg mb 497 [lv] 2 mu nu (fun mu' nu' r => mu' = mu ∧ DatIn nu' r (domD (rangesF l))) := by
  intro dp un gd cn cs a ccd cl outer A₀ base h₀ L m news s Q E B F X N T hk hsp hap hd hu hret
  cases hsp
  obtain ⟨la, ln, vs, rfl, hlm, hall⟩ := listD_inv hl
  have hvl : vs.length = l.length := by rw [hall.length, List.length_map]
  w_on
  refine wpAny_call ?_
  k_dflt ktr_enter
  k_steps
  rename_i g1 L1 _ FG1 B1 X1 T1 D _ l1 h2 F2 N2
  have apD : Apart ((D, lstO [] 0) :: mu) nu := apart_cons (fun q hq => Nat.ne_of_gt (l1 q (List.mem_append_right _ hq))) hap
  have hDr : ∀ q ∈ mu, q.1 ≠ D := fun q hq => Nat.ne_of_lt (l1 q (List.mem_append_left _ hq))
  refine Stop.mk (for_eval F2 ?_)
  k_steps
  refine ForGoal.intro ((D, lstO [] 0) :: mu) nu (fun i m' mu' nu' => ∃ (ys : List Value) (n : Nat) (u : Str → Option Value), m' = (fun y => if y = Str.ofString "found" then some (.ref D) else u y) ∧ mu' = (D, lstO ys n) :: mu ∧ DatAll nu' ys (((l.take i).foldl rangeStep []).map pairD) ∧ ((l.take i).foldl rangeStep []).length ≤ i) (src_list rfl N2 hlm (fun p hp => .tail _ (List.mem_append_right _ hp))) F2 N2 apD ⟨[], 0, _, rfl, rfl, .nil, Nat.le_refl _⟩ ?_ ?_
  · rintro i v m' mu' nu' I oI s2 hi hP ⟨ys, n, u, rfl, rfl, hys, hfl⟩ hsub hsm F3 N3 off ap3 R1 hR1
    obtain ⟨x, hx, hxd⟩ := datAll_at hall hP
    obtain ⟨ti, rfl⟩ : ∃ ti, v = .int x ti := by cases hxd; exact ⟨_, rfl⟩
    have hstep : (l.take (i + 1)).foldl rangeStep [] = rangeStep ((l.take i).foldl rangeStep []) x := by rw [take_snoc hx, List.foldl_append]; rfl
    rw [hstep] at hR1
    generalize (l.take i).foldl rangeStep [] = f at hys hfl hR1
    have hyl : ys.length = f.length := by rw [hys.length, List.length_map]
    have hil : i < l.length := by omega
    have hDin : DatIn ((D, lstO ys n) :: nu') (.ref D) (.list (f.map pairD)) := .list (.head _) (hys.mono sub_cons)
    have hID : I ≠ D := Ne.symm (off (D, lstO ys n) (.head _))
    have hD2 : ∀ q ∈ mu ++ nu', q.1 ≠ D := fun q hq => by
      rcases List.mem_append.mp hq with hq | hq
      · exact hDr q hq
      · exact Ne.symm (ap3 _ (.head _) q hq)
    k_steps
    rename_i D0 h4 F4 N4 l4
    refine Stop.mk (ne_dat (n₂ := [(D0, lstO [] 0)]) N4 hDin (by walk_at "MY sub") (.list (.head _) .nil) (by walk_at "MY sub") (kqd_pairs _) rfl (by ktr_units) ?_)
    intro b hb
    rw [Dat.list.injEq, List.map_eq_nil_iff] at hb
    have N5 : News g1 L1 h4 ((D, lstO ys n) :: (I, oI) :: (mu ++ nu')) := newsSub N4 (by walk_at "MY sub")
    clear N4
    by_cases hf : f = []
    · obtain rfl : b = false := Bool.eq_false_iff.mpr fun e => hb.mp e hf
      k_steps
      rename_i D5 h5 F5 N5' l5
      have l6 := ktn_ltOf l5.2.2
      have N6 : News g1 L1 h5 ((D, lstO ys n) :: (I, oI) :: (mu ++ ((D5, tupO [.int x ti, .int x ti] 0) :: nu'))) := newsSub N5' (by walk_at "MY sub")
      have ap6 : Apart mu ((D5, tupO [.int x ti, .int x ti] 0) :: nu') := apart_mid l6 (apart_tail ap3)
      have hD6 : ∀ q ∈ (I, oI) :: (mu ++ ((D5, tupO [.int x ti, .int x ti] 0) :: nu')), q.1 ≠ D := fun q hq => by
        rcases List.mem_cons.mp hq with rfl | hq
        · exact hID
        · rcases List.mem_append.mp hq with hq | hq
          · exact hDr q hq
          · rcases List.mem_cons.mp hq with rfl | hq
            · exact Nat.ne_of_gt l5.1
            · exact hD2 q (List.mem_append_right _ hq)
      have off6 : ∀ (oD : Obj), ∀ q ∈ ((D, oD) :: mu) ++ ((D5, tupO [.int x ti, .int x ti] 0) :: nu'), q.1 ≠ I := fun oD q hq => by
        rcases List.mem_append.mp hq with hq | hq
        · rcases List.mem_cons.mp hq with rfl | hq
          · exact Ne.symm hID
          · exact off q (List.mem_append_left _ (.tail _ hq))
        · rcases List.mem_cons.mp hq with rfl | hq
          · exact Nat.ne_of_gt l5.2.1
          · exact off q (List.mem_append_right _ hq)
      have apD6 : ∀ oD, Apart ((D, oD) :: mu) ((D5, tupO [.int x ti, .int x ti] 0) :: nu') := fun oD => apart_cons (fun q hq => by
        rcases List.mem_cons.mp hq with rfl | hq
        · exact Nat.ne_of_lt l5.1
        · exact ap3 _ (.head _) q hq) ap6
      clear N5'
      refine Stop.mk (app_led F5 N6 hD6 (by omega) ?_)
      intro h7 F7 N7
      k_steps
      refine hR1 _ _ ⟨_, (D, lstO (ys ++ [.ref D5]) (n + 1)) :: mu, (D5, tupO [.int x ti, .int x ti] 0) :: nu', ⟨hsm.1, hsm.2⟩, fr_set (x := Str.ofString "found") (v := .ref D) F7 rfl, newsSub N7 (by walk_at "MY sub"), off6 _, apD6 _, hsub.trans sub_cons, _, _, _, rfl, rfl, ?_, Nat.le_trans (rangeStep_len f x) (Nat.succ_le_succ hfl)⟩
      rw [rangeStep_no (fun p hp => by subst hf; cases hp), List.map_append]
      exact datAll_snoc (hys.mono sub_cons) (pairD_of (.head _))
    · obtain rfl : b = true := hb.mpr hf
      have hpos : 0 < ys.length := by rw [hyl]; exact List.length_pos_iff.mpr hf
      obtain ⟨p, hp⟩ : ∃ p, f[f.length - 1]? = some p := ⟨_, List.getElem?_eq_getElem (by omega)⟩
      obtain ⟨T, tn, t1, t2, hyT, hT⟩ : ∃ T tn t1 t2, ys[ys.length - 1]? = some (.ref T) ∧ (T, tupO [.int p.1 t1, .int p.2 t2] tn) ∈ nu' := by
        obtain ⟨v', hv', hD'⟩ := hys.get (k := f.length - 1) (by rw [List.length_map]; omega)
        obtain ⟨p', hp', hpd⟩ := datAll_at hys hv'
        rw [hp] at hp'
        cases hp'
        obtain ⟨T, tn, t1, t2, rfl, hT⟩ := pairD_inv hpd
        exact ⟨T, tn, t1, t2, by rw [hyl]; exact hv', hT⟩
      k_steps
      · rename_i hpx D5 h5 F5 N5' l5
        have l6 := ktn_ltOf l5.2.2
        have N6 : News g1 L1 h5 ((D, lstO ys n) :: (I, oI) :: (mu ++ ((D5, tupO [.int p.1 t1, .int x ti] 0) :: nu'))) := newsSub N5' (by walk_at "MY sub")
        have ap6 : Apart mu ((D5, tupO [.int p.1 t1, .int x ti] 0) :: nu') := apart_mid l6 (apart_tail ap3)
        have hD6 : ∀ q ∈ (I, oI) :: (mu ++ ((D5, tupO [.int p.1 t1, .int x ti] 0) :: nu')), q.1 ≠ D := fun q hq => by
          rcases List.mem_cons.mp hq with rfl | hq
          · exact hID
          · rcases List.mem_append.mp hq with hq | hq
            · exact hDr q hq
            · rcases List.mem_cons.mp hq with rfl | hq
              · exact Nat.ne_of_gt l5.1
              · exact hD2 q (List.mem_append_right _ hq)
        have off6 : ∀ (oD : Obj), ∀ q ∈ ((D, oD) :: mu) ++ ((D5, tupO [.int p.1 t1, .int x ti] 0) :: nu'), q.1 ≠ I := fun oD q hq => by
          rcases List.mem_append.mp hq with hq | hq
          · rcases List.mem_cons.mp hq with rfl | hq
            · exact Ne.symm hID
            · exact off q (List.mem_append_left _ (.tail _ hq))
          · rcases List.mem_cons.mp hq with rfl | hq
            · exact Nat.ne_of_gt l5.2.1
            · exact off q (List.mem_append_right _ hq)
        have apD6 : ∀ oD, Apart ((D, oD) :: mu) ((D5, tupO [.int p.1 t1, .int x ti] 0) :: nu') := fun oD => apart_cons (fun q hq => by
          rcases List.mem_cons.mp hq with rfl | hq
          · exact Nat.ne_of_lt l5.1
          · exact ap3 _ (.head _) q hq) ap6
        clear N5'
        refine Stop.mk (setNeg_led F5 N6 hD6 hpos (by omega) ?_)
        intro h7 F7 N7
        k_steps
        refine hR1 _ _ ⟨_, (D, lstO (ys.set (ys.length - 1) (.ref D5)) n) :: mu, (D5, tupO [.int p.1 t1, .int x ti] 0) :: nu', ⟨hsm.1, hsm.2⟩, fr_set (x := Str.ofString "found") (v := .ref D) F7 rfl, newsSub N7 (by walk_at "MY sub"), off6 _, apD6 _, hsub.trans sub_cons, _, _, _, rfl, rfl, ?_, Nat.le_trans (rangeStep_len f x) (Nat.succ_le_succ hfl)⟩
        rw [rangeStep_yes hp hpx, List.map_set, ← hyl]
        exact datAll_set (ds := []) _ (hys.mono sub_cons) (pairD_of (.head _))

      · rename_i hpx D5 h5 F5 N5' l5
        have l6 := ktn_ltOf l5.2.2
        have N6 : News g1 L1 h5 ((D, lstO ys n) :: (I, oI) :: (mu ++ ((D5, tupO [.int x ti, .int x ti] 0) :: nu'))) := newsSub N5' (by walk_at "MY sub")
        have ap6 : Apart mu ((D5, tupO [.int x ti, .int x ti] 0) :: nu') := apart_mid l6 (apart_tail ap3)
        have hD6 : ∀ q ∈ (I, oI) :: (mu ++ ((D5, tupO [.int x ti, .int x ti] 0) :: nu')), q.1 ≠ D := fun q hq => by
          rcases List.mem_cons.mp hq with rfl | hq
          · exact hID
          · rcases List.mem_append.mp hq with hq | hq
            · exact hDr q hq
            · rcases List.mem_cons.mp hq with rfl | hq
              · exact Nat.ne_of_gt l5.1
              · exact hD2 q (List.mem_append_right _ hq)
        have off6 : ∀ (oD : Obj), ∀ q ∈ ((D, oD) :: mu) ++ ((D5, tupO [.int x ti, .int x ti] 0) :: nu'), q.1 ≠ I := fun oD q hq => by
          rcases List.mem_append.mp hq with hq | hq
          · rcases List.mem_cons.mp hq with rfl | hq
            · exact Ne.symm hID
            · exact off q (List.mem_append_left _ (.tail _ hq))
          · rcases List.mem_cons.mp hq with rfl | hq
            · exact Nat.ne_of_gt l5.2.1
            · exact off q (List.mem_append_right _ hq)
        have apD6 : ∀ oD, Apart ((D, oD) :: mu) ((D5, tupO [.int x ti, .int x ti] 0) :: nu') := fun oD => apart_cons (fun q hq => by
          rcases List.mem_cons.mp hq with rfl | hq
          · exact Nat.ne_of_lt l5.1
          · exact ap3 _ (.head _) q hq) ap6
        clear N5'
        refine Stop.mk (app_led F5 N6 hD6 (by omega) ?_)
        intro h7 F7 N7
        k_steps
        refine hR1 _ _ ⟨_, (D, lstO (ys ++ [.ref D5]) (n + 1)) :: mu, (D5, tupO [.int x ti, .int x ti] 0) :: nu', ⟨hsm.1, hsm.2⟩, fr_set (x := Str.ofString "found") (v := .ref D) F7 rfl, newsSub N7 (by walk_at "MY sub"), off6 _, apD6 _, hsub.trans sub_cons, _, _, _, rfl, rfl, ?_, Nat.le_trans (rangeStep_len f x) (Nat.succ_le_succ hfl)⟩
        rw [rangeStep_no (fun p' hp' => by rw [hp] at hp'; cases hp'; exact hpx), List.map_append]
        exact datAll_snoc (hys.mono sub_cons) (pairD_of (.head _))

  · rintro m' mu' nu' s' ⟨ys, n, u, rfl, rfl, hys, hfl⟩ hsm F3 N3 ap3 hsub
    rw [hvl, List.take_length] at hys hfl
    have hyl : ys.length ≤ 100 := by rw [hys.length, List.length_map]; exact Nat.le_trans hfl hlen
    dsimp only
    k_steps
    rename_i D5 h5 _ _ l5 kF kN _ _
    refine hret _ _ mu ((D5, tupO ys 0) :: nu') ⟨hsm.1, hsm.2⟩ kF (newsSub kN (by walk_at "MY sub")) (apart_mid (fun q hq => l5 q (.tail _ hq)) (apart_tail ap3)) (hsub.trans sub_cons) ⟨rfl, .tuple (.head _) (hys.mono sub_cons)⟩
end PS12
section PS13
theorem kqd_ints (l : List Int) : kqdOk 8 (intsD l) = true := by
  simp [kqdOk]
theorem kqd_ints9 (l : List Int) : kqdOk 9 (intsD l) = true := by
  simp [kqdOk]
noncomputable def lots3 (f : Int → List Int) : List (List Int) := [f 0, f 1, f 2]
theorem apart_addr {mu mu' nu : Led} (h : Apart mu nu) (e : mu'.map (·.1) = mu.map (·.1)) : Apart mu' nu := fun q hq r hr => by
  have : q.1 ∈ mu'.map (·.1) := List.mem_map_of_mem (f := (·.1)) hq
  rw [e] at this
  obtain ⟨q', hq', e'⟩ := List.mem_map.mp this
  rw [← e']
  exact h q' hq' r hr
theorem apart_fresh {p : Addr × Obj} {mu nu : Led} (h : ∀ q ∈ mu, q.1 ≠ p.1) (ap : Apart mu nu) : Apart mu (p :: nu) := fun q hq r hr => by
  rcases List.mem_cons.mp hr with rfl | hr
  · exact h q hq
  · exact ap q hq r hr
theorem lots3_set {f : Int → List Int} {x : Int} {v : List Int} (h0 : 0 ≤ x) (h3 : x < 3) : ((lots3 f).map intsD).set x.toNat (intsD v) = (lots3 (upd f x v)).map intsD := by
  have : x = 0 ∨ x = 1 ∨ x = 2 := by omega
  rcases this with rfl | rfl | rfl <;> rfl
noncomputable abbrev rowD (lots : Int → List Int) (p : Lit) : Dat := .tuple [.int p.1, intsD (keepP lots p)]
theorem rowD_inv {nu : Led} {v : Value} {lots : Int → List Int} {p : Lit} (h : DatIn nu v (rowD lots p)) : ∃ T n t a k vs, v = .ref T ∧ (T, tupO [.int p.1 t, .ref a] n) ∈ nu ∧ (a, lstO vs k) ∈ nu ∧ DatAll nu vs ((keepP lots p).map Dat.int) := by
  cases h with
  | tuple hm r =>
    cases r with
    | cons h1 r =>
      cases h1
      cases r with
      | cons h2 r =>
        cases r
        obtain ⟨a, k, vs, rfl, ha, hall⟩ := listD_inv h2
        exact ⟨_, _, _, _, _, _, rfl, hm, ha, hall⟩
theorem kqd_fsts (l : List Lit) : kqdOk 9 (.list (l.map fun p => Dat.int p.1)) = true := by
  simp [kqdOk]
theorem kqd_rows (lots : Int → List Int) (l : List Lit) : kqdOk 9 (.list (l.map (rowD lots))) = true := by
  simp [kqdOk]
theorem intsD_inj {l l' : List Int} : intsD l = intsD l' ↔ l = l' := by
  rw [Dat.list.injEq]
  constructor
  · intro h
    induction l generalizing l' with
    | nil => cases l' with
      | nil => rfl
      | cons _ _ => cases h
    | cons a l ih => cases l' with
      | nil => cases h
      | cons b l' =>
        rw [List.map_cons, List.map_cons, List.cons.injEq, Dat.int.injEq] at h
        rw [h.1, ih h.2]
  · rintro rfl; rfl
theorem lots_at {nu : Led} {ys : List Value} {f : Int → List Int} {x : Int} (h : DatAll nu ys ((lots3 f).map intsD)) (h0 : 0 ≤ x) (h3 : x < 3) : ∃ v, ys[x.toNat]? = some v ∧ DatIn nu v (intsD (f x)) := by
  obtain ⟨v, hv, hD⟩ := h.get (k := x.toNat) (by simp [lots3]; omega)
  refine ⟨v, hv, ?_⟩
  have : x = 0 ∨ x = 1 ∨ x = 2 := by omega
  rcases this with rfl | rfl | rfl <;> exact hD
local macro_rules | `(tactic| walk_at "subscriptTail") => `(tactic| (k_here; (with_reducible show wpAny _ _ (subscriptTail _ _ (Value.ref _) (Value.int _ _)) _ _ _); k_dflt (refine' item_lstV ?N ?m ?a ?f ?b ?_; (case N => k_asm); (case m => k_mem); (case a => first | assumption | decide); (case f => omega); (case b => assumption); k_whole)))
local macro_rules | `(tactic| walk_at "subscriptTail Name Name ref int") => `(tactic| walk_at "subscriptTail")
local macro_rules | `(tactic| walk_at "subscriptTail Name") => `(tactic| walk_at "subscriptTail")
local macro_rules | `(tactic| walk_at "subscriptTail Subscript") => `(tactic| walk_at "subscriptTail")
local macro_rules | `(tactic| walk_at "compareOp NotIn int ref") => `(tactic| refine Stop.out ?_)
local macro_rules | `(tactic| walk_at "exec Assign cons ListComp") => `(tactic| first | (with_reducible refine wpAny_Assign_Subscript ?_ ?_; rotate_left; with_unfolding_all rfl) | (with_reducible refine wpAny_Assign_Name ?_ ?_; rotate_left; with_unfolding_all rfl))
local macro_rules | `(tactic| walk_at "call type:list") => `(tactic| (k_here; (with_reducible show wpAny _ _ (call (Value.type _) [Value.ref _]) _ _ _); k_dflt (refine' kup_listOf ?F ?N ?b ?e ?_ ?z; (case F => k_asm); (case N => k_asm); (case b => k_mem); (case e => exact List.toList_toArray); (case z => (rw [List.toList_toArray, sizeLine_eq]; omega))); intro D' c' h' F' N' l1))
local macro_rules | `(tactic| walk_at "compareOp In ref ref") => `(tactic| refine Stop.out ?_)
set_option maxHeartbeats 8000000 in
theorem goes_spec {vq : Program} {w : World} {mean : ExcName → Option Value} {mg mb : Str → Option Value} {lv cv sv : Value} {c : List Lit} {ls : List (List Lit)} {lots : Int → List Int} {mu nu : Led} (hl : DatIn nu lv (.list ((lots3 lots).map intsD))) (hlots : ∀ x, lots x ∈ allLots) (hc : DatIn nu cv (clD c)) (hok : ∀ p ∈ c, LitOk p) (hls : DatIn nu sv (.tuple (ls.map clD))) (hoks : ∀ l ∈ ls, l.length ≤ 100 ∧ ∀ p ∈ l, LitOk p) :
    Spec vq w mean mg mb 485 [lv, cv, sv] 9 mu nu (fun mu' nu' r => mu' = mu ∧ r = .bool (goF lots c ls)) := by
  intro dp un gd cn cs a ccd cl outer A₀ base h₀ L m news s Q E B F X N T hk hsp hap hd hu hret
  cases hsp
  obtain ⟨la, ln, vs, rfl, hlm, hall⟩ := listD_inv hl
  obtain ⟨ca, cn', cvs, rfl, hcm, hcall⟩ := tupD_inv hc
  obtain ⟨sa, sn, svs, rfl, hsm0, hsall⟩ := tupD_inv hls
  w_on
  refine wpAny_call ?_
  k_dflt walk_at "MY enterC"
  rename_i g1 L1 h1 tk1 FG1 F1 B1 X1 T1 l1 o1 o1' hd1 hd1' N1
  have hap1 : Apart ((L1 + 1 + 1, o1) :: (L1 + 1, o1') :: mu) nu := apart_cons (fun q hq => Nat.ne_of_gt (Nat.lt_succ_of_lt (Nat.lt_succ_of_lt (l1 q (List.mem_append_right _ hq))))) (apart_cons (fun q hq => Nat.ne_of_gt (Nat.lt_succ_of_lt (l1 q (List.mem_append_right _ hq)))) hap)
  have hmuL : ∀ q ∈ mu, q.1 < L1 := fun q hq => l1 q (List.mem_append_left _ hq)
  have hvl : vs.length = 3 := by rw [hall.length, List.length_map]; rfl
  k_steps
  refine Stop.mk (comp_eval (cl := []) F1 (by with_unfolding_all rfl) (by decide) rfl (by decide) ?_)
  k_steps
  refine CompGoal.intro ((L1 + 1 + 1, o1) :: (L1 + 1, o1') :: mu) nu (fun i ys mu' nu' => mu' = (L1 + 1 + 1, o1) :: (L1 + 1, o1') :: mu ∧ DatAll nu' ys (((lots3 lots).take i).map intsD)) (src_list rfl N1 hlm (fun p hp => .tail _ (.tail _ (List.mem_append_right _ hp)))) (by rw [hvl, sizeLine_eq]; omega) F1 N1 hap1 ⟨rfl, .nil⟩ ?_ ?_
  · rintro j v ys mu' nu2 I oI C oC D m₂ s2 hj hP hyl ⟨rfl, hys⟩ hsub hsm hoC F2 N2 off2 hIC hID hCD ap2 R1 hR1
    --DEV{
    obtain ⟨l, hl2, hld⟩ := datAll_at hall hP
    obtain ⟨va, vn, vvs, rfl, hvm, hvall⟩ := listD_inv hld
    have hlm : l ∈ allLots := by
      have := List.mem_of_getElem? hl2
      simp only [lots3, List.mem_cons, List.not_mem_nil, or_false] at this
      rcases this with rfl | rfl | rfl <;> exact hlots _
    have hvvl : vvs.length ≤ 4 := by rw [hvall.length, List.length_map]; exact (ranges_len hlm).2
    have hvm2 := hsub _ hvm
    refine turn_name rfl rfl hoC F2 N2 off2 hIC hCD ?_
    intro h8 oC8 m8 hoC8 hlit F8 N8
    refine wpAny_tests_nil ?_
    k_steps
    rename_i D5 c5 h5 F5 N5 l5
    exact hR1 _ _ (turnEnd_new F5 N5 ⟨l5 (I, oI) (.head _), l5 (C, oC8) (.tail _ (.head _)), l5 (D, lst ys) (.tail _ (.tail _ (.head _))), allLt_of fun q hq => l5 q (.tail _ (.tail _ (.tail _ hq)))⟩ hoC8 off2 (hsm.up _ _) ap2 hsub ⟨rfl, by
      rw [take_snoc hl2, List.map_append]
      exact datAll_snoc (hys.mono sub_cons) (.list (.head _) ((hvall.mono hsub).mono sub_cons))⟩)
    --DEV}
  · rintro ys D mu' nu2 s2 ⟨rfl, hys⟩ hsm F2 N2 hD ap2 hsub
    rw [hvl, show (lots3 lots).take 3 = lots3 lots from rfl] at hys
    have hDg : @Ne Nat D (L1 + 1 + 1) := Ne.symm (hD _ (.head _))
    have hDl : @Ne Nat D (L1 + 1) := Ne.symm (hD _ (.tail _ (.head _)))
    have hal : ∀ p ∈ mu ++ nu2, p.1 ≠ L1 + 1 := fun p hp => by
      rcases List.mem_append.mp hp with hp | hp
      · exact Nat.ne_of_lt (Nat.lt_succ_of_lt (hmuL p hp))
      · exact Ne.symm (ap2 _ (.tail _ (.head _)) p hp)
    have N3 : News g1 L1 s2.heap ((D, lst ys) :: (L1 + 1 + 1, o1) :: (L1 + 1, o1') :: (mu ++ nu2)) := N2
    clear N2
    k_steps
    rename_i h0' oL hoL Z h4 F4 N4 l4
    refine Stop.mk (kqd_isIn (n₁ := nu2) (n₂ := [(Z, lstO [] 0)]) (d := .list []) N4 (by walk_at "MY mem") rfl rfl hys (by walk_at "MY sub") (.list (.head _) .nil) (by walk_at "MY sub") (fun d hd => by obtain ⟨e, _, rfl⟩ := List.mem_map.mp hd; exact kqd_ints e) (kqd_ints []) (by ktr_units) ?_)
    have hgz : ∀ f : Int → List Int, Dat.list [] ∈ (lots3 f).map intsD ↔ (f 0 = [] ∨ f 1 = [] ∨ f 2 = []) := fun f => by
      simp only [lots3, List.map_cons, List.map_nil, List.mem_cons, List.not_mem_nil, or_false, Dat.list.injEq]
      rw [eq_comm, List.map_eq_nil_iff, eq_comm (b := (f 1).map Dat.int), List.map_eq_nil_iff, eq_comm (b := (f 2).map Dat.int), List.map_eq_nil_iff]
    have hDmu : ∀ q ∈ mu, q.1 ≠ D := fun q hq => hD q (.tail _ (.tail _ (List.mem_append_left _ hq)))
    have ap5 : Apart ((D, lstO ys ys.length) :: (L1 + 1 + 1, o1) :: (L1 + 1, oL) :: mu) nu2 := apart_cons (fun q hq => Ne.symm (hD q (.tail _ (.tail _ (List.mem_append_right _ hq))))) (apart_cons (fun q hq => ap2 _ (.head _) q hq) (apart_cons (fun q hq => ap2 _ (.tail _ (.head _)) q hq) (apart_tail (apart_tail ap2))))
    have N5 : News g1 L1 h4 (((D, lstO ys ys.length) :: (L1 + 1 + 1, o1) :: (L1 + 1, oL) :: mu) ++ nu2) := newsSub N4 (by walk_at "MY sub")
    clear N4
    have hcm2 := hsub _ hcm
    have hsm2 := hsub _ hsm0
    have hcall2 := hcall.mono hsub
    have hsall2 := hsall.mono hsub
    k_steps
    · rename_i hin kF kN _ _
      have hgo : goF lots c ls = true := by
        unfold goF
        rw [if_pos ((hgz lots).mp (decT hin))]
      exact hret _ _ mu nu2 ⟨hsm.1, hsm.2⟩ kF (newsSub kN (by walk_at "MY sub")) (apart_tail (apart_tail ap2)) hsub ⟨rfl, by rw [hgo]⟩
    · rename_i hin
      have hne0 : ¬ (lots 0 = [] ∨ lots 1 = [] ∨ lots 2 = []) := fun h => decF hin ((hgz lots).mpr h)
      refine Stop.mk (for_eval F4 ?_)
      k_steps
      refine ForGoal.intro ((D, lstO ys ys.length) :: (L1 + 1 + 1, o1) :: (L1 + 1, oL) :: mu) nu2 (fun i m' mu' nu' => ∃ (ys : List Value) (n : Nat) (oG : Obj) (xg : Option Value) (lots' : Int → List Int) (u : Str → Option Value), m' = (fun y => if y = Str.ofString "lines" then some (.ref sa) else u y) ∧ mu' = (D, lstO ys n) :: (L1 + 1 + 1, oG) :: (L1 + 1, oL) :: mu ∧ oG.data = Data.cell xg ∧ DatAll nu' ys ((lots3 lots').map intsD) ∧ (∀ y, lots' y ∈ allLots) ∧ denyF lots' (c.drop i) = denyF lots c) (src_tuple rfl N5 hcm2 (fun p hp => List.mem_append_right _ hp)) (fr_set (x := Str.ofString "lines") F4 rfl) N5 ap5 ⟨ys, ys.length, o1, _, lots, _, rfl, rfl, hd1, hys, hlots, rfl⟩ ?_ ?_
      · rintro i v m' mu' nu' I oI s5 hi hP ⟨ys, n, oG, xg, lots', u, rfl, rfl, hoG, hys, hlots', hden⟩ hsub5 hsm5 F6 N6 off6 ap6 R2 hR2
        --DEV{
        obtain ⟨p, hp, hpd⟩ := datAll_at hcall2 hP
        have hpok := hok p (List.mem_of_getElem? hp)
        rw [drop_at hp, denyF] at hden
        obtain ⟨pa, pn, pt1, pt2, pt3, rfl, hpm⟩ := litD_inv hpd
        have hpm5 := hsub5 _ hpm
        obtain ⟨lx, hgx, hlxD⟩ := lots_at hys hpok.lo hpok.hi
        have hx0 := hpok.lo
        have hx3 := hpok.hi
        have ap7 : Apart ((I, oI) :: (D, lstO ys n) :: (L1 + 1 + 1, oG) :: (L1 + 1, oL) :: mu) nu' := apart_cons (fun q hq => Ne.symm (off6 q (List.mem_append_right _ hq))) ap6
        k_steps
        rename_i h7 F7 N7
        have hlotx := hlots' p.1
        have hlotlen := (ranges_len hlotx).2
        have hkk : p.2.2 ∈ ks := ks_of (Int.le_trans (by decide) hpok.klo) (Int.le_trans hpok.khi (by decide))
        refine Stop.mk (Spec.on (kept_spec hlxD (hpd.mono hsub5) (by omega)) (by assumption) (by assumption) (by assumption) (by assumption) (by assumption) rfl (by assumption) (by walk_at "MY subs") (by ktr_room) (by ktr_units) ?_)
        rintro r8 s8 mu8 nu8 sm8 F8 N8' ap8 sub8 ⟨hmu, hr8⟩
        subst hmu
        have N8 : News g1 L1 s8.heap ((I, oI) :: (D, lstO ys n) :: (L1 + 1 + 1, oG) :: (L1 + 1, oL) :: (mu ++ nu8)) := N8'
        clear N8' N7
        have hIg : @Ne Nat I (L1 + 1 + 1) := Ne.symm (off6 (L1 + 1 + 1, oG) (.tail _ (.head _)))
        have hIl : @Ne Nat I (L1 + 1) := Ne.symm (off6 (L1 + 1, oL) (.tail _ (.tail _ (.head _))))
        have hID : @Ne Nat I D := Ne.symm (off6 (D, lstO ys n) (.head _))
        have hag : ∀ p ∈ mu ++ nu8, p.1 ≠ L1 + 1 + 1 := fun p hp => by
          rcases List.mem_append.mp hp with hp | hp
          · exact Nat.ne_of_lt (Nat.lt_succ_of_lt (Nat.lt_succ_of_lt (hmuL p hp)))
          · exact Ne.symm (ap8 _ (.tail _ (.tail _ (.head _))) p hp)
        obtain ⟨la2, ln2, lvs2, rfl, hlm2, hlall2⟩ := listD_inv (hlxD.mono sub8)
        obtain ⟨ga, gn, gvs, rfl, hgm, hgall⟩ := listD_inv hr8
        k_steps
        rename_i h9 oG9 F9 N9' hG9
        have N9 : News g1 L1 h9 (((I, oI) :: (D, lstO ys n) :: (L1 + 1 + 1, oG9) :: (L1 + 1, oL) :: mu) ++ nu8) := N9'
        have ap9 : Apart ((I, oI) :: (D, lstO ys n) :: (L1 + 1 + 1, oG9) :: (L1 + 1, oL) :: mu) nu8 := apart_addr ap8 rfl
        clear N9'
        refine Stop.mk (comp_eval (cl := [(Str.ofString "gone", L1 + 1 + 1)]) F9 (by with_unfolding_all rfl) (by decide) rfl (by decide) ?_)
        k_steps
        refine CompGoal.intro ((I, oI) :: (D, lstO ys n) :: (L1 + 1 + 1, oG9) :: (L1 + 1, oL) :: mu) nu8 (fun j zs mu' nu9 => mu' = (I, oI) :: (D, lstO ys n) :: (L1 + 1 + 1, oG9) :: (L1 + 1, oL) :: mu ∧ DatAll nu9 zs ((((lots' p.1).take j).filter fun v => !(keepF p.2.1 p.2.2 (lots' p.1)).contains v).map Dat.int)) (src_list rfl N9 hlm2 (fun p hp => List.mem_append_right _ hp)) (by rw [hlall2.length, List.length_map, sizeLine_eq]; omega) F9 N9 ap9 ⟨rfl, .nil⟩ ?_ ?_
        · rintro j v zs mu' nu9 I2 oI2 C oC D2 m₂ s10 hj hP10 hyl ⟨rfl, hzs⟩ hsub9 hsm10 hoC F10 N10 off10 hIC hID2 hCD ap10 R3 hR3
          obtain ⟨xv, hxv, hxd⟩ := datAll_at hlall2 hP10
          obtain ⟨ti, rfl⟩ : ∃ ti, v = .int xv ti := by cases hxd; exact ⟨_, rfl⟩
          refine turn_name rfl rfl hoC F10 N10 off10 hIC hCD ?_
          intro h11 oC11 m11 hoC11 hv11 F11 N11
          have hgm9 := hsub9 _ hgm
          refine wpAny_tests_one ?_
          k_steps
          refine Stop.mk (kqd_notIn (n₁ := nu9) (n₂ := []) (d := .int xv) N11 (by walk_at "MY mem") rfl rfl (hgall.mono hsub9) (by walk_at "MY sub") (.int _ _) (fun _ h => nomatch h) (fun d hd => by obtain ⟨e, _, rfl⟩ := List.mem_map.mp hd; rfl) rfl (by ktr_units) ?_)
          have hcon : (Dat.int xv ∈ (keepF p.2.1 p.2.2 (lots' p.1)).map Dat.int) ↔ (keepF p.2.1 p.2.2 (lots' p.1)).contains xv = true := by simp
          k_steps
          · rename_i hin
            refine hR3 _ _ (turnEnd_same F11 N11 hoC11 off10 ⟨hsm10.1, hsm10.2⟩ ap10 hsub9 ⟨rfl, ?_⟩)
            rw [take_snoc hxv, filter_no (f := fun v => !(keepF p.2.1 p.2.2 (lots' p.1)).contains v) (by rw [hcon.mp (decT hin)]; rfl)]
            exact hzs
          · rename_i hin
            refine hR3 _ _ (turnEnd_same F11 N11 hoC11 off10 ⟨hsm10.1, hsm10.2⟩ ap10 hsub9 ⟨rfl, ?_⟩)
            rw [take_snoc hxv, filter_yes (f := fun v => !(keepF p.2.1 p.2.2 (lots' p.1)).contains v) (by rw [Bool.eq_false_iff.mpr (fun e => decF hin (hcon.mpr e))]; rfl), List.map_append]
            exact datAll_snoc hzs (.int _ _)
        · rintro zs D2 mu' nu9 s10 ⟨rfl, hzs⟩ hsm10 F10 N10' hD2 ap10 hsub9
          rw [hlall2.length, List.length_map, List.take_length, ← neg_lot hlotx hpok.sg hkk] at hzs
          have hDm : (D2, lst zs) ∈ (D2, lst zs) :: nu9 := .head _
          have N10 : News g1 L1 s10.heap ((D2, lst zs) :: (I, oI) :: (D, lstO ys n) :: (L1 + 1 + 1, oG9) :: (L1 + 1, oL) :: (mu ++ nu9)) := N10'
          clear N10'
          k_steps
          have hDr : ∀ r ∈ (D2, lst zs) :: (I, oI) :: (L1 + 1 + 1, oG9) :: (L1 + 1, oL) :: (mu ++ nu9), r.1 ≠ D := fun r hr => by
            rcases List.mem_cons.mp hr with rfl | hr
            · exact Ne.symm (hD2 (D, lstO ys n) (.tail _ (.head _)))
            · rcases List.mem_cons.mp hr with rfl | hr
              · exact hID
              · rcases List.mem_cons.mp hr with rfl | hr
                · exact Ne.symm hDg
                · rcases List.mem_cons.mp hr with rfl | hr
                  · exact Ne.symm hDl
                  · rcases List.mem_append.mp hr with hr | hr
                    · exact hDmu r hr
                    · exact Ne.symm (ap10 _ (.tail _ (.head _)) r hr)
          have hyl : ys.length = 3 := by rw [hys.length]; rfl
          have N11 : News g1 L1 s10.heap ((D, lstO ys n) :: (D2, lst zs) :: (I, oI) :: (L1 + 1 + 1, oG9) :: (L1 + 1, oL) :: (mu ++ nu9)) := newsSub N10 (by walk_at "MY sub")
          clear N10
          refine Stop.mk (set_led F10 N11 hDr hx0 (by omega) (by omega) ?_)
          intro h12 F12 N12
          have hgx2 : (ys.set p.1.toNat (.ref D2))[p.1.toNat]? = some (.ref D2) := List.getElem?_set_self (by omega)
          k_steps
          rename_i Z h13 F13 N13 l13
          refine Stop.mk (eq_dat (n₁ := (D2, lst zs) :: nu9) (n₂ := [(Z, lstO [] 0)]) N13 (.list (.head _) (hzs.mono sub_cons)) (by walk_at "MY sub") (.list (.head _) .nil) (by walk_at "MY sub") (kqd_ints9 _) (kqd_ints9 []) (by ktr_units) ?_)
          intro b hb
          rw [Dat.list.injEq, List.map_eq_nil_iff] at hb
          have hsm13 : Same s s10 := ⟨(((hsm10.1.trans sm8.1).trans hsm5.1).trans hsm.1), (((hsm10.2.trans sm8.2).trans hsm5.2).trans hsm.2)⟩
          by_cases hz : keepF (negS p.2.1) (negK p.2.1 p.2.2) (lots' p.1) = []
          · obtain rfl : b = true := hb.mpr hz
            rw [if_pos hz] at hden
            k_steps
            dsimp only
            k_steps
            refine hR2 _ _ (ForEnd.ret ?_)
            dsimp only
            k_steps
            rename_i kF kN _ _
            refine hret _ _ mu nu9 hsm13 kF (newsSub kN (by walk_at "MY sub")) (apart_tail (apart_tail (apart_tail (apart_tail ap10)))) (hsub.trans (hsub5.trans (sub8.trans hsub9))) ⟨rfl, ?_⟩
            unfold goF; rw [if_neg hne0, ← hden]
          · obtain rfl : b = false := Bool.eq_false_iff.mpr fun e => hz (hb.mp e)
            rw [if_neg hz] at hden
            k_steps
            refine hR2 _ _ ⟨_, (D, lstO (ys.set p.1.toNat (.ref D2)) n) :: (L1 + 1 + 1, oG9) :: (L1 + 1, oL) :: mu, (D2, lst zs) :: nu9, ⟨((hsm10.1.trans sm8.1).trans hsm5.1), ((hsm10.2.trans sm8.2).trans hsm5.2)⟩, fr_set (x := Str.ofString "lines") (v := .ref sa) F13 rfl, newsSub N13 (by walk_at "MY sub"), fun q hq => ?_, apart_fresh (fun q hq => ?_) (apart_addr (apart_tail ap10) rfl), hsub5.trans (sub8.trans (hsub9.trans sub_cons)), _, _, _, _, _, _, rfl, rfl, hG9, by rw [← lots3_set hx0 hx3]; exact datAll_set (ds := []) _ ((hys.mono (sub8.trans hsub9)).mono sub_cons) (.list (.head _) (hzs.mono sub_cons)), fun y => ?_, hden⟩
            · rcases List.mem_append.mp hq with hq | hq
              · rcases List.mem_cons.mp hq with rfl | hq
                · exact Ne.symm hID
                · rcases List.mem_cons.mp hq with rfl | hq
                  · exact Ne.symm hIg
                  · exact off6 q (List.mem_append_left _ (.tail _ (.tail _ hq)))
              · rcases List.mem_cons.mp hq with rfl | hq
                · exact Ne.symm (hD2 (I, oI) (.head _))
                · exact Ne.symm (ap10 _ (.head _) q hq)
            · rcases List.mem_cons.mp hq with rfl | hq
              · exact hD2 (D, lstO ys n) (.tail _ (.head _))
              · exact hD2 q (.tail _ (.tail _ (List.mem_append_left _ hq)))
            · unfold upd; split
              · exact (struck_lot hlotx (negS_signs hpok.sg) (negK_ks hpok.klo hpok.khi)).2
              · exact hlots' y
        --DEV}
      · rintro m' mu' nu' s5 ⟨ys, n, oG, xg, lots', u, rfl, rfl, hoG, hys, hlots', hden⟩ hsm5 F6 N6 ap6 hsub5
        rw [show cvs.length = c.length by rw [hcall.length, List.length_map], List.drop_length, denyF] at hden
        dsimp only
        k_steps
        refine Stop.mk (for_eval F6 ?_)
        k_steps
        have hsm6 := hsub5 _ hsm2
        have hsall6 := hsall2.mono hsub5
        refine ForGoal.intro ((D, lstO ys n) :: (L1 + 1 + 1, oG) :: (L1 + 1, oL) :: mu) nu' (fun i m' mu' nu' => ∃ (ys : List Value) (n : Nat) (lotz : Int → List Int), mu' = (D, lstO ys n) :: (L1 + 1 + 1, oG) :: (L1 + 1, oL) :: mu ∧ DatAll nu' ys ((lots3 lotz).map intsD) ∧ (∀ y, lotz y ∈ allLots) ∧ linesF lotz (ls.drop i) = linesF lots' ls) (src_tuple rfl N6 hsm6 (fun p hp => List.mem_append_right _ hp)) F6 N6 ap6 ⟨ys, n, lots', rfl, hys, hlots', rfl⟩ ?_ ?_
        · clear N6 F6 ap6 hys N5 ap5 F4
          rintro i v m7 mu7 nu7 I oI s7 hi hP ⟨ys, n, lotz, rfl, hys, hlotz, hlin⟩ hsub7 hsm7 F7 N7 off7 ap7 R4 hR4
          obtain ⟨l, hl, hld'⟩ := datAll_at (hsall6.mono hsub7) hP
          obtain ⟨hllen, hlok⟩ := hoks l (List.mem_of_getElem? hl)
          obtain ⟨va, vn, vvs, rfl, hvm, hvall⟩ := tupD_inv hld'
          have hvlen : vvs.length = l.length := by rw [hvall.length, List.length_map]
          have hyl3 : ys.length = 3 := by rw [hys.length]; rfl
          rw [drop_at hl, linesF] at hlin
          have hIg : @Ne Nat I (L1 + 1 + 1) := Ne.symm (off7 (L1 + 1 + 1, oG) (.tail _ (.head _)))
          have hIl : @Ne Nat I (L1 + 1) := Ne.symm (off7 (L1 + 1, oL) (.tail _ (.tail _ (.head _))))
          have hID : @Ne Nat I D := Ne.symm (off7 (D, lstO ys n) (.head _))
          have ap8 : Apart ((I, oI) :: (D, lstO ys n) :: (L1 + 1 + 1, oG) :: (L1 + 1, oL) :: mu) nu7 := apart_cons (fun q hq => Ne.symm (off7 q (List.mem_append_right _ hq))) ap7
          k_steps
          rename_i h8 F8 N8'
          have N8 : News g1 L1 h8 (((I, oI) :: (D, lstO ys n) :: (L1 + 1 + 1, oG) :: (L1 + 1, oL) :: mu) ++ nu7) := N8'
          clear N8'
          refine Stop.mk (comp_assign (cl := [(Str.ofString "lots", L1 + 1)]) F8 rfl (by with_unfolding_all rfl) (by with_unfolding_all rfl) (by decide) rfl (by decide) (by with_unfolding_all rfl) (by with_unfolding_all rfl) ?_)
          k_steps
          refine CompGoal.intro ((I, oI) :: (D, lstO ys n) :: (L1 + 1 + 1, oG) :: (L1 + 1, oL) :: mu) nu7 (fun j zs mu' nu'' => mu' = (I, oI) :: (D, lstO ys n) :: (L1 + 1 + 1, oG) :: (L1 + 1, oL) :: mu ∧ DatAll nu'' zs ((l.take j).map (rowD lotz))) (src_tuple rfl N8 hvm (fun p hp => List.mem_append_right _ hp)) (by rw [hvlen, sizeLine_eq]; omega) F8 N8 ap8 ⟨rfl, .nil⟩ ?_ ?_
          · rintro j v zs mu' nu9 I2 oI2 C oC D2 m₂ s9 hj hP9 hyl ⟨rfl, hzs⟩ hsub9 hsm9 hoC F9 N9 off9 hIC hID2 hCD ap9 R5 hR5
            --DEV{
            obtain ⟨p, hp, hpd⟩ := datAll_at hvall hP9
            have hpok := hlok p (List.mem_of_getElem? hp)
            obtain ⟨pa, pn, pt1, pt2, pt3, rfl, hpm⟩ := litD_inv hpd
            have hpm9 := hsub9 _ hpm
            obtain ⟨lx, hgx, hlxD⟩ := lots_at hys hpok.lo hpok.hi
            have hx0 := hpok.lo
            have hx3 := hpok.hi
            have hlotlen := (ranges_len (hlotz p.1)).2
            refine turn_name rfl rfl hoC F9 N9 off9 hIC hCD ?_
            intro h10 oC10 m10 hoC10 hv10 F10 N10
            have ap10 := apart3 (oI := oI2) (oC := oC10) (oD := lst zs) off9 ap9
            refine wpAny_tests_nil ?_
            k_steps
            refine Stop.mk (Spec.on (kept_spec (hlxD.mono hsub9) (hpd.mono hsub9) (by omega)) (by assumption) (by assumption) (by assumption) (by assumption) (by assumption) rfl (by assumption) (by walk_at "MY subs") (by ktr_room) (by ktr_units) ?_)
            rintro r11 s11 mu11 nu11 sm11 F11 N11 ap11 sub11 ⟨hmu, hr11⟩
            subst hmu
            k_steps
            rename_i D5 h5 F5 N5 l5
            exact hR5 _ _ (turnEnd_new F5 N5 ⟨l5 (I2, oI2) (.head _), l5 (C, oC10) (.tail _ (.head _)), l5 (D2, lst zs) (.tail _ (.tail _ (.head _))), allLt_of fun q hq => l5 q (.tail _ (.tail _ (.tail _ hq)))⟩ hoC10 (off3 off9 ap11) ⟨sm11.1.trans hsm9.1, sm11.2.trans hsm9.2⟩ (apart_tail (apart_tail (apart_tail ap11))) (hsub9.trans sub11) ⟨rfl, by
              rw [take_snoc hp, List.map_append]
              exact datAll_snoc ((hzs.mono sub11).mono sub_cons) (.tuple (.head _) (.cons (.int _ _) (.cons (hr11.mono sub_cons) .nil)))⟩)
            --DEV}
          · rintro zs D2 mu' nu9 s9 ⟨rfl, hzs⟩ hsm9 F9' N9' hD2 ap9 hsub9 s9' hsm9' F9 N9
            rw [hvlen, List.take_length] at hzs
            clear F9' N9'
            have ap10 : Apart ((I, oI) :: (D, lstO ys n) :: (L1 + 1 + 1, oG) :: (L1 + 1, oL) :: mu) ((D2, lst zs) :: nu9) := apart_fresh (fun q hq => hD2 q (List.mem_append_left _ hq)) ap9
            have N10 : News g1 L1 s9'.heap (((I, oI) :: (D, lstO ys n) :: (L1 + 1 + 1, oG) :: (L1 + 1, oL) :: mu) ++ ((D2, lst zs) :: nu9)) := newsSub N9 (by walk_at "MY sub")
            clear N9
            have hzs10 := hzs.mono (sub_cons (p := (D2, lst zs)))
            have hD2m : (D2, lst zs) ∈ (D2, lst zs) :: nu9 := .head _
            have hsub10 : Sub nu7 ((D2, lst zs) :: nu9) := hsub9.trans sub_cons
            generalize hnu10 : (D2, lst zs) :: nu9 = nu10 at N10 ap10 hzs10 hD2m hsub10
            have hzl : zs.length = l.length := by rw [hzs.length, List.length_map]
            k_steps
            refine Stop.mk (comp_eval (cl := [(Str.ofString "lots", L1 + 1)]) F9 (by with_unfolding_all rfl) (by decide) rfl (by decide) ?_)
            k_steps
            refine CompGoal.intro ((I, oI) :: (D, lstO ys n) :: (L1 + 1 + 1, oG) :: (L1 + 1, oL) :: mu) nu10 (fun j xs mu' nu11 => mu' = (I, oI) :: (D, lstO ys n) :: (L1 + 1 + 1, oG) :: (L1 + 1, oL) :: mu ∧ DatAll nu11 xs (((l.take j).filter (holdsB lotz)).map fun p => Dat.int p.1)) (src_list rfl N10 hD2m (fun p hp => List.mem_append_right _ hp)) (by rw [hzl, sizeLine_eq]; omega) F9 N10 ap10 ⟨rfl, .nil⟩ ?_ ?_
            · rintro j v xs mu' nu11 I2 oI2 C oC D3 m₂ s11 hj hP11 hyl ⟨rfl, hxs⟩ hsub11 hsm11 hoC F11 N11 off11 hIC hID3 hCD ap11 R6 hR6
              --DEV{
              obtain ⟨p, hp, hpd⟩ := datAll_at hzs10 hP11
              have hpok := hlok p (List.mem_of_getElem? hp)
              obtain ⟨T, Tn, tT, aT, kT, wT, rfl, hT, haT, hwT⟩ := rowD_inv hpd
              obtain ⟨lx, hgx, hlxD⟩ := lots_at hys hpok.lo hpok.hi
              have hx0 := hpok.lo
              have hx3 := hpok.hi
              obtain ⟨lxa, lxn, lxv, rfl, hlxm, hlxall⟩ := listD_inv hlxD
              refine turn_pair rfl rfl (by rfl) (by rfl) (by decide) hoC F11 N11 (List.mem_append_right _ (hsub11 _ hT)) off11 hIC hCD ?_
              intro h12 tk12 oC12 m12 hoC12 hv1 hv2 F12 N12
              refine wpAny_tests_one ?_
              k_steps
              refine Stop.mk (eq_dat (n₁ := nu11) (n₂ := nu11) (d := intsD (keepP lotz p)) (e := intsD (lotz p.1)) N12 (.list (hsub11 _ haT) (hwT.mono hsub11)) (by walk_at "MY sub") (hlxD.mono (hsub10.trans hsub11)) (by walk_at "MY sub") (kqd_ints9 _) (kqd_ints9 _) (by ktr_units) ?_)
              intro b hb
              rw [intsD_inj] at hb
              k_steps
              · rename_i hbt
                refine hR6 _ _ (turnEnd_same F12 N12 hoC12 off11 ⟨hsm11.1, hsm11.2⟩ ap11 hsub11 ⟨rfl, ?_⟩)
                rw [take_snoc hp, filter_yes (f := holdsB lotz) (decide_eq_true (hb.mp hbt)), List.map_append]
                exact datAll_snoc hxs (.int _ _)
              · rename_i hbt
                refine hR6 _ _ (turnEnd_same F12 N12 hoC12 off11 ⟨hsm11.1, hsm11.2⟩ ap11 hsub11 ⟨rfl, ?_⟩)
                rw [take_snoc hp, filter_no (f := holdsB lotz) (decide_eq_false fun e => by rw [hb.mpr e] at hbt; cases hbt)]
                exact hxs
              --DEV}
            · rintro xs D3 mu' nu11 s11 ⟨rfl, hxs⟩ hsm11 F11 N11 hD3 ap11 hsub11
              rw [hzl, List.take_length] at hxs
              have hDD : DatIn ((D3, lst xs) :: nu11) (.ref D3) (.list ((l.filter (holdsB lotz)).map fun p => Dat.int p.1)) := .list (.head _) (hxs.mono sub_cons)
              k_steps
              rename_i Z h12 F12 N12 l12
              refine Stop.mk (ne_dat (n₂ := [(Z, lstO [] 0)]) N12 hDD (by walk_at "MY sub") (.list (.head _) .nil) (by walk_at "MY sub") (kqd_fsts _) rfl (by ktr_units) ?_)
              intro b hb
              rw [Dat.list.injEq, List.map_eq_nil_iff] at hb
              have N13 : News g1 L1 h12 (((I, oI) :: (D, lstO ys n) :: (L1 + 1 + 1, oG) :: (L1 + 1, oL) :: mu) ++ nu11) := newsSub N12 (by walk_at "MY sub")
              clear N12
              by_cases hfl : l.filter (holdsB lotz) = []
              · obtain rfl : b = false := Bool.eq_false_iff.mpr fun e => hb.mp e hfl
                rw [if_neg (fun e => e hfl)] at hlin
                have hD2m11 := hsub11 _ hD2m
                have hzs11 := hzs10.mono hsub11
                k_steps
                refine Stop.mk (comp_assign (cl := []) F12 rfl (by with_unfolding_all rfl) (by with_unfolding_all rfl) (by decide) rfl (by decide) (by with_unfolding_all rfl) (by with_unfolding_all rfl) ?_)
                k_steps
                refine CompGoal.intro ((I, oI) :: (D, lstO ys n) :: (L1 + 1 + 1, oG) :: (L1 + 1, oL) :: mu) nu11 (fun j rs mu' nu12 => mu' = (I, oI) :: (D, lstO ys n) :: (L1 + 1 + 1, oG) :: (L1 + 1, oL) :: mu ∧ DatAll nu12 rs (((l.take j).filter (canB lotz)).map (rowD lotz))) (src_list rfl N13 hD2m11 (fun p hp => List.mem_append_right _ hp)) (by rw [hzl, sizeLine_eq]; omega) F12 N13 ap11 ⟨rfl, .nil⟩ ?_ ?_
                · rintro j v rs mu' nu12 I2 oI2 C oC D4 m₂ s13 hj hP13 hyl ⟨rfl, hrs⟩ hsub12 hsm13 hoC F13 N13 off13 hIC hID4 hCD ap13 R7 hR7
                  --DEV{
                  obtain ⟨p, hp, hpd⟩ := datAll_at hzs11 hP13
                  have hpd2 := hpd
                  obtain ⟨T, Tn, tT, aT, kT, wT, rfl, hT, haT, hwT⟩ := rowD_inv hpd
                  have hT12 := hsub12 _ hT
                  refine turn_name rfl rfl hoC F13 N13 off13 hIC hCD ?_
                  intro h14 oC14 m14 hoC14 hv1 F14 N14
                  refine wpAny_tests_one ?_
                  k_steps
                  rename_i Z2 h15 F15 N15 l15
                  refine Stop.mk (ne_dat (n₁ := nu12) (n₂ := [(Z2, lstO [] 0)]) (d := intsD (keepP lotz p)) N15 (.list (hsub12 _ haT) (hwT.mono hsub12)) (by walk_at "MY sub") (.list (.head _) .nil) (by walk_at "MY sub") (kqd_ints9 _) (kqd_ints9 []) (by ktr_units) ?_)
                  intro b hb
                  rw [Dat.list.injEq, List.map_eq_nil_iff] at hb
                  have N16 : News g1 L1 h15 ((I2, oI2) :: (C, oC14) :: (D4, lst rs) :: (((I, oI) :: (D, lstO ys n) :: (L1 + 1 + 1, oG) :: (L1 + 1, oL) :: mu) ++ nu12)) := newsSub N15 (by walk_at "MY sub")
                  clear N15
                  k_steps
                  · rename_i hbt
                    refine hR7 _ _ (turnEnd_same F15 N16 hoC14 off13 ⟨hsm13.1, hsm13.2⟩ ap13 hsub12 ⟨rfl, ?_⟩)
                    rw [take_snoc hp, filter_yes (f := canB lotz) (decide_eq_true (hb.mp hbt)), List.map_append]
                    exact datAll_snoc hrs (hpd2.mono hsub12)
                  · rename_i hbt
                    refine hR7 _ _ (turnEnd_same F15 N16 hoC14 off13 ⟨hsm13.1, hsm13.2⟩ ap13 hsub12 ⟨rfl, ?_⟩)
                    rw [take_snoc hp, filter_no (f := canB lotz) (decide_eq_false fun e => by rw [hb.mpr e] at hbt; cases hbt)]
                    exact hrs
                  --DEV}
                · rintro rs D4 mu' nu12 s13 ⟨rfl, hrs⟩ hsm13 F13' N13' hD4 ap13 hsub12 s13' hsm13' F13 N14
                  rw [hzl, List.take_length] at hrs
                  clear F13' N13'
                  have hlow : ∀ r ∈ (I, oI) :: (L1 + 1 + 1, oG) :: (L1 + 1, oL) :: (mu ++ ((D4, lst rs) :: nu12)), r.1 ≠ D := fun r hr => by
                    rcases List.mem_cons.mp hr with rfl | hr
                    · exact hID
                    · rcases List.mem_cons.mp hr with rfl | hr
                      · exact Ne.symm hDg
                      · rcases List.mem_cons.mp hr with rfl | hr
                        · exact Ne.symm hDl
                        · rcases List.mem_append.mp hr with hr | hr
                          · exact hDmu r hr
                          · rcases List.mem_cons.mp hr with rfl | hr
                            · exact Ne.symm (hD4 (D, lstO ys n) (.tail _ (.head _)))
                            · exact Ne.symm (ap13 _ (.tail _ (.head _)) r hr)
                  have ap14 : Apart ((I, oI) :: (D, lstO ys n) :: (L1 + 1 + 1, oG) :: (L1 + 1, oL) :: mu) ((D4, lst rs) :: nu12) := apart_fresh (fun q hq => hD4 q (List.mem_append_left _ hq)) ap13
                  have N15 : News g1 L1 s13'.heap (((I, oI) :: (D, lstO ys n) :: (L1 + 1 + 1, oG) :: (L1 + 1, oL) :: mu) ++ ((D4, lst rs) :: nu12)) := newsSub N14 (by walk_at "MY sub")
                  clear N14
                  have hrs14 := hrs.mono (sub_cons (p := (D4, lst rs)))
                  have hD4m : (D4, lst rs) ∈ (D4, lst rs) :: nu12 := .head _
                  have hsub14 : Sub nu11 ((D4, lst rs) :: nu12) := hsub12.trans sub_cons
                  generalize hnu14 : (D4, lst rs) :: nu12 = nu14 at N15 ap14 hrs14 hD4m hsub14 hlow
                  have hrl : rs.length = (l.filter (canB lotz)).length := by rw [hrs.length, List.length_map]
                  have hrll : (l.filter (canB lotz)).length ≤ l.length := List.length_filter_le _ _
                  k_steps
                  rename_i Z h16 F16 N16 l16
                  refine Stop.mk (eq_dat (n₁ := nu14) (n₂ := [(Z, lstO [] 0)]) N16 (.list hD4m hrs14) (by walk_at "MY sub") (.list (.head _) .nil) (by walk_at "MY sub") (kqd_rows _ _) rfl (by ktr_units) ?_)
                  intro b hb
                  rw [Dat.list.injEq, List.map_eq_nil_iff] at hb
                  have N17 : News g1 L1 h16 (((I, oI) :: (D, lstO ys n) :: (L1 + 1 + 1, oG) :: (L1 + 1, oL) :: mu) ++ nu14) := newsSub N16 (by walk_at "MY sub")
                  clear N16
                  have hsmA : Same s5 s13' := ⟨((((((hsm13'.1.trans hsm13.1).trans hsm11.1).trans hsm9'.1).trans hsm9.1).trans hsm7.1)), ((((((hsm13'.2.trans hsm13.2).trans hsm11.2).trans hsm9'.2).trans hsm9.2).trans hsm7.2))⟩
                  have hsubA : Sub nu nu14 := hsub.trans (hsub5.trans (hsub7.trans (hsub10.trans (hsub11.trans hsub14))))
                  by_cases hfc : l.filter (canB lotz) = []
                  · obtain rfl : b = true := hb.mpr hfc
                    k_steps
                    dsimp only
                    k_steps
                    refine hR4 _ _ (ForEnd.ret ?_)
                    dsimp only
                    k_steps
                    rename_i kF kN _ _
                    refine hret _ _ mu nu14 ⟨(hsmA.1.trans hsm5.1).trans hsm.1, (hsmA.2.trans hsm5.2).trans hsm.2⟩ kF (newsSub kN (by walk_at "MY sub")) (apart_tail (apart_tail (apart_tail (apart_tail ap14)))) hsubA ⟨rfl, ?_⟩
                    rw [hfc] at hlin
                    unfold goF; rw [if_neg hne0, ← hden]; dsimp only; rw [← hlin]
                  · obtain rfl : b = false := Bool.eq_false_iff.mpr fun e => hfc (hb.mp e)
                    obtain ⟨p, rest, hfil⟩ := List.exists_cons_of_ne_nil hfc
                    rw [hfil] at hrs14 hrl hrll hlin
                    have hpm : p ∈ l := (List.mem_filter.mp (hfil ▸ List.mem_cons_self .. : p ∈ l.filter (canB lotz))).1
                    have hpc : keepP lotz p ≠ [] := of_decide_eq_true (List.mem_filter.mp (hfil ▸ List.mem_cons_self .. : p ∈ l.filter (canB lotz))).2
                    have hpok := hlok p hpm
                    have hylr : (p :: rest).length = rest.length + 1 := rfl
                    have hx0 := hpok.lo
                    have hx3 := hpok.hi
                    obtain ⟨T, Tn, tT, aT, kT, wT, hrx, hT, haT, hwT⟩ : ∃ T n t a k vs, rs[Int.toNat 0]? = some (.ref T) ∧ (T, tupO [.int p.1 t, .ref a] n) ∈ nu14 ∧ (a, lstO vs k) ∈ nu14 ∧ DatAll nu14 vs ((keepP lotz p).map Dat.int) := by
                      obtain ⟨v, hv, hvd⟩ := hrs14.get (k := 0) (by simp)
                      obtain ⟨T, n, t, a, k, vs, rfl, h1, h2, h3⟩ := rowD_inv (show DatIn nu14 v (rowD lotz p) from hvd)
                      exact ⟨T, n, t, a, k, vs, hv, h1, h2, h3⟩
                    k_steps
                    · rename_i hgt
                      dsimp only
                      k_steps
                      refine hR4 _ _ (ForEnd.ret ?_)
                      dsimp only
                      k_steps
                      rename_i kF kN _ _
                      refine hret _ _ mu nu14 ⟨(hsmA.1.trans hsm5.1).trans hsm.1, (hsmA.2.trans hsm5.2).trans hsm.2⟩ kF (newsSub kN (by walk_at "MY sub")) (apart_tail (apart_tail (apart_tail (apart_tail ap14)))) hsubA ⟨rfl, ?_⟩
                      obtain ⟨p2, rest2, rfl⟩ : ∃ p2 rest2, rest = p2 :: rest2 := List.exists_cons_of_ne_nil fun e => by subst e; simp at hgt
                      unfold goF; rw [if_neg hne0, ← hden]; dsimp only; rw [← hlin]
                    · rename_i hgt
                      obtain rfl : rest = [] := List.eq_nil_of_length_eq_zero (by omega)
                      have N18 : News g1 L1 h16 ((D, lstO ys n) :: (I, oI) :: (L1 + 1 + 1, oG) :: (L1 + 1, oL) :: (mu ++ nu14)) := newsSub N17 (by walk_at "MY sub")
                      refine Stop.mk (set_led F16 N18 hlow hx0 (by omega) (by omega) ?_)
                      intro h17 F17 N19
                      k_steps
                      refine hR4 _ _ ⟨_, (D, lstO (ys.set p.1.toNat (.ref aT)) n) :: (L1 + 1 + 1, oG) :: (L1 + 1, oL) :: mu, nu14, hsmA, F17, newsSub N19 (by walk_at "MY sub"), fun q hq => ?_, apart_addr (apart_tail ap14) rfl, hsub7.trans (hsub10.trans (hsub11.trans hsub14)), _, _, upd lotz p.1 (keepP lotz p), rfl, by rw [← lots3_set hx0 hx3]; exact datAll_set (ds := []) _ (hys.mono (hsub10.trans (hsub11.trans hsub14))) (.list haT hwT), fun y => ?_, hlin⟩
                      · rcases List.mem_append.mp hq with hq | hq
                        · rcases List.mem_cons.mp hq with rfl | hq
                          · exact Ne.symm hID
                          · exact off7 q (List.mem_append_left _ (.tail _ hq))
                        · exact Ne.symm (ap14 _ (.head _) q hq)
                      · unfold upd; split
                        · exact (struck_lot (hlotz p.1) hpok.sg (ks_of (Int.le_trans (by decide) hpok.klo) (Int.le_trans hpok.khi (by decide)))).2
                        · exact hlotz y
              · obtain rfl : b = true := hb.mpr hfl
                rw [if_pos hfl] at hlin
                k_steps
                refine hR4 _ _ ⟨_, (D, lstO ys n) :: (L1 + 1 + 1, oG) :: (L1 + 1, oL) :: mu, nu11, ⟨((((hsm11.1.trans hsm9'.1).trans hsm9.1).trans hsm7.1)), ((((hsm11.2.trans hsm9'.2).trans hsm9.2).trans hsm7.2))⟩, F12, N13, fun q hq => ?_, apart_tail ap11, hsub7.trans (hsub10.trans hsub11), ys, n, lotz, rfl, hys.mono (hsub10.trans hsub11), hlotz, hlin⟩
                rcases List.mem_append.mp hq with hq | hq
                · exact off7 q (List.mem_append_left _ hq)
                · exact Ne.symm (ap11 _ (.head _) q hq)
        · rintro m7 mu7 nu7 s7 ⟨ys, n, lotz, rfl, hys, hlotz, hlin⟩ hsm7 F7 N7 ap7 hsub7
          rw [show svs.length = ls.length by rw [hsall.length, List.length_map], List.drop_length, linesF] at hlin
          dsimp only
          k_steps
          rename_i kF kN _ _
          refine hret _ _ mu nu7 ⟨((hsm7.1.trans hsm5.1).trans hsm.1), ((hsm7.2.trans hsm5.2).trans hsm.2)⟩ kF (newsSub kN (by walk_at "MY sub")) (apart_tail (apart_tail (apart_tail ap7))) (hsub.trans (hsub5.trans hsub7)) ⟨rfl, ?_⟩
          unfold goF; rw [if_neg hne0, ← hden]; dsimp only; rw [← hlin]
end PS13
section PS14
section
variable {prog : Program} {w : World} {A : Around} {E : Value → Shared → Prop} {s : Shared} {h₀ : Heap} {L : Addr} {m : Str → Option Value} {mu nu news : Led}
theorem datAll_take : ∀ (a : Nat) {vs : List Value} {ds : List Dat}, DatAll nu vs ds → DatAll nu (vs.take a) (ds.take a)
  | 0, _, _, _ => by rw [List.take_zero, List.take_zero]; exact .nil
  | a + 1, _, _, .nil => .nil
  | a + 1, _, _, .cons h r => .cons h (datAll_take a r)
theorem adjust_upto (a n : Nat) (ha : a ≤ n) : Builtin.Slice.sliceAdjust none (some (a : Int)) 1 (n : Int) = (0, (a : Int)) := by
  unfold Builtin.Slice.sliceAdjust
  have h1 : ¬ ((1 : Int) < 0) := by omega
  have h2 : ¬ ((a : Int) < 0) := by omega
  simp only [h1, h2, if_false]
  congr 1
  omega
theorem places_upto (a : Nat) : Builtin.Slice.slicePlaces (0 : Int) (a : Int) 1 = a := by
  unfold Builtin.Slice.slicePlaces
  have h1 : (1 : Int) > 0 := by omega
  simp only [h1, if_true, Int.ediv_one]
  split <;> omega
theorem sliceApplied_upto {sl : Addr} {a n : Nat} {u : Tok} {Q : Int × Int × Nat → Shared → Prop} (hs : s.heap.IsSliceOf sl .none (.int a u) .none) (ha : a ≤ n) (h : Q (0, 1, a) s) :
    wpAny (model prog w) A (Builtin.Slice.sliceApplied (.ref sl) (pure (n : Int))) Q E s := by
  obtain ⟨os, hos, hcs, hds⟩ := id hs
  unfold Builtin.Slice.sliceApplied Builtin.Slice.sliceFields
  refine wpAny_bind (wpAny_bind (wpAny_field hos hds (x := .none) rfl (wpAny_bind (wpAny_field hos hds (x := .int a u) rfl (wpAny_bind (wpAny_field hos hds (x := .none) rfl (wpAny_pure ?_)))))))
  refine wpAny_bind (slicePart_none ?_)
  show wpAny _ _ (if ((1 : Int) == 0) = true then _ else _) _ _ s
  rw [if_neg (by decide)]
  refine wpAny_bind (slicePart_none (wpAny_bind (slicePart_int (wpAny_bind (wpAny_pure ?_)))))
  show wpAny _ _ (match Builtin.Slice.sliceAdjust none (some (a : Int)) 1 (n : Int) with | (lo, hi) => pure (lo, (1 : Int), Builtin.Slice.slicePlaces lo hi 1)) _ _ s
  rw [adjust_upto a n ha]
  show wpAny _ _ (pure ((0 : Int), (1 : Int), Builtin.Slice.slicePlaces (0 : Int) (a : Int) 1)) _ _ s
  rw [places_upto a]
  exact wpAny_pure h
theorem pick_upto (xs : Array Value) (a : Nat) : ((List.range a).filterMap fun (k : Nat) => xs[((0 : Int) + (k : Int) * 1).toNat]?).toArray = (xs.toList.take a).toArray := by
  have e : (fun (k : Nat) => xs[((0 : Int) + (k : Int) * 1).toNat]?) = fun k => xs[0 + k]? := by
    funext k
    have : ((0 : Int) + (k : Int) * 1).toNat = 0 + k := by omega
    rw [this]
  rw [e]
  have := pick_run xs 0 a
  rw [List.filterMap_map] at this
  have e2 : ((fun x => xs[x]?) ∘ fun x => 0 + x) = fun k => xs[0 + k]? := rfl
  rw [e2] at this
  rw [this, List.drop_zero]

theorem getItem_tuple_upto {t sl : Addr} {items : Array Value} {a : Nat} {u : Tok} {Q : Value → Shared → Prop} (ht : IsTup s.heap t items) (hs : s.heap.IsSliceOf sl .none (.int a u) .none) (ha : a ≤ items.size)
    (h0 : a = items.size → Q (.ref t) s)
    (h : Q (.ref s.heap.objs.size) { s with heap := s.heap.push { cls := .type "tuple", data := .seq (items.toList.take a).toArray } })
    (hsz : items.size ≤ sizeLine) : wpAny (model prog w) A (getItem (.ref t) (.ref sl)) Q E s := by
  have hdrop : sizeOk (.seq (items.toList.take a).toArray) := by
    show (items.toList.take a).toArray.size ≤ sizeLine
    rw [List.size_toArray, List.length_take, Array.length_toList]
    omega
  obtain ⟨os, hos, hcs, hds⟩ := id hs
  have hTs : s.TypeIs (.ref sl) "slice" := ⟨os, hos, hcs⟩
  unfold getItem
  try with_reducible refine wpAny_holding ?_
  first | refine wpAny_bind (wpAny_pure ?_) | skip
  refine wpAny_bind (wpAny_sequenceKey ht.typeIs (by decide) ?_)
  refine wpAny_bind (wpAny_callSpecial?_slot (name := Str.ofString "__getitem__") ht.typeIs slot_tuple_getitem
    (wpAny_call_entry slot_tuple_getitem ht.typeIs entry_tuple_getitem ?_ (args_tuple_getitem _ _)))
  show wpAny _ _ (Builtin.Tuple.tupleItemsOf (.ref t) >>= _) _ _ s
  refine wpAny_bind (tupleItemsOf_ ht ?_)
  refine wpAny_bind (wpAny_typeOf hTs ?_)
  rw [if_pos (by decide)]
  refine wpAny_bind (sliceApplied_upto hs ha ?_)
  by_cases hn : a = items.size
  · have hyes : ((0 : Int) == 0 && (1 : Int) == 1 && a == items.size) = true := by
      rw [hn]; simp
    show wpAny _ _ (if ((0 : Int) == 0 && (1 : Int) == 1 && a == items.size) = true then _ else _) _ _ s
    rw [if_pos hyes]
    unfold Builtin.Tuple.tupleIsExact
    refine wpAny_bind (wpAny_bind (wpAny_typeOf ht.typeIs (wpAny_pure ?_)))
    rw [if_pos (by decide)]
    first
      | exact wpAny_bind (wpAny_rule (wpAny_pure ⟨_, rfl, wpAny_pure (h0 hn)⟩))
      | exact wpAny_bind (wpAny_bind (wpAny_rule (wpAny_pure ⟨_, rfl, wpAny_pure (h0 hn)⟩)))
      | exact wpAny_bind (wpAny_bind (wpAny_rule (wpAny_bind (wpAny_pure (wpAny_pure ⟨_, rfl, wpAny_pure (h0 hn)⟩)))))
      | exact wpAny_bind (wpAny_rule (wpAny_bind (wpAny_pure (wpAny_pure ⟨_, rfl, wpAny_pure (h0 hn)⟩))))
  · have hno : ¬ (((0 : Int) == 0 && (1 : Int) == 1 && a == items.size) = true) := by
      have : (a == items.size) = false := by rw [beq_eq_false_iff_ne]; exact hn
      rw [this]; simp
    show wpAny _ _ (if ((0 : Int) == 0 && (1 : Int) == 1 && a == items.size) = true then _ else _) _ _ s
    rw [if_neg hno, pick_upto items a]
    first
      | exact wpAny_bind (m := Builtin.Tuple.tupleExact _) (wpAny_newObj_type (wpAny_pure ⟨_, rfl, wpAny_pure h⟩) hdrop)
      | exact wpAny_bind (m := Builtin.Tuple.tupleExact _) (wpAny_newObj_type (wpAny_bind (wpAny_pure (wpAny_pure ⟨_, rfl, wpAny_pure h⟩))) hdrop)
      | exact wpAny_bind (wpAny_bind (m := Builtin.Tuple.tupleExact _) (wpAny_newObj_type (wpAny_pure (wpAny_pure ⟨_, rfl, wpAny_pure h⟩)) hdrop))
      | exact wpAny_bind (wpAny_bind (m := Builtin.Tuple.tupleExact _) (wpAny_newObj_type (wpAny_pure ⟨_, rfl, wpAny_pure h⟩) hdrop))
theorem slice_tuple_upto {value slice : Expr} {t : Addr} {vs : List Value} {k a : Nat} {u : Tok} {ds : List Dat} {Q : Value → Shared → Prop}
    (F : Fr h₀ L s.heap m) (N : News h₀ L s.heap (mu ++ nu)) (ap : Apart mu nu) (hm : (t, tupO vs k) ∈ nu) (hds : DatAll nu vs ds) (ha : a ≤ vs.length) (hsz : vs.length ≤ 1000)
    (h : ∀ v h' nu', Fr h₀ L h' m → News h₀ L h' (mu ++ nu') → Apart mu nu' → Sub nu nu' → DatIn nu' v (.tuple (ds.take a)) → Q v { s with heap := h' })
    (hs : subscripted slice false (.ref t) (.ref s.heap.objs.size) = operate [.ref s.heap.objs.size, .ref t] (getItem (.ref t) (.ref s.heap.objs.size)) := by with_unfolding_all rfl)
    (hg : ∀ r, letTemporaryGo value (.ref t) r = pure () := by intro _; with_unfolding_all rfl) :
    wpAny (model prog w) A (subscriptTail value slice (.ref t) (.ref s.heap.objs.size)) Q E { s with heap := s.heap.push { cls := .type "slice", data := .fields #[.none, .int a u, .none] } } := by
  have ht : IsTup s.heap t vs.toArray := ⟨_, (N _ (List.mem_append_right _ hm)).1, rfl, _, rfl⟩
  have ht' : IsTup (s.heap.push { cls := .type "slice", data := .fields #[.none, .int a u, .none] }) t vs.toArray := ht.keeps fun _ _ e => Heap.get?_push_of_some _ e
  have up : ∀ b o, s.heap.get? b = some o → (s.heap.push { cls := .type "slice", data := .fields #[.none, .int a u, .none] }).get? b = some o := fun b o e => Heap.get?_push_of_some _ e
  have N0 : News h₀ L (s.heap.push { cls := .type "slice", data := .fields #[.none, .int a u, .none] }) (mu ++ nu) := N.grown up
  refine subscriptTail_ops (s := { s with heap := s.heap.push { cls := .type "slice", data := .fields #[.none, .int a u, .none] } }) ht'.typeIs slot_tuple_getitem.lookup
    (getItem_tuple_upto ht' (Heap.IsSliceOf.new ..) (by rw [List.size_toArray]; exact ha) (fun e => ?_) ?_ (by rw [List.size_toArray, sizeLine_eq]; omega)) hs hg
  · refine h _ _ nu (F.push _) N0 ap (Sub.refl _) (.tuple hm ?_)
    rw [List.size_toArray] at e
    rw [e, hds.length, List.take_length]
    exact hds
  · have N1 := News.push (F.push { cls := .type "slice", data := .fields #[.none, .int a u, .none] }) N0 { cls := .type "tuple", data := .seq (vs.toArray.toList.take a).toArray }
    refine h _ _ (((s.heap.push { cls := .type "slice", data := .fields #[.none, .int a u, .none] }).objs.size, tupO (vs.take a) 0) :: nu) ((F.push _).push _) (news_mid N1) (apart_mid (fun q hq => Heap.lt_size (N0 q hq).1) ap) sub_cons (.tuple (.head _) ?_)
    exact (datAll_take a hds).mono sub_cons
end
end PS14
section PS15
local macro_rules | `(tactic| walk_at "MY other") => `(tactic| skip)
theorem datAll_drop {nu : Led} : ∀ (a : Nat) {vs : List Value} {ds : List Dat}, DatAll nu vs ds → DatAll nu (vs.drop a) (ds.drop a)
  | 0, _, _, h => h
  | a + 1, _, _, .nil => .nil
  | a + 1, _, _, .cons _ r => datAll_drop a r
noncomputable def point (a b c : Int) (x : Int) : Int := if x = 0 then a else if x = 1 then b else c
noncomputable def meetsB (pt : Int → Int) (p : Lit) : Bool := decide (keepF p.2.1 p.2.2 [pt p.1] ≠ [])
noncomputable def heldB (pt : Int → Int) (l : List Lit) : Bool := decide (l.filter (meetsB pt) ≠ [])
theorem bools_all {h : Heap} {nu : Led} : ∀ {bs : List Bool} {vs : List Value}, DatAll nu vs (bs.map Dat.bool) → ∃ as, ReadsAll h vs (bs.map PyData.bool) as
  | [], _, .nil => ⟨_, ReadsAll.nil⟩
  | b :: bs, _, .cons hd r => by
    cases hd
    obtain ⟨as, q⟩ := bools_all (h := h) r
    exact ⟨_, ReadsAll.cons (Reads.bool b) q⟩
theorem bools_lay : ∀ bs : List Bool, PyData.canLayAll0 (bs.map PyData.bool) = true ∧ PyData.depthAll (bs.map PyData.bool) ≤ 1
  | [] => by simp [PyData.canLayAll0, PyData.depthAll]
  | b :: bs => by
    have := bools_lay bs
    simp only [List.map_cons, PyData.canLayAll0, PyData.depthAll, PyData.canLay0, PyData.depth, this.1, Bool.and_self, true_and]
    have h2 := this.2
    omega
theorem bools_any : ∀ bs : List Bool, ((bs.map PyData.bool).any fun y => PyData.eqv y (.bool false)) = bs.contains false
  | [] => rfl
  | b :: bs => by
    rw [List.map_cons, List.any_cons, bools_any bs, List.contains_cons]
    cases b <;> rfl
theorem notIn_bools {prog : Program} {w : World} {A : Around} {E : Value → Shared → Prop} {s : Shared} {h₀ : Heap} {L a : Addr} {news nu : Led} {vs : List Value} {k : Nat} {bs : List Bool} {Q : Value → Shared → Prop} (N : News h₀ L s.heap news) (ma : (a, lstO vs k) ∈ news) (hd : DatAll nu vs (bs.map Dat.bool)) (hu : A.units + 64 < cLine) (h : Q (.bool (!bs.contains false)) s) :
    wpAny (model prog w) A (compareOp .NotIn (.bool false) (.ref a)) Q E s := by
  obtain ⟨as, ra⟩ := bools_all (h := s.heap) hd
  refine SeqAt.notIn_list_reads (reads_list_at (N.get ma) rfl rfl (by simpa using ra)) (Reads.bool false) (bools_lay bs).1 rfl ?_ (by rw [bools_any]; exact h)
  have h1 := Nat.min_le_left (PyData.depthAll (bs.map PyData.bool)) (PyData.bool false).depth
  have h2 := (bools_lay bs).2
  omega
section
variable {prog : Program} {w : World} {A : Around} {E : Value → Shared → Prop} {s : Shared} {h₀ h : Heap} {L : Addr} {m : Str → Option Value} {mu nu news rest : Led} {D : Addr} {ys : List Value} {n : Nat} {v : Value}
theorem item_tupV {value slice : PySem.Expr} {i : Int} {u : Tok} {x : Value} {Q : Value → Shared → Prop} (N : News h₀ L s.heap news) (hm : (D, tupO ys n) ∈ news) (h0 : 0 ≤ i) (hf : i < 1000000) (hx : ys[i.toNat]? = some x) (h : Q x s)
    (hs : subscripted slice false (.ref D) (.int i u) = operate [.ref D, .int i u] (getItem (.ref D) (.int i u)) := by with_unfolding_all rfl) :
    wpAny (model prog w) A (subscriptTail value slice (.ref D) (.int i u)) Q E s := by
  have hi : i.toNat < ys.length := (List.getElem?_eq_some_iff.mp hx).1
  have hj : seqIndex? i ys.length = some i.toNat := by
    unfold seqIndex?
    have a1 : ¬ i < 0 := by omega
    simp [a1, h0]; omega
  exact item_tupleT (l := ys) (j := i.toNat) ⟨_, (N _ hm).1, rfl, _, rfl⟩ (by omega) (by omega) hj hx h hs
end
theorem kqd_ones (l : List Lit) : kqdOk 9 (.list (l.map fun _ => Dat.int 1)) = true := by
  simp [kqdOk]
local macro_rules | `(tactic| walk_at "subscriptTail") => `(tactic| (k_here; (with_reducible show wpAny _ _ (subscriptTail _ _ (Value.ref _) (Value.int _ _)) _ _ _); k_dflt (refine' item_lstV ?N ?m ?a ?f ?b ?_; (case N => k_asm); (case m => k_mem); (case a => first | assumption | decide); (case f => omega); (case b => assumption); k_whole)))
local macro_rules | `(tactic| walk_at "subscriptTail") => `(tactic| (k_here; (with_reducible show wpAny _ _ (subscriptTail _ _ (Value.ref _) (Value.int _ _)) _ _ _); k_dflt (refine' item_tupV ?N ?m ?a ?f ?b ?_; (case N => k_asm); (case m => k_mem); (case a => first | assumption | decide); (case f => omega); (case b => assumption); k_whole)))
local macro_rules | `(tactic| walk_at "subscriptTail Name") => `(tactic| walk_at "subscriptTail")
local macro_rules | `(tactic| walk_at "binaryOp Add ref ref") => `(tactic| refine Stop.out ?_)
local macro_rules | `(tactic| walk_at "compareOp NotIn bool ref") => `(tactic| refine Stop.out ?_)
local macro_rules | `(tactic| walk_at "subscriptTail Name Slice ref ref") => `(tactic| refine Stop.out ?_)
set_option maxHeartbeats 8000000 in
theorem point_spec {vq : Program} {w : World} {mean : ExcName → Option Value} {mg mb : Str → Option Value} {lv cv sv : Value} {c : List Lit} {ls : List (List Lit)} {lots : Int → List Int} {mu nu : Led} (hl : DatIn nu lv (.list ((lots3 lots).map intsD))) (hlots : ∀ x, lots x ∈ allLots) (hc : DatIn nu cv (clD c)) (hok : c.length ≤ 100 ∧ ∀ p ∈ c, LitOk p) (hls : DatIn nu sv (.tuple (ls.map clD))) (hlsl : ls.length ≤ 100) (hoks : ∀ l ∈ ls, l.length ≤ 100 ∧ ∀ p ∈ l, LitOk p) :
    Spec vq w mean mg mb 490 [lv, cv, sv] 9 mu nu (fun mu' nu' r => mu' = mu ∧ ∃ b : Bool, r = .bool b ∧ (b = true → ∃ x ∈ lots 0, ∃ y ∈ lots 1, ∃ z ∈ lots 2, heldB (point x y z) c = false ∧ ∀ l ∈ ls, heldB (point x y z) l = true)) := by
  intro dp un gd cn cs a ccd cl outer A₀ base h₀ L m news s Q E B F X N T hk hsp hap hd hu hret
  cases hsp
  obtain ⟨la, ln, vs, rfl, hlm, hall⟩ := listD_inv hl
  obtain ⟨ca, cn', cvs, rfl, hcm, hcall⟩ := tupD_inv hc
  obtain ⟨sa, sn, svs, rfl, hsm0, hsall⟩ := tupD_inv hls
  obtain ⟨v0, hv0, hd0⟩ := lots_at hall (x := 0) (by decide) (by decide)
  obtain ⟨v1, hv1, hd1⟩ := lots_at hall (x := 1) (by decide) (by decide)
  obtain ⟨v2, hv2, hd2⟩ := lots_at hall (x := 2) (by decide) (by decide)
  obtain ⟨a0, n0, vs0, rfl, hm0, hall0⟩ := listD_inv hd0
  obtain ⟨a1, n1, vs1, rfl, hm1, hall1⟩ := listD_inv hd1
  obtain ⟨a2, n2, vs2, rfl, hm2, hall2⟩ := listD_inv hd2
  w_on
  refine wpAny_call ?_
  k_dflt walk_at "MY enterC"
  rename_i g1 L1 h1 tk1 FG1 F1 B1 X1 T1 l1 o3 o2 o1 hd3 hd2' hd1' N1
  have hap1 : Apart ((L1 + 1 + 1 + 1, o3) :: (L1 + 1 + 1, o2) :: (L1 + 1, o1) :: mu) nu := by
    have hl : ∀ q ∈ nu, q.1 < L1 := fun q hq => l1 q (List.mem_append_right _ hq)
    exact apart_cons (fun q hq => Nat.ne_of_gt (Nat.lt_succ_of_lt (Nat.lt_succ_of_lt (Nat.lt_succ_of_lt (hl q hq))))) (apart_cons (fun q hq => Nat.ne_of_gt (Nat.lt_succ_of_lt (Nat.lt_succ_of_lt (hl q hq)))) (apart_cons (fun q hq => Nat.ne_of_gt (Nat.lt_succ_of_lt (hl q hq))) hap))
  have hmuL : ∀ q ∈ mu, q.1 < L1 := fun q hq => l1 q (List.mem_append_left _ hq)
  k_steps
  refine Stop.mk (for_eval F1 ?_)
  k_steps
  refine ForGoal.intro ((L1 + 1 + 1 + 1, o3) :: (L1 + 1 + 1, o2) :: (L1 + 1, o1) :: mu) nu (fun i m' mu' nu' => ∃ (o3 o2 o1 : Obj) (x3 x2 x1 : Option Value) (u : Str → Option Value), m' = (fun y => if y = Str.ofString "lots" then some (.ref la) else if y = Str.ofString "clause" then some (.ref ca) else if y = Str.ofString "lines" then some (.ref sa) else u y) ∧ mu' = (L1 + 1 + 1 + 1, o3) :: (L1 + 1 + 1, o2) :: (L1 + 1, o1) :: mu ∧ o3.data = Data.cell x3 ∧ o2.data = Data.cell x2 ∧ o1.data = Data.cell x1) (src_list rfl N1 hm0 (fun p hp => .tail _ (.tail _ (.tail _ (List.mem_append_right _ hp))))) (fr_set (x := Str.ofString "lots") (v := .ref la) (fr_set (x := Str.ofString "clause") (v := .ref ca) (fr_set (x := Str.ofString "lines") (v := .ref sa) F1 rfl) rfl) rfl) N1 hap1 ⟨o3, o2, o1, _, _, _, _, rfl, rfl, hd3, hd2', hd1'⟩ ?_ ?_
  · clear N1 F1 hap1 hd1' hd2' hd3
    rintro i v m1 mu1 nu1 I1 oI1 s1 hi1 hP1 ⟨o3, o2, o1, x3, x2, x1, u1, rfl, rfl, hc3, hc2, hc1⟩ hsub1 hsm1 F1 N1 off1 ap1 R1 hR1
    obtain ⟨x, hx, hxd⟩ := datAll_at hall0 hP1
    obtain ⟨tx, rfl⟩ : ∃ tx, v = .int x tx := by cases hxd; exact ⟨_, rfl⟩
    have hI13 : @Ne Nat I1 (L1 + 1 + 1 + 1) := Ne.symm (off1 (_, o3) (.head _))
    have hI12 : @Ne Nat I1 (L1 + 1 + 1) := Ne.symm (off1 (_, o2) (.tail _ (.head _)))
    have hI11 : @Ne Nat I1 (L1 + 1) := Ne.symm (off1 (_, o1) (.tail _ (.tail _ (.head _))))
    have hall1' : ∀ p ∈ mu ++ nu1, p.1 ≠ L1 + 1 := fun p hp => by
      rcases List.mem_append.mp hp with hp | hp
      · exact Nat.ne_of_lt (Nat.lt_succ_of_lt (hmuL p hp))
      · exact Ne.symm (ap1 _ (.tail _ (.tail _ (.head _))) p hp)
    have hlm1 := hsub1 _ hlm
    have N1' : News g1 L1 s1.heap ((I1, oI1) :: (L1 + 1 + 1 + 1, o3) :: (L1 + 1 + 1, o2) :: (L1 + 1, o1) :: (mu ++ nu1)) := N1
    clear N1
    k_steps
    rename_i h2 o1' F2 N2 hc1'
    have N2' : News g1 L1 h2 (((I1, oI1) :: (L1 + 1 + 1 + 1, o3) :: (L1 + 1 + 1, o2) :: (L1 + 1, o1') :: mu) ++ nu1) := N2
    clear N2
    have ap2 : Apart ((I1, oI1) :: (L1 + 1 + 1 + 1, o3) :: (L1 + 1 + 1, o2) :: (L1 + 1, o1') :: mu) nu1 := apart_cons (fun q hq => Ne.symm (off1 q (List.mem_append_right _ hq))) (apart_addr ap1 rfl)
    refine Stop.mk (for_eval F2 ?_)
    k_steps
    refine ForGoal.intro ((I1, oI1) :: (L1 + 1 + 1 + 1, o3) :: (L1 + 1 + 1, o2) :: (L1 + 1, o1') :: mu) nu1 (fun i m' mu' nu' => ∃ (o3 o2 : Obj) (x3 x2 : Option Value) (u : Str → Option Value), m' = (fun y => if y = Str.ofString "lots" then some (.ref la) else if y = Str.ofString "clause" then some (.ref ca) else if y = Str.ofString "lines" then some (.ref sa) else u y) ∧ mu' = (I1, oI1) :: (L1 + 1 + 1 + 1, o3) :: (L1 + 1 + 1, o2) :: (L1 + 1, o1') :: mu ∧ o3.data = Data.cell x3 ∧ o2.data = Data.cell x2) (src_list rfl N2' (hsub1 _ hm1) (fun p hp => List.mem_append_right _ hp)) (fr_set (x := Str.ofString "lots") (v := .ref la) (fr_set (x := Str.ofString "clause") (v := .ref ca) (fr_set (x := Str.ofString "lines") (v := .ref sa) F2 rfl) rfl) rfl) N2' ap2 ⟨o3, o2, _, _, _, rfl, rfl, hc3, hc2⟩ ?_ ?_
    · clear F2 N2' F1 hc3 hc2 hc1 ap1
      rintro i2 v m2 mu2 nu2 I2 oI2 s2 hi2 hP2 ⟨o3, o2, x3, x2, u2, rfl, rfl, hc3, hc2⟩ hsub2 hsm2 F2 N2 off2 ap2 R2 hR2
      obtain ⟨y, hy, hyd⟩ := datAll_at hall1 hP2
      obtain ⟨ty, rfl⟩ : ∃ ty, v = .int y ty := by cases hyd; exact ⟨_, rfl⟩
      have hI23 : @Ne Nat I2 (L1 + 1 + 1 + 1) := Ne.symm (off2 (_, o3) (.tail _ (.head _)))
      have hI22 : @Ne Nat I2 (L1 + 1 + 1) := Ne.symm (off2 (_, o2) (.tail _ (.tail _ (.head _))))
      have hall2' : ∀ p ∈ mu ++ nu2, p.1 ≠ L1 + 1 + 1 := fun p hp => by
        rcases List.mem_append.mp hp with hp | hp
        · exact Nat.ne_of_lt (Nat.lt_succ_of_lt (Nat.lt_succ_of_lt (hmuL p hp)))
        · exact Ne.symm (ap2 _ (.tail _ (.tail _ (.head _))) p hp)
      have hlm2 := hsub2 _ hlm1
      have N2' : News g1 L1 s2.heap ((I2, oI2) :: (I1, oI1) :: (L1 + 1 + 1 + 1, o3) :: (L1 + 1 + 1, o2) :: (L1 + 1, o1') :: (mu ++ nu2)) := N2
      clear N2
      k_steps
      rename_i h3 o2' F3 N3 hc2'
      have N3' : News g1 L1 h3 (((I2, oI2) :: (I1, oI1) :: (L1 + 1 + 1 + 1, o3) :: (L1 + 1 + 1, o2') :: (L1 + 1, o1') :: mu) ++ nu2) := N3
      clear N3
      have ap3 : Apart ((I2, oI2) :: (I1, oI1) :: (L1 + 1 + 1 + 1, o3) :: (L1 + 1 + 1, o2') :: (L1 + 1, o1') :: mu) nu2 := apart_cons (fun q hq => Ne.symm (off2 q (List.mem_append_right _ hq))) (apart_addr ap2 rfl)
      refine Stop.mk (for_eval F3 ?_)
      k_steps
      refine ForGoal.intro ((I2, oI2) :: (I1, oI1) :: (L1 + 1 + 1 + 1, o3) :: (L1 + 1 + 1, o2') :: (L1 + 1, o1') :: mu) nu2 (fun i m' mu' nu' => ∃ (o3 : Obj) (x3 : Option Value) (u : Str → Option Value), m' = (fun y => if y = Str.ofString "lots" then some (.ref la) else if y = Str.ofString "clause" then some (.ref ca) else if y = Str.ofString "lines" then some (.ref sa) else u y) ∧ mu' = (I2, oI2) :: (I1, oI1) :: (L1 + 1 + 1 + 1, o3) :: (L1 + 1 + 1, o2') :: (L1 + 1, o1') :: mu ∧ o3.data = Data.cell x3) (src_list rfl N3' (hsub2 _ (hsub1 _ hm2)) (fun p hp => List.mem_append_right _ hp)) (fr_set (x := Str.ofString "lots") (v := .ref la) (fr_set (x := Str.ofString "clause") (v := .ref ca) (fr_set (x := Str.ofString "lines") (v := .ref sa) F3 rfl) rfl) rfl) N3' ap3 ⟨o3, _, _, rfl, rfl, hc3⟩ ?_ ?_
      · clear F3 N3' F2 hc3 ap2
        rintro i3 v m3 mu3 nu3 I3 oI3 s3 hi3 hP3 ⟨o3, x3, u3, rfl, rfl, hc3⟩ hsub3 hsm3 F3 N3 off3' ap3 R3 hR3
        obtain ⟨z, hz, hzd⟩ := datAll_at hall2 hP3
        obtain ⟨tz, rfl⟩ : ∃ tz, v = .int z tz := by cases hzd; exact ⟨_, rfl⟩
        have hI33 : @Ne Nat I3 (L1 + 1 + 1 + 1) := Ne.symm (off3' (_, o3) (.tail _ (.tail _ (.head _))))
        have hall3' : ∀ p ∈ mu ++ nu3, p.1 ≠ L1 + 1 + 1 + 1 := fun p hp => by
          rcases List.mem_append.mp hp with hp | hp
          · exact Nat.ne_of_lt (Nat.lt_succ_of_lt (Nat.lt_succ_of_lt (Nat.lt_succ_of_lt (hmuL p hp))))
          · exact Ne.symm (ap3 _ (.tail _ (.tail _ (.head _))) p hp)
        have hlm3 := hsub3 _ hlm2
        have hcm3 := hsub3 _ (hsub2 _ (hsub1 _ hcm))
        have hsm3' := hsub3 _ (hsub2 _ (hsub1 _ hsm0))
        have N3' : News g1 L1 s3.heap ((I3, oI3) :: (I2, oI2) :: (I1, oI1) :: (L1 + 1 + 1 + 1, o3) :: (L1 + 1 + 1, o2') :: (L1 + 1, o1') :: (mu ++ nu3)) := N3
        clear N3
        k_steps
        rename_i h4 o3' F4 N4 hc3'
        have N4' : News g1 L1 h4 (((I3, oI3) :: (I2, oI2) :: (I1, oI1) :: (L1 + 1 + 1 + 1, o3') :: (L1 + 1 + 1, o2') :: (L1 + 1, o1') :: mu) ++ nu3) := N4
        clear N4
        have ap4 : Apart ((I3, oI3) :: (I2, oI2) :: (I1, oI1) :: (L1 + 1 + 1 + 1, o3') :: (L1 + 1 + 1, o2') :: (L1 + 1, o1') :: mu) nu3 := apart_cons (fun q hq => Ne.symm (off3' q (List.mem_append_right _ hq))) (apart_addr ap3 rfl)
        have hcD3 := hc.mono ((hsub1.trans hsub2).trans hsub3)
        have hsD3 := hls.mono ((hsub1.trans hsub2).trans hsub3)
        generalize hmuA : (I3, oI3) :: (I2, oI2) :: (I1, oI1) :: (L1 + 1 + 1 + 1, o3') :: (L1 + 1 + 1, o2') :: (L1 + 1, o1') :: mu = muA at N4' ap4
        have hm3 : (L1 + 1 + 1 + 1, o3') ∈ muA := hmuA ▸ .tail _ (.tail _ (.tail _ (.head _)))
        have hm2' : (L1 + 1 + 1, o2') ∈ muA := hmuA ▸ .tail _ (.tail _ (.tail _ (.tail _ (.head _))))
        have hm1' : (L1 + 1, o1') ∈ muA := hmuA ▸ .tail _ (.tail _ (.tail _ (.tail _ (.tail _ (.head _)))))
        refine Stop.mk (comp_assign (cl := [(Str.ofString "c", L1 + 1 + 1 + 1), (Str.ofString "b", L1 + 1 + 1), (Str.ofString "a", L1 + 1)]) F4 rfl (by with_unfolding_all rfl) (by with_unfolding_all rfl) (by decide) rfl (by decide) (by with_unfolding_all rfl) (by with_unfolding_all rfl) ?_)
        k_steps
        rename_i D5 h5 F5 N5 l5
        have ap5 : Apart muA ((D5, tupO [.ref ca] 0) :: nu3) := apart_mid l5 ap4
        have N5' : News g1 L1 h5 (muA ++ ((D5, tupO [.ref ca] 0) :: nu3)) := newsSub N5 (by walk_at "MY sub")
        clear N5
        refine Stop.mk (add_tupD F5 N5' Split.base ap5 (ds := [clD c]) (.tuple (.head _) (.cons (hcD3.mono sub_cons) .nil)) (hsD3.mono sub_cons) (by rw [List.length_map]; simp; omega) ?_)
        intro r6 h6 nu6 F6 N6 ap6 sub6 hr6
        obtain ⟨ra, rn, rvs, rfl, hrm, hrall⟩ := tupD_inv hr6
        have hrall' : DatAll nu6 rvs ((c :: ls).map clD) := hrall
        refine CompGoal.intro muA nu6 (fun j zs mu' nu'' => mu' = muA ∧ DatAll nu'' zs (((c :: ls).take j).map fun l => Dat.bool (heldB (point x y z) l))) (src_tuple rfl N6 hrm (fun p hp => List.mem_append_right _ hp)) (by rw [hrall.length, sizeLine_eq]; simp; omega) F6 N6 ap6 ⟨rfl, .nil⟩ ?_ ?_
        · rintro j v zs mu' nu7 I oI C oC D2 m₂ s7 hj hP7 hyl ⟨rfl, hzs⟩ hsub7 hsm7 hoC F7 N7 off7 hIC hID2 hCD ap7 R4 hR4
          --DEV{
          obtain ⟨l, hl, hld⟩ := datAll_at hrall' hP7
          obtain ⟨hllen, hlok⟩ : l.length ≤ 100 ∧ ∀ p ∈ l, LitOk p := by
            rcases List.mem_cons.mp (List.mem_of_getElem? hl) with rfl | hm
            · exact hok
            · exact hoks l hm
          obtain ⟨va, vn, vvs, rfl, hvm, hvall⟩ := tupD_inv hld
          have hvlen : vvs.length = l.length := by rw [hvall.length, List.length_map]
          refine turn_name rfl rfl hoC F7 N7 off7 hIC hCD ?_
          intro h8 oC8 m8 hoC8 hv8 F8 N8'
          have ap8 := apart3 (oI := oI) (oC := oC8) (oD := lst zs) off7 ap7
          have N8 : News g1 L1 h8 (((I, oI) :: (C, oC8) :: (D2, lst zs) :: mu') ++ nu7) := N8'
          clear N8' N7 F7
          refine wpAny_tests_nil ?_
          k_steps
          refine Stop.mk (comp_eval (cl := [(Str.ofString "c", L1 + 1 + 1 + 1), (Str.ofString "b", L1 + 1 + 1), (Str.ofString "a", L1 + 1)]) F8 (by with_unfolding_all rfl) (by decide) rfl (by decide) ?_)
          k_steps
          refine CompGoal.intro ((I, oI) :: (C, oC8) :: (D2, lst zs) :: mu') nu7 (fun j ws mu2 nu8 => mu2 = (I, oI) :: (C, oC8) :: (D2, lst zs) :: mu' ∧ DatAll nu8 ws (((l.take j).filter (meetsB (point x y z))).map fun _ => Dat.int 1)) (src_tuple rfl N8 (hsub7 _ hvm) (fun p hp => List.mem_append_right _ hp)) (by rw [hvlen, sizeLine_eq]; omega) F8 N8 ap8 ⟨rfl, .nil⟩ ?_ ?_
          · rintro j2 v ws mu2 nu9 I2 oI2 C2 oC2 D3 m₃ s9 hj2 hP9 hyl2 ⟨rfl, hws⟩ hsub9 hsm9 hoC2 F9 N9 off9 hIC2 hID3 hCD2 ap9 R5 hR5
            --DEV{
            obtain ⟨p, hp, hpd⟩ := datAll_at hvall hP9
            have hpok := hlok p (List.mem_of_getElem? hp)
            obtain ⟨pa, pn, pt1, pt2, pt3, rfl, hpm⟩ := litD_inv hpd
            have hpm9 := hsub9 _ (hsub7 _ hpm)
            have hx0 := hpok.lo
            have hx3 := hpok.hi
            obtain ⟨tt, hpt⟩ : ∃ tt, [Value.int x tx, .int y ty, .int z tz][p.1.toNat]? = some (.int (point x y z p.1) tt) := by
              have : p.1 = 0 ∨ p.1 = 1 ∨ p.1 = 2 := by omega
              rcases this with e | e | e <;> rw [e] <;> exact ⟨_, rfl⟩
            refine turn_name rfl rfl hoC2 F9 N9 off9 hIC2 hCD2 ?_
            intro h10 oC10 m10 hoC10 hv10 F10 N10
            have ap10 := apart3 (oI := oI2) (oC := oC10) (oD := lst ws) off9 ap9
            refine wpAny_tests_one ?_
            k_steps
            rename_i T5 _ l5T L6 h11 F11 N11 l11
            have l12 := ktn_ltOf l11.2.2.2.2
            have ap12 : Apart ((I2, oI2) :: (C2, oC10) :: (D3, lst ws) :: (I, oI) :: (C, oC8) :: (D2, lst zs) :: mu') ((L6, lstO [.int (point x y z p.1) tt] 0) :: nu9) := apart_fresh (fun q hq => by
              rcases List.mem_cons.mp hq with rfl | hq
              · exact Nat.ne_of_lt l11.2.1
              · rcases List.mem_cons.mp hq with rfl | hq
                · exact Nat.ne_of_lt l11.2.2.1
                · rcases List.mem_cons.mp hq with rfl | hq
                  · exact Nat.ne_of_lt l11.2.2.2.1
                  · exact Nat.ne_of_lt (l12 q (List.mem_append_left _ hq))) ap10
            have N11' : News g1 L1 h11 ((L6, lstO [.int (point x y z p.1) tt] 0) :: (T5, _) :: (I2, oI2) :: (C2, oC10) :: (D3, lst ws) :: (((I, oI) :: (C, oC8) :: (D2, lst zs) :: mu') ++ nu9)) := N11
            have N12 : News g1 L1 h11 (((I2, oI2) :: (C2, oC10) :: (D3, lst ws) :: (I, oI) :: (C, oC8) :: (D2, lst zs) :: mu') ++ ((L6, lstO [.int (point x y z p.1) tt] 0) :: nu9)) := newsSub N11' (by walk_at "MY sub")
            clear N11
            refine Stop.mk (Spec.on (kept_spec (l := [point x y z p.1]) (.list (.head _) (.cons (.int _ _) .nil)) ((hpd.mono (hsub7.trans hsub9)).mono sub_cons) (by simp)) (by assumption) (by assumption) (by assumption) (by assumption) (by assumption) rfl (by assumption) (by walk_at "MY subs") (by ktr_room) (by ktr_units) ?_)
            rintro r13 s13 mu13 nu13 sm13 F13 N13 ap13 sub13 ⟨hmu, hr13⟩
            subst hmu
            obtain ⟨k13, kn13, kv13, rfl, hkm13, hkall13⟩ := listD_inv hr13
            k_steps
            rename_i Z h14 F14 N14 l14
            refine Stop.mk (ne_dat (n₁ := nu13) (n₂ := [(Z, lstO [] 0)]) N14 hr13 (by walk_at "MY sub") (.list (.head _) .nil) (by walk_at "MY sub") (kqd_ints9 _) (kqd_ints9 []) (by ktr_units) ?_)
            intro b hb
            rw [Dat.list.injEq, List.map_eq_nil_iff] at hb
            have N15 : News g1 L1 h14 (((I2, oI2) :: (C2, oC10) :: (D3, lst ws) :: (I, oI) :: (C, oC8) :: (D2, lst zs) :: mu') ++ nu13) := newsSub N14 (by walk_at "MY sub")
            clear N14
            k_steps
            · rename_i hbt
              refine hR5 _ _ (turnEnd_call F14 N15 hoC10 off9 ⟨sm13.1.trans hsm9.1, sm13.2.trans hsm9.2⟩ ap13 (hsub9.trans (sub_cons.trans sub13)) ⟨rfl, ?_⟩)
              rw [take_snoc hp, filter_yes (f := meetsB (point x y z)) (decide_eq_true (hb.mp hbt)), List.map_append]
              exact datAll_snoc (hws.mono (sub_cons.trans sub13)) (.int _ _)
            · rename_i hbt
              refine hR5 _ _ (turnEnd_call F14 N15 hoC10 off9 ⟨sm13.1.trans hsm9.1, sm13.2.trans hsm9.2⟩ ap13 (hsub9.trans (sub_cons.trans sub13)) ⟨rfl, ?_⟩)
              rw [take_snoc hp, filter_no (f := meetsB (point x y z)) (decide_eq_false fun e => by rw [hb.mpr e] at hbt; cases hbt)]
              exact hws.mono (sub_cons.trans sub13)
            --DEV}
          · rintro ws D3 mu2 nu9 s9 ⟨rfl, hws⟩ hsm9 F9 N9 hD3 ap9 hsub9
            rw [hvlen, List.take_length] at hws
            k_steps
            rename_i Z h10 F10 N10 l10
            refine Stop.mk (ne_dat (n₁ := (D3, lst ws) :: nu9) (n₂ := [(Z, lstO [] 0)]) N10 (.list (.head _) (hws.mono sub_cons)) (by walk_at "MY sub") (.list (.head _) .nil) (by walk_at "MY sub") (kqd_ones _) rfl (by ktr_units) ?_)
            intro b hb
            rw [Dat.list.injEq, List.map_eq_nil_iff] at hb
            have N11 : News g1 L1 h10 (((I, oI) :: (C, oC8) :: (D2, lst zs) :: mu') ++ nu9) := newsSub N10 (by walk_at "MY sub")
            clear N10
            have hbe : heldB (point x y z) l = b := by
              unfold heldB
              cases b with
              | true => exact decide_eq_true (hb.mp rfl)
              | false => exact decide_eq_false fun e => by have := hb.mpr e; cases this
            k_steps
            refine hR4 _ _ (turnEnd_call F10 N11 hoC8 off7 ⟨hsm9.1.trans hsm7.1, hsm9.2.trans hsm7.2⟩ ap9 (hsub7.trans hsub9) ⟨rfl, ?_⟩)
            rw [take_snoc hl, List.map_append]
            exact datAll_snoc (hzs.mono hsub9) (by show DatIn nu9 (.bool b) (.bool (heldB (point x y z) l)); rw [hbe]; exact .bool _)
          --DEV}
        · rintro zs D2 mu' nu7 s7 ⟨rfl, hzs⟩ hsm7 F7' N7' hD2 ap7 hsub7 s7' hsm7' F7 N7
          rw [show rvs.length = (c :: ls).length by rw [hrall'.length, List.length_map], List.take_length] at hzs
          clear F7' N7'
          have hz0 : zs[Int.toNat 0]? = some (.bool (heldB (point x y z) c)) := by
            obtain ⟨v, hv, hvd⟩ := hzs.get (k := 0) (by simp)
            have : v = .bool (heldB (point x y z) c) := by
              have h : DatIn nu7 v (.bool (heldB (point x y z) c)) := hvd
              cases h; rfl
            rw [← this]; exact hv
          have hDm : (D2, lstO zs zs.length) ∈ (D2, lst zs) :: nu7 := .head _
          have ap8 : Apart mu' ((D2, lstO zs zs.length) :: nu7) := apart_fresh (fun q hq => hD2 q (List.mem_append_left _ hq)) ap7
          have N8 : News g1 L1 s7'.heap (mu' ++ ((D2, lstO zs zs.length) :: nu7)) := newsSub N7 (by walk_at "MY sub")
          clear N7
          k_steps
          · rename_i hbt _
            subst hmuA
            refine hR3 _ _ ⟨_, (I2, oI2) :: (I1, oI1) :: (L1 + 1 + 1 + 1, o3') :: (L1 + 1 + 1, o2') :: (L1 + 1, o1') :: mu, (D2, lstO zs zs.length) :: nu7, ⟨(hsm7'.1.trans hsm7.1).trans hsm3.1, (hsm7'.2.trans hsm7.2).trans hsm3.2⟩, fr_set (x := Str.ofString "lots") (v := .ref la) (fr_set (x := Str.ofString "clause") (v := .ref ca) (fr_set (x := Str.ofString "lines") (v := .ref sa) F7 rfl) rfl) rfl, N8, fun q hq => ?_, apart_tail ap8, hsub3.trans ((sub_cons.trans sub6).trans (hsub7.trans sub_cons)), o3', _, _, rfl, rfl, hc3'⟩
            rcases List.mem_append.mp hq with hq | hq
            · rcases List.mem_cons.mp hq with rfl | hq
              · exact off3' _ (.head _)
              · rcases List.mem_cons.mp hq with rfl | hq
                · exact off3' _ (.tail _ (.head _))
                · rcases List.mem_cons.mp hq with rfl | hq
                  · exact Ne.symm hI33
                  · exact off3' q (List.mem_append_left _ (.tail _ (.tail _ (.tail _ hq))))
            · exact Ne.symm (ap8 _ (.head _) q hq)
          · rename_i hbf
            refine Stop.mk ?_
            k_dflt refine' kmk_slice (s := { s7' with toks := s7'.toks + 1 + 1 }) F7 N8 (N8.isList (List.mem_append_right _ hDm)) (IsPart.int _ _) IsPart.none ?hh ?hs ?ht ?hz
            case hs => with_unfolding_all rfl
            case ht => intro _; with_unfolding_all rfl
            case hz => rw [List.size_toArray, hzs.length, sizeLine_eq]; simp; omega
            intro D9 h9 F9 N9 l9
            rw [show slicePick zs.toArray (some 1) none none = (zs.drop 1).toArray from slicePick_from' zs.toArray 1] at N9
            k_steps
            have hds : (((c :: ls).map fun l => Dat.bool (heldB (point x y z) l)).drop 1) = (ls.map (heldB (point x y z))).map Dat.bool := by rw [List.map_map]; rfl
            have hdr := datAll_drop 1 hzs
            rw [hds] at hdr
            refine Stop.mk (notIn_bools N9 (List.mem_cons_self ..) hdr (by ktr_units) ?_)
            subst hmuA
            k_steps
            · rename_i hin
              refine hR3 _ _ ⟨_, (I2, oI2) :: (I1, oI1) :: (L1 + 1 + 1 + 1, o3') :: (L1 + 1 + 1, o2') :: (L1 + 1, o1') :: mu, (D2, lstO zs zs.length) :: nu7, ⟨(hsm7'.1.trans hsm7.1).trans hsm3.1, (hsm7'.2.trans hsm7.2).trans hsm3.2⟩, fr_set (x := Str.ofString "lots") (v := .ref la) (fr_set (x := Str.ofString "clause") (v := .ref ca) (fr_set (x := Str.ofString "lines") (v := .ref sa) F9 rfl) rfl) rfl, newsSub N9 (fun q hq => .tail _ hq), fun q hq => ?_, apart_tail ap8, hsub3.trans ((sub_cons.trans sub6).trans (hsub7.trans sub_cons)), o3', _, _, rfl, rfl, hc3'⟩
              rcases List.mem_append.mp hq with hq | hq
              · rcases List.mem_cons.mp hq with rfl | hq
                · exact off3' _ (.head _)
                · rcases List.mem_cons.mp hq with rfl | hq
                  · exact off3' _ (.tail _ (.head _))
                  · rcases List.mem_cons.mp hq with rfl | hq
                    · exact Ne.symm hI33
                    · exact off3' q (List.mem_append_left _ (.tail _ (.tail _ (.tail _ hq))))
              · exact Ne.symm (ap8 _ (.head _) q hq)
            · rename_i hin
              have hP : ∀ l ∈ ls, heldB (point x y z) l = true := fun l hl => by
                cases hh : heldB (point x y z) l with
                | true => rfl
                | false =>
                  have : (ls.map (heldB (point x y z))).contains false = true := List.contains_iff_mem.mpr (List.mem_map.mpr ⟨l, hl, hh⟩)
                  rw [this] at hin; cases hin
              dsimp only
              k_steps
              refine hR3 _ _ (ForEnd.ret ?_)
              dsimp only
              k_steps
              refine hR2 _ _ (ForEnd.ret ?_)
              dsimp only
              k_steps
              refine hR1 _ _ (ForEnd.ret ?_)
              dsimp only
              k_steps
              rename_i kF kN _ _
              refine hret _ _ mu nu7 ⟨(hsm7'.1.trans hsm7.1).trans (hsm3.1.trans (hsm2.1.trans hsm1.1)), (hsm7'.2.trans hsm7.2).trans (hsm3.2.trans (hsm2.2.trans hsm1.2))⟩ kF (newsSub kN (by walk_at "MY sub")) (apart_tail (apart_tail (apart_tail (apart_tail (apart_tail (apart_tail ap7)))))) (hsub1.trans (hsub2.trans (hsub3.trans ((sub_cons.trans sub6).trans hsub7)))) ⟨rfl, true, rfl, fun _ => ⟨x, List.mem_of_getElem? hx, y, List.mem_of_getElem? hy, z, List.mem_of_getElem? hz, hbf, hP⟩⟩
      · rintro m3 mu3 nu3 s3 ⟨o3, x3, u3, rfl, rfl, hc3⟩ hsm3 F3 N3 ap3 hsub3
        dsimp only
        k_steps
        refine hR2 _ _ ⟨_, (I1, oI1) :: (L1 + 1 + 1 + 1, o3) :: (L1 + 1 + 1, o2') :: (L1 + 1, o1') :: mu, nu3, ⟨hsm3.1.trans hsm2.1, hsm3.2.trans hsm2.2⟩, F3, N3, fun q hq => ?_, apart_tail ap3, hsub2.trans hsub3, o3, o2', x3, _, u3, rfl, rfl, hc3, hc2'⟩
        rcases List.mem_append.mp hq with hq | hq
        · rcases List.mem_cons.mp hq with rfl | hq
          · exact off2 _ (.head _)
          · rcases List.mem_cons.mp hq with rfl | hq
            · exact Ne.symm hI23
            · rcases List.mem_cons.mp hq with rfl | hq
              · exact Ne.symm hI22
              · exact off2 q (List.mem_append_left _ (.tail _ (.tail _ (.tail _ hq))))
        · exact Ne.symm (ap3 _ (.head _) q hq)
    · rintro m2 mu2 nu2 s2 ⟨o3, o2, x3, x2, u2, rfl, rfl, hc3, hc2⟩ hsm2 F2 N2 ap2 hsub2
      dsimp only
      k_steps
      refine hR1 _ _ ⟨_, (L1 + 1 + 1 + 1, o3) :: (L1 + 1 + 1, o2) :: (L1 + 1, o1') :: mu, nu2, ⟨hsm2.1.trans hsm1.1, hsm2.2.trans hsm1.2⟩, F2, N2, fun q hq => ?_, apart_tail ap2, hsub1.trans hsub2, o3, o2, o1', x3, x2, _, u2, rfl, rfl, hc3, hc2, hc1'⟩
      rcases List.mem_append.mp hq with hq | hq
      · rcases List.mem_cons.mp hq with rfl | hq
        · exact Ne.symm hI13
        · rcases List.mem_cons.mp hq with rfl | hq
          · exact Ne.symm hI12
          · rcases List.mem_cons.mp hq with rfl | hq
            · exact Ne.symm hI11
            · exact off1 q (List.mem_append_left _ (.tail _ (.tail _ (.tail _ hq))))
      · exact Ne.symm (ap2 _ (.head _) q hq)
  · rintro m1 mu1 nu1 s1 ⟨o3, o2, o1, x3, x2, x1, u1, rfl, rfl, hc3, hc2, hc1⟩ hsm1 F1 N1 ap1 hsub1
    dsimp only
    k_steps
    rename_i kF kN _ _
    exact hret _ _ mu nu1 ⟨hsm1.1, hsm1.2⟩ kF (newsSub kN (by walk_at "MY sub")) (apart_tail (apart_tail (apart_tail ap1))) hsub1 ⟨rfl, false, rfl, fun e => nomatch e⟩
end PS15
section PB6
theorem ChkOk.mono {nu nu' : Led} {ck ld : Addr} {lots : Int → List Int} (h : ChkOk nu ck ld lots) (hs : Sub nu nu') : ChkOk nu' ck ld lots := by
  obtain ⟨dx, n, k, h1, h2, h3, h4, t1, t2, t3, t4, v2, v3, v4, vs, a, b, c, d⟩ := h.ex
  exact ⟨⟨dx, n, k, h1, h2, h3, h4, t1, t2, t3, t4, v2, v3, v4, vs, hs _ a, hs _ b, hs _ c, d.mono hs⟩, h.lots⟩
theorem ks_at {us : List Value} {n : Nat} (h : IntsAre us (rangeKs 0 (n + 1) ++ [(n : Int)])) {i : Nat} {v : Value} (hv : us[i]? = some v) : ∃ (a : Nat) (t : Tok), v = .int (a : Int) t ∧ a ≤ n := by
  obtain ⟨t, rfl⟩ := IntsAre.int_at h i v hv
  have hi : i < us.length := (List.getElem?_eq_some_iff.mp hv).1
  rw [h.length] at hi
  have hm : (rangeKs 0 (n + 1) ++ [(n : Int)]).getD i 0 ∈ rangeKs 0 (n + 1) ++ [(n : Int)] := by
    rw [List.getD_eq_getElem?_getD, List.getElem?_eq_getElem hi, Option.getD_some]
    exact List.getElem_mem _
  generalize (rangeKs 0 (n + 1) ++ [(n : Int)]).getD i 0 = z at hm
  rcases List.mem_append.mp hm with hm | hm
  · obtain ⟨j, hj, rfl⟩ := List.mem_map.mp hm
    rw [List.mem_range] at hj
    refine ⟨j, t, by rw [Int.zero_add], by omega⟩
  · rw [List.mem_singleton] at hm
    exact ⟨n, t, by rw [hm], Nat.le_refl _⟩
theorem range_upto (n : Nat) (h : n ≤ 1000) : Builtin.Range.rangeSize 0 ((n : Int)) 1 = (n : Int) ∧ Builtin.Range.small 0 (n : Int) 1 = true := by
  refine ⟨?_, small_one (by decide) (by decide) (by omega) (by omega)⟩
  unfold Builtin.Range.rangeSize
  simp
  omega
end PB6
section PB7
theorem ChkOk.dat {nu : Led} {ck ld : Addr} {lots : Int → List Int} (h : ChkOk nu ck ld lots) : DatIn nu (.ref ld) (.list ((rng lots).map domD)) := by
  obtain ⟨dx, n, k, h1, h2, h3, h4, t1, t2, t3, t4, v2, v3, v4, vs, a, b, c, d⟩ := h.ex
  exact .list c d
theorem kqd_doms (l : List (List (Int × Int))) : kqdOk 9 (.list (l.map domD)) = true := by
  simp [kqdOk]
section
variable {prog : Program} {w : World} {A : Around} {E : Value → Shared → Prop} {h₀ : Heap} {L : Addr} {m : Str → Option Value} {mu nu : Led}
theorem slice_up {h : Heap} {g : Array GenState} {d : Drawn} {tk : Nat} {o : OsState} {value slice : Expr} {t : Addr} {vs : List Value} {k a : Nat} {u : Tok} {ds : List Dat} {Q : Value → Shared → Prop}
    (F : Fr h₀ L h m) (N : News h₀ L h (mu ++ nu)) (ap : Apart mu nu) (hm : (t, tupO vs k) ∈ nu) (hds : DatAll nu vs ds) (ha : a ≤ vs.length) (hsz : vs.length ≤ 1000)
    (hq : ∀ v h' nu', Fr h₀ L h' m → News h₀ L h' (mu ++ nu') → Apart mu nu' → Sub nu nu' → DatIn nu' v (.tuple (ds.take a)) → Q v ⟨h', g, d, tk, o⟩)
    (hs : subscripted slice false (.ref t) (.ref h.objs.size) = operate [.ref h.objs.size, .ref t] (getItem (.ref t) (.ref h.objs.size)) := by with_unfolding_all rfl)
    (hg : ∀ r, letTemporaryGo value (.ref t) r = pure () := by intro _; with_unfolding_all rfl) :
    wpAny (model prog w) A (subscriptTail value slice (.ref t) (.ref h.objs.size)) Q E ⟨h.push { cls := .type "slice", data := .fields #[.none, .int a u, .none] }, g, d, tk, o⟩ :=
  slice_tuple_upto (s := ⟨h, g, d, tk, o⟩) F N ap hm hds ha hsz hq hs hg
end
end PB7
section PS16
/-- the reel: a list [cells, at] -/
noncomputable def ReelOk (o : Obj) (nu : Led) (k : Nat) : Prop := ∃ (ca n cn : Nat) (i : Int) (t : Tok) (cvs : List Value) (cs : List Int), o = lstO [.ref ca, .int i t] n ∧ (ca, lstO cvs cn) ∈ nu ∧ DatAll nu cvs (cs.map Dat.int) ∧ cs.length ≤ 80 ∧ 0 ≤ i ∧ i ≤ k
theorem ReelOk.mono {o : Obj} {nu nu' : Led} {k k' : Nat} (h : ReelOk o nu k) (hs : Sub nu nu') (hk : k ≤ k') : ReelOk o nu' k' := by
  obtain ⟨ca, n, cn, i, t, cvs, cs, e, hm, hall, hl, h0, h1⟩ := h
  exact ⟨ca, n, cn, i, t, cvs, cs, e, hs _ hm, hall.mono hs, hl, h0, by omega⟩
local macro_rules | `(tactic| walk_at "subscriptTail") => `(tactic| (k_here; (with_reducible show wpAny _ _ (subscriptTail _ _ (Value.ref _) (Value.int _ _)) _ _ _); k_dflt (refine' item_lstV ?N ?m ?a ?f ?b ?_; (case N => k_asm); (case m => k_mem); (case a => first | assumption | decide); (case f => omega); (case b => assumption); k_whole)))
local macro_rules | `(tactic| walk_at "setItem ref int int") => `(tactic| refine Stop.out ?_)
set_option maxHeartbeats 8000000 in
theorem spun_spec {vq : Program} {w : World} {mean : ExcName → Option Value} {mg mb : Str → Option Value} {R : Addr} {o : Obj} {many : Int} {tm : Tok} {k : Nat} {mu nu : Led} (hr : ReelOk o nu k) (hk1 : k ≤ 1000) (hm0 : 0 < many) (hne : ∀ p ∈ mu, p.1 ≠ R) :
    Spec vq w mean mg mb 463 [.ref R, .int many tm] 1 ((R, o) :: mu) nu (fun mu' nu' r => ∃ o', mu' = (R, o') :: mu ∧ ReelOk o' nu' (k + 1) ∧ ∃ x t, r = .int x t ∧ 0 ≤ x ∧ x < many) := by
  intro dp un gd cn cs a ccd cl outer A₀ base h₀ L m news s Q E B F X N T hk hsp hap hd hu hret
  cases hsp
  obtain ⟨ca, n, cn', i, t, cvs, cells, rfl, hcm, hcall, hcl, hi0, hi1⟩ := hr
  have hvl : cvs.length = cells.length := by rw [hcall.length, List.length_map]
  w_on
  refine wpAny_call ?_
  k_dflt ktr_enter
  k_steps
  rename_i g1 L1 _ FG1 B1 X1 T1 _ _ h1 F1 N1
  have hRr : ∀ r ∈ mu ++ nu, r.1 ≠ R := fun r hr => by
    rcases List.mem_append.mp hr with hr | hr
    · exact hne r hr
    · exact Ne.symm (hap _ (.head _) r hr)
  refine Stop.mk (set_led F1 N1 hRr (by decide) (by show (1 : Int) < 2; decide) (by show 2 ≤ 100000; decide) ?_)
  intro h2 F2 N2
  by_cases hlt : i < (cells.length : Int)
  · obtain ⟨x, t', hx⟩ : ∃ x t', cvs[i.toNat]? = some (.int x t') := by
      obtain ⟨v, hv, hvd⟩ := hcall.get (k := i.toNat) (by rw [List.length_map]; omega)
      rw [List.getElem_map] at hvd
      cases hvd
      exact ⟨_, _, hv⟩
    k_steps
    rename_i kF kN _ _
    exact hret _ _ (_ :: mu) nu ⟨rfl, rfl⟩ kF kN (apart_addr hap rfl) (Sub.refl _) ⟨_, rfl, ⟨ca, n, cn', i + 1, _, cvs, cells, rfl, hcm, hcall, hcl, by omega, by omega⟩, _, _, rfl, Int.fmod_nonneg_of_pos _ hm0, Int.fmod_lt_of_pos _ hm0⟩
  · k_steps
    rename_i kF kN _ _
    exact hret _ _ (_ :: mu) nu ⟨rfl, rfl⟩ kF kN (apart_addr hap rfl) (Sub.refl _) ⟨_, rfl, ⟨ca, n, cn', i + 1, _, cvs, cells, rfl, hcm, hcall, hcl, by omega, by omega⟩, _, _, rfl, Int.fmod_nonneg_of_pos _ hm0, Int.fmod_lt_of_pos _ hm0⟩
noncomputable def litOkD (p : Lit) : Prop := LitOk p
set_option maxHeartbeats 8000000 in
theorem literal_spec {vq : Program} {w : World} {mean : ExcName → Option Value} {mg mb : Str → Option Value} {R : Addr} {o : Obj} {k : Nat} {mu nu : Led} (hr : ReelOk o nu k) (hk1 : k ≤ 900) (hne : ∀ p ∈ mu, p.1 ≠ R) :
    Spec vq w mean mg mb 470 [.ref R] 2 ((R, o) :: mu) nu (fun mu' nu' r => ∃ o' p, mu' = (R, o') :: mu ∧ ReelOk o' nu' (k + 3) ∧ (∃ a t1 t2 t3, r = .ref a ∧ (a, tupO [.int p.1 t1, .str p.2.1 t2, .int p.2.2 t3] 0) ∈ nu') ∧ LitOk p) := by
  intro dp un gd cn cs a ccd cl outer A₀ base h₀ L m news s Q E B F X N T hk hsp hap hd hu hret
  cases hsp
  w_on
  refine wpAny_call ?_
  k_dflt ktr_enter
  k_steps
  refine Stop.mk (Spec.on (spun_spec hr (by omega) (by decide) hne) (by assumption) (by assumption) (by assumption) (by assumption) (by assumption) rfl (by assumption) (by walk_at "MY subs") (by ktr_room) (by ktr_units) ?_)
  rintro r1 s1 mu1 nu1 sm1 F1 N1 ap1 sub1 ⟨o1, hmu, hr1, x, tx, rfl, hx0, hx3⟩
  subst hmu
  k_steps
  refine Stop.mk (Spec.on (spun_spec hr1 (by omega) (by decide) hne) (by assumption) (by assumption) (by assumption) (by assumption) (by assumption) rfl (by assumption) (by walk_at "MY subs") (by ktr_room) (by ktr_units) ?_)
  rintro r2 s2 mu2 nu2 sm2 F2 N2 ap2 sub2 ⟨o2, hmu, hr2, y, ty, rfl, hy0, hy3⟩
  subst hmu
  have hy : y = 0 ∨ y = 1 ∨ y = 2 ∨ y = 3 := by omega
  rcases hy with rfl | rfl | rfl | rfl
  all_goals (
    k_steps
    refine Stop.mk (Spec.on (spun_spec hr2 (by omega) (by decide) hne) (by assumption) (by assumption) (by assumption) (by assumption) (by assumption) rfl (by assumption) (by walk_at "MY subs") (by ktr_room) (by ktr_units) ?_)
    rintro r3 s3 mu3 nu3 sm3 F3 N3 ap3 sub3 ⟨o3, hmu, hr3, z, tz, rfl, hz0, hz6⟩
    subst hmu
    k_steps
    rename_i D5 h5 _ _ l5 kF kN _ _
    refine hret _ _ ((R, o3) :: mu) ((D5, tupO _ 0) :: nu3) ⟨(sm3.1.trans sm2.1).trans sm1.1, (sm3.2.trans sm2.2).trans sm1.2⟩ kF (news_mid kN) (apart_mid l5 ap3) (sub1.trans (sub2.trans (sub3.trans sub_cons))) ⟨o3, (x, _, z - 2), rfl, hr3.mono sub_cons (Nat.le_refl _), ⟨_, _, _, _, rfl, .head _⟩, ⟨hx0, hx3, by first | exact List.Mem.head _ | exact .tail _ (.head _) | exact .tail _ (.tail _ (.head _)) | exact .tail _ (.tail _ (.tail _ (.head _))), by show (-2 : Int) ≤ z - 2; omega, by show z - 2 ≤ 3; omega⟩⟩)
end PS16
section PP1
noncomputable def inv7 (p : SetTable.Probe) : Prop := p.more = 0 ∧ p.j = p.i ∧ p.dummy = none
noncomputable def adv (t : SetTable) : Nat → SetTable.Probe → SetTable.Probe
  | 0, p => p
  | n + 1, p => adv t n (t.advance p)
theorem advance7 {t : SetTable} (hm : t.mask = 7) {p : SetTable.Probe} (hp : inv7 p) : t.advance p = { j := (p.i * 5 + 1 + p.perturb / 32) % 8, more := 0, i := (p.i * 5 + 1 + p.perturb / 32) % 8, perturb := p.perturb / 32, dummy := none } := by
  obtain ⟨h1, h2, h3⟩ := hp
  unfold SetTable.advance SetTable.leap SetTable.runEnd
  rw [if_neg (by omega)]
  simp only [hm, h3]
  congr 1
  have : ¬ ((p.i * 5 + 1 + p.perturb / 32) % (7 + 1) + 9 ≤ 7) := by omega
  rw [if_neg this]
  omega
theorem adv_inv {t : SetTable} (hm : t.mask = 7) {p : SetTable.Probe} (hp : inv7 p) : inv7 (t.advance p) := by
  rw [advance7 hm hp]; exact ⟨rfl, rfl, rfl⟩
theorem start_inv {t : SetTable} (hm : t.mask = 7) (h : Int) : inv7 (t.probeStart h) ∧ (t.probeStart h).perturb < 32 ^ 13 := by
  unfold SetTable.probeStart SetTable.runEnd
  simp only [hm]
  refine ⟨⟨?_, rfl, rfl⟩, ?_⟩
  · have : ¬ (SetTable.bits h % (7 + 1) + 9 ≤ 7) := by omega
    simp only [this, if_false]; omega
  · show SetTable.bits h < _
    unfold SetTable.bits
    have h1 : h % (2 ^ 64 : Int) < 2 ^ 64 := Int.emod_lt_of_pos _ (by decide)
    have h2 : 0 ≤ h % (2 ^ 64 : Int) := Int.emod_nonneg _ (by decide)
    omega
theorem no_dummy (j : Nat) : SetTable.has #[] j = false := by
  unfold SetTable.has; simp
theorem slot_cases {t : SetTable} (hd : t.dummies = #[]) (j : Nat) : t.slot j = .empty ∨ ∃ i, t.slot j = .live i ∧ t.place[i]? = some j := by
  unfold SetTable.slot
  rw [hd, no_dummy]
  dsimp only
  split
  · rename_i h
    exact .inr ⟨_, rfl, by simpa using h⟩
  · exact .inl (by simp)
theorem empties {t : SetTable} (hm : t.mask = 7) (hd : t.dummies = #[]) (hs : t.place.size ≤ 2) : ∀ (k : Nat) (p : SetTable.Probe), inv7 p → p.perturb < 32 ^ k → ∃ d, d ≤ k + 2 ∧ t.slot (adv t d p).j = .empty
  | 0, p, hp, hpt => by
    have h0 : p.perturb = 0 := by simpa using hpt
    rcases slot_cases hd p.j with e | ⟨i0, _, h1⟩
    · exact ⟨0, by omega, e⟩
    have hp1 := adv_inv hm hp
    rcases slot_cases hd (t.advance p).j with e | ⟨i1, _, h2⟩
    · exact ⟨1, by omega, e⟩
    have hp2 := adv_inv hm hp1
    rcases slot_cases hd (t.advance (t.advance p)).j with e | ⟨i2, _, h3⟩
    · exact ⟨2, by omega, e⟩
    exfalso
    rw [advance7 hm hp1, advance7 hm hp] at h3
    rw [advance7 hm hp] at h2
    rw [hp.2.1] at h1
    simp only [h0, Nat.zero_div, Nat.add_zero] at h2 h3
    have l0 := (Array.getElem?_eq_some_iff.mp h1).1
    have l1 := (Array.getElem?_eq_some_iff.mp h2).1
    have l2 := (Array.getElem?_eq_some_iff.mp h3).1
    have e01 : i0 ≠ i1 := fun e => by subst e; rw [h1] at h2; have := Option.some.inj h2; omega
    have e02 : i0 ≠ i2 := fun e => by subst e; rw [h1] at h3; have := Option.some.inj h3; omega
    have e12 : i1 ≠ i2 := fun e => by subst e; rw [h2] at h3; have := Option.some.inj h3; omega
    omega
  | k + 1, p, hp, hpt => by
    rcases slot_cases hd p.j with e | _
    · exact ⟨0, by omega, e⟩
    obtain ⟨d, hdk, e⟩ := empties hm hd hs k (t.advance p) (adv_inv hm hp) (by
      rw [advance7 hm hp]
      show p.perturb / 32 < 32 ^ k
      rw [Nat.pow_succ] at hpt
      omega)
    exact ⟨d + 1, by omega, e⟩
theorem go_ok {t : SetTable} (hm : t.mask = 7) (hd : t.dummies = #[]) (hashAt : Nat → Int) (h : Int) : ∀ (d fuel : Nat) (p : SetTable.Probe), d < fuel → inv7 p → t.slot (adv t d p).j = .empty →
    (∃ j, SetTable.probe.go t hashAt h fuel p = some (.empty j none) ∧ t.slot j = .empty) ∨ (∃ j i next d', SetTable.probe.go t hashAt h fuel p = some (.candidate j i next) ∧ t.slot j = .live i ∧ t.place[i]? = some j ∧ d' < d ∧ inv7 next ∧ t.slot (adv t d' next).j = .empty)
  | d, 0, p, hf, _, _ => absurd hf (Nat.not_lt_zero _)
  | 0, fuel + 1, p, _, hp, he => by
    left
    have he' : t.slot p.j = .empty := he
    refine ⟨p.j, ?_, he'⟩
    unfold SetTable.probe.go
    rw [he', hp.2.2]
  | d + 1, fuel + 1, p, hf, hp, he => by
    rcases slot_cases hd p.j with e | ⟨i, e, hpl⟩
    · left
      refine ⟨p.j, ?_, e⟩
      unfold SetTable.probe.go
      rw [e, hp.2.2]
    · unfold SetTable.probe.go
      rw [e]
      dsimp only
      by_cases hh : (hashAt i == h) = true
      · rw [if_pos hh]
        exact .inr ⟨p.j, i, _, d, rfl, e, hpl, Nat.lt_succ_self _, adv_inv hm hp, he⟩
      · rw [if_neg hh]
        rcases go_ok hm hd hashAt h d fuel (t.advance p) (by omega) (adv_inv hm hp) he with ⟨j, e1, e2⟩ | ⟨j, i', next, d', e1, e2, e3, e4, e5⟩
        · exact .inl ⟨j, e1, e2⟩
        · exact .inr ⟨j, i', next, d', e1, e2, e3, by omega, e5⟩
end PP1
section PS17
noncomputable def Known (h : Heap) (nu : Led) : Prop := ∀ q ∈ nu, h.get? q.1 = some q.2
/-- a literal's tuple -/
noncomputable def LitV (nu : Led) (v : Value) (p : Lit) : Prop := ∃ a t1 t2 t3, v = .ref a ∧ (a, tupO [.int p.1 t1, .str p.2.1 t2, .int p.2.2 t3] 0) ∈ nu
section
variable {prog : Program} {w : World} {A : Around} {E : Value → Shared → Prop} {s : Shared} {nu : Led} {v y : Value} {p q : Lit}
noncomputable abbrev litP' (p : Lit) : PyData := .tuple [.int p.1, .str p.2.1, .int p.2.2]
theorem lit_reads {h : Heap} (k : Known h nu) (hv : LitV nu v p) : ∃ as, Reads h v (litP' p) as := by
  obtain ⟨a, t1, t2, t3, rfl, hm⟩ := hv
  exact ⟨_, reads_tuple_at (k _ hm) rfl rfl (.cons (.int _ _) (.cons (.str _ _) (.cons (.int _ _) .nil)))⟩
theorem lit_lay (h : LitOk p) : (litP' p).canLay0 = true ∧ (litP' p).depth ≤ 9 := by
  have := kqd_lay 9 (litP p) (by simp [kqdOk]; exact signs_ok _ h.sg)
  exact this
theorem lit_eqAt (k : Known s.heap nu) (hy : LitV nu y q) (hv : LitV nu v p) (oq : LitOk q) (op : LitOk p) (hu : A.units + 64 < cLine) : ∃ b, SeqAt.EqAt A s y v b := by
  obtain ⟨as, ra⟩ := lit_reads k hy
  obtain ⟨bs, rb⟩ := lit_reads k hv
  have la := lit_lay oq
  have lb := lit_lay op
  have := Nat.min_le_left (litP' q).depth (litP' p).depth
  exact ⟨_, SeqAt.eqAt_reads _ _ A s y v _ _ ra rb la.1 lb.1 (by omega)⟩
theorem lit_type {a : Addr} {o : Obj} (h : s.heap.get? a = some o) (hc : o.cls = .type "tuple") : s.TypeIs (.ref a) "tuple" := ⟨o, h, hc⟩
theorem lit_hash {Q : Int → Shared → Prop} (k : Known s.heap nu) (hv : LitV nu v p) (hu : A.units + 64 < cLine) (h : ∀ i tk, Q i { s with toks := tk }) : wpAny (model prog w) A (pyHash v) Q E s := by
  obtain ⟨a, t1, t2, t3, rfl, hm⟩ := hv
  refine pyHash_laid (.tuple [.int p.1, .str p.2.1, .int p.2.2]) _ A s Q (by simp [WData.isDKey, WData.areDKeys]) (.tuple (vs := [.int p.1 t1, .str p.2.1 t2, .int p.2.2 t3]) (k _ hm) (.cons (.int _ _) (.cons (.str _ _) (.cons (.int _ _) .nil)))) ?_ (fun tk => h _ tk)
  simp only [WData.depth, WData.depthAll]
  omega
theorem lit_byValue {Q : Bool → Shared → Prop} (k : Known s.heap nu) (hv : LitV nu v p) (h : Q false s) : wpAny (model prog w) A (hashByValue 8 v) Q E s := by
  obtain ⟨a, t1, t2, t3, rfl, hm⟩ := hv
  unfold hashByValue
  refine wpAny_bind (wpAny_specialOf (lit_type (k _ hm) rfl) F.slot_tuple_hash.lookup ?_)
  show wpAny _ _ (seqItems? (Value.ref a) >>= _) _ _ _
  refine wpAny_bind (wpAny_seqItems (k _ hm) rfl ?_)
  simp only [Option.getD_some, List.forIn_toArray, List.forIn_cons, hashByValue]
  refine wpAny_bind (wpAny_bind (wpAny_bind (wpAny_pure ?_)))
  simp only [Bool.not_true, Bool.false_eq_true, if_false]
  refine wpAny_pure ?_
  dsimp only
  refine wpAny_bind (wpAny_bind (wpAny_pure ?_))
  simp only [Bool.not_false, if_true]
  refine wpAny_pure ?_
  dsimp only
  exact wpAny_pure (wpAny_pure h)
theorem lit_quiet {Q : Bool → Shared → Prop} (k : Known s.heap nu) (hv : LitV nu v p) (h : Q true s) : wpAny (model prog w) A (eqIsQuiet 8 v) Q E s := by
  obtain ⟨a, t1, t2, t3, rfl, hm⟩ := hv
  unfold eqIsQuiet
  refine wpAny_bind (wpAny_specialOf (lit_type (k _ hm) rfl) F.slot_tuple_eq.lookup ?_)
  show wpAny _ _ (isInstance (.ref a) (.type "tuple") >>= _) _ _ _
  refine wpAny_bind (wpAny_isInstance (lit_type (k _ hm) rfl) sub_tuple_self ?_)
  simp only [Bool.not_true, Bool.false_eq_true, if_false]
  refine wpAny_bind (wpAny_seqItems (k _ hm) rfl ?_)
  simp only [Option.getD_some, List.forIn_toArray, List.forIn_cons, List.forIn_nil, eqIsQuiet, pure_bind, Bool.not_true, Bool.false_eq_true, if_false]
  exact wpAny_pure h
theorem lit_noClass {Q : Bool → Shared → Prop} (k : Known s.heap nu) (hv : LitV nu v p) (h : Q false s) : wpAny (model prog w) A (ofAClassStatement 8 v) Q E s := by
  obtain ⟨a, t1, t2, t3, rfl, hm⟩ := hv
  unfold ofAClassStatement
  refine wpAny_bind (wpAny_typeOf (lit_type (k _ hm) rfl) ?_)
  simp only [beq_self_eq_true, if_true, pure_bind, Bool.not_true, Bool.false_eq_true, if_false]
  refine wpAny_bind (wpAny_seqItems (k _ hm) rfl ?_)
  simp only [List.forIn_toArray, List.forIn_cons, List.forIn_nil, ofAClassStatement, pure_bind, Bool.false_eq_true, if_false]
  exact wpAny_pure h
theorem lit_unseen {Q : Bool → Shared → Prop} (k : Known s.heap nu) (hv : LitV nu v p) : ∀ (ys : List Value), (∀ y ∈ ys, ∃ q, LitV nu y q) → Q false s → wpAny (model prog w) A (searchCouldBeSeen v ys) Q E s := by
  intro ys hys h
  unfold searchCouldBeSeen
  refine wpAny_bind ?_
  induction ys with
  | nil => simp only [List.forIn_nil]; exact wpAny_pure (wpAny_pure h)
  | cons y ys ih =>
    obtain ⟨q, hq⟩ := hys y (.head _)
    simp only [List.forIn_cons]
    have tail := ih fun z hz => hys z (.tail _ hz)
    refine wpAny_bind ?_
    obtain ⟨a1, _, _, _, rfl, _⟩ := id hv
    obtain ⟨a2, _, _, _, rfl, _⟩ := id hq
    show wpAny _ _ (if ((a1 == a2) || (carriedByValue (.ref a1) && carriedByValue (.ref a2))) = true then _ else _) _ _ _
    by_cases hc : ((a1 == a2) || (carriedByValue (.ref a1) && carriedByValue (.ref a2))) = true
    · rw [if_pos hc]
      exact wpAny_pure tail
    · rw [if_neg hc]
      refine wpAny_bind (lit_quiet k hv ?_)
      simp only [Bool.not_true, Bool.false_eq_true, if_false]
      refine wpAny_bind (lit_quiet k hq ?_)
      simp only [Bool.not_true, Bool.false_eq_true, if_false]
      refine wpAny_bind (lit_noClass k hv ?_)
      simp only [Bool.false_eq_true, if_false]
      refine wpAny_bind (lit_noClass k hq ?_)
      simp only [Bool.false_eq_true, if_false]
      exact wpAny_pure tail
theorem probe_some {t : SetTable} (hm : t.mask = 7) (hd : t.dummies = #[]) {f : Nat → Int} {hs : Int} {d : Nat} {pr : SetTable.Probe} (hd20 : d ≤ 20) (hinv : inv7 pr) (hemp : t.slot (adv t d pr).j = .empty) {om : Option SetTable.Met} (e : t.probe f hs pr = om) :
    (∃ j, om = some (.empty j none) ∧ t.slot j = .empty) ∨ (∃ j i next d', om = some (.candidate j i next) ∧ t.slot j = .live i ∧ t.place[i]? = some j ∧ d' < d ∧ inv7 next ∧ t.slot (adv t d' next).j = .empty) := by
  subst e
  exact go_ok hm hd f hs d (10 * SetTable.turns t.mask) pr (by rw [hm]; unfold SetTable.turns; omega) hinv hemp
theorem tup_search {S : Addr} {o : Obj} {es : Array (Int × Value)} {ep : Nat} {t : SetTable} {hs : Int} {Q : SetFound → Shared → Prop} (k : Known s.heap nu) (hv : LitV nu v p) (op : LitOk p) (ho : s.heap.get? S = some o) (hd : o.data = .set es ep t) (hm : t.mask = 7) (hdm : t.dummies = #[]) (hsz : t.place.size = es.size) (h2 : es.size ≤ 2)
    (hes : ∀ e ∈ es.toList, ∃ q, LitOk q ∧ LitV nu e.2 q) (hu : A.units + 64 < cLine) (h1 : Q (.there none) s) (h3 : ∀ j, t.slot j = .empty → Q (.free j false) s) :
    ∀ (fuel d : Nat) (stand : Option SetTable.Probe) (pr : SetTable.Probe), stand.getD (t.probeStart hs) = pr → d < fuel → d ≤ 20 → inv7 pr → t.slot (adv t d pr).j = .empty → wpAny (model prog w) A (setSearchFrom S v hs true fuel stand) Q E s
  | 0, d, _, _, _, hf, _, _, _ => absurd hf (Nat.not_lt_zero _)
  | fuel + 1, d, stand, pr, hst, hf, hd20, hinv, hemp => by
    have hfits : t.fits es.size = true := by
      unfold SetTable.fits SetTable.fill
      rw [hdm, hm, hsz]
      simp; omega
    unfold setSearchFrom
    refine wpAny_bind (wpAny_setState_of ho hd hfits ?_)
    dsimp only
    rw [if_neg (by unfold SetTable.gaveWay; rw [hm]; decide)]
    simp only [hst, pure_bind]
    split
    · rename_i met heq
      split
      · rename_i j dm
        rcases probe_some hm hdm hd20 hinv hemp heq with ⟨j', e1, e2⟩ | ⟨j', i, next, d', e1, _⟩
        · cases e1
          dsimp only
          exact wpAny_pure (h3 _ e2)
        · cases e1
      · rename_i j i next
        rcases probe_some hm hdm hd20 hinv hemp heq with ⟨j', e1, e2⟩ | ⟨j', i', next', d', e1, e2, e3, e4, e5, e6⟩
        · cases e1
        · cases e1
          have hi : i < es.size := by
            have := (Array.getElem?_eq_some_iff.mp e3).1
            omega
          obtain ⟨⟨hy, y⟩, he⟩ : ∃ e, es[i]? = some e := ⟨_, Array.getElem?_eq_getElem hi⟩
          obtain ⟨q, oq, hq⟩ := hes (hy, y) (by rw [← Array.mem_def]; exact Array.mem_of_getElem? he)
          obtain ⟨b, hb⟩ := lit_eqAt k hq hv oq op hu
          have hsame : t.sameMemory t.moves t.mask = some true := by unfold SetTable.sameMemory; simp
          have hrec := tup_search (hs := hs) k hv op ho hd hm hdm hsz h2 hes hu h1 h3 fuel d' (some next) next rfl (by omega) (by omega) e5 e6
          split
          · refine wpAny_bind (lit_unseen k hv _ (fun z hz => ?_) ?_)
            · obtain ⟨e, hem, rfl⟩ := List.mem_map.mp hz
              obtain ⟨q', _, hq'⟩ := hes e (by
                have := (Array.mem_filter.mp (Array.mem_def.mpr hem)).1
                exact Array.mem_def.mp this)
              exact ⟨q', hq'⟩
            simp only [Bool.false_eq_true, if_false]
            rw [he]
            dsimp only
            refine wpAny_bind (wpAny_holding (hb _ _ _ _ ?_))
            refine wpAny_bind (wpAny_setState_of ho hd hfits ?_)
            cases b with
            | true => exact wpAny_pure h1
            | false =>
              simp only [Bool.and_false, Bool.false_eq_true, if_false, hsame, if_true, e2, he]
              obtain ⟨a2, _, _, _, rfl, _⟩ := id hq
              exact wpAny_bind (wpAny_isSame_ref_self hrec)
          · rw [he]
            dsimp only
            refine wpAny_bind (wpAny_holding (hb _ _ _ _ ?_))
            refine wpAny_bind (wpAny_setState_of ho hd hfits ?_)
            cases b with
            | true => exact wpAny_pure h1
            | false =>
              simp only [Bool.and_false, Bool.false_eq_true, if_false, hsame, if_true, e2, he]
              obtain ⟨a2, _, _, _, rfl, _⟩ := id hq
              exact wpAny_bind (wpAny_isSame_ref_self hrec)
    · rename_i heq
      have heq' : t.probe _ hs pr = none := Option.eq_none_iff_forall_not_mem.mpr fun met hm => heq met hm
      rcases probe_some hm hdm hd20 hinv hemp heq' with ⟨j', e1, e2⟩ | ⟨j', i, next, d', e1, _⟩ <;> cases e1
structure TSetO (bt : Bool) (nu : Led) (o : Obj) (n : Nat) : Prop where
  ex : ∃ es ep t, o = { cls := .type "set", dict := none, data := .set es ep t } ∧ t.mask = 7 ∧ t.dummies = #[] ∧ t.place.size = es.size ∧ es.size ≤ n ∧ t.led = !bt ∧ (es.size = 0 ∨ t.plain = false) ∧ (∀ e ∈ es.toList, ∃ q, LitOk q ∧ LitV nu e.2 q)
theorem insertAt_size {α : Type} (xs : Array α) (i : Nat) (x : α) : (SetTable.insertAt xs i x).size = xs.size + 1 := by
  have := (SetTable.insertAt_perm xs i x).length_eq
  simpa using this
theorem tup_add {bt : Bool} {S : Addr} {o : Obj} {n : Nat} {Q : Bool → Shared → Prop} (k : Known s.heap nu) (hv : LitV nu v p) (op : LitOk p) (ho : s.heap.get? S = some o) (hT : TSetO bt nu o n) (hn : n ≤ 2) (hu : A.units + 64 < cLine)
    (h : ∀ b h' tk o', Heap.SameBut S s.heap h' → h'.get? S = some o' → TSetO bt nu o' (n + 1) → Q b { s with heap := h', toks := tk }) : wpAny (model prog w) A (setAdd S v) Q E s := by
  obtain ⟨es, ep, t, rfl, hm, hdm, hsz, hle, hled, hpl, hes⟩ := hT.ex
  have hfits : t.fits es.size = true := by
    unfold SetTable.fits SetTable.fill
    rw [hdm, hm, hsz]
    simp; omega
  unfold setAdd
  refine wpAny_holding (wpAny_bind (lit_hash k hv hu fun hs tk => ?_))
  have k' : Known ({ s with toks := tk } : Shared).heap nu := k
  have ho' : ({ s with toks := tk } : Shared).heap.get? S = some { cls := .type "set", dict := none, data := .set es ep t } := ho
  unfold setAddHashed
  refine wpAny_holding ?_
  unfold setAddHashedIn
  refine wpAny_bind (wpAny_setState_of ho' rfl hfits ?_)
  dsimp only
  have hns : byScan v es = false := by
    obtain ⟨a, _, _, _, rfl, _⟩ := id hv
    unfold byScan Value.scannable; rfl
  rw [hns]
  simp only [Bool.false_eq_true, if_false]
  obtain ⟨hin, hpt⟩ := start_inv hm hs
  obtain ⟨d, hd15, hemp⟩ := empties hm hdm (by omega) 13 (t.probeStart hs) hin hpt
  refine wpAny_bind ?_
  unfold setSearch
  refine tup_search (hs := hs) k' hv op ho' rfl hm hdm hsz (by omega) hes hu ?_ (fun j hj => ?_) 100000 d none _ rfl (by omega) (by omega) hin hemp
  · dsimp only
    refine wpAny_pure ?_
    exact h false s.heap tk _ (Heap.SameBut.refl S s.heap) ho ⟨es, ep, t, rfl, hm, hdm, hsz, by omega, hled, hpl, hes⟩
  · dsimp only
    refine wpAny_bind (wpAny_setState_of ho' rfl hfits ?_)
    dsimp only
    have hput : t.put j = ({ t with place := SetTable.insertAt t.place (SetTable.below t.place j) j }, SetTable.below t.place j) := by
      unfold SetTable.put
      rw [hdm, no_dummy]
      simp only [Bool.false_eq_true, if_false]
    rw [hput]
    dsimp only
    have fin : ∀ t' : SetTable, t'.mask = 7 → t'.dummies = #[] → t'.place.size = es.size + 1 → t'.led = t.led → t'.plain = false →
        wpAny (model prog w) A (do
          storeSet S (SetTable.insertAt es (SetTable.below t.place j) (hs, v)) t'
          if (!false && t'.tooFull) = true then do
            setRelay S (SetTable.grown (es.size + 1))
            pure true
          else pure true) Q E { s with toks := tk } := fun t' a1 a2 a3 a4 a5 => by
      refine wpAny_bind (wpAny_storeSet_of ho' rfl ?_ (by rw [insertAt_size, sizeLine_eq]; omega))
      have htf : t'.tooFull = false := by
        unfold SetTable.tooFull SetTable.fill
        rw [a1, a2, a3]
        simp; omega
      rw [htf]
      simp only [Bool.and_false, Bool.false_eq_true, if_false]
      refine wpAny_pure ?_
      have hg := Heap.get?_update_self (Obj.putSet (SetTable.insertAt es (SetTable.below t.place j) (hs, v)) t') ho (by rw [putSet_of _ _ rfl]; rfl)
      rw [putSet_of _ _ rfl] at hg
      refine h true _ tk _ (Heap.SameBut.update s.heap S _) hg ⟨_, _, t', rfl, a1, a2, by rw [insertAt_size]; exact a3, by rw [insertAt_size]; omega, a4.trans hled, .inr a5, fun e he => ?_⟩
      have := (SetTable.insertAt_perm es (SetTable.below t.place j) (hs, v)).mem_iff.mp he
      rw [Array.toList_push, List.mem_append, List.mem_singleton] at this
      rcases this with h1 | rfl
      · exact hes e h1
      · exact ⟨p, op, hv⟩
    split
    · refine wpAny_bind (lit_byValue k' hv ?_)
      simp only [Bool.false_eq_true, if_false]
      exact fin _ hm hdm (by show (SetTable.insertAt _ _ _).size = _; rw [insertAt_size, hsz]) rfl rfl
    · rename_i hp
      refine wpAny_bind (wpAny_pure ?_)
      simp only [if_true]
      exact fin _ hm hdm (by show (SetTable.insertAt _ _ _).size = _; rw [insertAt_size, hsz]) rfl (Bool.eq_false_iff.mpr hp)
end
end PS17
section PS18
section
variable {prog : Program} {w : World} {A : Around} {R : Result → Shared → Prop} {I S : Addr} {n : Nat} {P : Nat → Value → Prop} {SI : Nat → Obj → Prop} {keep nu : Led} {bt : Bool}
theorem tup_loop (W : Itr prog w A.in1 I n P SI keep) (hSI : S ≠ I) (hk : ∀ q ∈ keep, q.1 ≠ S ∧ q.1 ≠ I) (hnu : ∀ q ∈ nu, q.1 ≠ S ∧ q.1 ≠ I) (hval : ∀ i v, P i v → ∃ p, LitOk p ∧ LitV nu v p) (hn : n ≤ 3) (hu : A.units + 100 < cLine) :
    ∀ (k i : Nat) (s : Shared) (oI : Obj), n - i = k → i ≤ n → s.heap.get? I = some oI → SI i oI → (∀ q ∈ keep, s.heap.get? q.1 = some q.2) → Known s.heap nu → (∃ o, s.heap.get? S = some o ∧ TSetO bt nu o i) →
      (∀ h' tk o', (∀ b o, b ≠ S → b ≠ I → s.heap.get? b = some o → h'.get? b = some o) → h'.get? S = some o' → TSetO bt nu o' n → R (.ok (.ret .none)) { s with heap := h', toks := tk }) →
      codeAny (model prog w) A (.builtin "set.update.loop" ⟨[.ref S, .ref I], []⟩) R s := by
  intro k
  induction k with
  | zero =>
    intro i s oI hk0 hi hI hSI' hkp hkn ⟨o, ho, hT⟩ hR
    have hin : i = n := by omega
    subst hin
    refine codeAny_builtin PyProof.Rows.F.entry_set_update_loop ?_
    rw [Around.under_plainId PyProof.Rows.F.plain_set_update_loop _]
    show wpAny _ A.in1 (pyNext (.ref I) >>= _) _ _ s
    refine wpAny_bind (W.done s _ _ oI hI hSI' hkp fun h' tk hk' => ?_)
    show wpAny _ A.in1 (ret Value.none) _ _ _
    exact wpAny_pure (hR h' tk o (fun b o _ hbI e => hk' b o hbI e) (hk' S o hSI ho) hT)
  | succ k ih =>
    intro i s oI hk0 hi hI hSI' hkp hkn ⟨o, ho, hT⟩ hR
    have hlt : i < n := by omega
    refine codeAny_builtin PyProof.Rows.F.entry_set_update_loop ?_
    rw [Around.under_plainId PyProof.Rows.F.plain_set_update_loop _]
    show wpAny _ A.in1 (pyNext (.ref I) >>= _) _ _ s
    refine wpAny_bind (W.item i s _ _ oI hlt hI hSI' hkp fun v h1 tk1 oI1 hP hI1 hSI1 hk1 => ?_)
    obtain ⟨p, op, hv⟩ := hval i v hP
    show wpAny _ A.in1 (holding [v] (setAdd S v) >>= _) _ _ _
    refine wpAny_bind (wpAny_holding ?_)
    have hkn1 : Known h1 nu := fun q hq => hk1 _ _ (hnu q hq).2 (hkn q hq)
    refine tup_add (s := { s with heap := h1, toks := tk1 }) hkn1 hv op (hk1 S o hSI ho) hT (by omega) (by rw [Around.in1_units]; omega) fun b h2 tk2 o2 hsb ho2 hT2 => ?_
    refine wpAny_pure ⟨plainId_quiet PyProof.Rows.F.plain_set_update_loop _, ih (i + 1) _ oI1 (by omega) hlt (hsb.extBut _ _ (Ne.symm hSI) hI1) hSI1 (fun q hq => hsb.extBut _ _ (hk q hq).1 (hk1 _ _ (hk q hq).2 (hkp q hq))) (fun q hq => hsb.extBut _ _ (hnu q hq).1 (hkn1 q hq)) ⟨o2, ho2, hT2⟩ fun h' tk o' hk' ho' hT' => ?_⟩
    exact hR h' tk o' (fun b o hbS hbI e => hk' b o hbS hbI (hsb.extBut _ _ hbS (hk1 b o hbI e))) ho' hT'
end
section
variable {prog : Program} {w : World} {A : Around} {E : Value → Shared → Prop} {s : Shared} {nu : Led}
noncomputable abbrev byT (w : World) : Bool := w.params.followText "set-order"
noncomputable abbrev setO (w : World) : Obj := { cls := .type "set", dict := none, data := .set #[] 0 (.fresh 0 0 (!byT w)) }
theorem new_set (a : Value) {Q₁ : Value → Shared → Prop} (h : Q₁ (.ref s.heap.objs.size) { s with heap := s.heap.push (setO w) }) :
    codeAny (model prog w) A (.call (.builtin "set.__new__") ⟨[.type "set", a], []⟩) (wants Q₁ E) s := by
  refine codeAny_of_tree ?_
  show wpAny _ A.in1 (do checkBuiltinCall "set.__new__" ⟨[.type "set", a], []⟩; again (.builtin "set.__new__" ⟨[.type "set", a], []⟩)) _ _ s
  refine wpAny_bind (wpAny_of_eq (PySem.F.newCall_set_1 a) (wpAny_pure ⟨plainId_quiet PySem.F.plain_set_new _, codeAny_builtin PySem.F.entry_set_new ?_⟩))
  rw [Around.under_plainId PySem.F.plain_set_new _]
  unfold Builtin.«set.__new__» Builtin.Frozenset.newClass
  have hsub := sub_set_self
  obtain ⟨hp, g, d, tk, os⟩ := s
  dsimp only
  wp_walk
  refine wpAny_askSetting (wpAny_pure ?_)
  dsimp only
  simp only [newObj]
  refine wpAny_bind (wpAny_alloc (wpAny_pure ?_))
  exact wpAny_pure h
set_option maxHeartbeats 3200000 in
theorem call_set {l : Addr} {vs : List Value} {kl : Nat} {Q : Value → Shared → Prop} (hh : A.handled = none) (hl : s.heap.get? l = some (lstO vs kl)) (hkn : Known s.heap nu) (hval : ∀ v ∈ vs, ∃ p, LitOk p ∧ LitV nu v p) (hn : vs.length ≤ 3) (hu : A.units + 200 < cLine)
    (h : ∀ (h' : Heap) (tk : Nat) (o : Obj), h'.get? s.heap.objs.size = some o → TSetO (byT w) nu o vs.length → (∀ b o, b < s.heap.objs.size → s.heap.get? b = some o → h'.get? b = some o) → Q (.ref s.heap.objs.size) { s with heap := h', toks := tk }) :
    wpAny (model prog w) A (call (.type "set") [.ref l]) Q E s := by
  obtain ⟨c, tl, hmro⟩ := PySem.F.called_set.mro
  have hmade := PySem.F.called_set.made
  have hsub := PySem.F.called_set.sub
  refine wpAny_call (codeAny_of_tree ?_)
  show wpAny _ _ (callAny (.type "set") _) _ _ _
  refine wpAny_pure ⟨Code.quiet_builtin _ (by decide +kernel), codeAny_builtin PySem.F.entry_type_call ?_⟩
  rw [Around.under_plain (weight_type_call_type "set" [.ref l] []) rfl]
  have h1 := PySem.F.called_set.notType
  have h2 := PySem.F.called_set.canCreate
  have hct := PySem.F.typeCall_set_1 (.ref l)
  repeat (any_goals (first | assumption | wp_step))
  refine codeAny_mono (new_set (.ref l) (E := E) (Q₁ := fun obj s₁ => obj = .ref s.heap.objs.size ∧ s₁ = { s with heap := s.heap.push (setO w) }) ⟨rfl, rfl⟩) fun r s₁ hr => ?_
  cases r with
  | error e => exact hr
  | ok fl =>
    cases fl with
    | ret obj =>
      obtain ⟨rfl, rfl⟩ := hr
      have hS : (s.heap.push (setO w)).get? s.heap.objs.size = some (setO w) := Heap.get?_push_size _ rfl
      have hT : Shared.TypeIs { s with heap := s.heap.push (setO w) } (.ref s.heap.objs.size) "set" := ⟨_, hS, rfl⟩
      have hli := PySem.F.called_set.init.lookup
      have hbi := PySem.F.called_set.init.bind (.ref s.heap.objs.size)
      repeat (any_goals (first | assumption | wp_step))
      refine codeAny_mono (codeAny_call_builtin (R := wants (fun r s₂ => r = .none ∧ ∃ h' tk o, s₂ = { s with heap := h', toks := tk } ∧ h'.get? s.heap.objs.size = some o ∧ TSetO (byT w) nu o vs.length ∧
          (∀ b o, b < s.heap.objs.size → s.heap.get? b = some o → h'.get? b = some o)) E) PySem.F.called_set.init.plain PySem.F.entry_set_init (check_set_init_1 hT ?_)) fun r₂ s₂ hr₂ => ?_
      · have up : ∀ b o, s.heap.get? b = some o → (s.heap.push (setO w)).get? b = some o := fun b o e => Heap.get?_push_of_some _ e
        have hol' := up _ _ hl
        have hsls := PySem.F.sub_list_set
        have hslf := PySem.F.sub_list_frozenset
        have hne : (Value.type "list" == Value.type "dict") = false := by decide
        have hTl : Shared.TypeIs { s with heap := s.heap.push (setO w) } (.ref l) "list" := ⟨_, hol', rfl⟩
        unfold Builtin.«set.__init__» noKeywords Builtin.Frozenset.updateFrom
        generalize hPI : pyIter = PI
        wp_walk
        subst hPI
        refine wpAny_pyIter_list (items := vs.toArray) ⟨_, hol', rfl, _, rfl⟩ ?_
        refine wpAny_bind (wpAny_runValue ?_)
        have hlS : l < s.heap.objs.size := Heap.lt_size hl
        have hh3 : A.in1.in1.in1.handled = none := by simp [hh]
        have hsz1 : (s.heap.push (setO w)).objs.size = s.heap.objs.size + 1 := Heap.size_push ..
        have hnuS : ∀ q ∈ nu, q.1 < s.heap.objs.size := fun q hq => Heap.lt_size (hkn q hq)
        generalize hI : (s.heap.push (setO w)).objs.size = I at hsz1
        have hSI : s.heap.objs.size ≠ I := by rw [hsz1]; exact Nat.ne_of_lt (Nat.lt_succ_self _)
        refine tup_loop (A := A.in1.in1) (itr_list (ax := l) (k := kl) (vs := vs) hh3) hSI (keep := [(l, lstO vs kl)]) (fun q hq => ?_) (fun q hq => ⟨Nat.ne_of_lt (hnuS q hq), ?_⟩) (fun i v hv => hval v (List.mem_of_getElem? hv)) hn (by simp only [Around.in1_units]; omega) (vs.length - 0) 0 _ { cls := .type "list_iterator", data := .fields #[.ref l, .int 0 0] } rfl (Nat.zero_le _) (by rw [← hI]; exact Heap.get?_push_size _ rfl) ⟨rfl, rfl⟩ (fun q hq => ?_) (fun q hq => ?_) ⟨setO w, Heap.get?_push_of_some _ hS, ⟨#[], 0, _, rfl, rfl, rfl, rfl, Nat.le_refl _, rfl, .inl rfl, fun e he => by simp at he⟩⟩ ?_
        · rw [List.mem_singleton.mp hq]
          exact ⟨Nat.ne_of_lt hlS, by rw [hsz1]; exact Nat.ne_of_lt (Nat.lt_succ_of_lt hlS)⟩
        · rw [hsz1]; exact Nat.ne_of_lt (Nat.lt_succ_of_lt (hnuS q hq))
        · rw [List.mem_singleton.mp hq]
          exact Heap.get?_push_of_some _ hol'
        · exact Heap.get?_push_of_some _ (up _ _ (hkn q hq))
        · intro h' tk o' hk' ho' hT'
          show wpAny _ _ _ _ _ _
          refine wpAny_pure ?_
          show wpAny _ _ (ret Value.none) _ _ _
          refine wpAny_pure ⟨rfl, h', tk, o', rfl, ho', hT', fun b o hb e => hk' b o (Nat.ne_of_lt hb) (by rw [hsz1]; exact Nat.ne_of_lt (Nat.lt_succ_of_lt hb)) (Heap.get?_push_of_some _ (up _ _ e))⟩
      · cases r₂ with
        | error e => exact hr₂
        | ok fl₂ =>
          cases fl₂ with
          | ret r =>
            obtain ⟨rfl, h', tk, o, rfl, ho, hT', hk'⟩ := hr₂
            repeat (any_goals (first | assumption | wp_step))
            exact h _ _ _ ho hT' hk'
          | _ => exact hr₂.elim
    | _ => exact hr.elim
end
end PS18
section PS19
theorem slot_set_iter : Slot "set" "__iter__" "set.__iter__" :=
  .of (owner := "set") (n := "__iter__") (by rw [typeLookup_type, builtinLookup_eq_fast]; kernel_rfl) (by decide +kernel) (by decide +kernel) (by decide +kernel)
    (by first | exact .inl (by decide +kernel) | exact .inr (by decide +kernel)) (by rw [isSubtype_type]; kernel_rfl)
theorem slot_setit_next : Slot "set_iterator" "__next__" "set_iterator.__next__" :=
  .of (owner := "set_iterator") (n := "__next__") (by rw [typeLookup_type, builtinLookup_eq_fast]; kernel_rfl) (by decide +kernel) (by decide +kernel) (by decide +kernel)
    (by first | exact .inl (by decide +kernel) | exact .inr (by decide +kernel)) (by rw [isSubtype_type]; kernel_rfl)
theorem entry_set_iter : entryFor table "set.__iter__" = some Builtin.«frozenset.__iter__» :=
  entryFor_alias (id' := "frozenset.__iter__") (by kernel_rfl) rfl (by decide +kernel) (by kernel_rfl)
theorem entry_setit_next : entryFor table "set_iterator.__next__" = some Builtin.«set_iterator.__next__» := entryFor_of_tree (by kernel_rfl)
theorem args_set_iter (a : Value) : argsOk "set.__iter__" ⟨[a], []⟩ := by unfold argsOk; kernel_rfl
theorem args_setit_next (a : Value) : argsOk "set_iterator.__next__" ⟨[a], []⟩ := by unfold argsOk; kernel_rfl
theorem setit_no_len : typeLookup (.type "set_iterator") "__len__" = pure none := by rw [typeLookup_type, builtinLookup_eq_fast]; kernel_rfl
theorem setit_hint : typeLookup (.type "set_iterator") "__length_hint__" = pure (some (.builtin "set_iterator.__length_hint__")) := by rw [typeLookup_type, builtinLookup_eq_fast]; kernel_rfl
theorem sub_setit : isSubtype (.type "set_iterator") (.type "set_iterator") = pure true := by rw [isSubtype_type]; kernel_rfl
section
variable {prog : Program} {w : World} {A : Around} {E : Value → Shared → Prop} {s : Shared}
theorem wpAny_chooseX {src : Source} {n : Nat} {Q : Nat → Shared → Prop} (hn : n ≠ 0) (h : ∀ x d, x < n → Q x { s with drawn := d }) : wpAny (model prog w) A (choose src n) Q E s := fun Γ p hΓ => by
  show Sem.wp _ Γ (.choose src n .pure) _ _ p s
  rw [Sem.wp_choose]
  refine ⟨hn, ?_⟩
  exact h _ _ (Nat.mod_lt _ (Nat.pos_of_ne_zero hn))
theorem wpAny_drawOrderX {α : Type} : ∀ (n : Nat) (xs : List α) (s : Shared) {Q : List α → Shared → Prop}, (∀ ys d, (∀ y ∈ ys, y ∈ xs) → ys.length ≤ n → Q ys { s with drawn := d }) → wpAny (model prog w) A (drawOrder n xs) Q E s
  | 0, xs, s, Q, h => by
    unfold drawOrder
    exact wpAny_pure (h [] s.drawn (fun _ hy => nomatch hy) (Nat.le_refl _))
  | n + 1, [], s, Q, h => by
    unfold drawOrder
    exact wpAny_pure (h [] s.drawn (fun _ hy => nomatch hy) (Nat.zero_le _))
  | n + 1, x :: xs, s, Q, h => by
    unfold drawOrder
    refine wpAny_bind (wpAny_chooseX (by simp) fun i d hi => ?_)
    rw [List.getElem?_eq_getElem hi]
    dsimp only
    refine wpAny_bind (wpAny_drawOrderX n _ { s with drawn := d } fun ys d' hys hl => ?_)
    refine wpAny_pure (h _ d' (fun y hy => ?_) (by rw [List.length_cons]; omega))
    rcases List.mem_cons.mp hy with rfl | hy
    · exact List.getElem_mem hi
    · exact List.mem_of_mem_eraseIdx (hys y hy)
theorem pickOrder_go {α : Type} (next : Nat → Nat) (P : α → Prop) : ∀ (fuel k : Nat) (left : List α) (out : Array α), (∀ x ∈ left, P x) → (∀ x ∈ out.toList, P x) → (∀ x ∈ (pickOrder.go next fuel k left out).toList, P x) ∧ (pickOrder.go next fuel k left out).size ≤ out.size + fuel
  | 0, _, _, out, _, ho => by unfold pickOrder.go; exact ⟨ho, Nat.le_refl _⟩
  | fuel + 1, k, left, out, hl, ho => by
    unfold pickOrder.go
    split
    · rename_i x hx
      have := pickOrder_go next P fuel (k + 1) (left.eraseIdx (next k % left.length)) (out.push x) (fun y hy => hl y (List.mem_of_mem_eraseIdx hy)) (fun y hy => by
        rw [Array.toList_push, List.mem_append, List.mem_singleton] at hy
        rcases hy with hy | rfl
        · exact ho y hy
        · exact hl y (List.mem_of_getElem? hx))
      rw [Array.size_push] at this
      exact ⟨this.1, by omega⟩
    · exact ⟨ho, Nat.le_add_right _ _⟩
theorem pickOrder_ok {α : Type} (next : Nat → Nat) (P : α → Prop) (xs : Array α) (h : ∀ x ∈ xs.toList, P x) : (∀ x ∈ (pickOrder next xs).toList, P x) ∧ (pickOrder next xs).size ≤ xs.size := by
  have := pickOrder_go next P xs.size 0 xs.toList #[] h (fun x hx => by simp at hx)
  unfold pickOrder
  exact ⟨this.1, by simpa using this.2⟩
end
end PS19
section PS20
/-- an iterator that yields at most so many values, each with PV -/
structure SetItr (prog : Program) (w : World) (A : Around) (I : Addr) (PV : Value → Prop) (fp : List Addr) (St : Nat → Heap → Prop) : Prop where
  frame : ∀ k h h', St k h → (∀ b ∈ fp, ∀ o, h.get? b = some o → h'.get? b = some o) → St k h'
  next : ∀ (k : Nat) (s : Shared) (Q : Option Value → Shared → Prop) (E : Value → Shared → Prop), St k s.heap →
    (∀ h', (∀ b o, b ≠ I → s.heap.get? b = some o → h'.get? b = some o) → Q none { s with heap := h' }) →
    (∀ v h' k', k = k' + 1 → PV v → (∀ b o, b ≠ I → s.heap.get? b = some o → h'.get? b = some o) → St k' h' → Q (some v) { s with heap := h' }) → wpAny (model prog w) A (pyNext (.ref I)) Q E s
theorem below_one {p : Array Nat} {q : Nat} (h : p[0]? = some q) (h1 : p.size ≤ 1) (hb : SetTable.below p (q + 1) = 0) : False := by
  obtain ⟨hl, hq⟩ := Array.getElem?_eq_some_iff.mp h
  have hs : p.size = 1 := by omega
  unfold SetTable.below at hb
  rw [hs] at hb
  unfold SetTable.below.go at hb
  have hg : p.getD 0 (q + 1) = q := by simp [Array.getD, hl, hq]
  simp [hg] at hb
  unfold SetTable.below.go at hb
  omega
section
variable {prog : Program} {w : World} {A : Around} {E : Value → Shared → Prop} {s : Shared} {nu : Led}
noncomputable abbrev itO (first : Value) (i : Int) (S : Addr) (n ep : Nat) : Obj := { cls := .type "set_iterator", data := .fields #[first, .int i 0, .ref S, .int n 0, .int ep 0] }
theorem stop_raise {Q : Option Value → Shared → Prop} {Q₀ : PySem.Fin → Shared → Prop} (hh : A.handled = none) (h : ∀ h', (∀ b o, s.heap.get? b = some o → h'.get? b = some o) → Q none { s with heap := h' }) :
    wpAny (model prog w) A.in1 (newExc (.type "StopIteration") [] >>= fun e => (raiseNew e : Sem Fin)) Q₀ (fun e s' => wpAny (model prog w) A (isInstance e (.type "StopIteration") >>= fun b => if b = true then pure none else throw e) Q E s') s := by
  refine wpAny_bind ?_
  simp only [newExc, newTuple]
  refine wpAny_bind (wpAny_newObj_type ?_ (by size_fits))
  refine wpAny_bind (m := firstArgMember _ _) (wpAny_of_eq (a := Value.none) (by first | rfl | (simp only [firstArgMember]; rfl)) ?_)
  refine wpAny_newObj_type ?_ (by size_fits)
  simp only [raiseNew]
  refine wpAny_bind (wpAny_handled ?_)
  rw [show A.in1.handled = none from hh]
  refine wpAny_bind (wpAny_pure (wpAny_throw ?_))
  refine wpAny_bind (wpAny_isInstance (T := "StopIteration") (b := true) ⟨_, Heap.get?_push_size _ rfl, rfl⟩ isSubtype_stop ?_)
  exact wpAny_pure (h _ fun b o e => Heap.get?_push_of_some _ (Heap.get?_push_of_some _ e))
theorem next_drawn {S T I : Addr} {es : Array (Int × Value)} {ep : Nat} {t : SetTable} {i : Nat} {pl : List Nat} {Q : Option Value → Shared → Prop} (hh : A.handled = none) (ho : s.heap.get? S = some { cls := .type "set", dict := none, data := .set es ep t }) (hf : t.fits es.size = true)
    (hI : s.heap.get? I = some (itO (.ref T) i S es.size ep)) (hTl : s.heap.get? T = some (tupO (pl.map fun (x : Nat) => rawInt x) 0)) (hpl : ∀ x ∈ pl, x < es.size)
    (hend : pl[i]? = none → ∀ h', (∀ b o, b ≠ I → s.heap.get? b = some o → h'.get? b = some o) → Q none { s with heap := h' })
    (hitem : ∀ x e h', pl[i]? = some x → es[x]? = some e → h'.get? I = some (itO (.ref T) ((i : Int) + 1) S es.size ep) → Heap.SameBut I s.heap h' → Q (some e.2) { s with heap := h' }) :
    wpAny (model prog w) A (pyNext (.ref I)) Q E s := by
  have hTy : s.TypeIs (.ref I) "set_iterator" := ⟨_, hI, rfl⟩
  unfold pyNext
  refine wpAny_bind (wpAny_attempt (wpAny_callSpecial?_slot (name := Str.ofString "__next__") hTy slot_setit_next
    (wpAny_call_entry slot_setit_next hTy entry_setit_next ?_ (args_setit_next _))))
  unfold Builtin.«set_iterator.__next__»
  refine wpAny_bind (wpAny_of_eq (show slotArgs "__next__" 0 ⟨[.ref I], []⟩ = pure (.ref I, []) from rfl) ?_)
  dsimp only
  refine wpAny_bind (wpAny_fieldsOf hI rfl ?_)
  dsimp only
  refine wpAny_bind (wpAny_setEntries_of ho rfl hf ?_)
  rw [if_neg (by simp)]
  refine wpAny_bind (wpAny_seqItems hTl rfl ?_)
  dsimp only
  have hget : (List.map (fun (x : Nat) => rawInt (x : Int)) pl).toArray[((i : Nat) : Int).toNat]? = (pl[i]?).map fun (x : Nat) => rawInt (x : Int) := by simp
  rw [hget]
  cases hp : pl[i]? with
  | none =>
    dsimp only [Option.map_none]
    refine wpAny_bind (wpAny_setField hI rfl (by simp) ?_)
    have hI2 := Heap.get?_update_self (Obj.mapFields (·.setIfInBounds 0 (rawInt 0))) hI (by rfl)
    refine wpAny_bind (wpAny_setField hI2 rfl (by simp) ?_)
    refine stop_raise hh fun h' hk => ?_
    refine hend hp h' fun b o hb e => hk b o ?_
    rw [Heap.get?_update_ne _ _ _ _ hb, Heap.get?_update_ne _ _ _ _ hb]
    exact e
  | some x =>
    have hx : x < es.size := hpl x (List.mem_of_getElem? hp)
    dsimp only [Option.map_some, rawInt]
    refine wpAny_bind ?_
    unfold setNextDrawn
    refine wpAny_bind (wpAny_setState_of ho rfl hf ?_)
    dsimp only
    rw [if_neg (by simp)]
    simp only [Int.toNat_natCast, Array.getElem?_eq_getElem hx]
    refine wpAny_pure ?_
    refine wpAny_bind (wpAny_setField hI rfl (by simp) (wpAny_pure ⟨_, rfl, wpAny_pure ?_⟩))
    exact hitem x es[x] _ hp (Array.getElem?_eq_getElem hx) (Heap.get?_update_self (Obj.mapFields (·.setIfInBounds 1 (.int ((i : Int) + 1) 0))) hI (by rfl)) (Heap.SameBut.update ..)
theorem setit_after {S I : Addr} {n ep sl : Nat} {i : Nat} {r : Option (Value × Nat)} {Q : Option Value → Shared → Prop} (hh : A.handled = none) (hI : s.heap.get? I = some (itO (.int sl 0) i S n ep))
    (hend : ∀ h', (∀ b o, b ≠ I → s.heap.get? b = some o → h'.get? b = some o) → Q none { s with heap := h' })
    (hitem : ∀ (x : Value) (nx : Nat) (h' : Heap), r = some (x, nx) → h'.get? I = some (itO (.int (nx : Nat) 0) ((i : Int) + 1) S n ep) → Heap.SameBut I s.heap h' → Q (some x) { s with heap := h' }) :
    wpAny (model prog w) A.in1 (match r with
        | some (x, next) => do
          setField (Value.ref I) 0 (rawInt (next : Nat))
          setField (Value.ref I) 1 (rawInt ((i : Int) + 1))
          (ret x : Sem PySem.Fin)
        | none => do
          setField (Value.ref I) 2 Value.none
          let e ← newExc (Value.type "StopIteration") []
          raiseNew e)
      (fun fin s' => ∃ v, fin = PySem.Fin.done (Flow.ret v) ∧ wpAny (model prog w) A (pure (some v)) Q E s')
      (fun e s' => wpAny (model prog w) A (isInstance e (.type "StopIteration") >>= fun b => if b = true then pure none else throw e) Q E s') s := by
  cases r with
  | none =>
    dsimp only
    refine wpAny_bind (wpAny_setField hI rfl (by simp) ?_)
    refine stop_raise hh fun h' hk => ?_
    refine hend h' fun b o hb e => hk b o ?_
    rw [Heap.get?_update_ne _ _ _ _ hb]
    exact e
  | some r =>
    obtain ⟨x, nx⟩ := r
    dsimp only
    refine wpAny_bind (wpAny_setField hI rfl (by simp) ?_)
    have hI2 := Heap.get?_update_self (Obj.mapFields (·.setIfInBounds 0 (rawInt (nx : Nat)))) hI (by rfl)
    refine wpAny_bind (wpAny_setField hI2 rfl (by simp) (wpAny_pure ⟨_, rfl, wpAny_pure ?_⟩))
    exact hitem x nx _ rfl (Heap.get?_update_self (Obj.mapFields (·.setIfInBounds 1 (rawInt ((i : Int) + 1)))) hI2 (by rfl)) ((Heap.SameBut.update ..).trans (Heap.SameBut.update ..))
theorem next_text {S I : Addr} {es : Array (Int × Value)} {ep sl : Nat} {t : SetTable} {i : Nat} {Q : Option Value → Shared → Prop} (hh : A.handled = none) (hbt : byT w = true) (ho : s.heap.get? S = some { cls := .type "set", dict := none, data := .set es ep t }) (hf : t.fits es.size = true)
    (hI : s.heap.get? I = some (itO (.int sl 0) i S es.size ep))
    (hend : ∀ h', (∀ b o, b ≠ I → s.heap.get? b = some o → h'.get? b = some o) → Q none { s with heap := h' })
    (hitem : ∀ e h', (pickOrder (w.params.setOrder S ep) es)[i]? = some e → h'.get? I = some (itO (.int sl 0) ((i : Int) + 1) S es.size ep) → Heap.SameBut I s.heap h' → Q (some e.2) { s with heap := h' }) :
    wpAny (model prog w) A (pyNext (.ref I)) Q E s := by
  have hTy : s.TypeIs (.ref I) "set_iterator" := ⟨_, hI, rfl⟩
  unfold pyNext
  refine wpAny_bind (wpAny_attempt (wpAny_callSpecial?_slot (name := Str.ofString "__next__") hTy slot_setit_next
    (wpAny_call_entry slot_setit_next hTy entry_setit_next ?_ (args_setit_next _))))
  unfold Builtin.«set_iterator.__next__»
  refine wpAny_bind (wpAny_of_eq (show slotArgs "__next__" 0 ⟨[.ref I], []⟩ = pure (.ref I, []) from rfl) ?_)
  dsimp only
  refine wpAny_bind (wpAny_fieldsOf hI rfl ?_)
  dsimp only
  refine wpAny_bind (wpAny_setEntries_of ho rfl hf ?_)
  rw [if_neg (by simp)]
  refine wpAny_bind ?_
  unfold setNext
  refine wpAny_bind (wpAny_setState_of ho rfl hf ?_)
  dsimp only
  unfold setsByText
  refine wpAny_bind (wpAny_bind (wpAny_askSetting (wpAny_pure ?_)))
  dsimp only
  rw [show (model prog w).w.params.followText "set-order" = true from hbt]
  simp only [if_true]
  rw [if_neg (by simp)]
  unfold setWalk
  refine wpAny_bind (wpAny_bind (wpAny_setState_of ho rfl hf ?_))
  dsimp only
  unfold setsByText
  refine wpAny_bind (wpAny_bind (wpAny_askSetting (wpAny_pure ?_)))
  rw [show ({ program := (model prog w).prog, params := (model prog w).w.params } : Setting).params.followText "set-order" = true from hbt]
  simp only [if_true]
  refine wpAny_bind (wpAny_askSetting (wpAny_pure (wpAny_pure ?_)))
  refine setit_after hh hI hend fun x nx h' hr hI' hsb => ?_
  rw [Int.toNat_natCast, Int.toNat_natCast, Option.map_eq_some_iff] at hr
  obtain ⟨e, he, e2⟩ := hr
  cases e2
  exact hitem e h' he hI' hsb
theorem next_led {S I : Addr} {es : Array (Int × Value)} {ep sl : Nat} {t : SetTable} {i : Nat} {Q : Option Value → Shared → Prop} (hh : A.handled = none) (hbt : byT w = false) (ho : s.heap.get? S = some { cls := .type "set", dict := none, data := .set es ep t }) (hf : t.fits es.size = true) (hled : t.led = true) (h1 : es.size ≤ 1)
    (hI : s.heap.get? I = some (itO (.int sl 0) i S es.size ep))
    (hend : ∀ h', (∀ b o, b ≠ I → s.heap.get? b = some o → h'.get? b = some o) → Q none { s with heap := h' })
    (hitem : ∀ j e h' (sl' : Nat), SetTable.below t.place sl = j → es[j]? = some e → (∃ q, t.place[j]? = some q ∧ sl' = q + 1) → h'.get? I = some (itO (.int sl' 0) ((i : Int) + 1) S es.size ep) → Heap.SameBut I s.heap h' → Q (some e.2) { s with heap := h' }) :
    wpAny (model prog w) A (pyNext (.ref I)) Q E s := by
  have hTy : s.TypeIs (.ref I) "set_iterator" := ⟨_, hI, rfl⟩
  unfold pyNext
  refine wpAny_bind (wpAny_attempt (wpAny_callSpecial?_slot (name := Str.ofString "__next__") hTy slot_setit_next
    (wpAny_call_entry slot_setit_next hTy entry_setit_next ?_ (args_setit_next _))))
  unfold Builtin.«set_iterator.__next__»
  refine wpAny_bind (wpAny_of_eq (show slotArgs "__next__" 0 ⟨[.ref I], []⟩ = pure (.ref I, []) from rfl) ?_)
  dsimp only
  refine wpAny_bind (wpAny_fieldsOf hI rfl ?_)
  dsimp only
  refine wpAny_bind (wpAny_setEntries_of ho rfl hf ?_)
  rw [if_neg (by simp)]
  refine wpAny_bind ?_
  unfold setNext
  refine wpAny_bind (wpAny_setState_of ho rfl hf ?_)
  dsimp only
  unfold setsByText
  refine wpAny_bind (wpAny_bind (wpAny_askSetting (wpAny_pure ?_)))
  dsimp only
  rw [show (model prog w).w.params.followText "set-order" = false from hbt]
  simp only [Bool.false_eq_true, if_false]
  split
  · rename_i hdr
    exfalso
    have hdr' : (!t.plain && decide (es.size > 1)) = true := hdr
    rw [Bool.and_eq_true, decide_eq_true_eq] at hdr'
    omega
  · refine wpAny_bind (show wpAny _ _ (if (!t.led && !es.isEmpty) = true then unsupported "set:maker-not-led" else pure ()) _ _ _ from ?_)
    rw [if_neg (by rw [hled]; simp)]
    refine wpAny_pure (wpAny_pure ?_)
    refine setit_after hh hI hend fun x nx h' hr hI' hsb => ?_
    rw [Int.toNat_natCast] at hr
    split at hr
    · rename_i e1 x' j he hj
      cases hr
      exact hitem _ _ h' _ rfl he ⟨j, hj, rfl⟩ hI' hsb
    · cases hr
theorem iter_set {S : Addr} {es : Array (Int × Value)} {ep : Nat} {t : SetTable} {PV : Value → Prop} {Q : Value → Shared → Prop} (hh : A.handled = none) (ho : s.heap.get? S = some { cls := .type "set", dict := none, data := .set es ep t }) (hf : t.fits es.size = true) (h3 : es.size ≤ 3) (hled : t.led = !byT w) (hpl : es.size = 0 ∨ t.plain = false) (hes : ∀ e ∈ es.toList, PV e.2)
    (h : ∀ I h' d fp St k, SetItr prog w A I PV fp St → St k h' → k ≤ 3 → s.heap.objs.size ≤ I → (∀ b ∈ fp, b = S ∨ s.heap.objs.size ≤ b) → h'.get? I ≠ none → (∃ o, h'.get? I = some o ∧ o.cls = .type "set_iterator") → (∀ b o, s.heap.get? b = some o → h'.get? b = some o) → Q (.ref I) { s with heap := h', drawn := d }) :
    wpAny (model prog w) A (pyIter (.ref S)) Q E s := by
  have hT : s.TypeIs (.ref S) "set" := ⟨_, ho, rfl⟩
  refine wpAny_pyIter_slot hT slot_set_iter (wpAny_call_entry slot_set_iter hT entry_set_iter ?_ (args_set_iter _))
  unfold Builtin.«frozenset.__iter__»
  refine wpAny_bind (wpAny_of_eq (show Builtin.Frozenset.slot0 "__iter__" ⟨[.ref S], []⟩ = pure S from rfl) ?_)
  unfold Builtin.Frozenset.sizeOf
  refine wpAny_bind (wpAny_bind (wpAny_setEntries_of ho rfl hf (wpAny_pure ?_)))
  unfold setDrawn
  refine wpAny_bind (wpAny_bind (wpAny_setState_of ho rfl hf ?_))
  dsimp only
  unfold setsByText
  refine wpAny_bind (wpAny_bind (wpAny_askSetting (wpAny_pure ?_)))
  refine wpAny_pure ?_
  have fin : ∀ (s1 : Shared) (first : Value), (∀ b o, s.heap.get? b = some o → s1.heap.get? b = some o) → s1.gens = s.gens → s1.toks = s.toks → s1.os = s.os → s.heap.objs.size ≤ s1.heap.objs.size →
      (∃ fp St k, SetItr prog w A s1.heap.objs.size PV fp St ∧ St k (s1.heap.push (itO first 0 S es.size ep)) ∧ k ≤ 3 ∧ (∀ b ∈ fp, b = S ∨ s.heap.objs.size ≤ b)) →
      wpAny (model prog w) A.in1 (do
        let e ← setEpoch S
        let r ← newFields "set_iterator" [first, rawInt 0, Value.ref S, rawInt (es.size : Nat), rawInt (e : Nat)]
        (ret r : Sem PySem.Fin)) (fun fin s' => ∃ v, fin = PySem.Fin.done (Flow.ret v) ∧ ∃ T' r, s'.TypeIs v T' ∧ typeLookup (Value.type T') (Str.ofString "__next__") = pure (some r) ∧ Q v s') E s1 := by
    intro s1 first up g1 k1 o1 hsz ⟨fp, St, k, hit, hst, hk3, hfp⟩
    refine wpAny_bind (wpAny_setEpoch_of (up _ _ ho) rfl hf ?_)
    refine wpAny_bind ?_
    unfold newFields
    refine wpAny_newObj_type ?_ (by size_fits)
    have hgI : (s1.heap.push (itO first 0 S es.size ep)).get? s1.heap.objs.size = some (itO first 0 S es.size ep) := Heap.get?_push_size _ rfl
    refine wpAny_pure ⟨_, rfl, "set_iterator", _, ⟨_, hgI, rfl⟩, slot_setit_next.lookup, ?_⟩
    have := h s1.heap.objs.size (s1.heap.push (itO first 0 S es.size ep)) s1.drawn fp St k hit hst hk3 hsz hfp (by rw [hgI]; simp) ⟨_, hgI, rfl⟩ (fun b o e => Heap.get?_push_of_some _ (up b o e))
    rw [← g1, ← k1, ← o1] at this
    exact this
  split
  · rename_i hmode
    refine wpAny_bind (wpAny_drawOrderX es.size (List.range es.size) s fun ys d hys hyl => ?_)
    refine wpAny_bind (wpAny_newTuple ?_ (by rw [List.length_map, sizeLine_eq]; omega))
    have hT1 : (s.heap.push (tupO (ys.map fun (x : Nat) => rawInt x) 0)).get? s.heap.objs.size = some (tupO (ys.map fun (x : Nat) => rawInt x) 0) := Heap.get?_push_size _ rfl
    have up1 : ∀ b o, s.heap.get? b = some o → (s.heap.push (tupO (ys.map fun (x : Nat) => rawInt x) 0)).get? b = some o := fun b o e => Heap.get?_push_of_some _ e
    have hSl : S < s.heap.objs.size := Heap.lt_size ho
    have hys' : ∀ x ∈ ys, x < es.size := fun x hx => List.mem_range.mp (hys x hx)
    refine fin { s with heap := s.heap.push (tupO (ys.map fun (x : Nat) => rawInt x) 0), drawn := d } (.ref s.heap.objs.size) up1 rfl rfl rfl (by rw [Heap.size_push]; exact Nat.le_succ _) ?_
    dsimp only
    have hsz : (s.heap.push (tupO (ys.map fun (x : Nat) => rawInt x) 0)).objs.size = s.heap.objs.size + 1 := Heap.size_push ..
    generalize hII : (s.heap.push (tupO (ys.map fun (x : Nat) => rawInt x) 0)).objs.size = I at hsz
    have hIS : S ≠ I := by rw [hsz]; exact Nat.ne_of_lt (Nat.lt_succ_of_lt hSl)
    have hIT : s.heap.objs.size ≠ I := by rw [hsz]; exact Nat.ne_of_lt (Nat.lt_succ_self _)
    refine ⟨[I, s.heap.objs.size, S], fun k h => ∃ i : Nat, h.get? I = some (itO (.ref s.heap.objs.size) i S es.size ep) ∧ h.get? s.heap.objs.size = some (tupO (ys.map fun (x : Nat) => rawInt x) 0) ∧ h.get? S = some { cls := .type "set", dict := none, data := .set es ep t } ∧ k = ys.length - i, ys.length, ⟨?_, ?_⟩, ⟨0, ?_, ?_, ?_, rfl⟩, by omega, ?_⟩
    · rintro k h h' ⟨i, h1, h2, h3, e⟩ hk
      exact ⟨i, hk _ (.head _) _ h1, hk _ (.tail _ (.head _)) _ h2, hk _ (.tail _ (.tail _ (.head _))) _ h3, e⟩
    · rintro k s2 Q2 E2 ⟨i, h1, h2, h3, e⟩ hn hs
      refine next_drawn hh h3 hf h1 h2 hys' (fun _ h' hk => hn h' hk) fun x e' h' hx he' hI' hsb => ?_
      have hlt : i < ys.length := (List.getElem?_eq_some_iff.mp hx).1
      exact hs _ h' (ys.length - (i + 1)) (by omega) (hes e' (by rw [← Array.mem_def]; exact Array.mem_of_getElem? he')) (fun b o hb e => hsb.extBut b o hb e) ⟨i + 1, hI', hsb.extBut _ _ hIT h2, hsb.extBut _ _ hIS h3, rfl⟩
    · rw [← hII]; exact Heap.get?_push_size _ rfl
    · exact Heap.get?_push_of_some _ hT1
    · exact Heap.get?_push_of_some _ (up1 _ _ ho)
    · intro b hb
      simp only [List.mem_cons, List.not_mem_nil, or_false] at hb
      rcases hb with rfl | rfl | rfl
      · exact .inr (by rw [hsz]; exact Nat.le_succ _)
      · exact .inr (Nat.le_refl _)
      · exact .inl rfl
  · rename_i hmode
    refine wpAny_bind (wpAny_pure ?_)
    refine fin s (rawInt 0) (fun _ _ e => e) rfl rfl rfl (Nat.le_refl _) ?_
    have hSl : S < s.heap.objs.size := Heap.lt_size ho
    have hIS : S ≠ s.heap.objs.size := Nat.ne_of_lt hSl
    have hI0 : (s.heap.push (itO (rawInt 0) 0 S es.size ep)).get? s.heap.objs.size = some (itO (rawInt 0) 0 S es.size ep) := Heap.get?_push_size _ rfl
    have hS0 : (s.heap.push (itO (rawInt 0) 0 S es.size ep)).get? S = some { cls := .type "set", dict := none, data := .set es ep t } := Heap.get?_push_of_some _ ho
    cases hbt : byT w with
    | true =>
      obtain ⟨hpo, hps⟩ := pickOrder_ok (w.params.setOrder S ep) (fun e : Int × Value => PV e.2) es hes
      refine ⟨[s.heap.objs.size, S], fun k h => ∃ i : Nat, h.get? s.heap.objs.size = some (itO (.int (0 : Nat) 0) i S es.size ep) ∧ h.get? S = some { cls := .type "set", dict := none, data := .set es ep t } ∧ k = (pickOrder (w.params.setOrder S ep) es).size - i, _, ⟨?_, ?_⟩, ⟨0, hI0, hS0, rfl⟩, by omega, ?_⟩
      · rintro k h h' ⟨i, h1, h3, e⟩ hk
        exact ⟨i, hk _ (.head _) _ h1, hk _ (.tail _ (.head _)) _ h3, e⟩
      · rintro k s2 Q2 E2 ⟨i, h1, h3, e⟩ hn hs
        refine next_text hh hbt h3 hf h1 (fun h' hk => hn h' hk) fun e' h' he' hI' hsb => ?_
        have hlt := (Array.getElem?_eq_some_iff.mp he').1
        exact hs _ h' ((pickOrder (w.params.setOrder S ep) es).size - (i + 1)) (by omega) (hpo e' (by rw [← Array.mem_def]; exact Array.mem_of_getElem? he')) (fun b o hb e => hsb.extBut b o hb e) ⟨i + 1, hI', hsb.extBut _ _ hIS h3, rfl⟩
      · intro b hb
        simp only [List.mem_cons, List.not_mem_nil, or_false] at hb
        rcases hb with rfl | rfl
        · exact .inr (Nat.le_refl _)
        · exact .inl rfl
    | false =>
      have hmode' : ¬ ((!byT w && (!t.plain && decide (es.size > 1))) = true) := hmode
      rw [hbt] at hmode' hled
      have hone : es.size ≤ 1 := by
        rcases hpl with h | h
        · omega
        · rw [h] at hmode'
          simpa using hmode'
      have hpsz : t.place.size = es.size := by
        unfold SetTable.fits at hf
        simp only [Bool.and_eq_true, beq_iff_eq] at hf
        exact hf.1
      refine ⟨[s.heap.objs.size, S], fun k h => ∃ (i sl : Nat), h.get? s.heap.objs.size = some (itO (.int sl 0) i S es.size ep) ∧ h.get? S = some { cls := .type "set", dict := none, data := .set es ep t } ∧ (k = 1 ∨ (k = 0 ∧ ∀ q, t.place[0]? = some q → sl = q + 1)), 1, ⟨?_, ?_⟩, ⟨0, 0, hI0, hS0, .inl rfl⟩, by omega, ?_⟩
      · rintro k h h' ⟨i, sl, h1, h3, e⟩ hk
        exact ⟨i, sl, hk _ (.head _) _ h1, hk _ (.tail _ (.head _)) _ h3, e⟩
      · rintro k s2 Q2 E2 ⟨i, sl, h1, h3, e⟩ hn hs
        refine next_led hh hbt h3 hf hled hone h1 (fun h' hk => hn h' hk) fun j e' h' sl' hj he' hq hI' hsb => ?_
        have hlt := (Array.getElem?_eq_some_iff.mp he').1
        obtain rfl : j = 0 := by omega
        obtain ⟨q, hq, rfl⟩ := hq
        rcases e with rfl | ⟨rfl, e⟩
        · exact hs _ h' 0 rfl (hes e' (by rw [← Array.mem_def]; exact Array.mem_of_getElem? he')) (fun b o hb e => hsb.extBut b o hb e) ⟨i + 1, q + 1, hI', hsb.extBut _ _ hIS h3, .inr ⟨rfl, fun q' hq' => by rw [hq] at hq'; cases hq'; rfl⟩⟩
        · exfalso
          have := e q hq
          subst this
          exact below_one hq (by omega) hj
      · intro b hb
        simp only [List.mem_cons, List.not_mem_nil, or_false] at hb
        rcases hb with rfl | rfl
        · exact .inr (Nat.le_refl _)
        · exact .inl rfl
end
end PS20
section PS21
theorem entry_extend_loop : entryFor table "list.extend.loop" = some Builtin.«list.extend.loop» := entryFor_of_tree (by kernel_rfl)
theorem plain_extend_loop : plainId "list.extend.loop" = true := by decide +kernel
theorem slot_set_len' : Slot "set" "__len__" "set.__len__" :=
  .of (owner := "set") (n := "__len__") (by rw [typeLookup_type, builtinLookup_eq_fast]; kernel_rfl) (by decide +kernel) (by decide +kernel) (by decide +kernel)
    (by first | exact .inl (by decide +kernel) | exact .inr (by decide +kernel)) (by rw [isSubtype_type]; kernel_rfl)
section
variable {prog : Program} {w : World} {A : Around} {E : Value → Shared → Prop} {s : Shared} {nu : Led}
theorem extend_loop {I D : Addr} {PV : Value → Prop} {fp : List Addr} {St : Nat → Heap → Prop} {result : Value} {R : Result → Shared → Prop} (hit : SetItr prog w A.in1 I PV fp St) (hDf : D ∉ fp) (hDI : D ≠ I) :
    ∀ (k : Nat) (s : Shared) (acc : Array Value) (n : Nat), St k s.heap → s.heap.get? D = some (seqObj "list" acc n) → (∀ v ∈ acc.toList, PV v) → acc.size + k ≤ 3 →
      (∀ h' acc' n', (∀ b o, b ≠ D → b ≠ I → s.heap.get? b = some o → h'.get? b = some o) → h'.get? D = some (seqObj "list" acc' n') → (∀ v ∈ acc'.toList, PV v) → acc'.size ≤ 3 → R (.ok (.ret result)) { s with heap := h' }) →
      codeAny (model prog w) A (.builtin "list.extend.loop" ⟨[.ref D, .ref I, result], []⟩) R s := by
  intro k
  induction k with
  | zero =>
    intro s acc n hst hD hacc hsz hR
    refine codeAny_builtin entry_extend_loop ?_
    rw [Around.under_plainId plain_extend_loop _]
    show wpAny _ A.in1 (pyNext (.ref I) >>= _) _ _ s
    refine wpAny_bind (hit.next 0 s _ _ hst (fun h' hk => ?_) (fun v h' k' e => by omega))
    show wpAny _ A.in1 (ret result) _ _ _
    exact wpAny_pure (hR h' acc n (fun b o _ hbI e => hk b o hbI e) (hk _ _ hDI hD) hacc (by omega))
  | succ k ih =>
    intro s acc n hst hD hacc hsz hR
    refine codeAny_builtin entry_extend_loop ?_
    rw [Around.under_plainId plain_extend_loop _]
    show wpAny _ A.in1 (pyNext (.ref I) >>= _) _ _ s
    refine wpAny_bind (hit.next (k + 1) s _ _ hst (fun h' hk => ?_) (fun v h' k' e hv hk hst' => ?_))
    · show wpAny _ A.in1 (ret result) _ _ _
      exact wpAny_pure (hR h' acc n (fun b o _ hbI e => hk b o hbI e) (hk _ _ hDI hD) hacc (by omega))
    · obtain rfl : k' = k := by omega
      have hD' := hk _ _ hDI hD
      show wpAny _ A.in1 (Builtin.List.listUpdate (.ref D) (·.push v) >>= _) _ _ _
      refine wpAny_bind (listUpdate_at hD' rfl ?_ (by rw [sizeLine_eq]; omega) (by rw [Array.size_push, sizeLine_eq]; omega))
      have hD2 := Heap.get?_update_self (Obj.mapSeq (·.push v)) hD' (by rfl)
      refine wpAny_pure ⟨plainId_quiet plain_extend_loop _, ih _ (acc.push v) _ (hit.frame _ _ _ hst' fun b hb o e => ?_) hD2 (fun u hu => ?_) (by rw [Array.size_push]; omega) fun h2 acc' n' hk2 hD3 ha hs2 => ?_⟩
      · rw [Heap.get?_update_ne _ _ _ _ (fun h => hDf (by rw [← h]; exact hb))]
        exact e
      · rw [Array.toList_push, List.mem_append, List.mem_singleton] at hu
        rcases hu with hu | rfl
        · exact hacc u hu
        · exact hv
      · refine hR h2 acc' n' (fun b o hbD hbI e => hk2 b o hbD hbI ?_) hD3 ha hs2
        rw [Heap.get?_update_ne _ _ _ _ hbD]
        exact hk b o hbI e
theorem hint_set {S : Addr} {Q : Bool → Shared → Prop} (hTS : s.TypeIs (.ref S) "set") (h : Q false s) : wpAny (model prog w) A (Builtin.List.listLengthHint (.ref S)) Q E s := by
  unfold Builtin.List.listLengthHint
  refine wpAny_bind (wpAny_specialOf hTS slot_set_len'.lookup ?_)
  have hsp : splitId "set.__len__" = some ("set", "__len__") := by decide +kernel
  extract_lets j1 j2 j3 j4
  dsimp only
  rw [hsp]
  dsimp only
  refine wpAny_bind (wpAny_isInstance hTS sub_set_self ?_)
  rw [if_neg (by decide)]
  show wpAny _ _ (j4 ()) _ _ _
  simp only [j4]
  split
  case isFalse hs => exact absurd (by decide +kernel) hs
  exact wpAny_bind (wpAny_typeOf hTS (wpAny_pure h))
theorem collect_set {S : Addr} {es : Array (Int × Value)} {ep : Nat} {t : SetTable} {PV : Value → Prop} {Q : List Value → Shared → Prop} (hh : A.handled = none) (ho : s.heap.get? S = some { cls := .type "set", dict := none, data := .set es ep t }) (hf : t.fits es.size = true) (h3 : es.size ≤ 3) (hled : t.led = !byT w) (hpl : es.size = 0 ∨ t.plain = false) (hes : ∀ e ∈ es.toList, PV e.2)
    (h : ∀ vs h' d, (∀ v ∈ vs, PV v) → vs.length ≤ 3 → (∀ b o, s.heap.get? b = some o → h'.get? b = some o) → Q vs { s with heap := h', drawn := d }) :
    wpAny (model prog w) A (collect (.ref S)) Q E s := by
  unfold collect
  refine wpAny_bind (wpAny_runValue (codeAny_builtin entry_proto_collect' ?_))
  show wpAny _ _ (do again (.builtin "list.__iadd__" ⟨[← newList [], .ref S], []⟩)) _ _ s
  refine wpAny_bind (wpAny_newList (wpAny_pure ⟨Code.quiet_builtin _ (by decide +kernel), codeAny_builtin entry_list_iadd' ?_⟩))
  show wpAny _ _ (Builtin.List.listExtendWith (.ref s.heap.objs.size) (.ref S) (.ref s.heap.objs.size)) _ _ { s with heap := s.heap.push (seqObj "list" #[] 0) }
  rw [Around.under_plainId (show plainId "list.__iadd__" = true by decide +kernel) _]
  have hSl : S < s.heap.objs.size := Heap.lt_size ho
  have ho1 : (s.heap.push (seqObj "list" #[] 0)).get? S = some { cls := .type "set", dict := none, data := .set es ep t } := Heap.get?_push_of_some _ ho
  unfold Builtin.List.listExtendWith
  refine wpAny_bind (wpAny_typeOf (T := "set") ⟨_, ho1, rfl⟩ ?_)
  rw [if_neg (by
    unfold Builtin.List.listSameRef
    have : (s.heap.objs.size == S) = false := by rw [beq_eq_false_iff_ne]; exact Nat.ne_of_gt hSl
    simp only [this, Bool.false_or]
    decide)]
  refine wpAny_bind (iter_set (A := A.in1) (by simp [hh]) ho1 hf h3 hled hpl hes fun I h1 d fp St k hit hst hk3 hI hfp _ ⟨oI, hoI, hcI⟩ up1 => ?_)
  have hTS : Shared.TypeIs { s with heap := h1, drawn := d } (.ref S) "set" := ⟨_, up1 _ _ ho1, rfl⟩
  refine wpAny_bind (wpAny_holding (hint_set hTS ?_))
  split
  case isFalse hs => exact absurd (by decide +kernel) hs
  refine wpAny_bind (wpAny_rule (wpAny_bind ?_))
  unfold Builtin.List.listTouch
  have hD1 : h1.get? s.heap.objs.size = some (seqObj "list" #[] 0) := up1 _ _ (Heap.get?_push_size _ rfl)
  refine wpAny_bind (listUpdate_at hD1 rfl ?_ (by rw [sizeLine_eq]; simp) (by rw [sizeLine_eq]; simp))
  have hD2 := Heap.get?_update_self (Obj.mapSeq (·.push Value.none)) hD1 (by rfl)
  refine listUpdate_at hD2 rfl ?_ (by rw [sizeLine_eq]; simp [Obj.mapSeq]) (by rw [sizeLine_eq]; simp [Obj.mapSeq])
  have hD3 := Heap.get?_update_self (Obj.mapSeq (·.pop)) hD2 (by rfl)
  have hsz1 : (s.heap.push (seqObj "list" #[] 0)).objs.size = s.heap.objs.size + 1 := Heap.size_push ..
  have hDI : s.heap.objs.size ≠ I := by
    rw [hsz1] at hI; exact Nat.ne_of_lt hI
  have hDf : s.heap.objs.size ∉ fp := fun hb => by
    rcases hfp _ hb with e | e
    · exact Nat.ne_of_gt hSl e
    · rw [hsz1] at e; exact Nat.not_succ_le_self _ e
  show wpAny _ A.in1 (again (Code.builtin "list.extend.loop" ⟨[.ref s.heap.objs.size, .ref I, .ref s.heap.objs.size], []⟩)) _ _ _
  refine wpAny_pure ⟨plainId_quiet plain_extend_loop _, extend_loop hit hDf hDI k _ _ _ (hit.frame _ _ _ hst fun b hb o e => ?_) hD3 (fun v hv => by simp at hv) (by simpa using hk3) fun h' acc' n' hk' hD' hacc hsz' => ?_⟩
  · have hbD : b ≠ s.heap.objs.size := fun h => hDf (by rw [← h]; exact hb)
    rw [Heap.get?_update_ne _ _ _ _ hbD, Heap.get?_update_ne _ _ _ _ hbD]
    exact e
  · dsimp only
    refine wpAny_bind (wpAny_load hD' ?_)
    dsimp only
    refine wpAny_pure ?_
    refine h acc'.toList h' d hacc (by simpa using hsz') fun b o e => ?_
    have hb1 : b < s.heap.objs.size := Heap.lt_size e
    have hbD : b ≠ s.heap.objs.size := Nat.ne_of_lt hb1
    refine hk' b o hbD (Nat.ne_of_lt (by rw [hsz1] at hI; exact Nat.lt_trans hb1 hI)) ?_
    show ((h1.update _ _).update _ _).get? b = some o
    rw [Heap.get?_update_ne _ _ _ _ hbD, Heap.get?_update_ne _ _ _ _ hbD]
    exact up1 _ _ (Heap.get?_push_of_some _ e)
end
end PS21
section PS22
section
variable {prog : Program} {w : World} {A : Around} {E : Value → Shared → Prop} {s : Shared} {nu : Led} {x y : Value} {p q : Lit}
theorem lit_lt {C : Bool → Shared → Prop} {E : Value → Shared → Prop} (k : Known s.heap nu) (hx : LitV nu x p) (hy : LitV nu y q) (h : ∀ b, C b s) : wpAny (model prog w) A (keyLt' (tuples' true) x y) C E s := by
  obtain ⟨a, t1, t2, t3, rfl, hm⟩ := hx
  obtain ⟨b, u1, u2, u3, rfl, hn⟩ := hy
  refine kat_lt (k _ hm) rfl (k _ hn) rfl ?_
  refine kat_cons (wpAny_eqBool_int (kat_go (fun e => kat_yes ?_) (fun e => kat_no ?_)))
  · refine kat_cons (wpAny_eqBool_str (kat_go (fun e => kat_yes ?_) (fun e => kat_no ?_)))
    · refine kat_cons (wpAny_eqBool_int (kat_go (fun e => kat_yes ?_) (fun e => kat_no ?_)))
      · exact kat_nil (h _)
      · exact kat_one _ _ (PyProof.Rows.lt_int (h _))
    · exact kat_one _ _ (PyProof.Rows.lt_str (h _))
  · exact oneLt_int (h _)
theorem lits_firsts : ∀ (vs : List Value), (∀ v ∈ vs, ∃ p, LitV nu v p) → ∀ {h : Heap}, Known h nu → ∃ fs, KatTups h vs fs ∧ (∀ v ∈ fs, ∃ i t, v = Value.int i t) ∧ fs.length = vs.length
  | [], _, _, _ => ⟨[], KatTups.nil, fun v hv => absurd hv List.not_mem_nil, rfl⟩
  | v :: vs, hv, h, k => by
    obtain ⟨p, a, t1, t2, t3, rfl, hm⟩ := hv v (.head _)
    obtain ⟨fs, h1, h2, h3⟩ := lits_firsts vs (fun u hu => hv u (.tail _ hu)) k
    refine ⟨.int p.1 t1 :: fs, .cons (k _ hm) rfl rfl rfl h1, fun u hu => ?_, by rw [List.length_cons, List.length_cons, h3]⟩
    rcases List.mem_cons.mp hu with rfl | hu
    · exact ⟨_, _, rfl⟩
    · exact h2 u hu
theorem lits_kind {vs : List Value} {Q : SortKind → Shared → Prop} (k : Known s.heap nu) (hvs : ∀ v ∈ vs, ∃ p, LitV nu v p) (h0 : 0 < vs.length) (h : Q (tuples' true) s) : wpAny (model prog w) A (keyKind' vs.toArray) Q E s := by
  obtain ⟨fs, h1, h2, h3⟩ := lits_firsts vs hvs k
  refine kat_kind (T := .type "int") h1 (by omega) (fun v hv => ?_) rfl h
  obtain ⟨i, t, rfl⟩ := h2 v hv
  exact Looks.of_pure rfl
noncomputable def okT (n : Nat) : KasT (Array Nat) → Bool
  | .ret p => (p.size == n) && p.toList.all fun i => decide (i < n)
  | .ask i j k => decide (i < n) && decide (j < n) && okT n (k true) && okT n (k false)
theorem ok2 : okT 2 (kas_sort 2) = true := by decide +kernel
theorem ok3 : okT 3 (kas_sort 3) = true := by decide +kernel
theorem kas_any {n : Nat} {vs : List Value} {Q : Array Nat → Shared → Prop} (k : Known s.heap nu) (hvs : ∀ v ∈ vs, ∃ p, LitV nu v p) (hn : vs.length = n) (h : ∀ r : Array Nat, r.size = n → (∀ i ∈ r.toList, i < n) → Q r s) : ∀ t : KasT (Array Nat), okT n t = true → t.kasWp (kas_ask prog w A (tuples' true) vs) Q s
  | .ret r, ho => by
    unfold okT at ho
    rw [Bool.and_eq_true, beq_iff_eq] at ho
    exact h r ho.1 fun i hi => of_decide_eq_true (List.all_eq_true.mp ho.2 i hi)
  | .ask i j f, ho => by
    unfold okT at ho
    rw [Bool.and_eq_true, Bool.and_eq_true, Bool.and_eq_true, decide_eq_true_eq, decide_eq_true_eq] at ho
    obtain ⟨⟨⟨hi, hj⟩, h1⟩, h2⟩ := ho
    have hget : ∀ i, i < n → ∃ p, LitV nu (vs.getD i Value.none) p := fun i hi => by
      rw [List.getD_eq_getElem?_getD, List.getElem?_eq_getElem (by omega)]
      exact hvs _ (List.getElem_mem _)
    obtain ⟨p, hp⟩ := hget i hi
    obtain ⟨q, hq⟩ := hget j hj
    refine lit_lt k hp hq fun b => ?_
    cases b with
    | true => exact kas_any k hvs hn h (f true) h1
    | false => exact kas_any k hvs hn h (f false) h2
theorem sorted_set {h₀ : Heap} {L : Addr} {m : Str → Option Value} {news : Led} {S : Addr} {es : Array (Int × Value)} {ep : Nat} {t : SetTable} {Q : Value → Shared → Prop} (F : Fr h₀ L s.heap m) (N : News h₀ L s.heap news) (hnu : Sub nu news) (hh : A.handled = none) (ho : s.heap.get? S = some { cls := .type "set", dict := none, data := .set es ep t }) (hf : t.fits es.size = true) (h3 : es.size ≤ 3) (hled : t.led = !byT w) (hpl : es.size = 0 ∨ t.plain = false) (hes : ∀ e ∈ es.toList, ∃ q, LitOk q ∧ LitV nu e.2 q)
    (h : ∀ D out c h' d, Fr h₀ L h' m → News h₀ L h' ((D, lstO out c) :: news) → (∀ q ∈ news, q.1 < D) → (∀ v ∈ out, ∃ q, LitOk q ∧ LitV nu v q) → out.length ≤ 3 → Q (.ref D) { s with heap := h', drawn := d }) :
    wpAny (model prog w) A (call (.builtin "sorted") [.ref S]) Q E s := by
  refine Calls.call_function_entry kind_sorted plain_sorted entry_sorted (args_sorted1 _) ?_
  unfold Builtin.«sorted»
  refine wpAny_bind (m := checkCount "sorted" 1 1 _) (wpAny_pure ?_)
  refine wpAny_bind (collect_set (PV := fun v => ∃ q, LitOk q ∧ LitV nu v q) (by simp [hh]) ho hf h3 hled hpl hes fun vs h1 d hvs hvl up => ?_)
  refine wpAny_bind (wpAny_newList ?_ (by rw [sizeLine_eq]; omega))
  have F1 : Fr h₀ L h1 m := F.keeps up
  have N1 : News h₀ L h1 news := N.grown up
  have up2 : ∀ b o, h1.get? b = some o → (h1.push (seqObj "list" vs.toArray 0)).get? b = some o := fun b o e => Heap.get?_push_of_some _ e
  have hD : (h1.push (seqObj "list" vs.toArray 0)).get? h1.objs.size = some (seqObj "list" vs.toArray 0) := Heap.get?_push_size _ rfl
  have hL : L < h1.objs.size := F1.ns.lt
  have hlt : ∀ q ∈ news, q.1 < h1.objs.size := fun q hq => Heap.lt_size (N1 q hq).1
  have hvs' : ∀ v ∈ vs, ∃ q, LitV nu v q := fun v hv => let ⟨q, _, h⟩ := hvs v hv; ⟨q, h⟩
  refine wpAny_bind (wpAny_holding (wpAny_call_entry slot_list_sort ⟨_, hD, rfl⟩ entry_list_sort ?body (args_list_sort _)))
  case body =>
    by_cases h2 : 2 ≤ vs.length
    · refine kat_list_sort (s := { s with heap := h1.push (seqObj "list" vs.toArray 0), drawn := d }) (F1.keeps up2) (N1.grown up2) hD (Nat.ne_of_gt hL) (Heap.get?_none_of_le (Nat.le_trans F1.above (Nat.le_of_lt hL))) (fun p hp => Nat.ne_of_lt (hlt p hp)) h2 (by omega) fun e1 h' F' N' => ?_
      have hkn : Known h' nu := fun q hq => (N' q (.tail _ (hnu q hq))).1
      refine lits_kind (s := { s with heap := h', drawn := d }) hkn hvs' (by omega) ?_
      have hok : okT vs.length (kas_sort vs.length) = true := by
        have : vs.length = 2 ∨ vs.length = 3 := by omega
        rcases this with e | e <;> rw [e]
        · exact ok2
        · exact ok3
      refine kas_any (s := { s with heap := h', drawn := d }) hkn hvs' rfl (fun r hrs hr => ?_) _ hok
      refine KasFin.intro F' N' (UpdF.head fun p hp => Nat.ne_of_lt (hlt p hp)) fun h4 c F4 N4 => ?_
      refine ⟨_, rfl, wpAny_pure ⟨_, rfl, ?_⟩⟩
      refine h h1.objs.size _ c h4 d F4 N4 hlt (fun v hv => ?_) (by rw [List.length_map, Array.length_toList, hrs]; exact hvl)
      obtain ⟨i, hi, rfl⟩ := List.mem_map.mp hv
      rw [List.getD_eq_getElem?_getD, List.getElem?_eq_getElem (hr i hi)]
      exact hvs _ (List.getElem_mem _)
    · rw [list_sort_plain]
      refine wpAny_bind (listItems_at hD rfl ?_)
      refine wpAny_bind (listUpdate_at hD rfl ?_ (by rw [List.size_toArray, sizeLine_eq]; omega) (Nat.zero_le _))
      obtain ⟨e1, ho1⟩ : ∃ e1, ((h1.push (seqObj "list" vs.toArray 0)).update h1.objs.size (Obj.mapSeq fun _ => (#[] : Array Value))).get? h1.objs.size = some (seqObj "list" #[] e1) := ⟨_, get?_update_seq hD fun _ => #[]⟩
      refine wpAny_bind (seqEpoch_at ho1 rfl ?_)
      refine wpAny_bind (wpAny_newTuple ?_ (by show vs.length ≤ _; rw [sizeLine_eq]; omega))
      refine wpAny_bind (wpAny_newList ?_ (Nat.zero_le _))
      refine wpAny_holding ?_
      dsimp only
      have hn2 : vs.toArray.size < 2 := by rw [List.size_toArray]; omega
      rw [if_pos hn2, if_pos hn2]
      refine wpAny_bind (wpAny_pure ?_)
      refine wpAny_bind ?_
      show wpAny _ _ (pure ((), SortSt.mk' general' (vs.toArray.zip vs.toArray) #[] 7 none)) _ _ _
      refine wpAny_pure ?_
      generalize hH : (((h1.push (seqObj "list" vs.toArray 0)).update h1.objs.size (Obj.mapSeq fun _ => (#[] : Array Value))).push (seqObj "tuple" vs.toArray 0)).push (seqObj "list" #[] 0) = H
      have ho2 : H.get? h1.objs.size = some (seqObj "list" #[] e1) := hH ▸ Heap.get?_push_of_some _ (Heap.get?_push_of_some _ ho1)
      have upH : ∀ b o, b ≠ h1.objs.size → h1.get? b = some o → H.get? b = some o := fun b o hb e => hH ▸ Heap.get?_push_of_some _ (Heap.get?_push_of_some _ (by rw [Heap.get?_update_ne _ _ _ _ hb]; exact up2 _ _ e))
      show wpAny _ _ _ _ _ { s with heap := H, drawn := d }
      refine wpAny_bind (seqEpoch_at (s := { s with heap := H, drawn := d }) ho2 rfl ?_)
      have hmap : Array.map (fun x : Value × Value => x.2) (arrOf (SortSt.mk' general' (vs.toArray.zip vs.toArray) #[] 7 none)) = vs.toArray := by
        show Array.map (fun x : Value × Value => x.2) (vs.toArray.zip vs.toArray) = _
        simp [List.map_snd_zip]
      rw [hmap]
      refine wpAny_bind (listUpdate_at (s := { s with heap := H, drawn := d }) ho2 rfl ?_ (Nat.zero_le _) (by rw [List.size_toArray, sizeLine_eq]; omega))
      obtain ⟨c2, hc2⟩ : ∃ c2, (H.update h1.objs.size (Obj.mapSeq fun _ => vs.toArray)).get? h1.objs.size = some (seqObj "list" vs.toArray c2) := ⟨_, get?_update_seq ho2 fun _ => vs.toArray⟩
      have hfail : failedOf (SortSt.mk' general' (vs.toArray.zip vs.toArray) #[] 7 none) = none := rfl
      rw [hfail]
      simp only [bne_self_eq_false, Bool.false_eq_true, if_false]
      have upF : ∀ b o, b < h1.objs.size → h1.get? b = some o → (H.update h1.objs.size (Obj.mapSeq fun _ => vs.toArray)).get? b = some o := fun b o hb e => by
        rw [Heap.get?_update_ne _ _ _ _ (Nat.ne_of_lt hb)]
        exact upH b o (Nat.ne_of_lt hb) e
      refine wpAny_pure ⟨_, rfl, wpAny_pure ⟨_, rfl, ?_⟩⟩
      refine h h1.objs.size vs c2 _ d (F1.keeps fun b o e => upF b o (Heap.lt_size e) e) (fun q hq => ?_) hlt hvs hvl
      rcases List.mem_cons.mp hq with rfl | hq
      · exact ⟨hc2, Nat.ne_of_gt hL, Heap.get?_none_of_le (Nat.le_trans F1.above (Nat.le_of_lt hL))⟩
      · exact ⟨upF _ _ (hlt q hq) (N1 q hq).1, (N1 q hq).2⟩
end
end PS22
section PS23
theorem lits_dat {nu : Led} : ∀ (out : List Value), (∀ v ∈ out, ∃ q, LitOk q ∧ LitV nu v q) → ∃ c : List Lit, DatAll nu out (c.map litP) ∧ c.length = out.length ∧ ∀ p ∈ c, LitOk p
  | [], _ => ⟨[], .nil, rfl, fun p hp => absurd hp List.not_mem_nil⟩
  | v :: out, h => by
    obtain ⟨q, oq, a, t1, t2, t3, rfl, hm⟩ := h v (.head _)
    obtain ⟨c, h1, h2, h3⟩ := lits_dat out fun u hu => h u (.tail _ hu)
    refine ⟨q :: c, .cons (litD_of hm) h1, by rw [List.length_cons, List.length_cons, h2], fun p hp => ?_⟩
    rcases List.mem_cons.mp hp with rfl | hp
    · exact oq
    · exact h3 p hp
local macro_rules | `(tactic| walk_at "call type:list") => `(tactic| (k_here; (with_reducible show wpAny _ _ (call (Value.type _) [Value.ref _]) _ _ _); k_dflt (refine' kup_listOf ?F ?N ?b ?e ?_ ?z; (case F => k_asm); (case N => k_asm); (case b => k_mem); (case e => exact List.toList_toArray); (case z => (rw [List.toList_toArray, sizeLine_eq]; omega))); intro D' c' h' F' N' l1))
local macro_rules | `(tactic| walk_at "call builtin:sorted") => `(tactic| refine Stop.out ?_)
local macro_rules | `(tactic| walk_at "call type:set") => `(tactic| refine Stop.out ?_)
set_option maxHeartbeats 8000000 in
theorem clause_spec {vq : Program} {w : World} {mean : ExcName → Option Value} {mg mb : Str → Option Value} {R : Addr} {o : Obj} {many : Int} {tm : Tok} {k : Nat} {mu nu : Led} (hr : ReelOk o nu k) (hk1 : k ≤ 800) (hm0 : 0 ≤ many) (hm3 : many ≤ 3) (hne : ∀ p ∈ mu, p.1 ≠ R) :
    Spec vq w mean mg mb 475 [.ref R, .int many tm] 4 ((R, o) :: mu) nu (fun mu' nu' r => ∃ o' c, mu' = (R, o') :: mu ∧ ReelOk o' nu' (k + 9) ∧ DatIn nu' r (clD c) ∧ c.length ≤ 3 ∧ ∀ p ∈ c, LitOk p) := by
  intro dp un gd cn cs a ccd cl outer A₀ base h₀ L m news s Q E B F X N T hk hsp hap hd hu hret
  cases hsp
  w_on
  refine wpAny_call ?_
  k_dflt walk_at "MY enterC"
  rename_i g1 L1 h1 tk1 FG1 F1 B1 X1 T1 l1 oR hdR N1
  k_steps
  refine Stop.mk (comp_eval (cl := [(Str.ofString "reel", L1 + 1)]) F1 (by with_unfolding_all rfl) (by decide) rfl (by decide) ?_)
  k_steps
  rename_i N1 h2 _ _ _ _ hrg F2 N2 up2
  obtain ⟨n, hn3, hrs, hsmall⟩ : ∃ n : Nat, n ≤ 3 ∧ Builtin.Range.rangeSize 0 many 1 = (n : Int) ∧ Builtin.Range.small 0 many 1 = true := by
    have : many = 0 ∨ many = 1 ∨ many = 2 ∨ many = 3 := by omega
    rcases this with rfl | rfl | rfl | rfl
    · exact ⟨0, by decide, by decide, by decide⟩
    · exact ⟨1, by decide, by decide, by decide⟩
    · exact ⟨2, by decide, by decide, by decide⟩
    · exact ⟨3, by decide, by decide, by decide⟩
  have hRL : R ≠ L1 + 1 := Nat.ne_of_lt (Nat.lt_succ_of_lt (l1 (R, o) (.head _)))
  have ap2 : Apart ((R, o) :: (L1 + 1, oR) :: mu) nu := apart_swap (apart_cons (fun q hq => Nat.ne_of_gt (Nat.lt_succ_of_lt (l1 q (List.mem_append_right _ hq)))) hap)
  have N3 : News g1 L1 h2 (((R, o) :: (L1 + 1, oR) :: mu) ++ nu) := newsSub N2 (by walk_at "MY sub")
  clear N2 N1
  refine CompGoal.intro ((R, o) :: (L1 + 1, oR) :: mu) nu (fun i ys mu' nu' => ∃ o', mu' = (R, o') :: (L1 + 1, oR) :: mu ∧ ReelOk o' nu' (k + 3 * i) ∧ ys.length = i ∧ ∀ v ∈ ys, ∃ p, LitOk p ∧ LitV nu' v p) (src_range rfl hrg hsmall hrs) (by rw [sizeLine_eq]; omega) F2 N3 ap2 ⟨o, rfl, hr, rfl, fun v hv => absurd hv List.not_mem_nil⟩ ?_ ?_
  · rintro i v ys mu' nu' I oI C oC D m₂ s3 hi hP hyl ⟨o', rfl, hro, hyn, hys⟩ hsub hsm hoC F4 N4 off hIC hID hCD ap4 R1 hR1
    refine turn_name rfl rfl hoC F4 N4 off hIC hCD ?_
    intro h5 oC5 m5 hoC5 hv5 F5 N5
    have ap5 : Apart ((R, o') :: (I, oI) :: (C, oC5) :: (D, lst ys) :: (L1 + 1, oR) :: mu) nu' := by
      have h3 := apart3 (oI := oI) (oC := oC5) (oD := lst ys) off ap4
      exact apart_cons (ap4 _ (.head _)) (apart_cons (h3 _ (.head _)) (apart_cons (h3 _ (.tail _ (.head _))) (apart_cons (h3 _ (.tail _ (.tail _ (.head _)))) (apart_tail ap4))))
    have hneR : ∀ q ∈ (I, oI) :: (C, oC5) :: (D, lst ys) :: (L1 + 1, oR) :: mu, q.1 ≠ R := fun q hq => by
      have hR := off (R, o') (.head _)
      rcases List.mem_cons.mp hq with rfl | hq
      · exact Ne.symm hR.1
      · rcases List.mem_cons.mp hq with rfl | hq
        · exact Ne.symm hR.2.1
        · rcases List.mem_cons.mp hq with rfl | hq
          · exact Ne.symm hR.2.2
          · rcases List.mem_cons.mp hq with rfl | hq
            · exact Ne.symm hRL
            · exact hne q hq
    refine wpAny_tests_nil ?_
    k_steps
    refine Stop.mk (Spec.on (literal_spec hro (by omega) hneR) (by assumption) (by assumption) (by assumption) (by assumption) (by assumption) rfl (by assumption) (by walk_at "MY subs") (by ktr_room) (by ktr_units) ?_)
    rintro r6 s6 mu6 nu6 sm6 F6 N6 ap6 sub6 ⟨o6, p, hmu, hro6, hlv, hpok⟩
    subst hmu
    k_steps
    refine hR1 _ _ ⟨oC5, m5, (R, o6) :: (L1 + 1, oR) :: mu, nu6, ⟨sm6.1.trans hsm.1, sm6.2.trans hsm.2⟩, F6, newsSub N6 (by walk_at "MY sub"), hoC5, fun q hq => ?_, fun q hq => ?_, hsub.trans sub6, o6, rfl, hro6, by rw [List.length_append, hyn]; rfl, fun u hu => ?_⟩
    · rcases List.mem_append.mp hq with hq | hq
      · rcases List.mem_cons.mp hq with rfl | hq
        · exact off (R, o') (.head _)
        · exact off q (List.mem_append_left _ (.tail _ hq))
      · exact ⟨Ne.symm (ap6 _ (.tail _ (.head _)) q hq), Ne.symm (ap6 _ (.tail _ (.tail _ (.head _))) q hq), Ne.symm (ap6 _ (.tail _ (.tail _ (.tail _ (.head _)))) q hq)⟩
    · rcases List.mem_cons.mp hq with rfl | hq
      · exact ap6 _ (.head _)
      · exact ap6 q (.tail _ (.tail _ (.tail _ (.tail _ hq))))
    · rcases List.mem_append.mp hu with hu | hu
      · obtain ⟨q, oq, a, b1, b2, b3, e, hm⟩ := hys u hu
        exact ⟨q, oq, a, b1, b2, b3, e, sub6 _ hm⟩
      · rw [List.mem_singleton.mp hu]
        exact ⟨p, hpok, hlv⟩
  · rintro ys D mu' nu' s3 ⟨o', rfl, hro, hyn, hys⟩ hsm F4 N4 hD ap4 hsub
    k_steps
    refine Stop.mk (call_set (nu := nu') (vs := ys) rfl (N4 _ (.head _)).1 (fun q hq => (N4 q (.tail _ (List.mem_append_right _ hq))).1) hys (by omega) (by ktr_units) fun h5 tk5 oS hgS hTS up5 => ?_)
    have F5 := F4.keeps fun b o e => up5 b o (Heap.lt_size e) e
    have N5 := N4.grown fun b o e => up5 b o (Heap.lt_size e) e
    obtain ⟨es, ep, t, rfl, hm, hdm, hsz, hle, hled, hpl, hes⟩ := hTS.ex
    have hfits : t.fits es.size = true := by
      unfold SetTable.fits SetTable.fill
      rw [hdm, hm, hsz]
      simp; omega
    k_steps
    refine Stop.mk (sorted_set (nu := nu') F5 N5 (fun q hq => .tail _ (List.mem_append_right _ hq)) rfl hgS hfits (by omega) hled hpl hes fun D6 out c6 h6 d6 F6 N6 l6 hout hol => ?_)
    obtain ⟨c, hcd, hcl, hcok⟩ := lits_dat out hout
    k_steps
    rename_i D7 h7 _ _ l7 kF kN _ _
    have kN' : News h₀ L h7 ((D7, tupO out 0) :: (D6, lstO out c6) :: (D, lst ys) :: (((R, o') :: (L1 + 1, oR) :: mu) ++ nu')) := kN
    refine hret _ _ ((R, o') :: mu) ((D7, tupO out 0) :: nu') ⟨hsm.1, hsm.2⟩ kF (newsSub kN' (by walk_at "MY sub")) (apart_mid (fun q hq => l7 q (.tail _ (.tail _ ?_))) (fun q hq => ?_)) (hsub.trans sub_cons) ⟨o', c, rfl, hro.mono sub_cons (by omega), .tuple (.head _) (hcd.mono sub_cons), by omega, hcok⟩
    · rcases List.mem_append.mp hq with hq | hq
      · rcases List.mem_cons.mp hq with rfl | hq
        · exact .head _
        · exact .tail _ (.tail _ (List.mem_append_left _ hq))
      · exact .tail _ (.tail _ (List.mem_append_right _ hq))
    · rcases List.mem_cons.mp hq with rfl | hq
      · exact ap4 _ (.head _)
      · exact ap4 q (.tail _ (.tail _ hq))
end PS23
section PP2
noncomputable def keepB (sg : Str) (k v : Int) : Bool :=
  if (sg == Str.ofString "<=") = true then decide (v ≤ k) else if (sg == Str.ofString ">=") = true then decide (k ≤ v) else decide (v = k) == (sg == Str.ofString "=")
theorem keepF_eq (sg : Str) (k : Int) (l : List Int) : keepF sg k l = l.filter (keepB sg k) := by
  unfold keepF keepB
  split
  · rfl
  · split <;> rfl
theorem meetsB_eq (pt : Int → Int) (p : Lit) : meetsB pt p = keepB p.2.1 p.2.2 (pt p.1) := by
  unfold meetsB
  rw [keepF_eq, List.filter_cons]
  cases keepB p.2.1 p.2.2 (pt p.1) <;> simp
theorem mem_keepP {lots : Int → List Int} {pt : Int → Int} {p : Lit} (h : pt p.1 ∈ lots p.1) (hm : meetsB pt p = true) : pt p.1 ∈ keepP lots p := by
  unfold keepP
  rw [keepF_eq, List.mem_filter]
  rw [meetsB_eq] at hm
  exact ⟨h, hm⟩
noncomputable def OnPt (pt : Int → Int) (lots : Int → List Int) : Prop := ∀ x : Int, 0 ≤ x → x < 3 → pt x ∈ lots x
theorem OnPt.upd {pt : Int → Int} {lots : Int → List Int} (h : OnPt pt lots) {x : Int} {l : List Int} (hl : pt x ∈ l) : OnPt pt (upd lots x l) := fun y h0 h3 => by
  unfold Mine.upd
  split
  · rename_i e; subst e; exact hl
  · exact h y h0 h3
theorem deny_pt {pt : Int → Int} : ∀ (c : List Lit) (lots : Int → List Int), (∀ x, lots x ∈ allLots) → OnPt pt lots → (∀ p ∈ c, LitOk p) → (∀ p ∈ c, meetsB pt p = false) → ∃ lots', denyF lots c = some lots' ∧ OnPt pt lots' ∧ ∀ x, lots' x ∈ allLots
  | [], lots, hl, ho, _, _ => ⟨lots, rfl, ho, hl⟩
  | p :: c, lots, hl, ho, hok, hm => by
    have pok := hok p (.head _)
    have hkk : p.2.2 ∈ ks := ks_of (Int.le_trans (by decide) pok.klo) (Int.le_trans pok.khi (by decide))
    have hin := ho p.1 pok.lo pok.hi
    have hmem : pt p.1 ∈ keepF (negS p.2.1) (negK p.2.1 p.2.2) (lots p.1) := by
      rw [neg_lot (hl p.1) pok.sg hkk, List.mem_filter]
      refine ⟨hin, ?_⟩
      have : (keepF p.2.1 p.2.2 (lots p.1)).contains (pt p.1) = false := by
        rw [← Bool.not_eq_true, List.contains_iff_mem, keepF_eq, List.mem_filter]
        rintro ⟨_, h⟩
        have := hm p (.head _)
        rw [meetsB_eq, h] at this
        cases this
      rw [this]; rfl
    unfold denyF
    rw [if_neg (fun e => by rw [e] at hmem; cases hmem)]
    exact deny_pt c _ (fun y => by
      unfold upd; split
      · exact (struck_lot (hl p.1) (negS_signs pok.sg) (negK_ks pok.klo pok.khi)).2
      · exact hl y) (ho.upd hmem) (fun q hq => hok q (.tail _ hq)) fun q hq => hm q (.tail _ hq)
theorem lines_pt {pt : Int → Int} : ∀ (ls : List (List Lit)) (lots : Int → List Int), OnPt pt lots → (∀ l ∈ ls, ∀ p ∈ l, LitOk p) → (∀ l ∈ ls, heldB pt l = true) → linesF lots ls = false
  | [], _, _, _, _ => rfl
  | l :: ls, lots, ho, hok, hh => by
    have hl := hh l (.head _)
    unfold heldB at hl
    obtain ⟨q, rest, hq⟩ := List.exists_cons_of_ne_nil (of_decide_eq_true hl)
    have hqm : q ∈ l.filter (meetsB pt) := hq ▸ List.mem_cons_self ..
    obtain ⟨hql, hqt⟩ := List.mem_filter.mp hqm
    have qok := hok l (.head _) q hql
    have hk := mem_keepP (ho q.1 qok.lo qok.hi) hqt
    have hqc : q ∈ l.filter (canB lots) := List.mem_filter.mpr ⟨hql, decide_eq_true fun e => by rw [e] at hk; cases hk⟩
    unfold linesF
    split
    · exact lines_pt ls lots ho (fun l' h => hok l' (.tail _ h)) fun l' h => hh l' (.tail _ h)
    · split
      · rename_i e; rw [e] at hqc; cases hqc
      · rename_i p e
        rw [e, List.mem_singleton] at hqc
        subst hqc
        exact lines_pt ls _ (ho.upd hk) (fun l' h => hok l' (.tail _ h)) fun l' h => hh l' (.tail _ h)
      · rfl
theorem go_sound {lots : Int → List Int} {c : List Lit} {ls : List (List Lit)} (hl : ∀ x, lots x ∈ allLots) (hc : ∀ p ∈ c, LitOk p) (hls : ∀ l ∈ ls, ∀ p ∈ l, LitOk p) {x y z : Int} (hx : x ∈ lots 0) (hy : y ∈ lots 1) (hz : z ∈ lots 2) (h1 : heldB (point x y z) c = false) (h2 : ∀ l ∈ ls, heldB (point x y z) l = true) : goF lots c ls = false := by
  have ho : OnPt (point x y z) lots := fun i h0 h3 => by
    have : i = 0 ∨ i = 1 ∨ i = 2 := by omega
    rcases this with rfl | rfl | rfl
    · exact hx
    · exact hy
    · exact hz
  have hm : ∀ p ∈ c, meetsB (point x y z) p = false := fun p hp => by
    unfold heldB at h1
    have := Classical.not_not.mp (of_decide_eq_false h1)
    cases hh : meetsB (point x y z) p with
    | false => rfl
    | true =>
      have hmem : p ∈ c.filter (meetsB (point x y z)) := List.mem_filter.mpr ⟨hp, hh⟩
      rw [this] at hmem; cases hmem
  obtain ⟨lots', e, ho', _⟩ := deny_pt c lots hl ho hc hm
  unfold goF
  rw [if_neg (by
    rintro (e | e | e)
    · rw [e] at hx; cases hx
    · rw [e] at hy; cases hy
    · rw [e] at hz; cases hz), e]
  exact lines_pt ls lots' ho' hls h2
end PP2
section PS24
noncomputable def Mark : Prop := True
local macro_rules | `(tactic| walk_at "call type:list") => `(tactic| refine Stop.out ?_)
local macro_rules | `(tactic| walk_at "binaryOp Add ref ref") => `(tactic| refine Stop.out ?_)
local macro_rules | `(tactic| walk_at "subscriptTail Name Slice ref ref") => `(tactic| (rename Mark => mk9; refine Stop.out ?_))
local macro_rules | `(tactic| ktr_room) => `(tactic| (dsimp only [ktrTop, Around.deeper, Around.under] at *; omega))
local macro_rules | `(tactic| walk_at "call ref") => `(tactic| (k_here; k_dflt (refine' call_cls ?k1 ?k2 ?k3 ?k4 ?k5 ?k6 ?_; (case k1 => k_asm); (case k2 => k_asm); (case k3 => k_asm); (case k4 => k_is); (case k5 => k_is); (case k6 => k_is); k_whole; intro x' d' h' F' N' l1 l2; (try k_lt l1); (try k_lt2 l2); (refine' code_def ?k1 ?k2 ?k3 ?k4 ?k5 ?kA ?kF ?kK ?k6 ?k7 ?k8 ?k9 ?kB ?_ ?c2 ?c3 ?c4 ?c5; (case kA => exact rfl); (case kF => exact rfl); (case kK => first | exact rfl | assumption); (case k1 => k_asm); (case k2 => k_asm); (case k3 => k_asm); (case k4 => k_asm); (case k5 => k_asm); (case k6 => k_is); (case k7 => k_is); (case k8 => ktr_room); (case k9 => exact BindsTo.of_eq rfl); (case c5 => decide); (case kB => exact locs rfl); (case c2 => exact rfl); (case c3 => exact rfl); (case c4 => exact rfl); k_whole; intro g' L' h' FG' F' N' B' X' T'; (try dsimp only); (try k_fold)))))
local macro_rules | `(tactic| walk_at "call type:list") => `(tactic| (k_here; (with_reducible show wpAny _ _ (call (Value.type _) [Value.ref _]) _ _ _); k_dflt (refine' kup_listOf ?F ?N ?b ?e ?_ ?z; (case F => k_asm); (case N => k_asm); (case b => k_mem); (case e => exact List.toList_toArray); (case z => (rw [List.toList_toArray, sizeLine_eq]; omega))); intro D' c' h' F' N' l1))
local macro_rules | `(tactic| walk_at "call type:list") => `(tactic| (k_here; (with_reducible show wpAny _ _ (call (Value.type _) [Value.ref _]) _ _ _); k_dflt (refine' kup_listOfT ?F ?N ?b ?e ?_ ?z; (case F => k_asm); (case N => k_asm); (case b => k_mem); (case e => exact List.toList_toArray); (case z => (rw [List.toList_toArray, sizeLine_eq]; omega))); intro D' c' h' F' N' l1))
noncomputable def LawEnd (s1 : Shared) (f : Flow) (s' : Shared) : Prop := f = Flow.ret (Value.bool true) ∧ (∃ (L : Addr) (m : Str → Option Value), Fr s1.heap L s'.heap m) ∧ s'.gens = #[] ∧ s'.os = s1.os
theorem turnEnd_list {h₀ : Heap} {L : Addr} {m : Str → Option Value} {s s' : Shared} {I C D D' : Addr} {oI oC oD' : Obj} {nu mu' nu1 nu' : Led} {J : List Value → Led → Led → Prop} {old ys : List Value} {m₂ : Str → Option Value} (F : Fr h₀ L s'.heap m) (N : News h₀ L s'.heap ((D', oD') :: (((I, oI) :: (C, oC) :: (D, lst old) :: mu') ++ nu'))) (hD : ∀ p ∈ ((I, oI) :: (C, oC) :: (D, lst old) :: mu') ++ nu', p.1 ≠ D') (hC : NsObj oC m₂) (off : ∀ p ∈ mu' ++ nu1, p.1 ≠ I ∧ p.1 ≠ C ∧ p.1 ≠ D)
    (sm : Same s s') (hap : Apart ((I, oI) :: (C, oC) :: (D, lst old) :: mu') nu') (hsub : Sub nu nu') (hJ : J ys mu' ((D', oD') :: nu')) : TurnEnd h₀ L m s I oI C D nu J old ys s' :=
  turnEnd_call F (newsSub N (by walk_at "MY sub")) hC off sm (apart_fresh (fun q hq => hD q (List.mem_append_left _ hq)) hap) (hsub.trans sub_cons) hJ
theorem lots_fn {ls : List (List Int)} (h : ls.length = 3) (ho : ∀ l ∈ ls, l ∈ allLots) : ∃ f : Int → List Int, lots3 f = ls ∧ ∀ x, f x ∈ allLots := by
  match ls, h with
  | [a, b, c], _ =>
    refine ⟨fun x => if x = 0 then a else if x = 1 then b else if x = 2 then c else [], rfl, fun x => ?_⟩
    dsimp only
    split
    · exact ho a (.head _)
    · split
      · exact ho b (.tail _ (.head _))
      · split
        · exact ho c (.tail _ (.tail _ (.head _)))
        · exact nil_lot
local macro_rules | `(tactic| ktr_room) => `(tactic| decide)
local macro_rules | `(tactic| ktr_units) => `(tactic| decide +kernel)
theorem law_holds.tw11846676642670509255 : True := trivial
theorem law_holds.tw1414043511812021011 : True := trivial
theorem law_holds.tw14160533322030094474 : True := trivial
theorem law_holds.tw447027507633508388 : True := trivial
theorem law_holds.tw18340598423539479173 : True := trivial
theorem law_holds.tw8720880381367431298 : True := trivial
theorem law_holds.tw6860709855171689206 : True := trivial
theorem law_holds.tw9288214680346807717 : True := trivial
theorem law_holds.tw5950301352895977177 : True := trivial
theorem law_holds.tw16805829885119392726 : True := trivial
theorem law_holds.tw3035144380315620824 : True := trivial
theorem law_holds.tw4992725456586698614 : True := trivial
theorem law_holds.tw8514742172934523775 : True := trivial
theorem law_holds.tw2557128651999224082 : True := trivial
theorem law_holds.tw7696488724909661519 : True := trivial
theorem law_holds.tw11097350217990362986 : True := trivial
theorem law_holds.tw3307954989432871184 : True := trivial
theorem law_holds.tw2503670479209048990 : True := trivial
theorem law_holds.tw1096898596823417342 : True := trivial
theorem law_holds.tw3253568177066640346 : True := trivial
theorem law_holds.tw1784627337472249616 : True := trivial
theorem law_holds.tw16893121556090616931 : True := trivial
theorem law_holds.tw1557749455177014741 : True := trivial
theorem law_holds.tw14497384708736915567 : True := trivial
theorem law_holds.tw3756308257209627903 : True := trivial
theorem law_holds.tw18261290160731607033 : True := trivial
theorem law_holds.tw6727219029552735585 : True := trivial
theorem law_holds.tw2907507879108658156 : True := trivial
theorem law_holds.tw12134408205421670959 : True := trivial
theorem law_holds.tw7408472829698581751 : True := trivial
theorem law_holds.tw11633083819707477107 : True := trivial
theorem law_holds.tw1341266762083198811 : True := trivial
theorem law_holds.tw7495221243884187115 : True := trivial
theorem law_holds.tw12459966957829302596 : True := trivial
theorem law_holds.tw8984152853971343422 : True := trivial
theorem law_holds.tw5045712524691215523 : True := trivial
theorem law_holds.tw17993387198741990920 : True := trivial
theorem law_holds.tw2090888555730037645 : True := trivial
theorem law_holds.tw9889521400790421688 : True := trivial
theorem law_holds.tw10301956948240465243 : True := trivial
theorem law_holds.tw11133525997344109421 : True := trivial
theorem law_holds.tw18388893480867403737 : True := trivial
theorem law_holds.tw5858263632927829637 : True := trivial
theorem law_holds.tw7769649832755249146 : True := trivial
theorem law_holds.tw13536078969547264968 : True := trivial
theorem law_holds.tw5506821171919863439 : True := trivial
theorem law_holds.tw228058311090241170 : True := trivial
theorem law_holds.tw6667284449218939238 : True := trivial
theorem law_holds.tw17713402740875732926 : True := trivial
theorem law_holds.tw1419976552520188833 : True := trivial
theorem law_holds.tw11484002064277903863 : True := trivial
theorem law_holds.tw14774650325386425613 : True := trivial
theorem law_holds.tw2269544990204364226 : True := trivial
theorem law_holds.tw179590077315354965 : True := trivial
theorem law_holds.tw15633037125930547032 : True := trivial
theorem law_holds.tw6896717019858035522 : True := trivial
theorem law_holds.tw18135211599370774712 : True := trivial
theorem law_holds.tw15472126771306010800 : True := trivial
theorem law_holds.tw13429453918920967058 : True := trivial
theorem law_holds.tw16947615914383616782 : True := trivial
theorem law_holds.tw3850334171643177529 : True := trivial
theorem law_holds.tw15609566024721092083 : True := trivial
theorem law_holds.tw6746360682218282392 : True := trivial
theorem law_holds.tw3186734533307500241 : True := trivial
theorem law_holds.tw12116493165278983582 : True := trivial
theorem law_holds.tw1385162719727133579 : True := trivial
theorem law_holds.tw2602977815382960713 : True := trivial
theorem law_holds.tw14326059299131336239 : True := trivial
theorem law_holds.tw3329330481660614911 : True := trivial
theorem law_holds.tw5920216800500632969 : True := trivial
theorem law_holds.tw808278469055374699 : True := trivial
theorem law_holds.tw16461882675039125421 : True := trivial
theorem law_holds.tw8860054118572591635 : True := trivial
theorem law_holds.tw907578622648922086 : True := trivial
theorem law_holds.tw16009327648451700120 : True := trivial
theorem law_holds.tw15732109348078318572 : True := trivial
theorem law_holds.tw11690447701083486646 : True := trivial
theorem law_holds.tw16760957895259694429 : True := trivial
theorem law_holds.tw15661869461025623997 : True := trivial
theorem law_holds.tw15333956030411951890 : True := trivial
theorem law_holds.tw15726739188670627701 : True := trivial
theorem law_holds.tw2152083551845799040 : True := trivial
theorem law_holds.tw18090433342136740992 : True := trivial
theorem law_holds.tw13983371404066579822 : True := trivial
theorem law_holds.tw3776956092104397036 : True := trivial
theorem law_holds.tw1724926542741425601 : True := trivial
theorem law_holds.tw15150646450996357022 : True := trivial
theorem law_holds.tw9423440377400516374 : True := trivial
theorem law_holds.tw5769158387606399586 : True := trivial
theorem law_holds.tw6499956759230125245 : True := trivial
theorem law_holds.tw5981114437932730796 : True := trivial
theorem law_holds.tw2078624436916829710 : True := trivial
theorem law_holds.tw15154110283740273250 : True := trivial
theorem law_holds.tw17923851452625207687 : True := trivial
theorem law_holds.tw14822640431511872941 : True := trivial
theorem law_holds.tw10222300733896627045 : True := trivial
theorem law_holds.tw13956741780833797525 : True := trivial
theorem law_holds.tw8266603773606604290 : True := trivial
theorem law_holds.tw18051328159682125866 : True := trivial
theorem law_holds.tw1905533677188600702 : True := trivial
theorem law_holds.tw6507877686720480950 : True := trivial
theorem law_holds.tw923379294241276784 : True := trivial
theorem law_holds.tw16935243356766158856 : True := trivial
theorem law_holds.tw4370086069003782432 : True := trivial
theorem law_holds.tw59864651932915081 : True := trivial
theorem law_holds.tw17956283508662328293 : True := trivial
theorem law_holds.tw41732636909640268 : True := trivial
theorem law_holds.tw1762888911704233025 : True := trivial
theorem law_holds.tw11067727234611919522 : True := trivial
theorem law_holds.tw16470317323979864763 : True := trivial
theorem law_holds.tw11017292853192552079 : True := trivial
theorem law_holds.tw8249079356659094474 : True := trivial
theorem law_holds.tw9849722394096787677 : True := trivial
theorem law_holds.tw12296726922439171297 : True := trivial
theorem law_holds.tw4889031023730116350 : True := trivial
theorem law_holds.tw13766487248619392586 : True := trivial
theorem law_holds.tw8857742495270377987 : True := trivial
theorem law_holds.tw1928719863018725356 : True := trivial
theorem law_holds.tw8570087061310353148 : True := trivial
theorem law_holds.tw6159533029260741167 : True := trivial
theorem law_holds.tw10666784280354678857 : True := trivial
theorem law_holds.tw1053317679998426468 : True := trivial
theorem law_holds.tw4643041051132140158 : True := trivial
theorem law_holds.tw2075624079617657780 : True := trivial
theorem law_holds.tw9875236377963488844 : True := trivial
theorem law_holds.tw3494445600050047599 : True := trivial
theorem law_holds.tw7221428835167493151 : True := trivial
theorem law_holds.tw10371022188087798493 : True := trivial
theorem law_holds.tw5455921660152230842 : True := trivial
theorem law_holds.tw10319883811594843652 : True := trivial
theorem law_holds.tw10958410103948607464 : True := trivial
theorem law_holds.tw14789792462180790578 : True := trivial
theorem law_holds.tw16711789657335679221 : True := trivial
theorem law_holds.tw3366817510852727610 : True := trivial
theorem law_holds.tw545109181885906688 : True := trivial
theorem law_holds.tw5117662029339320154 : True := trivial
theorem law_holds.tw9779807473162285230 : True := trivial
theorem law_holds.tw1819975233463548508 : True := trivial
theorem law_holds.tw12626328134170644701 : True := trivial
theorem law_holds.tw13220211186989608806 : True := trivial
theorem law_holds.tw2842810181116790245 : True := trivial
theorem law_holds.tw6677821561840896501 : True := trivial
theorem law_holds.tw12684681026606017882 : True := trivial
theorem law_holds.tw3979707639553702691 : True := trivial
theorem law_holds.tw6260460797876433568 : True := trivial
theorem law_holds.tw11625900857008200698 : True := trivial
theorem law_holds.tw602461330855297101 : True := trivial
theorem law_holds.tw6186804393636415854 : True := trivial
theorem law_holds.tw16106779387088534511 : True := trivial
theorem law_holds.tw4037582482628031876 : True := trivial
theorem law_holds.tw15274831704391544125 : True := trivial
theorem law_holds.tw926570990666696690 : True := trivial
theorem law_holds.tw699380112222796084 : True := trivial
theorem law_holds.tw7120836010843673076 : True := trivial
theorem law_holds.tw160851071654074740 : True := trivial
theorem law_holds.tw9317688335297629284 : True := trivial
theorem law_holds.tw6333624483447246961 : True := trivial
theorem law_holds.tw13800757232730249582 : True := trivial
theorem law_holds.tw3742325753681652743 : True := trivial
theorem law_holds.tw17255088995462705879 : True := trivial
theorem law_holds.tw10264638600885302300 : True := trivial
theorem law_holds.tw3253820488102484341 : True := trivial
theorem law_holds.tw6553333263825352884 : True := trivial
theorem law_holds.tw575232530192455986 : True := trivial
theorem law_holds.tw10968802771074238664 : True := trivial
theorem law_holds.tw7910590604623066228 : True := trivial
theorem law_holds.tw11881114122080957857 : True := trivial
theorem law_holds.tw3426384778480675251 : True := trivial
theorem law_holds.tw1909877003179415225 : True := trivial
theorem law_holds.tw10566571302883470556 : True := trivial
theorem law_holds.tw14354538779393863138 : True := trivial
theorem law_holds.tw10817052189556005596 : True := trivial
theorem law_holds.tw14983226153234331074 : True := trivial
theorem law_holds.tw1099259369241382048 : True := trivial
theorem law_holds.tw2055734563569237896 : True := trivial
theorem law_holds.tw2856731137302751260 : True := trivial
theorem law_holds.tw13392613628428298086 : True := trivial
theorem law_holds.tw6564709946809587534 : True := trivial
theorem law_holds.tw17180001009569633970 : True := trivial
theorem law_holds.tw10024239376800412576 : True := trivial
theorem law_holds.tw3896150654470677357 : True := trivial
theorem law_holds.tw17183477848116922584 : True := trivial
theorem law_holds.tw15607887362523206001 : True := trivial
theorem law_holds.tw8472228645029834797 : True := trivial
theorem law_holds.tw6911747868599837429 : True := trivial
theorem law_holds.tw2124134355350193313 : True := trivial
theorem law_holds.tw7408322871517469003 : True := trivial
theorem law_holds.tw16462895619179043833 : True := trivial
theorem law_holds.tw7472407996622490835 : True := trivial
theorem law_holds.tw10441050188594101415 : True := trivial
theorem law_holds.tw8970147916757833333 : True := trivial
theorem law_holds.tw11781800970755023335 : True := trivial
theorem law_holds.tw3927331946688356228 : True := trivial
theorem law_holds.tw17598101756349436640 : True := trivial
theorem law_holds.tw519298541982818421 : True := trivial
theorem law_holds.tw16883458599210261866 : True := trivial
theorem law_holds.tw17345407343664743607 : True := trivial
theorem law_holds.tw12303009252429188658 : True := trivial
theorem law_holds.tw16406091861079842607 : True := trivial
theorem law_holds.tw17253903310271361901 : True := trivial
theorem law_holds.tw18155623678392573649 : True := trivial
theorem law_holds.tw4072507727158212662 : True := trivial
theorem law_holds.tw6881874429007886204 : True := trivial
theorem law_holds.tw11544315989524547432 : True := trivial
theorem law_holds.tw2209844140923178617 : True := trivial
theorem law_holds.tw13478230802861573701 : True := trivial
theorem law_holds.tw12889673554181485818 : True := trivial
theorem law_holds.tw15006436103509636135 : True := trivial
theorem law_holds.tw14377833709258309704 : True := trivial
theorem law_holds.tw15883345262158282383 : True := trivial
theorem law_holds.tw2578278018795888234 : True := trivial
theorem law_holds.tw10189704592693192966 : True := trivial
theorem law_holds.tw11126432536435168541 : True := trivial
theorem law_holds.tw4008084134468147086 : True := trivial
theorem law_holds.tw850272041215511910 : True := trivial
theorem law_holds.tw10188763426450519768 : True := trivial
theorem law_holds.tw8806649888931605024 : True := trivial
theorem law_holds.tw14571795756577361901 : True := trivial
theorem law_holds.tw9843604407834444796 : True := trivial
theorem law_holds.tw14289194402921355359 : True := trivial
theorem law_holds.tw5037970770195530229 : True := trivial
theorem law_holds.tw1377309892636839040 : True := trivial
theorem law_holds.tw4818577856007422655 : True := trivial
theorem law_holds.tw8909828626151137519 : True := trivial
theorem law_holds.tw16273140198857503625 : True := trivial
theorem law_holds.tw9887912731928775018 : True := trivial
theorem law_holds.tw12780804625047726367 : True := trivial
theorem law_holds.tw18254337876149969668 : True := trivial
theorem law_holds.tw3005452535816212104 : True := trivial
theorem law_holds.tw8040771413219435098 : True := trivial
theorem law_holds.tw15162217921772873613 : True := trivial
theorem law_holds.tw2175471002772951711 : True := trivial
theorem law_holds.tw653560878884961445 : True := trivial
theorem law_holds.tw6719018230134327050 : True := trivial
theorem law_holds.tw3110860835449505704 : True := trivial
theorem law_holds.tw4916342969005030805 : True := trivial
theorem law_holds.tw14988988175077273356 : True := trivial
theorem law_holds.tw11182679623053108816 : True := trivial
theorem law_holds.tw11463670642173560981 : True := trivial
theorem law_holds.tw12394330538082041428 : True := trivial
theorem law_holds.tw2143268655074302082 : True := trivial
theorem law_holds.tw5112083995522966620 : True := trivial
theorem law_holds.tw607667584577438428 : True := trivial
theorem law_holds.tw3910120701321347557 : True := trivial
theorem law_holds.tw14883556706271630602 : True := trivial
theorem law_holds.tw13028658284911697911 : True := trivial
theorem law_holds.tw16332274672890094952 : True := trivial
theorem law_holds.tw12831907817818079685 : True := trivial
theorem law_holds.tw15031514592837009168 : True := trivial
theorem law_holds.tw718173064312146323 : True := trivial
theorem law_holds.tw10242277825702978295 : True := trivial
theorem law_holds.tw17911580528928914924 : True := trivial
theorem law_holds.tw10486713781251687710 : True := trivial
theorem law_holds.tw12404642324936598177 : True := trivial
theorem law_holds.tw5873227374133038620 : True := trivial
theorem law_holds.tw4614512636035447770 : True := trivial
theorem law_holds.tw8634839017697508684 : True := trivial
theorem law_holds.tw9529696498207198238 : True := trivial
theorem law_holds.tw4323815956820902445 : True := trivial
theorem law_holds.tw15829985883664642994 : True := trivial
theorem law_holds.tw3850404396616230974 : True := trivial
theorem law_holds.tw12139626902880633087 : True := trivial
theorem law_holds.tw8835965917227929528 : True := trivial
theorem law_holds.tw7356724547972884604 : True := trivial
theorem law_holds.tw908389787484368193 : True := trivial
theorem law_holds.tw18357054129736137543 : True := trivial
theorem law_holds.tw9013377322688217293 : True := trivial
theorem law_holds.tw16963379459963715452 : True := trivial
theorem law_holds.tw2136269947727277649 : True := trivial
theorem law_holds.tw8666519363043736892 : True := trivial
theorem law_holds.tw1973129929022764952 : True := trivial
theorem law_holds.tw8386679336120195906 : True := trivial
theorem law_holds.tw14385925486924208373 : True := trivial
theorem law_holds.tw13958071646730322851 : True := trivial
theorem law_holds.tw17499823404086765753 : True := trivial
theorem law_holds.tw18234560199702728603 : True := trivial
theorem law_holds.tw8328929384466249927 : True := trivial
theorem law_holds.tw8854015012368427407 : True := trivial
theorem law_holds.tw3136910860242942599 : True := trivial
theorem law_holds.tw16720094985154256693 : True := trivial
theorem law_holds.tw11223184984439025696 : True := trivial
theorem law_holds.tw15617896438947887921 : True := trivial
theorem law_holds.tw3808703085821546077 : True := trivial
theorem law_holds.tw1791086108937442324 : True := trivial
theorem law_holds.tw194939583717160490 : True := trivial
theorem law_holds.tw15452448965706171373 : True := trivial
theorem law_holds.tw8984712037535005518 : True := trivial
theorem law_holds.tw18430954121086234272 : True := trivial
theorem law_holds.tw2558664710541493025 : True := trivial
theorem law_holds.tw13650905803964671038 : True := trivial
theorem law_holds.tw16074064945343616743 : True := trivial
theorem law_holds.tw7089819591129360890 : True := trivial
theorem law_holds.tw2748878608749494831 : True := trivial
theorem law_holds.tw1622690429015379626 : True := trivial
theorem law_holds.tw3390839446522356110 : True := trivial
theorem law_holds.tw7311554392007033315 : True := trivial
theorem law_holds.tw2446358144275080391 : True := trivial
theorem law_holds.tw17899081815984039989 : True := trivial
theorem law_holds.tw7304591109411159013 : True := trivial
theorem law_holds.tw14904137174637212347 : True := trivial
theorem law_holds.tw10841264019214440115 : True := trivial
theorem law_holds.tw4146061822495498468 : True := trivial
theorem law_holds.tw15140378357190847165 : True := trivial
theorem law_holds.tw6776455111828631412 : True := trivial
theorem law_holds.tw2643271747718453845 : True := trivial
theorem law_holds.tw5212653520564569363 : True := trivial
theorem law_holds.tw17974257514489008736 : True := trivial
theorem law_holds.tw5731563423909890137 : True := trivial
theorem law_holds.tw4439653461905209652 : True := trivial
theorem law_holds.tw10296202853966499060 : True := trivial
theorem law_holds.tw123295346585929383 : True := trivial
theorem law_holds.tw10609929442622069884 : True := trivial
theorem law_holds.tw9207643191828677137 : True := trivial
theorem law_holds.tw16563099163409725306 : True := trivial
theorem law_holds.tw15191720212996534143 : True := trivial
theorem law_holds.tw2644310842459337959 : True := trivial
theorem law_holds.tw8312341600987523519 : True := trivial
theorem law_holds.tw13402424001964919149 : True := trivial
theorem law_holds.tw14746732674962391887 : True := trivial
theorem law_holds.tw5640673133297012132 : True := trivial
theorem law_holds.tw3028213030429885723 : True := trivial
theorem law_holds.tw14828999820898988419 : True := trivial
theorem law_holds.tw14646867148444618371 : True := trivial
theorem law_holds.tw13336368349410954346 : True := trivial
theorem law_holds.tw8549365171731915398 : True := trivial
theorem law_holds.tw17274716441693411508 : True := trivial
theorem law_holds.tw498061464947678834 : True := trivial
theorem law_holds.tw12291295341487003417 : True := trivial
theorem law_holds.tw10465528174321978529 : True := trivial
theorem law_holds.tw1258919526383655059 : True := trivial
theorem law_holds.tw6869992995446874880 : True := trivial
theorem law_holds.tw15293083901398250104 : True := trivial
theorem law_holds.tw9992725586745946429 : True := trivial
theorem law_holds.tw14531881819706719225 : True := trivial
theorem law_holds.tw445335354869643106 : True := trivial
theorem law_holds.tw10442559174759676424 : True := trivial
theorem law_holds.tw9634471323475708679 : True := trivial
theorem law_holds.tw14991590004735058009 : True := trivial
theorem law_holds.tw8790382262760724670 : True := trivial
theorem law_holds.tw3033269912633744064 : True := trivial
theorem law_holds.tw3912811242725288453 : True := trivial
theorem law_holds.tw14997073306097389879 : True := trivial
theorem law_holds.tw14596297492920191028 : True := trivial
theorem law_holds.tw16098122237329998606 : True := trivial
theorem law_holds.tw12977093529070104392 : True := trivial
theorem law_holds.tw7185456241796803578 : True := trivial
theorem law_holds.tw8330938851228082562 : True := trivial
theorem law_holds.tw881140697980615281 : True := trivial
theorem law_holds.tw1685627985566243432 : True := trivial
theorem law_holds.tw1550374771381668074 : True := trivial
theorem law_holds.tw12622292602297523153 : True := trivial
theorem law_holds.tw18006792725990754497 : True := trivial
theorem law_holds.tw1767730674963353768 : True := trivial
theorem law_holds.tw8763168800255643514 : True := trivial
theorem law_holds.tw5898729028444588960 : True := trivial
theorem law_holds.tw15272395603832836080 : True := trivial
theorem law_holds.tw10093380194815717143 : True := trivial
theorem law_holds.tw11609493526922420660 : True := trivial
theorem law_holds.tw11924911360389889469 : True := trivial
theorem law_holds.tw8804120190785687885 : True := trivial
theorem law_holds.tw17169043682955552997 : True := trivial
theorem law_holds.tw16836969012518115619 : True := trivial
theorem law_holds.tw12476058986133298565 : True := trivial
theorem law_holds.tw3049941959672503198 : True := trivial
theorem law_holds.tw10812634152524527747 : True := trivial
theorem law_holds.tw3572487005457819259 : True := trivial
theorem law_holds.tw9682718004065560343 : True := trivial
theorem law_holds.tw11098625913536864229 : True := trivial
theorem law_holds.tw10876394233666535175 : True := trivial
theorem law_holds.tw15802469936163623734 : True := trivial
theorem law_holds.tw8785698371604719795 : True := trivial
theorem law_holds.tw1186782194237197914 : True := trivial
theorem law_holds.tw1989176631692091739 : True := trivial
theorem law_holds.tw15527639110640922598 : True := trivial
theorem law_holds.tw17865009358878524859 : True := trivial
theorem law_holds.tw4995542688137877417 : True := trivial
theorem law_holds.tw13190408463805328480 : True := trivial
theorem law_holds.tw2903333896348957400 : True := trivial
theorem law_holds.tw8553002610548859549 : True := trivial
theorem law_holds.tw9552830710289189752 : True := trivial
theorem law_holds.tw16190678330180157336 : True := trivial
theorem law_holds.tw9184033795430018204 : True := trivial
theorem law_holds.tw8715444014776630742 : True := trivial
theorem law_holds.tw8014951178970783252 : True := trivial
theorem law_holds.tw10726639523019406850 : True := trivial
theorem law_holds.tw724200737284857819 : True := trivial
theorem law_holds.tw4464252984393422682 : True := trivial
theorem law_holds.tw11764581739189218997 : True := trivial
theorem law_holds.tw6934448944433832347 : True := trivial
theorem law_holds.tw17027635718292003107 : True := trivial
theorem law_holds.tw1285599515219305098 : True := trivial
theorem law_holds.tw11795792742502079742 : True := trivial
theorem law_holds.tw1335265377702380343 : True := trivial
theorem law_holds.tw11946022803392826334 : True := trivial
theorem law_holds.tw13250372474279835810 : True := trivial
theorem law_holds.tw7820799176418779761 : True := trivial
theorem law_holds.tw13780023080261437657 : True := trivial
theorem law_holds.tw3956099054510807996 : True := trivial
theorem law_holds.tw3959601488294255719 : True := trivial
theorem law_holds.tw16873799427995575018 : True := trivial
theorem law_holds.tw6765152471904792315 : True := trivial
theorem law_holds.tw11097158420108258118 : True := trivial
theorem law_holds.tw13301187468288870568 : True := trivial
theorem law_holds.tw455179833554555240 : True := trivial
theorem law_holds.tw13709617746848070560 : True := trivial
theorem law_holds.tw6674817763981286723 : True := trivial
theorem law_holds.tw7407239408455114201 : True := trivial
theorem law_holds.tw11470271118054631628 : True := trivial
theorem law_holds.tw15806970514647361693 : True := trivial
theorem law_holds.tw16099233806120587224 : True := trivial
theorem law_holds.tw17942709131360195518 : True := trivial
theorem law_holds.tw12223724995276690173 : True := trivial
theorem law_holds.tw5274592661964301406 : True := trivial
theorem law_holds.tw3955097671198598788 : True := trivial
theorem law_holds.tw18269650602155537469 : True := trivial
theorem law_holds.tw12732824653754844360 : True := trivial
theorem law_holds.tw7497986649931050792 : True := trivial
theorem law_holds.tw8369274380968253667 : True := trivial
theorem law_holds.tw981846192996546977 : True := trivial
theorem law_holds.tw2295933128562542503 : True := trivial
theorem law_holds.tw6189876280036216102 : True := trivial
theorem law_holds.tw7604666192120794032 : True := trivial
theorem law_holds.tw9255152265573255198 : True := trivial
theorem law_holds.tw7566432030715092817 : True := trivial
theorem law_holds.tw15544829507116839252 : True := trivial
theorem law_holds.tw3158129796062787159 : True := trivial
theorem law_holds.tw16614716721108272449 : True := trivial
theorem law_holds.tw745255978533919091 : True := trivial
theorem law_holds.tw17533444620322135691 : True := trivial
theorem law_holds.tw13952806543542438038 : True := trivial
theorem law_holds.tw14892801356780361778 : True := trivial
theorem law_holds.tw8417186165934385351 : True := trivial
theorem law_holds.tw5914491427308094424 : True := trivial
theorem law_holds.tw736938254969954898 : True := trivial
theorem law_holds.tw18203989763732354715 : True := trivial
theorem law_holds.tw7019463264422422977 : True := trivial
theorem law_holds.tw12419048959643632839 : True := trivial
theorem law_holds.tw13882729330811710610 : True := trivial
theorem law_holds.tw4030767218360268280 : True := trivial
theorem law_holds.tw13087128984098923117 : True := trivial
theorem law_holds.tw11347954631545130290 : True := trivial
theorem law_holds.tw14390095281932903014 : True := trivial
theorem law_holds.tw2387193687640843687 : True := trivial
theorem law_holds.tw13190703287169160282 : True := trivial
theorem law_holds.tw16978406815995349258 : True := trivial
theorem law_holds.tw11315637435222106236 : True := trivial
theorem law_holds.tw17470365217354309832 : True := trivial
theorem law_holds.tw10027879121665395642 : True := trivial
theorem law_holds.tw12687621791434340054 : True := trivial
theorem law_holds.tw16381176275627223697 : True := trivial
theorem law_holds.tw8615383270286227822 : True := trivial
theorem law_holds.tw6723812968561706957 : True := trivial
theorem law_holds.tw11803358882649189518 : True := trivial
theorem law_holds.tw4741859662064258567 : True := trivial
theorem law_holds.tw1172607208729018732 : True := trivial
theorem law_holds.tw8285764192309689115 : True := trivial
theorem law_holds.tw7636989558263936852 : True := trivial
theorem law_holds.tw5907203647135998699 : True := trivial
theorem law_holds.tw18412941814468093729 : True := trivial
theorem law_holds.tw9228133366594409826 : True := trivial
theorem law_holds.tw10799366912833479876 : True := trivial
theorem law_holds.tw292948970887055940 : True := trivial
theorem law_holds.tw12853510414173943589 : True := trivial
theorem law_holds.tw11986145388520162790 : True := trivial
theorem law_holds.tw15240737230941978023 : True := trivial
theorem law_holds.tw8944142960448812392 : True := trivial
theorem law_holds.tw3099212834991177576 : True := trivial
theorem law_holds.tw4144839024962420521 : True := trivial
theorem law_holds.tw9668353123441676074 : True := trivial
theorem law_holds.tw9813032690419709034 : True := trivial
theorem law_holds.tw13185793444283821067 : True := trivial
theorem law_holds.tw9621852089386210571 : True := trivial
theorem law_holds.tw17201995712799881547 : True := trivial
theorem law_holds.tw10658071133351732587 : True := trivial
theorem law_holds.tw8532320990607473644 : True := trivial
theorem law_holds.tw10745936412428391918 : True := trivial
theorem law_holds.tw10461019153077754478 : True := trivial
theorem law_holds.tw15230811359598853262 : True := trivial
theorem law_holds.tw10387234788210304271 : True := trivial
theorem law_holds.tw15450873388469098127 : True := trivial
theorem law_holds.tw5943860239356026831 : True := trivial
theorem law_holds.tw851836118567290640 : True := trivial
theorem law_holds.tw9829430292511393648 : True := trivial
theorem law_holds.tw4216146731991533650 : True := trivial
theorem law_holds.tw1007820371649476628 : True := trivial
theorem law_holds.tw2378748530572775380 : True := trivial
theorem law_holds.tw15276078952775625429 : True := trivial
theorem law_holds.tw7821361960523482326 : True := trivial
theorem law_holds.tw14733273896666730230 : True := trivial
theorem law_holds.tw14455497230262834807 : True := trivial
theorem law_holds.tw4634360732272223897 : True := trivial
theorem law_holds.tw3406381632650219738 : True := trivial
theorem law_holds.tw12266027801226787228 : True := trivial
theorem law_holds.tw7541895843566124541 : True := trivial
theorem law_holds.tw16596305253266354047 : True := trivial
set_option Elab.async true in
set_option maxHeartbeats 32000000 in
theorem law_holds : PySem.Challenge.rw_pc0058_01.Holds := by
  w_on; o_law; o_head (kHook Mine.K Mine.kAs (fun _ => by kernel_rfl)); (case hw => w_witness2)
  w_strict (
    k_go0
    rename_i w s0 s1 mg mb G Y fa ofn pm doc hof hgens KX _ _ GL T TB TE TW ow wM M w7 w8 hcd script hs hlay0 hL1 hr1 hl2 w5 w4 sa vals w1' hLs ra w1w r0 hI hr hlen hcond K0 hDf h1 tk1 F1 oR hdR N1 X0
    refine noE_any (wpAny_mono (Q := LawEnd s1) (E := NoE) ?_ (fun f s' hq => ?_) fun _ _ e => e)
    rotate_left
    · obtain ⟨rfl, ⟨_, m, FZ⟩, hgZ, hoZ⟩ := hq
      dsimp only
      k_steps
      refine goodW_bool FZ hgZ (raisesW_false ?_) ?_ hoZ
      · wrow_none_raised
      · kc_post
    k_steps
    replace K0 : Below callerA s1.heap [] s1.heap := K0
    refine Stop.mk (comp_eval (cl := []) F1 (by with_unfolding_all rfl) (by decide) rfl (by decide) ?_)
    k_steps
    rename_i D1 ws h2 F2 N2 hI2 hC2 hL2 l2
    have hwl : ws.length ≤ 80 := by rw [hI2.length, hC2]; exact Nat.min_le_left _ _
    have ap2 : Apart [(s1.heap.objs.size + 1, oR)] [(D1, lstO ws 0)] := fun q hq r hr => by
      rw [List.mem_singleton.mp hq, List.mem_singleton.mp hr]
      exact Nat.ne_of_lt l2
    have N2' : News s1.heap s1.heap.objs.size h2 ([(s1.heap.objs.size + 1, oR)] ++ [(D1, lstO ws 0)]) := newsSub N2 (by walk_at "MY sub")
    clear N2
    refine CompGoal.intro [(s1.heap.objs.size + 1, oR)] [(D1, lstO ws 0)] (fun i ys mu' nu' => mu' = [(s1.heap.objs.size + 1, oR)] ∧ ∃ cs : List Int, DatAll nu' ys (cs.map Dat.int) ∧ cs.length = i) (src_list rfl N2' (List.mem_cons_self ..) (fun p hp => List.mem_append_right _ hp)) (by rw [sizeLine_eq]; omega) F2 N2' ap2 ⟨rfl, [], .nil, rfl⟩ ?_ ?_
    · rintro i v ys mu' nu' I oI C oC D m₂ s3 hi hP hyl ⟨rfl, cs, hcs, hcl⟩ hsub hsm hoC F4 N4 off hIC hID hCD ap4 R1 hR1
      --DEV{
      obtain ⟨t, rfl⟩ := IntsAre.int_at hI2 i v hP
      refine turn_name rfl rfl hoC F4 N4 off hIC hCD ?_
      intro h5 oC5 m5 hoC5 hv5 F5 N5
      refine wpAny_tests_nil ?_
      k_steps
      exact hR1 _ _ (turnEnd_same F5 N5 hoC5 off ⟨hsm.1, hsm.2⟩ ap4 hsub ⟨rfl, cs ++ [_], by rw [List.map_append]; exact datAll_snoc hcs (.int _ _), by rw [List.length_append, hcl]; rfl⟩)
      --DEV}
    · rintro ys D mu' nu' s3 ⟨rfl, cs, hcs, hcl⟩ hsm F4 N4 hD ap4 hsub
      have N4' : News s1.heap s1.heap.objs.size s3.heap ((D, lst ys) :: (s1.heap.objs.size + 1, oR) :: nu') := N4
      clear N4
      have hDl : @Ne Nat D (s1.heap.objs.size + 1) := Ne.symm (hD _ (.head _))
      have hal : ∀ p ∈ nu', p.1 ≠ s1.heap.objs.size + 1 := fun p hp => Ne.symm (ap4 _ (.head _) p hp)
      k_steps
      rename_i R h6 l6 h7 oR7 F7 N7 hR7
      have hcsl : cs.length ≤ 80 := by omega
      clear hs hlay0 hL1 hr1 hl2 ra w1w r0 hDf hcd hLs hI
      generalize hLL : s1.heap.objs.size = L at *
      have lR := ktn_ltOf l6.2.2
      have N7' : News s1.heap L h7 ((R, lstO [.ref D, .int 0 s3.toks] 0) :: (D, lst ys) :: (L + 1, oR7) :: nu') := N7
      have N8 : News s1.heap L h7 (((R, lstO [.ref D, .int 0 s3.toks] 0) :: [(L + 1, oR7)]) ++ ((D, lst ys) :: nu')) := newsSub N7' (by walk_at "MY sub")
      have ap8 : Apart ((R, lstO [.ref D, .int 0 s3.toks] 0) :: [(L + 1, oR7)]) ((D, lst ys) :: nu') := by
        refine apart_cons (fun q hq => ?_) (apart_cons (fun q hq => ?_) (fun q hq => nomatch hq))
        · rcases List.mem_cons.mp hq with rfl | hq
          · exact Nat.ne_of_gt l6.1
          · exact Nat.ne_of_gt (lR q hq)
        · rcases List.mem_cons.mp hq with rfl | hq
          · exact Ne.symm hDl
          · exact Ne.symm (hal q hq)
      have hro : ReelOk (lstO [.ref D, .int 0 s3.toks] 0) ((D, lst ys) :: nu') 0 := ⟨D, 0, ys.length, 0, _, ys, cs, rfl, .head _, hcs.mono sub_cons, hcsl, Int.le_refl _, Int.le_refl _⟩
      have hRL : R ≠ L + 1 := Nat.ne_of_gt l6.2.1
      generalize (D, lst ys) :: nu' = nu8 at N8 ap8 hro
      generalize lstO [.ref D, .int 0 s3.toks] 0 = oR8 at N8 ap8 hro
      clear N7 N7' hcs ap4 hsub hal hD
      refine Stop.mk (comp_assign (cl := [(Str.ofString "reel", L + 1)]) F7 rfl (by with_unfolding_all rfl) (by with_unfolding_all rfl) (by decide) rfl (by decide) (by with_unfolding_all rfl) (by with_unfolding_all rfl) ?_)
      k_steps
      rename_i hrg F9 N9 up9
      have N10 : News s1.heap L _ (((R, oR8) :: [(L + 1, oR7)]) ++ nu8) := N9
      refine CompGoal.intro ((R, oR8) :: [(L + 1, oR7)]) nu8 (fun i ys mu' nu' => ∃ o', mu' = (R, o') :: [(L + 1, oR7)] ∧ ReelOk o' nu' i ∧ ∃ ms : List Int, DatAll nu' ys (ms.map Dat.int) ∧ ms.length = i ∧ ∀ x ∈ ms, 0 ≤ x ∧ x ≤ 15) (src_range rfl hrg (by decide) (n := 3) (by decide)) (by rw [sizeLine_eq]; decide) F9 N10 ap8 ⟨oR8, rfl, hro, [], .nil, rfl, fun x hx => absurd hx List.not_mem_nil⟩ ?_ ?_
      · rintro i v ys mu' nu' I oI C oC D2 m₂ s5 hi hP hyl ⟨o', rfl, hro', ms, hms, hml, hmb⟩ hsub5 hsm5 hoC F11 N11 off hIC hID hCD ap11 R2 hR2
        --DEV{
        refine turn_name rfl rfl hoC F11 N11 off hIC hCD ?_
        intro h12 oC12 m12 hoC12 hv12 F12 N12
        refine wpAny_tests_nil ?_
        have h3 := apart3 (oI := oI) (oC := oC12) (oD := lst ys) off ap11
        have ap12 : Apart ((R, o') :: (I, oI) :: (C, oC12) :: (D2, lst ys) :: [(L + 1, oR7)]) nu' :=
          apart_cons (ap11 _ (.head _)) (apart_cons (h3 _ (.head _)) (apart_cons (h3 _ (.tail _ (.head _))) (apart_cons (h3 _ (.tail _ (.tail _ (.head _)))) (apart_tail ap11))))
        have hneR : ∀ q ∈ (I, oI) :: (C, oC12) :: (D2, lst ys) :: [(L + 1, oR7)], q.1 ≠ R := fun q hq => by
          have hR := off (R, o') (.head _)
          rcases List.mem_cons.mp hq with rfl | hq
          · exact Ne.symm hR.1
          · rcases List.mem_cons.mp hq with rfl | hq
            · exact Ne.symm hR.2.1
            · rcases List.mem_cons.mp hq with rfl | hq
              · exact Ne.symm hR.2.2
              · rw [List.mem_singleton.mp hq]; exact Ne.symm hRL
        k_steps
        refine Stop.mk (Spec.on (spun_spec hro' (by omega) (by decide) hneR) (by assumption) (by assumption) (by assumption) (by assumption) (by assumption) rfl (by assumption) (by walk_at "MY subs") (by ktr_room) (by ktr_units) ?_)
        rintro r13 s13 mu13 nu13 sm13 F13 N13 ap13 sub13 ⟨o13, hmu, hro13, x13, t13, rfl, hx0, hx19⟩
        subst hmu
        k_steps
        rename_i F14 N14
        refine hR2 _ _ ⟨oC12, m12, (R, o13) :: [(L + 1, oR7)], nu13, ⟨sm13.1.trans hsm5.1, sm13.2.trans hsm5.2⟩, F14, newsSub N14 (by walk_at "MY sub"), hoC12, fun q hq => ?_, fun q hq => ?_, hsub5.trans sub13, o13, rfl, hro13, ms ++ [_], by rw [List.map_append]; exact datAll_snoc (hms.mono sub13) (.int _ _), by rw [List.length_append, hml]; rfl, fun y hy => ?_⟩
        · rcases List.mem_append.mp hq with hq | hq
          · rcases List.mem_cons.mp hq with rfl | hq
            · exact off (R, o') (.head _)
            · exact off q (List.mem_append_left _ (.tail _ hq))
          · exact ⟨Ne.symm (ap13 _ (.tail _ (.head _)) q hq), Ne.symm (ap13 _ (.tail _ (.tail _ (.head _))) q hq), Ne.symm (ap13 _ (.tail _ (.tail _ (.tail _ (.head _)))) q hq)⟩
        · rcases List.mem_cons.mp hq with rfl | hq
          · exact ap13 _ (.head _)
          · exact ap13 q (.tail _ (.tail _ (.tail _ (.tail _ hq))))
        · rcases List.mem_append.mp hy with hy | hy
          · exact hmb y hy
          · rw [List.mem_singleton.mp hy]
            split <;> omega
        --DEV}
      · rintro ys D2 mu' nu' s5 ⟨o', rfl, hro', ms, hms, hml, hmb⟩ hsm5 F11' N11' hD2 ap11 hsub5 s5' hsm5' F11 N11
        clear F11' N11'
        have ap12 : Apart ((R, o') :: [(L + 1, oR7)]) ((D2, lst ys) :: nu') := apart_fresh (fun q hq => hD2 q (List.mem_append_left _ hq)) ap11
        have N12 : News s1.heap L s5'.heap (((R, o') :: [(L + 1, oR7)]) ++ ((D2, lst ys) :: nu')) := newsSub N11 (by walk_at "MY sub")
        have hms12 := hms.mono (sub_cons (p := (D2, lst ys)))
        have hro12 := hro'.mono (sub_cons (p := (D2, lst ys))) (Nat.le_refl _)
        have hDm : (D2, lstO ys ys.length) ∈ (D2, lst ys) :: nu' := .head _
        have hyl12 : ys.length = 3 := by rw [hms.length, List.length_map, hml]
        have hsm12 : Same s3 s5' := hsm5.trans hsm5'
        clear N11 ap11 hms hro' hsub5 hD2 N10 ap8 hro hsm5 hsm5'
        generalize (D2, lst ys) :: nu' = nu12 at N12 ap12 hms12 hro12 hDm
        k_steps
        refine Stop.mk (comp_assignC (x := Str.ofString "mask") (cl := []) F11 rfl (by with_unfolding_all rfl) (by with_unfolding_all rfl) (fun _ => rfl) (fun _ => rfl) rfl (by decide) (by with_unfolding_all rfl) (by with_unfolding_all rfl) ?_)
        k_steps
        refine CompGoalC.intro ((R, o') :: [(L + 1, oR7)]) nu12 (fun K i zs mu' nu' => ∃ (oK : Obj) (v0 : Option Value), oK.data = .cell v0 ∧ mu' = (K, oK) :: (R, o') :: [(L + 1, oR7)] ∧ ∃ ls : List (List Int), DatAll nu' zs (ls.map intsD) ∧ ls.length = i ∧ ∀ l ∈ ls, l ∈ allLots) (src_list rfl N12 hDm (fun p hp => List.mem_append_right _ hp)) (by rw [hyl12, sizeLine_eq]; decide) F11 N12 ap12 (fun K hK => ⟨cellO, none, rfl, rfl, [], .nil, rfl, fun x hx => absurd hx List.not_mem_nil⟩) ?_ ?_
        · rintro K i v zs mu' nu13 I oI C oC D3 m₂ s6 hi hP hyl ⟨oK, v0, hoK, rfl, ls, hls, hll, hlok⟩ hsub6 hKmu hsm6 hoC F13 N13 off13 hIC hID hCD ap13 R3 hR3
          --DEV{
          obtain ⟨x, hx, hxd⟩ := datAll_at hms12 hP
          obtain ⟨tx, rfl⟩ : ∃ tx, v = .int x tx := by cases hxd; exact ⟨_, rfl⟩
          have hxb := hmb x (List.mem_of_getElem? hx)
          refine turn_cell rfl (by with_unfolding_all rfl) (by simp) F13 N13 hoK (off13 (K, oK) (.head _)) (fun q hq => ?_) ?_
          · rcases List.mem_append.mp hq with hq | hq
            · exact hKmu q hq
            · exact Ne.symm (ap13 _ (.head _) q hq)
          intro h14 oK14 hoK14 F14 N14'
          have hKo := off13 (K, oK) (.head _)
          have ap14 : Apart ((I, oI) :: (C, oC) :: (D3, lst zs) :: (K, oK14) :: (R, o') :: [(L + 1, oR7)]) nu13 := apart_addr (apart3 (oI := oI) (oC := oC) (oD := lst zs) off13 ap13) rfl
          have N14 : News s1.heap L h14 (((I, oI) :: (C, oC) :: (D3, lst zs) :: (K, oK14) :: (R, o') :: [(L + 1, oR7)]) ++ nu13) := N14'
          clear N14' N13 F13
          refine wpAny_tests_nil ?_
          k_steps
          refine Stop.mk (comp_eval (cl := [(Str.ofString "mask", K)]) F14 (by with_unfolding_all rfl) (by decide) rfl (by decide) ?_)
          k_steps
          rename_i hrg15 F15 N15 up15
          have N16 : News s1.heap L _ (((I, oI) :: (C, oC) :: (D3, lst zs) :: (K, oK14) :: (R, o') :: [(L + 1, oR7)]) ++ nu13) := N15
          have off14 : ∀ p ∈ ((K, oK14) :: (R, o') :: [(L + 1, oR7)]) ++ nu13, p.1 ≠ I ∧ p.1 ≠ C ∧ p.1 ≠ D3 := fun q hq => by
            rcases List.mem_cons.mp hq with rfl | hq
            · exact off13 (K, oK) (.head _)
            · exact off13 q (.tail _ hq)
          refine CompGoal.intro ((I, oI) :: (C, oC) :: (D3, lst zs) :: (K, oK14) :: (R, o') :: [(L + 1, oR7)]) nu13 (fun j ws mu2 nu2 => mu2 = ((I, oI) :: (C, oC) :: (D3, lst zs) :: (K, oK14) :: (R, o') :: [(L + 1, oR7)]) ∧ ∃ us : List Int, DatAll nu2 ws (us.map Dat.int) ∧ us.Sublist (([-1, 0, 1, 2] : List Int).take j)) (src_range rfl hrg15 (by decide) (n := 4) (by decide)) (by rw [sizeLine_eq]; decide) F15 N16 ap14 ⟨rfl, [], .nil, .slnil⟩ ?_ ?_
          · rintro j v ws mu2 nu17 I2 oI2 C2 oC2 D4 m₃ s7 hj hP7 hyl2 ⟨rfl, us, hus, husb⟩ hsub7 hsm7 hoC2 F17 N17 off17 hIC2 hID2 hCD2 ap17 R4 hR4
            refine turn_name rfl rfl hoC2 F17 N17 off17 hIC2 hCD2 ?_
            intro h18 oC18 m18 hoC18 hv18 F18 N18
            refine wpAny_tests_one ?_
            have hj4 : j = 0 ∨ j = 1 ∨ j = 2 ∨ j = 3 := by omega
            rcases hj4 with rfl | rfl | rfl | rfl
            · obtain ⟨t7, rfl⟩ : ∃ t, v = .int (-1) t := hP7
              have hyes : (us ++ [(-1 : Int)]).Sublist (([-1, 0, 1, 2] : List Int).take (0 + 1)) := show (us ++ [(-1 : Int)]).Sublist (([-1, 0, 1, 2] : List Int).take 0 ++ [-1]) from husb.append (List.Sublist.refl _)
              have hno : us.Sublist (([-1, 0, 1, 2] : List Int).take (0 + 1)) := husb.trans (show (([-1, 0, 1, 2] : List Int).take 0).Sublist (([-1, 0, 1, 2] : List Int).take 0 ++ [-1]) from List.sublist_append_left _ _)
              k_steps
              · exact hR4 _ _ (turnEnd_same F18 N18 hoC18 off17 ⟨hsm7.1, hsm7.2⟩ ap17 hsub7 ⟨rfl, us ++ [-1], by rw [List.map_append]; exact datAll_snoc hus (.int _ _), hyes⟩)
              · exact hR4 _ _ (turnEnd_same F18 N18 hoC18 off17 ⟨hsm7.1, hsm7.2⟩ ap17 hsub7 ⟨rfl, us, hus, hno⟩)
            · obtain ⟨t7, rfl⟩ : ∃ t, v = .int (0) t := hP7
              have hyes : (us ++ [(0 : Int)]).Sublist (([-1, 0, 1, 2] : List Int).take (1 + 1)) := show (us ++ [(0 : Int)]).Sublist (([-1, 0, 1, 2] : List Int).take 1 ++ [0]) from husb.append (List.Sublist.refl _)
              have hno : us.Sublist (([-1, 0, 1, 2] : List Int).take (1 + 1)) := husb.trans (show (([-1, 0, 1, 2] : List Int).take 1).Sublist (([-1, 0, 1, 2] : List Int).take 1 ++ [0]) from List.sublist_append_left _ _)
              k_steps
              · exact hR4 _ _ (turnEnd_same F18 N18 hoC18 off17 ⟨hsm7.1, hsm7.2⟩ ap17 hsub7 ⟨rfl, us ++ [0], by rw [List.map_append]; exact datAll_snoc hus (.int _ _), hyes⟩)
              · exact hR4 _ _ (turnEnd_same F18 N18 hoC18 off17 ⟨hsm7.1, hsm7.2⟩ ap17 hsub7 ⟨rfl, us, hus, hno⟩)
            · obtain ⟨t7, rfl⟩ : ∃ t, v = .int (1) t := hP7
              have hyes : (us ++ [(1 : Int)]).Sublist (([-1, 0, 1, 2] : List Int).take (2 + 1)) := show (us ++ [(1 : Int)]).Sublist (([-1, 0, 1, 2] : List Int).take 2 ++ [1]) from husb.append (List.Sublist.refl _)
              have hno : us.Sublist (([-1, 0, 1, 2] : List Int).take (2 + 1)) := husb.trans (show (([-1, 0, 1, 2] : List Int).take 2).Sublist (([-1, 0, 1, 2] : List Int).take 2 ++ [1]) from List.sublist_append_left _ _)
              k_steps
              · exact hR4 _ _ (turnEnd_same F18 N18 hoC18 off17 ⟨hsm7.1, hsm7.2⟩ ap17 hsub7 ⟨rfl, us ++ [1], by rw [List.map_append]; exact datAll_snoc hus (.int _ _), hyes⟩)
              · exact hR4 _ _ (turnEnd_same F18 N18 hoC18 off17 ⟨hsm7.1, hsm7.2⟩ ap17 hsub7 ⟨rfl, us, hus, hno⟩)
            · obtain ⟨t7, rfl⟩ : ∃ t, v = .int (2) t := hP7
              have hyes : (us ++ [(2 : Int)]).Sublist (([-1, 0, 1, 2] : List Int).take (3 + 1)) := show (us ++ [(2 : Int)]).Sublist (([-1, 0, 1, 2] : List Int).take 3 ++ [2]) from husb.append (List.Sublist.refl _)
              have hno : us.Sublist (([-1, 0, 1, 2] : List Int).take (3 + 1)) := husb.trans (show (([-1, 0, 1, 2] : List Int).take 3).Sublist (([-1, 0, 1, 2] : List Int).take 3 ++ [2]) from List.sublist_append_left _ _)
              k_steps
              · exact hR4 _ _ (turnEnd_same F18 N18 hoC18 off17 ⟨hsm7.1, hsm7.2⟩ ap17 hsub7 ⟨rfl, us ++ [2], by rw [List.map_append]; exact datAll_snoc hus (.int _ _), hyes⟩)
              · exact hR4 _ _ (turnEnd_same F18 N18 hoC18 off17 ⟨hsm7.1, hsm7.2⟩ ap17 hsub7 ⟨rfl, us, hus, hno⟩)
          · rintro ws D4 mu2 nu17 s7 ⟨rfl, us, hus, husb⟩ hsm7 F17 N17 hD4 ap17 hsub7
            k_steps
            refine hR3 _ _ (turnEnd_list F17 N17 hD4 hoC off14 ⟨hsm7.1.trans hsm6.1, hsm7.2.trans hsm6.2⟩ ap17 (hsub6.trans hsub7) ⟨oK14, _, hoK14, rfl, ls ++ [us], by rw [List.map_append]; exact datAll_snoc (hls.mono (hsub7.trans sub_cons)) (.list (.head _) (hus.mono sub_cons)), by rw [List.length_append, hll]; rfl, fun l hl => ?_⟩)
            rcases List.mem_append.mp hl with hl | hl
            · exact hlok l hl
            · rw [List.mem_singleton.mp hl]; exact sub_lot husb
          --DEV}
        · rintro K zs D3 mu' nu13 s6 ⟨oK, v0, hoK, rfl, ls, hls, hll, hlok⟩ hsm6 F13' N13' hD3 ap13 hsub6 s6' hsm6' F13 N13
          clear F13' N13'
          have ap14 : Apart ((R, o') :: [(L + 1, oR7)]) ((D3, lst zs) :: nu13) := apart_fresh (fun q hq => hD3 q (List.mem_append_left _ (.tail _ hq))) (apart_tail ap13)
          have N14 : News s1.heap L s6'.heap (((R, o') :: [(L + 1, oR7)]) ++ ((D3, lst zs) :: nu13)) := newsSub N13 (by walk_at "MY sub")
          rw [hyl12] at hll
          obtain ⟨f, hfe, hfl⟩ := lots_fn hll hlok
          subst hfe
          have hlotD : DatIn ((D3, lst zs) :: nu13) (.ref D3) (.list ((lots3 f).map intsD)) := .list (.head _) (hls.mono sub_cons)
          have hro14 := hro12.mono (hsub6.trans (sub_cons (p := (D3, lst zs)))) (Nat.le_refl _)
          have hsm14 : Same s3 s6' := hsm12.trans (hsm6.trans hsm6')
          have hneR : ∀ q ∈ [(L + 1, oR7)], q.1 ≠ R := fun q hq => by rw [List.mem_singleton.mp hq]; exact Ne.symm hRL
          generalize (D3, lst zs) :: nu13 = nu14 at N14 ap14 hlotD hro14
          clear N13 hls hll hlok hms12 hDm hyl12 hD3 ap13 hsub6 hsm12 hsm6 hsm6' ap12 N12 hro12 hmb hml F11 hoK
          k_steps
          refine Stop.mk (Spec.on (spun_spec hro14 (by omega) (by decide) hneR) (by assumption) (by assumption) (by assumption) (by assumption) (by assumption) rfl (by assumption) (by walk_at "MY subs") (by ktr_room) (by ktr_units) ?_)
          rintro r15 s15 mu15 nu15 sm15 F15 N15 ap15 sub15 ⟨o15, hmu, hro15, x15, t15, rfl, h150, h154⟩
          subst hmu
          k_steps
          refine Stop.mk (Spec.on (clause_spec hro15 (by omega) h150 (by omega) hneR) (by assumption) (by assumption) (by assumption) (by assumption) (by assumption) rfl (by assumption) (by walk_at "MY subs") (by ktr_room) (by ktr_units) ?_)
          rintro r16 s16 mu16 nu16 sm16 F16 N16 ap16 sub16 ⟨o16, c, hmu, hro16, hcD, hcl, hcok⟩
          subst hmu
          k_steps
          rename_i F17 N17
          refine Stop.mk (comp_eval (cl := [(Str.ofString "reel", L + 1)]) F17 (by with_unfolding_all rfl) (by decide) rfl (by decide) ?_)
          k_steps
          refine Stop.mk (Spec.on (spun_spec hro16 (by omega) (by decide) hneR) (by assumption) (by assumption) (by assumption) (by assumption) (by assumption) rfl (by assumption) (by walk_at "MY subs") (by ktr_room) (by ktr_units) ?_)
          rintro r18 s18 mu18 nu18 sm18 F18 N18 ap18 sub18 ⟨o18, hmu, hro18, x18, t18, rfl, h180, h187⟩
          subst hmu
          obtain ⟨n18, rfl⟩ : ∃ n : Nat, x18 = (n : Int) := ⟨x18.toNat, by omega⟩
          k_steps
          rename_i hrg19 F19 N19 up19
          have N20 : News s1.heap L _ (((R, o18) :: [(L + 1, oR7)]) ++ nu18) := N19
          refine CompGoal.intro ((R, o18) :: [(L + 1, oR7)]) nu18 (fun i ys mu' nu' => ∃ o', mu' = (R, o') :: [(L + 1, oR7)] ∧ ReelOk o' nu' (14 + 10 * i) ∧ ∃ ls : List (List Lit), DatAll nu' ys (ls.map clD) ∧ ls.length = i ∧ ∀ l ∈ ls, l.length ≤ 3 ∧ ∀ p ∈ l, LitOk p) (src_range rfl hrg19 (range_upto n18 (by omega)).2 (range_upto n18 (by omega)).1) (by rw [sizeLine_eq]; omega) F19 N20 ap18 ⟨o18, rfl, hro18, [], .nil, rfl, fun x hx => absurd hx List.not_mem_nil⟩ ?_ ?_
          · rintro i v ys mu' nu' I oI C oC D2 m₂ s5 hi hP hyl ⟨o', rfl, hro', ls, hls, hll, hlsok⟩ hsub5 hsm5 hoC F21 N21 off hIC hID hCD ap21 R5 hR5
            --DEV{
            refine turn_name rfl rfl hoC F21 N21 off hIC hCD ?_
            intro h22 oC22 m22 hoC22 hv22 F22 N22
            refine wpAny_tests_nil ?_
            have h3 := apart3 (oI := oI) (oC := oC22) (oD := lst ys) off ap21
            have ap22 : Apart ((R, o') :: (I, oI) :: (C, oC22) :: (D2, lst ys) :: [(L + 1, oR7)]) nu' :=
              apart_cons (ap21 _ (.head _)) (apart_cons (h3 _ (.head _)) (apart_cons (h3 _ (.tail _ (.head _))) (apart_cons (h3 _ (.tail _ (.tail _ (.head _)))) (apart_tail ap21))))
            have hneR2 : ∀ q ∈ (I, oI) :: (C, oC22) :: (D2, lst ys) :: [(L + 1, oR7)], q.1 ≠ R := fun q hq => by
              have hR := off (R, o') (.head _)
              rcases List.mem_cons.mp hq with rfl | hq
              · exact Ne.symm hR.1
              · rcases List.mem_cons.mp hq with rfl | hq
                · exact Ne.symm hR.2.1
                · rcases List.mem_cons.mp hq with rfl | hq
                  · exact Ne.symm hR.2.2
                  · rw [List.mem_singleton.mp hq]; exact Ne.symm hRL
            k_steps
            refine Stop.mk (Spec.on (spun_spec hro' (by omega) (by decide) hneR2) (by assumption) (by assumption) (by assumption) (by assumption) (by assumption) rfl (by assumption) (by walk_at "MY subs") (by ktr_room) (by ktr_units) ?_)
            rintro r23 s23 mu23 nu23 sm23 F23 N23 ap23 sub23 ⟨o23, hmu, hro23, x23, t23, rfl, h230, h233⟩
            subst hmu
            k_steps
            refine Stop.mk (Spec.on (clause_spec hro23 (by omega) (by omega) (by omega) hneR2) (by assumption) (by assumption) (by assumption) (by assumption) (by assumption) rfl (by assumption) (by walk_at "MY subs") (by ktr_room) (by ktr_units) ?_)
            rintro r24 s24 mu24 nu24 sm24 F24 N24 ap24 sub24 ⟨o24, c24, hmu, hro24, hcD24, hcl24, hcok24⟩
            subst hmu
            k_steps
            refine hR5 _ _ ⟨oC22, m22, (R, o24) :: [(L + 1, oR7)], nu24, ⟨(sm24.1.trans sm23.1).trans hsm5.1, (sm24.2.trans sm23.2).trans hsm5.2⟩, F24, newsSub N24 (by walk_at "MY sub"), hoC22, fun q hq => ?_, fun q hq => ?_, hsub5.trans (sub23.trans sub24), o24, rfl, hro24.mono (Sub.refl _) (by omega), ls ++ [c24], by rw [List.map_append]; exact datAll_snoc (hls.mono (sub23.trans sub24)) hcD24, by rw [List.length_append, hll]; rfl, fun l hl => ?_⟩
            · rcases List.mem_append.mp hq with hq | hq
              · rcases List.mem_cons.mp hq with rfl | hq
                · exact off (R, o') (.head _)
                · exact off q (List.mem_append_left _ (.tail _ hq))
              · exact ⟨Ne.symm (ap24 _ (.tail _ (.head _)) q hq), Ne.symm (ap24 _ (.tail _ (.tail _ (.head _))) q hq), Ne.symm (ap24 _ (.tail _ (.tail _ (.tail _ (.head _)))) q hq)⟩
            · rcases List.mem_cons.mp hq with rfl | hq
              · exact ap24 _ (.head _)
              · exact ap24 q (.tail _ (.tail _ (.tail _ (.tail _ hq))))
            · rcases List.mem_append.mp hl with hl | hl
              · exact hlsok l hl
              · rw [List.mem_singleton.mp hl]
                exact ⟨hcl24, hcok24⟩
            --DEV}
          · rintro ys D4 mu' nu20 s20 ⟨o20, rfl, hro20, ls, hls, hll, hlsok⟩ hsm20 F20 N20' hD4 ap20 hsub20
            have hylen : ys.length = n18 := by rw [hls.length, List.length_map, hll]
            k_steps
            rename_i T21 h21 F21 l21 F22 N22
            have hpost : DatIn nu20 (.ref D3) (.list ((lots3 f).map intsD)) := hlotD.mono (sub15.trans (sub16.trans (sub18.trans hsub20)))
            obtain ⟨nu22, N23, hsub22, hlin⟩ : ∃ nu22, News s1.heap L _ ([] ++ nu22) ∧ Sub nu20 nu22 ∧ DatIn nu22 (.ref T21) (.tuple (ls.map clD)) := ⟨_, N22, by walk_at "MY sub", .tuple (.head _) (hls.mono (by walk_at "MY sub"))⟩
            have hlot22 := hpost.mono hsub22
            have hc22 := hcD.mono (sub18.trans (hsub20.trans hsub22))
            clear N22
            refine Stop.mk (comp_assign (cl := []) F22 rfl (by with_unfolding_all rfl) (by with_unfolding_all rfl) (by decide) rfl (by decide) (by with_unfolding_all rfl) (by with_unfolding_all rfl) ?_)
            k_steps
            obtain ⟨d3, n3, vs3, hd3, hd3m, hd3all⟩ := listD_inv hlot22
            cases hd3
            have hv3l : vs3.length = 3 := by rw [hd3all.length, List.length_map]; rfl
            refine CompGoal.intro [] nu22 (fun i ys mu' nu' => mu' = [] ∧ DatAll nu' ys (((lots3 f).take i).map fun l => domD (rangesF l))) (src_list rfl N23 hd3m (fun p hp => hp)) (by rw [hv3l, sizeLine_eq]; omega) F22 N23 (fun q hq => nomatch hq) ⟨rfl, .nil⟩ ?_ ?_
            · rintro i v ys mu' nu' I oI C oC D2 m₂ s5 hi hP hyl ⟨rfl, hys⟩ hsub5 hsm5 hoC F24 N24 off hIC hID hCD ap24 R6 hR6
              --DEV{
              obtain ⟨l, hl2, hld⟩ := datAll_at hd3all hP
              have hlm : l ∈ allLots := by
                have := List.mem_of_getElem? hl2
                simp only [lots3, List.mem_cons, List.not_mem_nil, or_false] at this
                rcases this with rfl | rfl | rfl <;> exact hfl _
              have hlen4 := (ranges_len hlm).2
              refine turn_name rfl rfl hoC F24 N24 off hIC hCD ?_
              intro h25 oC25 m25 hoC25 hv25 F25 N25
              refine wpAny_tests_nil ?_
              have ap25 : Apart [(I, oI), (C, oC25), (D2, lst ys)] nu' := apart3 off ap24
              k_steps
              refine Stop.mk (Spec.on (ranges_spec (hld.mono hsub5) (by omega)) (by assumption) (by assumption) (by assumption) (by assumption) (by assumption) rfl (by assumption) (by walk_at "MY subs") (by ktr_room) (by ktr_units) ?_)
              rintro r26 s26 mu26 nu26 sm26 F26 N26 ap26 sub26 ⟨hmu, hrD⟩
              subst hmu
              k_steps
              refine hR6 _ _ (turnEnd_call F26 N26 hoC25 off ⟨sm26.1.trans hsm5.1, sm26.2.trans hsm5.2⟩ ap26 (hsub5.trans sub26) ⟨rfl, ?_⟩)
              rw [take_snoc hl2, List.map_append]
              exact datAll_snoc (hys.mono sub26) hrD
              --DEV}
            · rintro ys5 D5 mu' nu24 s24 ⟨rfl, hys5⟩ hsm24 F24' N24' hD5 ap24 hsub24 s25 hsm25 F25 N25
              clear F24' N24'
              rw [hv3l, show ((lots3 f).take 3).map (fun l => domD (rangesF l)) = (rng f).map domD from rfl] at hys5
              obtain ⟨nu25, N26, hsub25, hdm25⟩ : ∃ nu25, News s1.heap L _ ([] ++ nu25) ∧ Sub nu24 nu25 ∧ (D5, lstO ys5 ys5.length) ∈ nu25 := ⟨_, N25, by walk_at "MY sub", .head _⟩
              have hys25 := hys5.mono hsub25
              have hy5l : ys5.length = 3 := by rw [hys5.length, List.length_map]; rfl
              have hlot25 := hlot22.mono (hsub24.trans hsub25)
              have hc25 := hc22.mono (hsub24.trans hsub25)
              have hlin25 := hlin.mono (hsub24.trans hsub25)
              (try clear N25); (try clear N23); (try clear hys5); (try clear hd3m hd3all)
              k_steps
              rename_i ld c26 h26 l26 td h27 l27 gd h28 l28 ck dck h29 l29 l29b g30 L30 h30 B30 X30 T30 qk30 ek30 tk30 h31 h32 h33 jd dj h34 l34 l34b g35 L35 h35 B35 X35 T35 tk35 h36 h37 F38 N38 Tc38 kX38 h39 F39 N39 tk39 Gc39 kX39 D40 h40 l40 h41 h42 h43 F44 N44
              obtain ⟨nu30, N45, hsub30, hchk⟩ : ∃ nu30, News s1.heap L _ ([] ++ nu30) ∧ Sub nu25 nu30 ∧ ChkOk nu30 ck ld f := ⟨_, N44, by walk_at "MY sub", ⟨⟨dck, _, _, _, _, _, _, _, _, _, _, _, _, _, ys5, .tail _ (.tail _ (.tail _ (.head _))), .tail _ (.tail _ (.tail _ (.tail _ (.head _)))), by walk_at "MY mem", hys25.mono (by walk_at "MY sub")⟩, hfl⟩⟩
              clear N44 X30 T30 X35 T35 F38 N38 Tc38 kX38 F39 N39 Gc39 kX39 B30 B35
              have hlot30 := hlot25.mono hsub30
              have hc30 := hc25.mono hsub30
              have hlin30 := hlin25.mono hsub30
              have hdm30 := hsub30 _ hdm25
              have hdD30 : DatIn nu30 (.ref D5) (.list ((rng f).map domD)) := .list hdm30 (hys25.mono hsub30)
              obtain ⟨t30, tn30, tvs, he30, htm, htall⟩ := tupD_inv hlin30
              cases he30
              have htl : tvs.length = n18 := by rw [htall.length, List.length_map, hll]
              have mk9 : Mark := trivial
              refine Stop.mk (for_eval F44 ?_)
              k_steps
              rename_i h45 tk45 t45 u45 v45 hrg45 F45 N45' up45
              have e45 : ((n18 : Int) + 1) = ((n18 + 1 : Nat) : Int) := by omega
              refine Stop.mk (kll_range (n := n18 + 1) rfl F45 N45' hrg45 (by rw [e45]; exact (range_upto (n18 + 1) (by omega)).2) (by rw [e45]; exact (range_upto (n18 + 1) (by omega)).1) (by omega) ?_)
              intro D46 us46 c46 h46 tk46 F46 N46 l46 hI46
              (try clear N45'); (try clear N45); (try clear F45); (try clear up45)
              k_steps
              rename_i D47 h47 F47 N47 l47
              refine Stop.mk (kmk_add_ints F47 N47 (N47.isList (by walk_at "MY mem")) (N47.isList (.head _)) hI46 (IntsAre.cons _ _ .nil) ?_ (by simp only [rangeKs, List.length_map, List.length_range, List.length_cons, List.length_nil, sizeLine_eq]; omega))
              intro D48 us48 h48 F48 N48 l48 hI48
              k_steps
              obtain ⟨nu48, N49, hsub48, hz48⟩ : ∃ nu48, News s1.heap L _ ([] ++ nu48) ∧ Sub nu30 nu48 ∧ (D48, lstO us48 0) ∈ nu48 := ⟨_, N48, by walk_at "MY sub", .head _⟩
              (try clear N48); (try clear N47); (try clear N46); (try clear F47); (try clear F46)
              refine ForGoal.intro [] nu48 (fun i m' mu' nu' => mu' = [] ∧ ∃ (u : Str → Option Value) (e : Bool), m' = (fun y => if y = Str.ofString "checker" then some (.ref ck) else if y = Str.ofString "elder" then some (.bool e) else if y = Str.ofString "domains" then some (.ref D5) else if y = Str.ofString "lines" then some (.ref T21) else if y = Str.ofString "clause" then some r16 else if y = Str.ofString "lots" then some (.ref D3) else u y)) (src_list rfl N49 hz48 (fun p hp => hp)) F48 N49 (fun q hq => nomatch hq) ⟨rfl, _, false, rfl⟩ ?_ ?_
              · rintro i v m' mu' nu' I oI s50 hi hP ⟨rfl, u, e, rfl⟩ hsub50 hsm50 F50 N50' off50 ap50' R7 hR7
                obtain ⟨a, ta, rfl, ha⟩ := ks_at hI48 hP
                have N50 : News s1.heap L s50.heap ([(I, oI)] ++ nu') := N50'
                have ap50 : Apart [(I, oI)] nu' := apart_cons (fun q hq => Ne.symm (off50 q hq)) (fun q hq => nomatch hq)
                have hsub51 := hsub48.trans hsub50
                (try clear N50'); (try clear ap50'); (try clear N49); (try clear F44); (try clear F48)
                have htm50 := hsub51 _ htm
                have htall50 := htall.mono hsub51
                have hchk50 := hchk.mono hsub51
                obtain ⟨dx, n9, k9, k1, k2, k3, k4, t1, t2, t3, t4, v2, v3, v4, vs9, hck50, hdx50, hld50, hall50⟩ := hchk50.ex
                have hok52 : ∀ l ∈ ls.take a, l.length ≤ 100 ∧ ∀ p ∈ l, LitOk p := fun l hl => ⟨Nat.le_trans (hlsok l (List.mem_of_mem_take hl)).1 (by decide), (hlsok l (List.mem_of_mem_take hl)).2⟩
                k_steps
                rename_i h51 F51 N51
                refine Stop.mk (slice_up (a := a) F51 N51 ap50 htm50 htall50 (by omega) (by omega) ?_)
                intro v52 h52 nu52 F52 N52 ap52 sub52 hv52
                rw [← List.map_take] at hv52
                (try clear N51 F51 N50 F50)
                have htm52 := sub52 _ htm50
                have htall52 := htall50.mono sub52
                have hck52 := sub52 _ hck50
                have hdx52 := sub52 _ hdx50
                have hsub52 := hsub51.trans sub52
                k_steps
                refine Stop.mk (Spec.on (goes_spec (hlot30.mono hsub52) hfl (hc30.mono hsub52) hcok hv52 hok52) (by assumption) (by assumption) (by assumption) (by assumption) (by assumption) rfl (by assumption) (by walk_at "MY subs") (by ktr_room) (by ktr_units) ?_)
                rintro r53 s53 mu53 nu53 sm53 F53 N53 ap53 sub53 ⟨hmu53, hr53⟩
                subst hmu53 hr53
                have htm53 := sub53 _ htm52
                have htall53 := htall52.mono sub53
                have hck53 := sub53 _ hck52
                have hdx53 := sub53 _ hdx52
                have hsub53 := hsub52.trans sub53
                generalize hgo : goF f c (ls.take a) = go
                k_steps
                rename_i h54 F54 N54
                refine Stop.mk (slice_up (a := a) F54 N54 ap53 htm53 htall53 (by omega) (by omega) ?_)
                intro v55 h55 nu55 F55 N55 ap55 sub55 hv55
                rw [← List.map_take] at hv55
                (try clear N54 F54 N53 F53)
                obtain ⟨t55, tn55, tvs55, rfl, htm55, htall55⟩ := tupD_inv hv55
                have htl55 : tvs55.length ≤ 100 := by rw [htall55.length, List.length_map, List.length_take]; omega
                have hck55 := sub55 _ hck53
                have hdx55 := sub55 _ hdx53
                have hsub55 := hsub53.trans sub55
                k_steps
                rename_i D56 c56 h56 F56 N56 l56
                have ap56 : Apart [(I, oI)] ((D56, lstO tvs55 c56) :: nu55) := apart_fresh (fun q hq => Nat.ne_of_lt (l56 q (List.mem_append_left _ hq))) ap55
                have hsub56 : Sub nu30 ((D56, lstO tvs55 c56) :: nu55) := hsub55.trans sub_cons
                have hctl : (ls.take a).length ≤ 6 := by rw [List.length_take]; omega
                refine Stop.mk (Spec.on (clashes_spec (hchk.mono hsub56) (by omega) (hc30.mono hsub56) hcok (.list (.head _) (htall55.mono sub_cons)) hok52) (by assumption) (by assumption) (by assumption) (by assumption) (by assumption) rfl (by assumption) (by walk_at "MY subs") (by ktr_room) (by ktr_units) ?_)
                rintro r57 s57 mu57 nu57 sm57 F57 N57 ap57 sub57 ⟨hmu57, hr57⟩
                subst hmu57 hr57
                have htm57 := sub57 _ (.tail _ (sub55 _ htm53))
                have htall57 := htall53.mono ((sub55.trans sub_cons).trans sub57)
                have hck57 := sub57 _ (.tail _ hck55)
                have hdx57 := sub57 _ (.tail _ hdx55)
                have hsub57 := hsub56.trans sub57
                rw [hgo]
                k_steps
                · rename_i hne; exfalso; revert hne; cases go <;> decide
                · refine Stop.mk (ne_dat (n₁ := nu57) (n₂ := nu57) N57 (hchk.mono hsub57).dat (by walk_at "MY sub") (hdD30.mono hsub57) (by walk_at "MY sub") (kqd_doms _) (kqd_doms _) (by ktr_units) ?_)
                  intro b58 hb58
                  obtain rfl : b58 = false := Bool.eq_false_iff.mpr fun h => hb58.mp h rfl
                  have hsubZ := ((sub52.trans sub53).trans ((sub55.trans sub_cons).trans sub57))
                  have hsubY := hsub50.trans hsubZ
                  cases go with
                  | false =>
                    k_steps
                    rename Fr s1.heap _ _ _ => FZ
                    rename News s1.heap _ _ _ => NZ
                    refine hR7 _ _ ⟨_, [], nu57, ⟨(sm57.1.trans sm53.1).trans hsm50.1, (sm57.2.trans sm53.2).trans hsm50.2⟩, fr_set (x := Str.ofString "checker") (v := .ref ck) (fr_set (x := Str.ofString "elder") (v := .bool false) (fr_set (x := Str.ofString "domains") (v := .ref D5) (fr_set (x := Str.ofString "lines") (v := .ref T21) (fr_set (x := Str.ofString "clause") (v := r16) (fr_set (x := Str.ofString "lots") (v := .ref D3) FZ rfl) rfl) rfl) rfl) rfl) rfl, NZ, fun q hq => Ne.symm (ap57 _ (.head _) q hq), apart_tail ap57, hsubY, rfl, _, _, rfl⟩
                  | true =>
                    cases e with
                    | true =>
                      k_steps
                      rename Fr s1.heap _ _ _ => FZ
                      rename News s1.heap _ _ _ => NZ
                      refine hR7 _ _ ⟨_, [], nu57, ⟨(sm57.1.trans sm53.1).trans hsm50.1, (sm57.2.trans sm53.2).trans hsm50.2⟩, fr_set (x := Str.ofString "checker") (v := .ref ck) (fr_set (x := Str.ofString "elder") (v := .bool true) (fr_set (x := Str.ofString "domains") (v := .ref D5) (fr_set (x := Str.ofString "lines") (v := .ref T21) (fr_set (x := Str.ofString "clause") (v := r16) (fr_set (x := Str.ofString "lots") (v := .ref D3) FZ rfl) rfl) rfl) rfl) rfl) rfl, NZ, fun q hq => Ne.symm (ap57 _ (.head _) q hq), apart_tail ap57, hsubY, rfl, _, _, rfl⟩
                    | false =>
                      k_steps
                      refine Stop.mk (slice_up (a := a) F57 N57 ap57 htm57 htall57 (by omega) (by omega) ?_)
                      intro v59 h59 nu59 F59 N59 ap59 sub59 hv59
                      rw [← List.map_take] at hv59
                      (try clear N57 F57)
                      have hsub59 := hsub57.trans sub59
                      k_steps
                      refine Stop.mk (Spec.on (point_spec (hlot30.mono hsub59) hfl (hc30.mono hsub59) ⟨by omega, hcok⟩ hv59 (by omega) hok52) (by assumption) (by assumption) (by assumption) (by assumption) (by assumption) rfl (by assumption) (by walk_at "MY subs") (by ktr_room) (by ktr_units) ?_)
                      rintro r61 s61 mu61 nu61 sm61 F61 N61 ap61 sub61 ⟨hmu61, b61, hr61, hb61⟩
                      subst hmu61 hr61
                      obtain rfl : b61 = false := by
                        cases b61 with
                        | false => rfl
                        | true =>
                          obtain ⟨x, hx, y, hy, z, hz, q1, q2⟩ := hb61 rfl
                          have := go_sound hfl hcok (fun l hl => (hok52 l hl).2) hx hy hz q1 q2
                          rw [hgo] at this
                          cases this
                      k_steps
                      rename Fr s1.heap _ _ _ => FZ
                      rename News s1.heap _ _ _ => NZ
                      refine hR7 _ _ ⟨_, [], nu61, ⟨((sm61.1.trans sm57.1).trans sm53.1).trans hsm50.1, ((sm61.2.trans sm57.2).trans sm53.2).trans hsm50.2⟩, fr_set (x := Str.ofString "checker") (v := .ref ck) (fr_set (x := Str.ofString "elder") (v := .bool true) (fr_set (x := Str.ofString "domains") (v := .ref D5) (fr_set (x := Str.ofString "lines") (v := .ref T21) (fr_set (x := Str.ofString "clause") (v := r16) (fr_set (x := Str.ofString "lots") (v := .ref D3) FZ rfl) rfl) rfl) rfl) rfl) rfl, NZ, fun q hq => Ne.symm (ap61 _ (.head _) q hq), apart_tail ap61, hsubY.trans (sub59.trans sub61), rfl, _, _, rfl⟩
              · rintro m' mu' nu' s60 ⟨rfl, u, e, rfl⟩ hsm60 F60 N60 ap60 hsub60
                dsimp only
                k_steps
                have hgS : s60.gens = #[] := ((((((((hsm60.1.trans hsm25.1).trans hsm24.1).trans hsm20.1).trans sm18.1).trans sm16.1).trans sm15.1).trans hsm14.1).trans hsm.1).trans hgens
                have hoS : s60.os = s1.os := ((((((((hsm60.2.trans hsm25.2).trans hsm24.2).trans hsm20.2).trans sm18.2).trans sm16.2).trans sm15.2).trans hsm14.2).trans hsm.2)
                exact ⟨rfl, ⟨_, _, F60⟩, hgS, hoS⟩)
end PS24
end Mine

theorem PySem.Challenge.cw_pc0058_01_holds : PySem.Challenge.rw_pc0058_01.Holds :=
  Mine.law_holds
