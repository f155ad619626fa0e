import PyProof.Rows.All
import Wide.All
import OpenK.AllK
import Wide.FinOn
import Lean
import PySem.Challenge.RW_pq0289_01
section
open PySem PySem.W PyProof.Rows
set_option maxRecDepth 100000
set_option maxHeartbeats 8000000
namespace KR
noncomputable def tp (n : Nat) : Stmt := match PySem.Challenge.pw_pq0289_01.main.body[n]? with
  | some s => s
  | none => .Pass ⟨0, 0, 0, 0⟩
noncomputable def inn (s : Stmt) (n : Nat) : Stmt := match s with
  | .ClassDef _ _ _ b _ _ _ _ _ _ _ => (match b[n]? with
    | some s => s
    | none => .Pass ⟨0, 0, 0, 0⟩)
  | _ => .Pass ⟨0, 0, 0, 0⟩
noncomputable def fbody : Stmt → List Stmt
  | .FunctionDef _ _ b _ _ _ _ _ _ _ => b
  | _ => []
noncomputable def fargs : Stmt → Arguments
  | .FunctionDef _ a _ _ _ _ _ _ _ _ => a
  | _ => ⟨[], [], none, [], [], none, []⟩
noncomputable def fscope : Stmt → Scope
  | .FunctionDef _ _ _ _ _ _ s _ _ _ => s
  | _ => { kind := .function, names := [], isGenerator := false, isCoroutine := false }
noncomputable def bS21 : {l : List Stmt // l = fbody (tp 0)} := ⟨[_], rfl⟩
noncomputable def pS21 : {l : Arguments // l = fargs (tp 0)} := ⟨⟨_, _, _, _, _, _, _⟩, rfl⟩
noncomputable def fS21 : {l : Scope // l = fscope (tp 0)} := ⟨⟨_, _, _, _, _⟩, rfl⟩
noncomputable def bS35 : {l : List Stmt // l = fbody (inn (tp 2) 0)} := ⟨[_, _], rfl⟩
noncomputable def pS35 : {l : Arguments // l = fargs (inn (tp 2) 0)} := ⟨⟨_, _, _, _, _, _, _⟩, rfl⟩
noncomputable def fS35 : {l : Scope // l = fscope (inn (tp 2) 0)} := ⟨⟨_, _, _, _, _⟩, rfl⟩
noncomputable def bS48 : {l : List Stmt // l = fbody (tp 5)} := ⟨[_], rfl⟩
noncomputable def pS48 : {l : Arguments // l = fargs (tp 5)} := ⟨⟨_, _, _, _, _, _, _⟩, rfl⟩
noncomputable def fS48 : {l : Scope // l = fscope (tp 5)} := ⟨⟨_, _, _, _, _⟩, rfl⟩
noncomputable def bS55 : {l : List Stmt // l = fbody (tp 6)} := ⟨[_], rfl⟩
noncomputable def pS55 : {l : Arguments // l = fargs (tp 6)} := ⟨⟨_, _, _, _, _, _, _⟩, rfl⟩
noncomputable def fS55 : {l : Scope // l = fscope (tp 6)} := ⟨⟨_, _, _, _, _⟩, rfl⟩
noncomputable def bS62 : {l : List Stmt // l = fbody (tp 7)} := ⟨[_, _, _], rfl⟩
noncomputable def pS62 : {l : Arguments // l = fargs (tp 7)} := ⟨⟨_, _, _, _, _, _, _⟩, rfl⟩
noncomputable def fS62 : {l : Scope // l = fscope (tp 7)} := ⟨⟨_, _, _, _, _⟩, rfl⟩
noncomputable def bS69 : {l : List Stmt // l = fbody (tp 8)} := ⟨[_], rfl⟩
noncomputable def pS69 : {l : Arguments // l = fargs (tp 8)} := ⟨⟨_, _, _, _, _, _, _⟩, rfl⟩
noncomputable def fS69 : {l : Scope // l = fscope (tp 8)} := ⟨⟨_, _, _, _, _⟩, rfl⟩
noncomputable def bS76 : {l : List Stmt // l = fbody (tp 9)} := ⟨[_, _], rfl⟩
noncomputable def pS76 : {l : Arguments // l = fargs (tp 9)} := ⟨⟨_, _, _, _, _, _, _⟩, rfl⟩
noncomputable def fS76 : {l : Scope // l = fscope (tp 9)} := ⟨⟨_, _, _, _, _⟩, rfl⟩
noncomputable def bS83 : {l : List Stmt // l = fbody (tp 10)} := ⟨[_, _, _, _, _], rfl⟩
noncomputable def pS83 : {l : Arguments // l = fargs (tp 10)} := ⟨⟨_, _, _, _, _, _, _⟩, rfl⟩
noncomputable def fS83 : {l : Scope // l = fscope (tp 10)} := ⟨⟨_, _, _, _, _⟩, rfl⟩
noncomputable def bS90 : {l : List Stmt // l = fbody (tp 11)} := ⟨[_, _, _, _], rfl⟩
noncomputable def pS90 : {l : Arguments // l = fargs (tp 11)} := ⟨⟨_, _, _, _, _, _, _⟩, rfl⟩
noncomputable def fS90 : {l : Scope // l = fscope (tp 11)} := ⟨⟨_, _, _, _, _⟩, rfl⟩
noncomputable def bS97 : {l : List Stmt // l = fbody (tp 12)} := ⟨[_, _], rfl⟩
noncomputable def pS97 : {l : Arguments // l = fargs (tp 12)} := ⟨⟨_, _, _, _, _, _, _⟩, rfl⟩
noncomputable def fS97 : {l : Scope // l = fscope (tp 12)} := ⟨⟨_, _, _, _, _⟩, rfl⟩
noncomputable def bS104 : {l : List Stmt // l = fbody (tp 13)} := ⟨[_, _], rfl⟩
noncomputable def pS104 : {l : Arguments // l = fargs (tp 13)} := ⟨⟨_, _, _, _, _, _, _⟩, rfl⟩
noncomputable def fS104 : {l : Scope // l = fscope (tp 13)} := ⟨⟨_, _, _, _, _⟩, rfl⟩
noncomputable def bS111 : {l : List Stmt // l = fbody (tp 14)} := ⟨[_, _, _, _, _, _, _, _, _, _], rfl⟩
noncomputable def pS111 : {l : Arguments // l = fargs (tp 14)} := ⟨⟨_, _, _, _, _, _, _⟩, rfl⟩
noncomputable def fS111 : {l : Scope // l = fscope (tp 14)} := ⟨⟨_, _, _, _, _⟩, rfl⟩
noncomputable def bS119 : {l : List Stmt // l = fbody (tp 15)} := ⟨[_], rfl⟩
noncomputable def pS119 : {l : Arguments // l = fargs (tp 15)} := ⟨⟨_, _, _, _, _, _, _⟩, rfl⟩
noncomputable def fS119 : {l : Scope // l = fscope (tp 15)} := ⟨⟨_, _, _, _, _⟩, rfl⟩
noncomputable def bS126 : {l : List Stmt // l = fbody (tp 16)} := ⟨[_, _, _, _, _, _, _, _, _], rfl⟩
noncomputable def pS126 : {l : Arguments // l = fargs (tp 16)} := ⟨⟨_, _, _, _, _, _, _⟩, rfl⟩
noncomputable def fS126 : {l : Scope // l = fscope (tp 16)} := ⟨⟨_, _, _, _, _⟩, rfl⟩
noncomputable def bS133 : {l : List Stmt // l = fbody (tp 18)} := ⟨[_, _], rfl⟩
noncomputable def pS133 : {l : Arguments // l = fargs (tp 18)} := ⟨⟨_, _, _, _, _, _, _⟩, rfl⟩
noncomputable def fS133 : {l : Scope // l = fscope (tp 18)} := ⟨⟨_, _, _, _, _⟩, rfl⟩
noncomputable def bS140 : {l : List Stmt // l = fbody (tp 19)} := ⟨[_, _], rfl⟩
noncomputable def pS140 : {l : Arguments // l = fargs (tp 19)} := ⟨⟨_, _, _, _, _, _, _⟩, rfl⟩
noncomputable def fS140 : {l : Scope // l = fscope (tp 19)} := ⟨⟨_, _, _, _, _⟩, rfl⟩
noncomputable def bS147 : {l : List Stmt // l = fbody (tp 20)} := ⟨[_, _], rfl⟩
noncomputable def pS147 : {l : Arguments // l = fargs (tp 20)} := ⟨⟨_, _, _, _, _, _, _⟩, rfl⟩
noncomputable def fS147 : {l : Scope // l = fscope (tp 20)} := ⟨⟨_, _, _, _, _⟩, rfl⟩
noncomputable def bS154 : {l : List Stmt // l = fbody (tp 21)} := ⟨[_, _, _], rfl⟩
noncomputable def pS154 : {l : Arguments // l = fargs (tp 21)} := ⟨⟨_, _, _, _, _, _, _⟩, rfl⟩
noncomputable def fS154 : {l : Scope // l = fscope (tp 21)} := ⟨⟨_, _, _, _, _⟩, rfl⟩
noncomputable def bS168 : {l : List Stmt // l = fbody (inn (tp 23) 0)} := ⟨[_, _], rfl⟩
noncomputable def pS168 : {l : Arguments // l = fargs (inn (tp 23) 0)} := ⟨⟨_, _, _, _, _, _, _⟩, rfl⟩
noncomputable def fS168 : {l : Scope // l = fscope (inn (tp 23) 0)} := ⟨⟨_, _, _, _, _⟩, rfl⟩
noncomputable def bS182 : {l : List Stmt // l = fbody (tp 24)} := ⟨[_, _, _], rfl⟩
noncomputable def pS182 : {l : Arguments // l = fargs (tp 24)} := ⟨⟨_, _, _, _, _, _, _⟩, rfl⟩
noncomputable def fS182 : {l : Scope // l = fscope (tp 24)} := ⟨⟨_, _, _, _, _⟩, rfl⟩
noncomputable def bS187 : {l : List Stmt // l = fbody (tp 25)} := ⟨[_], rfl⟩
noncomputable def pS187 : {l : Arguments // l = fargs (tp 25)} := ⟨⟨_, _, _, _, _, _, _⟩, rfl⟩
noncomputable def fS187 : {l : Scope // l = fscope (tp 25)} := ⟨⟨_, _, _, _, _⟩, rfl⟩
noncomputable def bS194 : {l : List Stmt // l = fbody (tp 26)} := ⟨[_], rfl⟩
noncomputable def pS194 : {l : Arguments // l = fargs (tp 26)} := ⟨⟨_, _, _, _, _, _, _⟩, rfl⟩
noncomputable def fS194 : {l : Scope // l = fscope (tp 26)} := ⟨⟨_, _, _, _, _⟩, rfl⟩
noncomputable def bS199 : {l : List Stmt // l = fbody (tp 27)} := ⟨[_, _, _], rfl⟩
noncomputable def pS199 : {l : Arguments // l = fargs (tp 27)} := ⟨⟨_, _, _, _, _, _, _⟩, rfl⟩
noncomputable def fS199 : {l : Scope // l = fscope (tp 27)} := ⟨⟨_, _, _, _, _⟩, rfl⟩
noncomputable def bS213 : {l : List Stmt // l = fbody (inn (tp 29) 0)} := ⟨[_, _, _], rfl⟩
noncomputable def pS213 : {l : Arguments // l = fargs (inn (tp 29) 0)} := ⟨⟨_, _, _, _, _, _, _⟩, rfl⟩
noncomputable def fS213 : {l : Scope // l = fscope (inn (tp 29) 0)} := ⟨⟨_, _, _, _, _⟩, rfl⟩
noncomputable def bS227 : {l : List Stmt // l = fbody (tp 30)} := ⟨[_, _], rfl⟩
noncomputable def pS227 : {l : Arguments // l = fargs (tp 30)} := ⟨⟨_, _, _, _, _, _, _⟩, rfl⟩
noncomputable def fS227 : {l : Scope // l = fscope (tp 30)} := ⟨⟨_, _, _, _, _⟩, rfl⟩
noncomputable def bS234 : {l : List Stmt // l = fbody (tp 31)} := ⟨[_, _, _], rfl⟩
noncomputable def pS234 : {l : Arguments // l = fargs (tp 31)} := ⟨⟨_, _, _, _, _, _, _⟩, rfl⟩
noncomputable def fS234 : {l : Scope // l = fscope (tp 31)} := ⟨⟨_, _, _, _, _⟩, rfl⟩
noncomputable def bS241 : {l : List Stmt // l = fbody (tp 32)} := ⟨[_, _, _, _], rfl⟩
noncomputable def pS241 : {l : Arguments // l = fargs (tp 32)} := ⟨⟨_, _, _, _, _, _, _⟩, rfl⟩
noncomputable def fS241 : {l : Scope // l = fscope (tp 32)} := ⟨⟨_, _, _, _, _⟩, rfl⟩
noncomputable def bS255 : {l : List Stmt // l = fbody (inn (tp 34) 0)} := ⟨[_], rfl⟩
noncomputable def pS255 : {l : Arguments // l = fargs (inn (tp 34) 0)} := ⟨⟨_, _, _, _, _, _, _⟩, rfl⟩
noncomputable def fS255 : {l : Scope // l = fscope (inn (tp 34) 0)} := ⟨⟨_, _, _, _, _⟩, rfl⟩
noncomputable def bS262 : {l : List Stmt // l = fbody (inn (tp 34) 1)} := ⟨[_], rfl⟩
noncomputable def pS262 : {l : Arguments // l = fargs (inn (tp 34) 1)} := ⟨⟨_, _, _, _, _, _, _⟩, rfl⟩
noncomputable def fS262 : {l : Scope // l = fscope (inn (tp 34) 1)} := ⟨⟨_, _, _, _, _⟩, rfl⟩
noncomputable def bS269 : {l : List Stmt // l = fbody (inn (tp 34) 2)} := ⟨[_], rfl⟩
noncomputable def pS269 : {l : Arguments // l = fargs (inn (tp 34) 2)} := ⟨⟨_, _, _, _, _, _, _⟩, rfl⟩
noncomputable def fS269 : {l : Scope // l = fscope (inn (tp 34) 2)} := ⟨⟨_, _, _, _, _⟩, rfl⟩
noncomputable def bS290 : {l : List Stmt // l = fbody (inn (tp 36) 0)} := ⟨[_, _, _, _], rfl⟩
noncomputable def pS290 : {l : Arguments // l = fargs (inn (tp 36) 0)} := ⟨⟨_, _, _, _, _, _, _⟩, rfl⟩
noncomputable def fS290 : {l : Scope // l = fscope (inn (tp 36) 0)} := ⟨⟨_, _, _, _, _⟩, rfl⟩
noncomputable def bS297 : {l : List Stmt // l = fbody (inn (tp 36) 1)} := ⟨[_], rfl⟩
noncomputable def pS297 : {l : Arguments // l = fargs (inn (tp 36) 1)} := ⟨⟨_, _, _, _, _, _, _⟩, rfl⟩
noncomputable def fS297 : {l : Scope // l = fscope (inn (tp 36) 1)} := ⟨⟨_, _, _, _, _⟩, rfl⟩
noncomputable def bS304 : {l : List Stmt // l = fbody (inn (tp 36) 2)} := ⟨[_], rfl⟩
noncomputable def pS304 : {l : Arguments // l = fargs (inn (tp 36) 2)} := ⟨⟨_, _, _, _, _, _, _⟩, rfl⟩
noncomputable def fS304 : {l : Scope // l = fscope (inn (tp 36) 2)} := ⟨⟨_, _, _, _, _⟩, rfl⟩
noncomputable def bS311 : {l : List Stmt // l = fbody (inn (tp 36) 3)} := ⟨[_], rfl⟩
noncomputable def pS311 : {l : Arguments // l = fargs (inn (tp 36) 3)} := ⟨⟨_, _, _, _, _, _, _⟩, rfl⟩
noncomputable def fS311 : {l : Scope // l = fscope (inn (tp 36) 3)} := ⟨⟨_, _, _, _, _⟩, rfl⟩
noncomputable def bS330 : {l : List Stmt // l = fbody (inn (tp 37) 0)} := ⟨[_], rfl⟩
noncomputable def pS330 : {l : Arguments // l = fargs (inn (tp 37) 0)} := ⟨⟨_, _, _, _, _, _, _⟩, rfl⟩
noncomputable def fS330 : {l : Scope // l = fscope (inn (tp 37) 0)} := ⟨⟨_, _, _, _, _⟩, rfl⟩
noncomputable def bS337 : {l : List Stmt // l = fbody (inn (tp 37) 1)} := ⟨[_], rfl⟩
noncomputable def pS337 : {l : Arguments // l = fargs (inn (tp 37) 1)} := ⟨⟨_, _, _, _, _, _, _⟩, rfl⟩
noncomputable def fS337 : {l : Scope // l = fscope (inn (tp 37) 1)} := ⟨⟨_, _, _, _, _⟩, rfl⟩
noncomputable def bS344 : {l : List Stmt // l = fbody (inn (tp 37) 2)} := ⟨[_, _], rfl⟩
noncomputable def pS344 : {l : Arguments // l = fargs (inn (tp 37) 2)} := ⟨⟨_, _, _, _, _, _, _⟩, rfl⟩
noncomputable def fS344 : {l : Scope // l = fscope (inn (tp 37) 2)} := ⟨⟨_, _, _, _, _⟩, rfl⟩
noncomputable def bS351 : {l : List Stmt // l = fbody (inn (tp 37) 3)} := ⟨[_], rfl⟩
noncomputable def pS351 : {l : Arguments // l = fargs (inn (tp 37) 3)} := ⟨⟨_, _, _, _, _, _, _⟩, rfl⟩
noncomputable def fS351 : {l : Scope // l = fscope (inn (tp 37) 3)} := ⟨⟨_, _, _, _, _⟩, rfl⟩
noncomputable def bS358 : {l : List Stmt // l = fbody (inn (tp 37) 4)} := ⟨[_, _, _], rfl⟩
noncomputable def pS358 : {l : Arguments // l = fargs (inn (tp 37) 4)} := ⟨⟨_, _, _, _, _, _, _⟩, rfl⟩
noncomputable def fS358 : {l : Scope // l = fscope (inn (tp 37) 4)} := ⟨⟨_, _, _, _, _⟩, rfl⟩
noncomputable def bS365 : {l : List Stmt // l = fbody (inn (tp 37) 5)} := ⟨[_], rfl⟩
noncomputable def pS365 : {l : Arguments // l = fargs (inn (tp 37) 5)} := ⟨⟨_, _, _, _, _, _, _⟩, rfl⟩
noncomputable def fS365 : {l : Scope // l = fscope (inn (tp 37) 5)} := ⟨⟨_, _, _, _, _⟩, rfl⟩
noncomputable def bS372 : {l : List Stmt // l = fbody (inn (tp 37) 6)} := ⟨[_], rfl⟩
noncomputable def pS372 : {l : Arguments // l = fargs (inn (tp 37) 6)} := ⟨⟨_, _, _, _, _, _, _⟩, rfl⟩
noncomputable def fS372 : {l : Scope // l = fscope (inn (tp 37) 6)} := ⟨⟨_, _, _, _, _⟩, rfl⟩
noncomputable def bS379 : {l : List Stmt // l = fbody (inn (tp 37) 7)} := ⟨[_], rfl⟩
noncomputable def pS379 : {l : Arguments // l = fargs (inn (tp 37) 7)} := ⟨⟨_, _, _, _, _, _, _⟩, rfl⟩
noncomputable def fS379 : {l : Scope // l = fscope (inn (tp 37) 7)} := ⟨⟨_, _, _, _, _⟩, rfl⟩
noncomputable def bS393 : {l : List Stmt // l = fbody (tp 39)} := ⟨[_, _, _], rfl⟩
noncomputable def pS393 : {l : Arguments // l = fargs (tp 39)} := ⟨⟨_, _, _, _, _, _, _⟩, rfl⟩
noncomputable def fS393 : {l : Scope // l = fscope (tp 39)} := ⟨⟨_, _, _, _, _⟩, rfl⟩
noncomputable def bS407 : {l : List Stmt // l = fbody (inn (tp 42) 0)} := ⟨[_, _, _], rfl⟩
noncomputable def pS407 : {l : Arguments // l = fargs (inn (tp 42) 0)} := ⟨⟨_, _, _, _, _, _, _⟩, rfl⟩
noncomputable def fS407 : {l : Scope // l = fscope (inn (tp 42) 0)} := ⟨⟨_, _, _, _, _⟩, rfl⟩
noncomputable def bS421 : {l : List Stmt // l = fbody (tp 43)} := ⟨[_, _], rfl⟩
noncomputable def pS421 : {l : Arguments // l = fargs (tp 43)} := ⟨⟨_, _, _, _, _, _, _⟩, rfl⟩
noncomputable def fS421 : {l : Scope // l = fscope (tp 43)} := ⟨⟨_, _, _, _, _⟩, rfl⟩
noncomputable def bS428 : {l : List Stmt // l = fbody (tp 44)} := ⟨[_], rfl⟩
noncomputable def pS428 : {l : Arguments // l = fargs (tp 44)} := ⟨⟨_, _, _, _, _, _, _⟩, rfl⟩
noncomputable def fS428 : {l : Scope // l = fscope (tp 44)} := ⟨⟨_, _, _, _, _⟩, rfl⟩
noncomputable def bS435 : {l : List Stmt // l = fbody (tp 45)} := ⟨[_, _], rfl⟩
noncomputable def pS435 : {l : Arguments // l = fargs (tp 45)} := ⟨⟨_, _, _, _, _, _, _⟩, rfl⟩
noncomputable def fS435 : {l : Scope // l = fscope (tp 45)} := ⟨⟨_, _, _, _, _⟩, rfl⟩
noncomputable def bS442 : {l : List Stmt // l = fbody (tp 46)} := ⟨[_, _, _, _], rfl⟩
noncomputable def pS442 : {l : Arguments // l = fargs (tp 46)} := ⟨⟨_, _, _, _, _, _, _⟩, rfl⟩
noncomputable def fS442 : {l : Scope // l = fscope (tp 46)} := ⟨⟨_, _, _, _, _⟩, rfl⟩
noncomputable def bS449 : {l : List Stmt // l = fbody (tp 47)} := ⟨[_, _], rfl⟩
noncomputable def pS449 : {l : Arguments // l = fargs (tp 47)} := ⟨⟨_, _, _, _, _, _, _⟩, rfl⟩
noncomputable def fS449 : {l : Scope // l = fscope (tp 47)} := ⟨⟨_, _, _, _, _⟩, rfl⟩
noncomputable def bS454 : {l : List Stmt // l = fbody (tp 49)} := ⟨[_, _], rfl⟩
noncomputable def pS454 : {l : Arguments // l = fargs (tp 49)} := ⟨⟨_, _, _, _, _, _, _⟩, rfl⟩
noncomputable def fS454 : {l : Scope // l = fscope (tp 49)} := ⟨⟨_, _, _, _, _⟩, rfl⟩
noncomputable def bS459 : {l : List Stmt // l = fbody (tp 50)} := ⟨[_, _], rfl⟩
noncomputable def pS459 : {l : Arguments // l = fargs (tp 50)} := ⟨⟨_, _, _, _, _, _, _⟩, rfl⟩
noncomputable def fS459 : {l : Scope // l = fscope (tp 50)} := ⟨⟨_, _, _, _, _⟩, rfl⟩
noncomputable def bS464 : {l : List Stmt // l = fbody (tp 51)} := ⟨[_, _, _], rfl⟩
noncomputable def pS464 : {l : Arguments // l = fargs (tp 51)} := ⟨⟨_, _, _, _, _, _, _⟩, rfl⟩
noncomputable def fS464 : {l : Scope // l = fscope (tp 51)} := ⟨⟨_, _, _, _, _⟩, rfl⟩
noncomputable def bS471 : {l : List Stmt // l = fbody (tp 53)} := ⟨[_], rfl⟩
noncomputable def pS471 : {l : Arguments // l = fargs (tp 53)} := ⟨⟨_, _, _, _, _, _, _⟩, rfl⟩
noncomputable def fS471 : {l : Scope // l = fscope (tp 53)} := ⟨⟨_, _, _, _, _⟩, rfl⟩
noncomputable def bS478 : {l : List Stmt // l = fbody (tp 54)} := ⟨[_, _, _, _], rfl⟩
noncomputable def pS478 : {l : Arguments // l = fargs (tp 54)} := ⟨⟨_, _, _, _, _, _, _⟩, rfl⟩
noncomputable def fS478 : {l : Scope // l = fscope (tp 54)} := ⟨⟨_, _, _, _, _⟩, rfl⟩
noncomputable def bS485 : {l : List Stmt // l = fbody (tp 55)} := ⟨[_, _, _], rfl⟩
noncomputable def pS485 : {l : Arguments // l = fargs (tp 55)} := ⟨⟨_, _, _, _, _, _, _⟩, rfl⟩
noncomputable def fS485 : {l : Scope // l = fscope (tp 55)} := ⟨⟨_, _, _, _, _⟩, rfl⟩
noncomputable def bS492 : {l : List Stmt // l = fbody (tp 56)} := ⟨[_, _, _, _, _], rfl⟩
noncomputable def pS492 : {l : Arguments // l = fargs (tp 56)} := ⟨⟨_, _, _, _, _, _, _⟩, rfl⟩
noncomputable def fS492 : {l : Scope // l = fscope (tp 56)} := ⟨⟨_, _, _, _, _⟩, rfl⟩
noncomputable def bS506 : {l : List Stmt // l = fbody (inn (tp 58) 0)} := ⟨[_, _, _, _], rfl⟩
noncomputable def pS506 : {l : Arguments // l = fargs (inn (tp 58) 0)} := ⟨⟨_, _, _, _, _, _, _⟩, rfl⟩
noncomputable def fS506 : {l : Scope // l = fscope (inn (tp 58) 0)} := ⟨⟨_, _, _, _, _⟩, rfl⟩
noncomputable def bS513 : {l : List Stmt // l = fbody (inn (tp 58) 1)} := ⟨[_], rfl⟩
noncomputable def pS513 : {l : Arguments // l = fargs (inn (tp 58) 1)} := ⟨⟨_, _, _, _, _, _, _⟩, rfl⟩
noncomputable def fS513 : {l : Scope // l = fscope (inn (tp 58) 1)} := ⟨⟨_, _, _, _, _⟩, rfl⟩
noncomputable def bS520 : {l : List Stmt // l = fbody (inn (tp 58) 2)} := ⟨[_, _], rfl⟩
noncomputable def pS520 : {l : Arguments // l = fargs (inn (tp 58) 2)} := ⟨⟨_, _, _, _, _, _, _⟩, rfl⟩
noncomputable def fS520 : {l : Scope // l = fscope (inn (tp 58) 2)} := ⟨⟨_, _, _, _, _⟩, rfl⟩
noncomputable def bS527 : {l : List Stmt // l = fbody (inn (tp 58) 3)} := ⟨[_, _, _, _], rfl⟩
noncomputable def pS527 : {l : Arguments // l = fargs (inn (tp 58) 3)} := ⟨⟨_, _, _, _, _, _, _⟩, rfl⟩
noncomputable def fS527 : {l : Scope // l = fscope (inn (tp 58) 3)} := ⟨⟨_, _, _, _, _⟩, rfl⟩
noncomputable def bS534 : {l : List Stmt // l = fbody (inn (tp 58) 4)} := ⟨[_, _], rfl⟩
noncomputable def pS534 : {l : Arguments // l = fargs (inn (tp 58) 4)} := ⟨⟨_, _, _, _, _, _, _⟩, rfl⟩
noncomputable def fS534 : {l : Scope // l = fscope (inn (tp 58) 4)} := ⟨⟨_, _, _, _, _⟩, rfl⟩
noncomputable def bS541 : {l : List Stmt // l = fbody (inn (tp 58) 5)} := ⟨[_, _], rfl⟩
noncomputable def pS541 : {l : Arguments // l = fargs (inn (tp 58) 5)} := ⟨⟨_, _, _, _, _, _, _⟩, rfl⟩
noncomputable def fS541 : {l : Scope // l = fscope (inn (tp 58) 5)} := ⟨⟨_, _, _, _, _⟩, rfl⟩
noncomputable def bS548 : {l : List Stmt // l = fbody (inn (tp 58) 6)} := ⟨[_, _, _, _], rfl⟩
noncomputable def pS548 : {l : Arguments // l = fargs (inn (tp 58) 6)} := ⟨⟨_, _, _, _, _, _, _⟩, rfl⟩
noncomputable def fS548 : {l : Scope // l = fscope (inn (tp 58) 6)} := ⟨⟨_, _, _, _, _⟩, rfl⟩
noncomputable def bS555 : {l : List Stmt // l = fbody (inn (tp 58) 7)} := ⟨[_, _, _, _, _, _], rfl⟩
noncomputable def pS555 : {l : Arguments // l = fargs (inn (tp 58) 7)} := ⟨⟨_, _, _, _, _, _, _⟩, rfl⟩
noncomputable def fS555 : {l : Scope // l = fscope (inn (tp 58) 7)} := ⟨⟨_, _, _, _, _⟩, rfl⟩
noncomputable def bS562 : {l : List Stmt // l = fbody (inn (tp 58) 8)} := ⟨[_], rfl⟩
noncomputable def pS562 : {l : Arguments // l = fargs (inn (tp 58) 8)} := ⟨⟨_, _, _, _, _, _, _⟩, rfl⟩
noncomputable def fS562 : {l : Scope // l = fscope (inn (tp 58) 8)} := ⟨⟨_, _, _, _, _⟩, rfl⟩
noncomputable def bS569 : {l : List Stmt // l = fbody (inn (tp 58) 9)} := ⟨[_], rfl⟩
noncomputable def pS569 : {l : Arguments // l = fargs (inn (tp 58) 9)} := ⟨⟨_, _, _, _, _, _, _⟩, rfl⟩
noncomputable def fS569 : {l : Scope // l = fscope (inn (tp 58) 9)} := ⟨⟨_, _, _, _, _⟩, rfl⟩
noncomputable def bS576 : {l : List Stmt // l = fbody (inn (tp 58) 10)} := ⟨[_], rfl⟩
noncomputable def pS576 : {l : Arguments // l = fargs (inn (tp 58) 10)} := ⟨⟨_, _, _, _, _, _, _⟩, rfl⟩
noncomputable def fS576 : {l : Scope // l = fscope (inn (tp 58) 10)} := ⟨⟨_, _, _, _, _⟩, rfl⟩
noncomputable def bS598 : {l : List Stmt // l = fbody (inn (tp 60) 0)} := ⟨[_, _, _, _, _, _, _, _, _, _, _, _, _, _, _, _, _, _, _, _], rfl⟩
noncomputable def pS598 : {l : Arguments // l = fargs (inn (tp 60) 0)} := ⟨⟨_, _, _, _, _, _, _⟩, rfl⟩
noncomputable def fS598 : {l : Scope // l = fscope (inn (tp 60) 0)} := ⟨⟨_, _, _, _, _⟩, rfl⟩
noncomputable def bS605 : {l : List Stmt // l = fbody (inn (tp 60) 1)} := ⟨[_], rfl⟩
noncomputable def pS605 : {l : Arguments // l = fargs (inn (tp 60) 1)} := ⟨⟨_, _, _, _, _, _, _⟩, rfl⟩
noncomputable def fS605 : {l : Scope // l = fscope (inn (tp 60) 1)} := ⟨⟨_, _, _, _, _⟩, rfl⟩
noncomputable def bS612 : {l : List Stmt // l = fbody (inn (tp 60) 2)} := ⟨[_], rfl⟩
noncomputable def pS612 : {l : Arguments // l = fargs (inn (tp 60) 2)} := ⟨⟨_, _, _, _, _, _, _⟩, rfl⟩
noncomputable def fS612 : {l : Scope // l = fscope (inn (tp 60) 2)} := ⟨⟨_, _, _, _, _⟩, rfl⟩
noncomputable def bS619 : {l : List Stmt // l = fbody (inn (tp 60) 3)} := ⟨[_], rfl⟩
noncomputable def pS619 : {l : Arguments // l = fargs (inn (tp 60) 3)} := ⟨⟨_, _, _, _, _, _, _⟩, rfl⟩
noncomputable def fS619 : {l : Scope // l = fscope (inn (tp 60) 3)} := ⟨⟨_, _, _, _, _⟩, rfl⟩
noncomputable def bS626 : {l : List Stmt // l = fbody (inn (tp 60) 4)} := ⟨[_], rfl⟩
noncomputable def pS626 : {l : Arguments // l = fargs (inn (tp 60) 4)} := ⟨⟨_, _, _, _, _, _, _⟩, rfl⟩
noncomputable def fS626 : {l : Scope // l = fscope (inn (tp 60) 4)} := ⟨⟨_, _, _, _, _⟩, rfl⟩
noncomputable def bS633 : {l : List Stmt // l = fbody (inn (tp 60) 5)} := ⟨[_], rfl⟩
noncomputable def pS633 : {l : Arguments // l = fargs (inn (tp 60) 5)} := ⟨⟨_, _, _, _, _, _, _⟩, rfl⟩
noncomputable def fS633 : {l : Scope // l = fscope (inn (tp 60) 5)} := ⟨⟨_, _, _, _, _⟩, rfl⟩
noncomputable def bS640 : {l : List Stmt // l = fbody (inn (tp 60) 6)} := ⟨[_], rfl⟩
noncomputable def pS640 : {l : Arguments // l = fargs (inn (tp 60) 6)} := ⟨⟨_, _, _, _, _, _, _⟩, rfl⟩
noncomputable def fS640 : {l : Scope // l = fscope (inn (tp 60) 6)} := ⟨⟨_, _, _, _, _⟩, rfl⟩
noncomputable def bS647 : {l : List Stmt // l = fbody (inn (tp 60) 7)} := ⟨[_], rfl⟩
noncomputable def pS647 : {l : Arguments // l = fargs (inn (tp 60) 7)} := ⟨⟨_, _, _, _, _, _, _⟩, rfl⟩
noncomputable def fS647 : {l : Scope // l = fscope (inn (tp 60) 7)} := ⟨⟨_, _, _, _, _⟩, rfl⟩
noncomputable def bS654 : {l : List Stmt // l = fbody (inn (tp 60) 8)} := ⟨[_, _], rfl⟩
noncomputable def pS654 : {l : Arguments // l = fargs (inn (tp 60) 8)} := ⟨⟨_, _, _, _, _, _, _⟩, rfl⟩
noncomputable def fS654 : {l : Scope // l = fscope (inn (tp 60) 8)} := ⟨⟨_, _, _, _, _⟩, rfl⟩
noncomputable def bS661 : {l : List Stmt // l = fbody (inn (tp 60) 9)} := ⟨[_], rfl⟩
noncomputable def pS661 : {l : Arguments // l = fargs (inn (tp 60) 9)} := ⟨⟨_, _, _, _, _, _, _⟩, rfl⟩
noncomputable def fS661 : {l : Scope // l = fscope (inn (tp 60) 9)} := ⟨⟨_, _, _, _, _⟩, rfl⟩
noncomputable def bS668 : {l : List Stmt // l = fbody (inn (tp 60) 10)} := ⟨[_], rfl⟩
noncomputable def pS668 : {l : Arguments // l = fargs (inn (tp 60) 10)} := ⟨⟨_, _, _, _, _, _, _⟩, rfl⟩
noncomputable def fS668 : {l : Scope // l = fscope (inn (tp 60) 10)} := ⟨⟨_, _, _, _, _⟩, rfl⟩
noncomputable def bS675 : {l : List Stmt // l = fbody (inn (tp 60) 11)} := ⟨[_], rfl⟩
noncomputable def pS675 : {l : Arguments // l = fargs (inn (tp 60) 11)} := ⟨⟨_, _, _, _, _, _, _⟩, rfl⟩
noncomputable def fS675 : {l : Scope // l = fscope (inn (tp 60) 11)} := ⟨⟨_, _, _, _, _⟩, rfl⟩
noncomputable def bS682 : {l : List Stmt // l = fbody (inn (tp 60) 12)} := ⟨[_, _], rfl⟩
noncomputable def pS682 : {l : Arguments // l = fargs (inn (tp 60) 12)} := ⟨⟨_, _, _, _, _, _, _⟩, rfl⟩
noncomputable def fS682 : {l : Scope // l = fscope (inn (tp 60) 12)} := ⟨⟨_, _, _, _, _⟩, rfl⟩
noncomputable def bS692 : {l : List Stmt // l = fbody (tp 62)} := ⟨[_, _], rfl⟩
noncomputable def pS692 : {l : Arguments // l = fargs (tp 62)} := ⟨⟨_, _, _, _, _, _, _⟩, rfl⟩
noncomputable def fS692 : {l : Scope // l = fscope (tp 62)} := ⟨⟨_, _, _, _, _⟩, rfl⟩
noncomputable def bS699 : {l : List Stmt // l = fbody (tp 63)} := ⟨[_, _, _, _, _], rfl⟩
noncomputable def pS699 : {l : Arguments // l = fargs (tp 63)} := ⟨⟨_, _, _, _, _, _, _⟩, rfl⟩
noncomputable def fS699 : {l : Scope // l = fscope (tp 63)} := ⟨⟨_, _, _, _, _⟩, rfl⟩
noncomputable def bS706 : {l : List Stmt // l = fbody (tp 64)} := ⟨[_, _, _, _], rfl⟩
noncomputable def pS706 : {l : Arguments // l = fargs (tp 64)} := ⟨⟨_, _, _, _, _, _, _⟩, rfl⟩
noncomputable def fS706 : {l : Scope // l = fscope (tp 64)} := ⟨⟨_, _, _, _, _⟩, rfl⟩
noncomputable def bS711 : {l : List Stmt // l = fbody (tp 65)} := ⟨[_, _, _, _, _, _, _, _, _, _, _, _, _], rfl⟩
noncomputable def pS711 : {l : Arguments // l = fargs (tp 65)} := ⟨⟨_, _, _, _, _, _, _⟩, rfl⟩
noncomputable def fS711 : {l : Scope // l = fscope (tp 65)} := ⟨⟨_, _, _, _, _⟩, rfl⟩
noncomputable def hp : Params → Frag := fun P =>
(nat_lit 2, { cls := Value.none, data := Data.dict #[{ hash := PyData.keyHash P (Str.ofString "type.__subclasses__.Exception.0"), key := Value.str (Str.ofString "type.__subclasses__.Exception.0") 223, val := Value.int 38 0 }, { hash := PyData.keyHash P (Str.ofString "type.__subclasses__.Exception.n"), key := Value.str (Str.ofString "type.__subclasses__.Exception.n") 224, val := Value.int 1 0 }] 2 }) ::
(nat_lit 3, { cls := Value.type "dict", data := Data.dict #[{ hash := PyData.keyHash P (Str.ofString "__name__"), key := Value.str (Str.ofString "__name__") 165, val := Value.str (Str.ofString "law_pq0289_01") 1122 }, { hash := PyData.keyHash P (Str.ofString "__doc__"), key := Value.str (Str.ofString "__doc__") 166, val := Value.none }, { hash := PyData.keyHash P (Str.ofString "__package__"), key := Value.str (Str.ofString "__package__") 167, val := Value.none }, { hash := PyData.keyHash P (Str.ofString "__loader__"), key := Value.str (Str.ofString "__loader__") 168, val := Value.builtin "__main__.__loader__#opaque" }, { hash := PyData.keyHash P (Str.ofString "__spec__"), key := Value.str (Str.ofString "__spec__") 169, val := Value.none }, { hash := PyData.keyHash P (Str.ofString "__annotations__"), key := Value.str (Str.ofString "__annotations__") 170, val := Value.ref 6 }, { hash := PyData.keyHash P (Str.ofString "__builtins__"), key := Value.str (Str.ofString "__builtins__") 171, val := Value.ref 4 }, { hash := PyData.keyHash P (Str.ofString "__file__"), key := Value.str (Str.ofString "__file__") 173, val := Value.str (Str.ofString "/claim/cut.py") 172 }, { hash := PyData.keyHash P (Str.ofString "__cached__"), key := Value.str (Str.ofString "__cached__") 174, val := Value.none }, { hash := PyData.keyHash P (Str.ofString "_wall"), key := Value.str (Str.ofString "_wall") 193, val := Value.ref 21 }, { hash := PyData.keyHash P (Str.ofString "LispSignal"), key := Value.str (Str.ofString "LispSignal") 226, val := Value.ref 38 }, { hash := PyData.keyHash P (Str.ofString "LONGEST"), key := Value.str (Str.ofString "LONGEST") 232, val := Value.int 4194304 231 }, { hash := PyData.keyHash P (Str.ofString "need_writable"), key := Value.str (Str.ofString "need_writable") 239, val := Value.ref 48 }, { hash := PyData.keyHash P (Str.ofString "need_room"), key := Value.str (Str.ofString "need_room") 247, val := Value.ref 55 }, { hash := PyData.keyHash P (Str.ofString "reached"), key := Value.str (Str.ofString "reached") 258, val := Value.ref 62 }, { hash := PyData.keyHash P (Str.ofString "tell_ahead"), key := Value.str (Str.ofString "tell_ahead") 268, val := Value.ref 69 }, { hash := PyData.keyHash P (Str.ofString "tell_behind"), key := Value.str (Str.ofString "tell_behind") 279, val := Value.ref 76 }, { hash := PyData.keyHash P (Str.ofString "text_out"), key := Value.str (Str.ofString "text_out") 289, val := Value.ref 83 }, { hash := PyData.keyHash P (Str.ofString "text_in"), key := Value.str (Str.ofString "text_in") 298, val := Value.ref 90 }, { hash := PyData.keyHash P (Str.ofString "hung_out"), key := Value.str (Str.ofString "hung_out") 307, val := Value.ref 97 }, { hash := PyData.keyHash P (Str.ofString "hung_in"), key := Value.str (Str.ofString "hung_in") 317, val := Value.ref 104 }, { hash := PyData.keyHash P (Str.ofString "put_in"), key := Value.str (Str.ofString "put_in") 328, val := Value.ref 111 }, { hash := PyData.keyHash P (Str.ofString "insert"), key := Value.str (Str.ofString "insert") 337, val := Value.ref 119 }, { hash := PyData.keyHash P (Str.ofString "delete"), key := Value.str (Str.ofString "delete") 349, val := Value.ref 126 }, { hash := PyData.keyHash P (Str.ofString "eq"), key := Value.str (Str.ofString "eq") 359, val := Value.ref 133 }, { hash := PyData.keyHash P (Str.ofString "plist_find"), key := Value.str (Str.ofString "plist_find") 368, val := Value.ref 140 }, { hash := PyData.keyHash P (Str.ofString "holds_pair"), key := Value.str (Str.ofString "holds_pair") 378, val := Value.ref 147 }, { hash := PyData.keyHash P (Str.ofString "same_plist"), key := Value.str (Str.ofString "same_plist") 388, val := Value.ref 154 }, { hash := PyData.keyHash P (Str.ofString "Piece"), key := Value.str (Str.ofString "Piece") 421, val := Value.ref 171 }, { hash := PyData.keyHash P (Str.ofString "tidy_runs"), key := Value.str (Str.ofString "tidy_runs") 433, val := Value.ref 182 }, { hash := PyData.keyHash P (Str.ofString "moved_runs"), key := Value.str (Str.ofString "moved_runs") 439, val := Value.ref 187 }, { hash := PyData.keyHash P (Str.ofString "piece_joined"), key := Value.str (Str.ofString "piece_joined") 447, val := Value.ref 194 }, { hash := PyData.keyHash P (Str.ofString "piece_without"), key := Value.str (Str.ofString "piece_without") 453, val := Value.ref 199 }, { hash := PyData.keyHash P (Str.ofString "KillRing"), key := Value.str (Str.ofString "KillRing") 486, val := Value.ref 216 }, { hash := PyData.keyHash P (Str.ofString "kill_new"), key := Value.str (Str.ofString "kill_new") 495, val := Value.ref 227 }, { hash := PyData.keyHash P (Str.ofString "kill_append"), key := Value.str (Str.ofString "kill_append") 505, val := Value.ref 234 }, { hash := PyData.keyHash P (Str.ofString "current_kill"), key := Value.str (Str.ofString "current_kill") 515, val := Value.ref 241 }, { hash := PyData.keyHash P (Str.ofString "Opaque"), key := Value.str (Str.ofString "Opaque") 559, val := Value.ref 272 }, { hash := PyData.keyHash P (Str.ofString "Marker"), key := Value.str (Str.ofString "Marker") 612, val := Value.ref 314 }, { hash := PyData.keyHash P (Str.ofString "Markers"), key := Value.str (Str.ofString "Markers") 708, val := Value.ref 382 }, { hash := PyData.keyHash P (Str.ofString "set_marker"), key := Value.str (Str.ofString "set_marker") 719, val := Value.ref 393 }, { hash := PyData.keyHash P (Str.ofString "OWN_NUMBER"), key := Value.str (Str.ofString "OWN_NUMBER") 723, val := Value.int 0 722 }, { hash := PyData.keyHash P (Str.ofString "MarkRing"), key := Value.str (Str.ofString "MarkRing") 754, val := Value.ref 410 }, { hash := PyData.keyHash P (Str.ofString "set_mark"), key := Value.str (Str.ofString "set_mark") 762, val := Value.ref 421 }, { hash := PyData.keyHash P (Str.ofString "has_mark"), key := Value.str (Str.ofString "has_mark") 769, val := Value.ref 428 }, { hash := PyData.keyHash P (Str.ofString "mark_place"), key := Value.str (Str.ofString "mark_place") 776, val := Value.ref 435 }, { hash := PyData.keyHash P (Str.ofString "ring_marker"), key := Value.str (Str.ofString "ring_marker") 786, val := Value.ref 442 }, { hash := PyData.keyHash P (Str.ofString "push_mark"), key := Value.str (Str.ofString "push_mark") 796, val := Value.ref 449 }, { hash := PyData.keyHash P (Str.ofString "plist_rows"), key := Value.str (Str.ofString "plist_rows") 804, val := Value.ref 454 }, { hash := PyData.keyHash P (Str.ofString "piece_of"), key := Value.str (Str.ofString "piece_of") 810, val := Value.ref 459 }, { hash := PyData.keyHash P (Str.ofString "insert_piece"), key := Value.str (Str.ofString "insert_piece") 816, val := Value.ref 464 }, { hash := PyData.keyHash P (Str.ofString "save_kill"), key := Value.str (Str.ofString "save_kill") 828, val := Value.ref 471 }, { hash := PyData.keyHash P (Str.ofString "kill_region"), key := Value.str (Str.ofString "kill_region") 841, val := Value.ref 478 }, { hash := PyData.keyHash P (Str.ofString "swap_point_and_mark"), key := Value.str (Str.ofString "swap_point_and_mark") 849, val := Value.ref 485 }, { hash := PyData.keyHash P (Str.ofString "yank"), key := Value.str (Str.ofString "yank") 862, val := Value.ref 492 }, { hash := PyData.keyHash P (Str.ofString "GapText"), key := Value.str (Str.ofString "GapText") 982, val := Value.ref 579 }, { hash := PyData.keyHash P (Str.ofString "Buffer"), key := Value.str (Str.ofString "Buffer") 1121, val := Value.ref 685 }, { hash := PyData.keyHash P (Str.ofString "_law_deck"), key := Value.str (Str.ofString "_law_deck") 1129, val := Value.ref 692 }, { hash := PyData.keyHash P (Str.ofString "_law_draw"), key := Value.str (Str.ofString "_law_draw") 1139, val := Value.ref 699 }, { hash := PyData.keyHash P (Str.ofString "_law_buffer_of"), key := Value.str (Str.ofString "_law_buffer_of") 1148, val := Value.ref 706 }, { hash := PyData.keyHash P (Str.ofString "law"), key := Value.str (Str.ofString "law") 1154, val := Value.ref 711 }] 61 }) ::
(nat_lit 15, { cls := Value.type "tuple", data := Data.seq #[] }) ::
(nat_lit 17, { cls := Value.type "tuple", data := Data.seq #[Value.str (Str.ofString "k") 190] }) ::
(nat_lit 18, { cls := Value.type "tuple", data := Data.seq #[] }) ::
(nat_lit 20, { cls := Value.type "code", data := Data.fields #[Value.str (Str.ofString "_wall") 187, Value.str (Str.ofString "_wall") 188, Value.str (Str.ofString "/claim/cut.py") 189, Value.int 1 0, Value.int 1 0, Value.int 0 0, Value.int 0 0, Value.int 3 0, Value.ref 15, Value.bool true, Value.int 181 0, Value.ref 16, Value.none, Value.ref 17, Value.ref 18, Value.ref 19, Value.int 191 0, Value.int 1 0, Value.str (Str.ofString "/claim/cut.py") 192] }) ::
(nat_lit 21, { cls := Value.type "function", data := Data.func { name := Str.ofString "_wall", qualname := Str.ofString "_wall", params := pS21.1, body := FuncBody.stmts bS21.1, scope := fS21.1, globals := 3, closure := [], defaults := Value.none, kwdefaults := Value.none, pyModule := Value.str (Str.ofString "__main__") 164, code := Value.ref 20 } }) ::
(nat_lit 22, { cls := Value.type "tuple", data := Data.seq #[Value.type "Exception"] }) ::
(nat_lit 29, { cls := Value.type "tuple", data := Data.seq #[] }) ::
(nat_lit 31, { cls := Value.type "tuple", data := Data.seq #[Value.str (Str.ofString "self") 211, Value.str (Str.ofString "symbol") 212, Value.str (Str.ofString "data") 213] }) ::
(nat_lit 32, { cls := Value.type "tuple", data := Data.seq #[] }) ::
(nat_lit 34, { cls := Value.type "code", data := Data.fields #[Value.str (Str.ofString "__init__") 208, Value.str (Str.ofString "LispSignal.__init__") 209, Value.str (Str.ofString "/claim/cut.py") 210, Value.int 7 0, Value.int 3 0, Value.int 0 0, Value.int 0 0, Value.int 3 0, Value.ref 29, Value.bool true, Value.int 181 0, Value.ref 30, Value.none, Value.ref 31, Value.ref 32, Value.ref 33, Value.int 214 0, Value.int 7 0, Value.str (Str.ofString "/claim/cut.py") 215] }) ::
(nat_lit 35, { cls := Value.type "function", data := Data.func { name := Str.ofString "__init__", qualname := Str.ofString "LispSignal.__init__", params := pS35.1, body := FuncBody.stmts bS35.1, scope := fS35.1, globals := 3, closure := [], defaults := Value.none, kwdefaults := Value.none, pyModule := Value.str (Str.ofString "emacs.errors") 194, code := Value.ref 34 } }) ::
(nat_lit 36, { cls := Value.type "tuple", data := Data.seq #[Value.str (Str.ofString "data") 217, Value.str (Str.ofString "symbol") 218] }) ::
(nat_lit 37, { cls := Value.type "dict", data := Data.dict #[{ hash := PyData.keyHash P (Str.ofString "__module__"), key := Value.str (Str.ofString "__module__") 203, val := Value.str (Str.ofString "emacs.errors") 194 }, { hash := PyData.keyHash P (Str.ofString "__firstlineno__"), key := Value.str (Str.ofString "__firstlineno__") 207, val := Value.int 5 206 }, { hash := PyData.keyHash P (Str.ofString "__init__"), key := Value.str (Str.ofString "__init__") 216, val := Value.ref 35 }, { hash := PyData.keyHash P (Str.ofString "__static_attributes__"), key := Value.str (Str.ofString "__static_attributes__") 219, val := Value.ref 36 }, { hash := PyData.keyHash P (Str.ofString "__weakref__"), key := Value.str (Str.ofString "__weakref__") 221, val := Value.ref 39 }, { hash := PyData.keyHash P (Str.ofString "__doc__"), key := Value.str (Str.ofString "__doc__") 222, val := Value.none }] 3 }) ::
(nat_lit 38, { cls := Value.type "type", data := Data.cls { name := Str.ofString "LispSignal", bases := [Value.type "Exception"], mro := [Value.ref 38, Value.type "Exception", Value.type "BaseException", Value.type "object"], ns := 37, qualname := Str.ofString "LispSignal" }, slots := #[some (Value.ref 22), none, some (Value.str (Str.ofString "LispSignal") 196), some (Value.str (Str.ofString "LispSignal") 204), some (Value.builtin "Exception.__new__"), some (Value.bool true)] }) ::
(nat_lit 39, { cls := Value.type "getset_descriptor", data := Data.fields #[Value.str (Str.ofString "__weakref__") 220, Value.ref 38, Value.builtin "ExceptionGroup.__weakref__", Value.none] }) ::
(nat_lit 42, { cls := Value.type "tuple", data := Data.seq #[] }) ::
(nat_lit 44, { cls := Value.type "tuple", data := Data.seq #[Value.str (Str.ofString "buffer") 236] }) ::
(nat_lit 45, { cls := Value.type "tuple", data := Data.seq #[] }) ::
(nat_lit 47, { cls := Value.type "code", data := Data.fields #[Value.str (Str.ofString "need_writable") 233, Value.str (Str.ofString "need_writable") 234, Value.str (Str.ofString "/claim/cut.py") 235, Value.int 12 0, Value.int 1 0, Value.int 0 0, Value.int 0 0, Value.int 3 0, Value.ref 42, Value.bool true, Value.int 181 0, Value.ref 43, Value.none, Value.ref 44, Value.ref 45, Value.ref 46, Value.int 237 0, Value.int 12 0, Value.str (Str.ofString "/claim/cut.py") 238] }) ::
(nat_lit 48, { cls := Value.type "function", data := Data.func { name := Str.ofString "need_writable", qualname := Str.ofString "need_writable", params := pS48.1, body := FuncBody.stmts bS48.1, scope := fS48.1, globals := 3, closure := [], defaults := Value.none, kwdefaults := Value.none, pyModule := Value.str (Str.ofString "emacs.editing") 227, code := Value.ref 47 } }) ::
(nat_lit 49, { cls := Value.type "tuple", data := Data.seq #[] }) ::
(nat_lit 51, { cls := Value.type "tuple", data := Data.seq #[Value.str (Str.ofString "buffer") 243, Value.str (Str.ofString "growth") 244] }) ::
(nat_lit 52, { cls := Value.type "tuple", data := Data.seq #[] }) ::
(nat_lit 54, { cls := Value.type "code", data := Data.fields #[Value.str (Str.ofString "need_room") 240, Value.str (Str.ofString "need_room") 241, Value.str (Str.ofString "/claim/cut.py") 242, Value.int 15 0, Value.int 2 0, Value.int 0 0, Value.int 0 0, Value.int 3 0, Value.ref 49, Value.bool true, Value.int 181 0, Value.ref 50, Value.none, Value.ref 51, Value.ref 52, Value.ref 53, Value.int 245 0, Value.int 15 0, Value.str (Str.ofString "/claim/cut.py") 246] }) ::
(nat_lit 55, { cls := Value.type "function", data := Data.func { name := Str.ofString "need_room", qualname := Str.ofString "need_room", params := pS55.1, body := FuncBody.stmts bS55.1, scope := fS55.1, globals := 3, closure := [], defaults := Value.none, kwdefaults := Value.none, pyModule := Value.str (Str.ofString "emacs.editing") 227, code := Value.ref 54 } }) ::
(nat_lit 56, { cls := Value.type "tuple", data := Data.seq #[] }) ::
(nat_lit 58, { cls := Value.type "tuple", data := Data.seq #[Value.str (Str.ofString "buffer") 251, Value.str (Str.ofString "start") 252, Value.str (Str.ofString "end") 253, Value.str (Str.ofString "low") 254, Value.str (Str.ofString "high") 255] }) ::
(nat_lit 59, { cls := Value.type "tuple", data := Data.seq #[] }) ::
(nat_lit 61, { cls := Value.type "code", data := Data.fields #[Value.str (Str.ofString "reached") 248, Value.str (Str.ofString "reached") 249, Value.str (Str.ofString "/claim/cut.py") 250, Value.int 18 0, Value.int 3 0, Value.int 0 0, Value.int 0 0, Value.int 3 0, Value.ref 56, Value.bool true, Value.int 181 0, Value.ref 57, Value.none, Value.ref 58, Value.ref 59, Value.ref 60, Value.int 256 0, Value.int 18 0, Value.str (Str.ofString "/claim/cut.py") 257] }) ::
(nat_lit 62, { cls := Value.type "function", data := Data.func { name := Str.ofString "reached", qualname := Str.ofString "reached", params := pS62.1, body := FuncBody.stmts bS62.1, scope := fS62.1, globals := 3, closure := [], defaults := Value.none, kwdefaults := Value.none, pyModule := Value.str (Str.ofString "emacs.editing") 227, code := Value.ref 61 } }) ::
(nat_lit 63, { cls := Value.type "tuple", data := Data.seq #[] }) ::
(nat_lit 65, { cls := Value.type "tuple", data := Data.seq #[Value.str (Str.ofString "buffer") 262, Value.str (Str.ofString "start") 263, Value.str (Str.ofString "end") 264, Value.str (Str.ofString "listener") 265] }) ::
(nat_lit 66, { cls := Value.type "tuple", data := Data.seq #[] }) ::
(nat_lit 68, { cls := Value.type "code", data := Data.fields #[Value.str (Str.ofString "tell_ahead") 259, Value.str (Str.ofString "tell_ahead") 260, Value.str (Str.ofString "/claim/cut.py") 261, Value.int 23 0, Value.int 3 0, Value.int 0 0, Value.int 0 0, Value.int 3 0, Value.ref 63, Value.bool true, Value.int 181 0, Value.ref 64, Value.none, Value.ref 65, Value.ref 66, Value.ref 67, Value.int 266 0, Value.int 23 0, Value.str (Str.ofString "/claim/cut.py") 267] }) ::
(nat_lit 69, { cls := Value.type "function", data := Data.func { name := Str.ofString "tell_ahead", qualname := Str.ofString "tell_ahead", params := pS69.1, body := FuncBody.stmts bS69.1, scope := fS69.1, globals := 3, closure := [], defaults := Value.none, kwdefaults := Value.none, pyModule := Value.str (Str.ofString "emacs.editing") 227, code := Value.ref 68 } }) ::
(nat_lit 70, { cls := Value.type "tuple", data := Data.seq #[] }) ::
(nat_lit 72, { cls := Value.type "tuple", data := Data.seq #[Value.str (Str.ofString "buffer") 272, Value.str (Str.ofString "start") 273, Value.str (Str.ofString "end") 274, Value.str (Str.ofString "old_length") 275, Value.str (Str.ofString "listener") 276] }) ::
(nat_lit 73, { cls := Value.type "tuple", data := Data.seq #[] }) ::
(nat_lit 75, { cls := Value.type "code", data := Data.fields #[Value.str (Str.ofString "tell_behind") 269, Value.str (Str.ofString "tell_behind") 270, Value.str (Str.ofString "/claim/cut.py") 271, Value.int 26 0, Value.int 4 0, Value.int 0 0, Value.int 0 0, Value.int 3 0, Value.ref 70, Value.bool true, Value.int 181 0, Value.ref 71, Value.none, Value.ref 72, Value.ref 73, Value.ref 74, Value.int 277 0, Value.int 26 0, Value.str (Str.ofString "/claim/cut.py") 278] }) ::
(nat_lit 76, { cls := Value.type "function", data := Data.func { name := Str.ofString "tell_behind", qualname := Str.ofString "tell_behind", params := pS76.1, body := FuncBody.stmts bS76.1, scope := fS76.1, globals := 3, closure := [], defaults := Value.none, kwdefaults := Value.none, pyModule := Value.str (Str.ofString "emacs.editing") 227, code := Value.ref 75 } }) ::
(nat_lit 77, { cls := Value.type "tuple", data := Data.seq #[] }) ::
(nat_lit 79, { cls := Value.type "tuple", data := Data.seq #[Value.str (Str.ofString "buffer") 283, Value.str (Str.ofString "start") 284, Value.str (Str.ofString "end") 285, Value.str (Str.ofString "gone") 286] }) ::
(nat_lit 80, { cls := Value.type "tuple", data := Data.seq #[] }) ::
(nat_lit 82, { cls := Value.type "code", data := Data.fields #[Value.str (Str.ofString "text_out") 280, Value.str (Str.ofString "text_out") 281, Value.str (Str.ofString "/claim/cut.py") 282, Value.int 30 0, Value.int 3 0, Value.int 0 0, Value.int 0 0, Value.int 3 0, Value.ref 77, Value.bool true, Value.int 181 0, Value.ref 78, Value.none, Value.ref 79, Value.ref 80, Value.ref 81, Value.int 287 0, Value.int 30 0, Value.str (Str.ofString "/claim/cut.py") 288] }) ::
(nat_lit 83, { cls := Value.type "function", data := Data.func { name := Str.ofString "text_out", qualname := Str.ofString "text_out", params := pS83.1, body := FuncBody.stmts bS83.1, scope := fS83.1, globals := 3, closure := [], defaults := Value.none, kwdefaults := Value.none, pyModule := Value.str (Str.ofString "emacs.editing") 227, code := Value.ref 82 } }) ::
(nat_lit 84, { cls := Value.type "tuple", data := Data.seq #[] }) ::
(nat_lit 86, { cls := Value.type "tuple", data := Data.seq #[Value.str (Str.ofString "buffer") 293, Value.str (Str.ofString "place") 294, Value.str (Str.ofString "codes") 295] }) ::
(nat_lit 87, { cls := Value.type "tuple", data := Data.seq #[] }) ::
(nat_lit 89, { cls := Value.type "code", data := Data.fields #[Value.str (Str.ofString "text_in") 290, Value.str (Str.ofString "text_in") 291, Value.str (Str.ofString "/claim/cut.py") 292, Value.int 38 0, Value.int 3 0, Value.int 0 0, Value.int 0 0, Value.int 3 0, Value.ref 84, Value.bool true, Value.int 181 0, Value.ref 85, Value.none, Value.ref 86, Value.ref 87, Value.ref 88, Value.int 296 0, Value.int 38 0, Value.str (Str.ofString "/claim/cut.py") 297] }) ::
(nat_lit 90, { cls := Value.type "function", data := Data.func { name := Str.ofString "text_in", qualname := Str.ofString "text_in", params := pS90.1, body := FuncBody.stmts bS90.1, scope := fS90.1, globals := 3, closure := [], defaults := Value.none, kwdefaults := Value.none, pyModule := Value.str (Str.ofString "emacs.editing") 227, code := Value.ref 89 } }) ::
(nat_lit 91, { cls := Value.type "tuple", data := Data.seq #[] }) ::
(nat_lit 93, { cls := Value.type "tuple", data := Data.seq #[Value.str (Str.ofString "buffer") 302, Value.str (Str.ofString "start") 303, Value.str (Str.ofString "end") 304] }) ::
(nat_lit 94, { cls := Value.type "tuple", data := Data.seq #[] }) ::
(nat_lit 96, { cls := Value.type "code", data := Data.fields #[Value.str (Str.ofString "hung_out") 299, Value.str (Str.ofString "hung_out") 300, Value.str (Str.ofString "/claim/cut.py") 301, Value.int 45 0, Value.int 3 0, Value.int 0 0, Value.int 0 0, Value.int 3 0, Value.ref 91, Value.bool true, Value.int 181 0, Value.ref 92, Value.none, Value.ref 93, Value.ref 94, Value.ref 95, Value.int 305 0, Value.int 45 0, Value.str (Str.ofString "/claim/cut.py") 306] }) ::
(nat_lit 97, { cls := Value.type "function", data := Data.func { name := Str.ofString "hung_out", qualname := Str.ofString "hung_out", params := pS97.1, body := FuncBody.stmts bS97.1, scope := fS97.1, globals := 3, closure := [], defaults := Value.none, kwdefaults := Value.none, pyModule := Value.str (Str.ofString "emacs.editing") 227, code := Value.ref 96 } }) ::
(nat_lit 98, { cls := Value.type "tuple", data := Data.seq #[] }) ::
(nat_lit 100, { cls := Value.type "tuple", data := Data.seq #[Value.str (Str.ofString "buffer") 311, Value.str (Str.ofString "place") 312, Value.str (Str.ofString "many") 313, Value.str (Str.ofString "before_markers") 314] }) ::
(nat_lit 101, { cls := Value.type "tuple", data := Data.seq #[] }) ::
(nat_lit 103, { cls := Value.type "code", data := Data.fields #[Value.str (Str.ofString "hung_in") 308, Value.str (Str.ofString "hung_in") 309, Value.str (Str.ofString "/claim/cut.py") 310, Value.int 50 0, Value.int 4 0, Value.int 0 0, Value.int 0 0, Value.int 3 0, Value.ref 98, Value.bool true, Value.int 181 0, Value.ref 99, Value.none, Value.ref 100, Value.ref 101, Value.ref 102, Value.int 315 0, Value.int 50 0, Value.str (Str.ofString "/claim/cut.py") 316] }) ::
(nat_lit 104, { cls := Value.type "function", data := Data.func { name := Str.ofString "hung_in", qualname := Str.ofString "hung_in", params := pS104.1, body := FuncBody.stmts bS104.1, scope := fS104.1, globals := 3, closure := [], defaults := Value.none, kwdefaults := Value.none, pyModule := Value.str (Str.ofString "emacs.editing") 227, code := Value.ref 103 } }) ::
(nat_lit 105, { cls := Value.type "tuple", data := Data.seq #[] }) ::
(nat_lit 107, { cls := Value.type "tuple", data := Data.seq #[Value.str (Str.ofString "buffer") 321, Value.str (Str.ofString "place") 322, Value.str (Str.ofString "codes") 323, Value.str (Str.ofString "before_markers") 324, Value.str (Str.ofString "is_point_behind") 325] }) ::
(nat_lit 108, { cls := Value.type "tuple", data := Data.seq #[] }) ::
(nat_lit 110, { cls := Value.type "code", data := Data.fields #[Value.str (Str.ofString "put_in") 318, Value.str (Str.ofString "put_in") 319, Value.str (Str.ofString "/claim/cut.py") 320, Value.int 55 0, Value.int 5 0, Value.int 0 0, Value.int 0 0, Value.int 3 0, Value.ref 105, Value.bool true, Value.int 181 0, Value.ref 106, Value.none, Value.ref 107, Value.ref 108, Value.ref 109, Value.int 326 0, Value.int 55 0, Value.str (Str.ofString "/claim/cut.py") 327] }) ::
(nat_lit 111, { cls := Value.type "function", data := Data.func { name := Str.ofString "put_in", qualname := Str.ofString "put_in", params := pS111.1, body := FuncBody.stmts bS111.1, scope := fS111.1, globals := 3, closure := [], defaults := Value.none, kwdefaults := Value.none, pyModule := Value.str (Str.ofString "emacs.editing") 227, code := Value.ref 110 } }) ::
(nat_lit 112, { cls := Value.type "tuple", data := Data.seq #[Value.bool false] }) ::
(nat_lit 113, { cls := Value.type "tuple", data := Data.seq #[] }) ::
(nat_lit 115, { cls := Value.type "tuple", data := Data.seq #[Value.str (Str.ofString "buffer") 332, Value.str (Str.ofString "codes") 333, Value.str (Str.ofString "before_markers") 334] }) ::
(nat_lit 116, { cls := Value.type "tuple", data := Data.seq #[] }) ::
(nat_lit 118, { cls := Value.type "code", data := Data.fields #[Value.str (Str.ofString "insert") 329, Value.str (Str.ofString "insert") 330, Value.str (Str.ofString "/claim/cut.py") 331, Value.int 68 0, Value.int 3 0, Value.int 0 0, Value.int 0 0, Value.int 3 0, Value.ref 113, Value.bool true, Value.int 181 0, Value.ref 114, Value.none, Value.ref 115, Value.ref 116, Value.ref 117, Value.int 335 0, Value.int 68 0, Value.str (Str.ofString "/claim/cut.py") 336] }) ::
(nat_lit 119, { cls := Value.type "function", data := Data.func { name := Str.ofString "insert", qualname := Str.ofString "insert", params := pS119.1, body := FuncBody.stmts bS119.1, scope := fS119.1, globals := 3, closure := [], defaults := Value.ref 112, kwdefaults := Value.none, pyModule := Value.str (Str.ofString "emacs.editing") 227, code := Value.ref 118 } }) ::
(nat_lit 120, { cls := Value.type "tuple", data := Data.seq #[] }) ::
(nat_lit 122, { cls := Value.type "tuple", data := Data.seq #[Value.str (Str.ofString "buffer") 341, Value.str (Str.ofString "start") 342, Value.str (Str.ofString "end") 343, Value.str (Str.ofString "low") 344, Value.str (Str.ofString "high") 345, Value.str (Str.ofString "gone") 346] }) ::
(nat_lit 123, { cls := Value.type "tuple", data := Data.seq #[] }) ::
(nat_lit 125, { cls := Value.type "code", data := Data.fields #[Value.str (Str.ofString "delete") 338, Value.str (Str.ofString "delete") 339, Value.str (Str.ofString "/claim/cut.py") 340, Value.int 70 0, Value.int 3 0, Value.int 0 0, Value.int 0 0, Value.int 3 0, Value.ref 120, Value.bool true, Value.int 181 0, Value.ref 121, Value.none, Value.ref 122, Value.ref 123, Value.ref 124, Value.int 347 0, Value.int 70 0, Value.str (Str.ofString "/claim/cut.py") 348] }) ::
(nat_lit 126, { cls := Value.type "function", data := Data.func { name := Str.ofString "delete", qualname := Str.ofString "delete", params := pS126.1, body := FuncBody.stmts bS126.1, scope := fS126.1, globals := 3, closure := [], defaults := Value.none, kwdefaults := Value.none, pyModule := Value.str (Str.ofString "emacs.editing") 227, code := Value.ref 125 } }) ::
(nat_lit 127, { cls := Value.type "tuple", data := Data.seq #[] }) ::
(nat_lit 129, { cls := Value.type "tuple", data := Data.seq #[Value.str (Str.ofString "one") 355, Value.str (Str.ofString "other") 356] }) ::
(nat_lit 130, { cls := Value.type "tuple", data := Data.seq #[] }) ::
(nat_lit 132, { cls := Value.type "code", data := Data.fields #[Value.str (Str.ofString "eq") 352, Value.str (Str.ofString "eq") 353, Value.str (Str.ofString "/claim/cut.py") 354, Value.int 82 0, Value.int 2 0, Value.int 0 0, Value.int 0 0, Value.int 3 0, Value.ref 127, Value.bool true, Value.int 181 0, Value.ref 128, Value.none, Value.ref 129, Value.ref 130, Value.ref 131, Value.int 357 0, Value.int 82 0, Value.str (Str.ofString "/claim/cut.py") 358] }) ::
(nat_lit 133, { cls := Value.type "function", data := Data.func { name := Str.ofString "eq", qualname := Str.ofString "eq", params := pS133.1, body := FuncBody.stmts bS133.1, scope := fS133.1, globals := 3, closure := [], defaults := Value.none, kwdefaults := Value.none, pyModule := Value.str (Str.ofString "emacs.plists") 350, code := Value.ref 132 } }) ::
(nat_lit 134, { cls := Value.type "tuple", data := Data.seq #[] }) ::
(nat_lit 136, { cls := Value.type "tuple", data := Data.seq #[Value.str (Str.ofString "plist") 363, Value.str (Str.ofString "number") 364, Value.str (Str.ofString "at") 365] }) ::
(nat_lit 137, { cls := Value.type "tuple", data := Data.seq #[] }) ::
(nat_lit 139, { cls := Value.type "code", data := Data.fields #[Value.str (Str.ofString "plist_find") 360, Value.str (Str.ofString "plist_find") 361, Value.str (Str.ofString "/claim/cut.py") 362, Value.int 86 0, Value.int 2 0, Value.int 0 0, Value.int 0 0, Value.int 3 0, Value.ref 134, Value.bool true, Value.int 181 0, Value.ref 135, Value.none, Value.ref 136, Value.ref 137, Value.ref 138, Value.int 366 0, Value.int 86 0, Value.str (Str.ofString "/claim/cut.py") 367] }) ::
(nat_lit 140, { cls := Value.type "function", data := Data.func { name := Str.ofString "plist_find", qualname := Str.ofString "plist_find", params := pS140.1, body := FuncBody.stmts bS140.1, scope := fS140.1, globals := 3, closure := [], defaults := Value.none, kwdefaults := Value.none, pyModule := Value.str (Str.ofString "emacs.plists") 350, code := Value.ref 139 } }) ::
(nat_lit 141, { cls := Value.type "tuple", data := Data.seq #[] }) ::
(nat_lit 143, { cls := Value.type "tuple", data := Data.seq #[Value.str (Str.ofString "plist") 372, Value.str (Str.ofString "number") 373, Value.str (Str.ofString "value") 374, Value.str (Str.ofString "at") 375] }) ::
(nat_lit 144, { cls := Value.type "tuple", data := Data.seq #[] }) ::
(nat_lit 146, { cls := Value.type "code", data := Data.fields #[Value.str (Str.ofString "holds_pair") 369, Value.str (Str.ofString "holds_pair") 370, Value.str (Str.ofString "/claim/cut.py") 371, Value.int 91 0, Value.int 3 0, Value.int 0 0, Value.int 0 0, Value.int 3 0, Value.ref 141, Value.bool true, Value.int 181 0, Value.ref 142, Value.none, Value.ref 143, Value.ref 144, Value.ref 145, Value.int 376 0, Value.int 91 0, Value.str (Str.ofString "/claim/cut.py") 377] }) ::
(nat_lit 147, { cls := Value.type "function", data := Data.func { name := Str.ofString "holds_pair", qualname := Str.ofString "holds_pair", params := pS147.1, body := FuncBody.stmts bS147.1, scope := fS147.1, globals := 3, closure := [], defaults := Value.none, kwdefaults := Value.none, pyModule := Value.str (Str.ofString "emacs.plists") 350, code := Value.ref 146 } }) ::
(nat_lit 148, { cls := Value.type "tuple", data := Data.seq #[] }) ::
(nat_lit 150, { cls := Value.type "tuple", data := Data.seq #[Value.str (Str.ofString "one") 382, Value.str (Str.ofString "other") 383, Value.str (Str.ofString "number") 384, Value.str (Str.ofString "value") 385] }) ::
(nat_lit 151, { cls := Value.type "tuple", data := Data.seq #[] }) ::
(nat_lit 153, { cls := Value.type "code", data := Data.fields #[Value.str (Str.ofString "same_plist") 379, Value.str (Str.ofString "same_plist") 380, Value.str (Str.ofString "/claim/cut.py") 381, Value.int 94 0, Value.int 2 0, Value.int 0 0, Value.int 0 0, Value.int 3 0, Value.ref 148, Value.bool true, Value.int 181 0, Value.ref 149, Value.none, Value.ref 150, Value.ref 151, Value.ref 152, Value.int 386 0, Value.int 94 0, Value.str (Str.ofString "/claim/cut.py") 387] }) ::
(nat_lit 154, { cls := Value.type "function", data := Data.func { name := Str.ofString "same_plist", qualname := Str.ofString "same_plist", params := pS154.1, body := FuncBody.stmts bS154.1, scope := fS154.1, globals := 3, closure := [], defaults := Value.none, kwdefaults := Value.none, pyModule := Value.str (Str.ofString "emacs.plists") 350, code := Value.ref 153 } }) ::
(nat_lit 162, { cls := Value.type "tuple", data := Data.seq #[] }) ::
(nat_lit 164, { cls := Value.type "tuple", data := Data.seq #[Value.str (Str.ofString "self") 406, Value.str (Str.ofString "codes") 407, Value.str (Str.ofString "runs") 408] }) ::
(nat_lit 165, { cls := Value.type "tuple", data := Data.seq #[] }) ::
(nat_lit 167, { cls := Value.type "code", data := Data.fields #[Value.str (Str.ofString "__init__") 403, Value.str (Str.ofString "Piece.__init__") 404, Value.str (Str.ofString "/claim/cut.py") 405, Value.int 104 0, Value.int 3 0, Value.int 0 0, Value.int 0 0, Value.int 3 0, Value.ref 162, Value.bool true, Value.int 181 0, Value.ref 163, Value.none, Value.ref 164, Value.ref 165, Value.ref 166, Value.int 409 0, Value.int 104 0, Value.str (Str.ofString "/claim/cut.py") 410] }) ::
(nat_lit 168, { cls := Value.type "function", data := Data.func { name := Str.ofString "__init__", qualname := Str.ofString "Piece.__init__", params := pS168.1, body := FuncBody.stmts bS168.1, scope := fS168.1, globals := 3, closure := [], defaults := Value.none, kwdefaults := Value.none, pyModule := Value.str (Str.ofString "emacs.pieces") 389, code := Value.ref 167 } }) ::
(nat_lit 169, { cls := Value.type "tuple", data := Data.seq #[Value.str (Str.ofString "codes") 412, Value.str (Str.ofString "runs") 413] }) ::
(nat_lit 170, { cls := Value.type "dict", data := Data.dict #[{ hash := PyData.keyHash P (Str.ofString "__module__"), key := Value.str (Str.ofString "__module__") 398, val := Value.str (Str.ofString "emacs.pieces") 389 }, { hash := PyData.keyHash P (Str.ofString "__firstlineno__"), key := Value.str (Str.ofString "__firstlineno__") 402, val := Value.int 102 401 }, { hash := PyData.keyHash P (Str.ofString "__init__"), key := Value.str (Str.ofString "__init__") 411, val := Value.ref 168 }, { hash := PyData.keyHash P (Str.ofString "__static_attributes__"), key := Value.str (Str.ofString "__static_attributes__") 414, val := Value.ref 169 }, { hash := PyData.keyHash P (Str.ofString "__dict__"), key := Value.str (Str.ofString "__dict__") 416, val := Value.ref 172 }, { hash := PyData.keyHash P (Str.ofString "__weakref__"), key := Value.str (Str.ofString "__weakref__") 418, val := Value.ref 173 }, { hash := PyData.keyHash P (Str.ofString "__doc__"), key := Value.str (Str.ofString "__doc__") 419, val := Value.none }] 4 }) ::
(nat_lit 171, { cls := Value.type "type", data := Data.cls { name := Str.ofString "Piece", bases := [Value.type "object"], mro := [Value.ref 171, Value.type "object"], ns := 170, qualname := Str.ofString "Piece" }, slots := #[none, none, some (Value.str (Str.ofString "Piece") 391), some (Value.str (Str.ofString "Piece") 399), some (Value.builtin "object.__new__"), some (Value.bool true)] }) ::
(nat_lit 172, { cls := Value.type "getset_descriptor", data := Data.fields #[Value.str (Str.ofString "__dict__") 415, Value.ref 171, Value.builtin "function.__dict__", Value.builtin "function.__dict__#set"] }) ::
(nat_lit 173, { cls := Value.type "getset_descriptor", data := Data.fields #[Value.str (Str.ofString "__weakref__") 417, Value.ref 171, Value.builtin "ExceptionGroup.__weakref__", Value.none] }) ::
(nat_lit 176, { cls := Value.type "tuple", data := Data.seq #[] }) ::
(nat_lit 178, { cls := Value.type "tuple", data := Data.seq #[Value.str (Str.ofString "runs") 425, Value.str (Str.ofString "found") 426, Value.str (Str.ofString "start") 427, Value.str (Str.ofString "end") 428, Value.str (Str.ofString "plist") 429, Value.str (Str.ofString "last") 430] }) ::
(nat_lit 179, { cls := Value.type "tuple", data := Data.seq #[] }) ::
(nat_lit 181, { cls := Value.type "code", data := Data.fields #[Value.str (Str.ofString "tidy_runs") 422, Value.str (Str.ofString "tidy_runs") 423, Value.str (Str.ofString "/claim/cut.py") 424, Value.int 107 0, Value.int 1 0, Value.int 0 0, Value.int 0 0, Value.int 3 0, Value.ref 176, Value.bool true, Value.int 181 0, Value.ref 177, Value.none, Value.ref 178, Value.ref 179, Value.ref 180, Value.int 431 0, Value.int 107 0, Value.str (Str.ofString "/claim/cut.py") 432] }) ::
(nat_lit 182, { cls := Value.type "function", data := Data.func { name := Str.ofString "tidy_runs", qualname := Str.ofString "tidy_runs", params := pS182.1, body := FuncBody.stmts bS182.1, scope := fS182.1, globals := 3, closure := [], defaults := Value.none, kwdefaults := Value.none, pyModule := Value.str (Str.ofString "emacs.pieces") 389, code := Value.ref 181 } }) ::
(nat_lit 183, { cls := Value.type "tuple", data := Data.seq #[] }) ::
(nat_lit 186, { cls := Value.type "code", data := Data.fields #[Value.str (Str.ofString "moved_runs") 434, Value.str (Str.ofString "moved_runs") 435, Value.str (Str.ofString "/claim/cut.py") 436, Value.int 117 0, Value.int 2 0, Value.int 0 0, Value.int 0 0, Value.int 3 0, Value.ref 183, Value.bool true, Value.int 181 0, Value.ref 184, Value.none, Value.none, Value.none, Value.ref 185, Value.int 437 0, Value.int 117 0, Value.str (Str.ofString "/claim/cut.py") 438] }) ::
(nat_lit 187, { cls := Value.type "function", data := Data.func { name := Str.ofString "moved_runs", qualname := Str.ofString "moved_runs", params := pS187.1, body := FuncBody.stmts bS187.1, scope := fS187.1, globals := 3, closure := [], defaults := Value.none, kwdefaults := Value.none, pyModule := Value.str (Str.ofString "emacs.pieces") 389, code := Value.ref 186 } }) ::
(nat_lit 188, { cls := Value.type "tuple", data := Data.seq #[] }) ::
(nat_lit 190, { cls := Value.type "tuple", data := Data.seq #[Value.str (Str.ofString "one") 443, Value.str (Str.ofString "other") 444] }) ::
(nat_lit 191, { cls := Value.type "tuple", data := Data.seq #[] }) ::
(nat_lit 193, { cls := Value.type "code", data := Data.fields #[Value.str (Str.ofString "piece_joined") 440, Value.str (Str.ofString "piece_joined") 441, Value.str (Str.ofString "/claim/cut.py") 442, Value.int 119 0, Value.int 2 0, Value.int 0 0, Value.int 0 0, Value.int 3 0, Value.ref 188, Value.bool true, Value.int 181 0, Value.ref 189, Value.none, Value.ref 190, Value.ref 191, Value.ref 192, Value.int 445 0, Value.int 119 0, Value.str (Str.ofString "/claim/cut.py") 446] }) ::
(nat_lit 194, { cls := Value.type "function", data := Data.func { name := Str.ofString "piece_joined", qualname := Str.ofString "piece_joined", params := pS194.1, body := FuncBody.stmts bS194.1, scope := fS194.1, globals := 3, closure := [], defaults := Value.none, kwdefaults := Value.none, pyModule := Value.str (Str.ofString "emacs.pieces") 389, code := Value.ref 193 } }) ::
(nat_lit 195, { cls := Value.type "tuple", data := Data.seq #[] }) ::
(nat_lit 198, { cls := Value.type "code", data := Data.fields #[Value.str (Str.ofString "piece_without") 448, Value.str (Str.ofString "piece_without") 449, Value.str (Str.ofString "/claim/cut.py") 450, Value.int 121 0, Value.int 2 0, Value.int 0 0, Value.int 0 0, Value.int 3 0, Value.ref 195, Value.bool true, Value.int 181 0, Value.ref 196, Value.none, Value.none, Value.none, Value.ref 197, Value.int 451 0, Value.int 121 0, Value.str (Str.ofString "/claim/cut.py") 452] }) ::
(nat_lit 199, { cls := Value.type "function", data := Data.func { name := Str.ofString "piece_without", qualname := Str.ofString "piece_without", params := pS199.1, body := FuncBody.stmts bS199.1, scope := fS199.1, globals := 3, closure := [], defaults := Value.none, kwdefaults := Value.none, pyModule := Value.str (Str.ofString "emacs.pieces") 389, code := Value.ref 198 } }) ::
(nat_lit 207, { cls := Value.type "tuple", data := Data.seq #[] }) ::
(nat_lit 209, { cls := Value.type "tuple", data := Data.seq #[Value.str (Str.ofString "self") 471, Value.str (Str.ofString "most") 472] }) ::
(nat_lit 210, { cls := Value.type "tuple", data := Data.seq #[] }) ::
(nat_lit 212, { cls := Value.type "code", data := Data.fields #[Value.str (Str.ofString "__init__") 468, Value.str (Str.ofString "KillRing.__init__") 469, Value.str (Str.ofString "/claim/cut.py") 470, Value.int 129 0, Value.int 2 0, Value.int 0 0, Value.int 0 0, Value.int 3 0, Value.ref 207, Value.bool true, Value.int 181 0, Value.ref 208, Value.none, Value.ref 209, Value.ref 210, Value.ref 211, Value.int 473 0, Value.int 129 0, Value.str (Str.ofString "/claim/cut.py") 474] }) ::
(nat_lit 213, { cls := Value.type "function", data := Data.func { name := Str.ofString "__init__", qualname := Str.ofString "KillRing.__init__", params := pS213.1, body := FuncBody.stmts bS213.1, scope := fS213.1, globals := 3, closure := [], defaults := Value.none, kwdefaults := Value.none, pyModule := Value.str (Str.ofString "emacs.killring") 454, code := Value.ref 212 } }) ::
(nat_lit 214, { cls := Value.type "tuple", data := Data.seq #[Value.str (Str.ofString "most") 476, Value.str (Str.ofString "pieces") 477, Value.str (Str.ofString "pointer") 478] }) ::
(nat_lit 215, { cls := Value.type "dict", data := Data.dict #[{ hash := PyData.keyHash P (Str.ofString "__module__"), key := Value.str (Str.ofString "__module__") 463, val := Value.str (Str.ofString "emacs.killring") 454 }, { hash := PyData.keyHash P (Str.ofString "__firstlineno__"), key := Value.str (Str.ofString "__firstlineno__") 467, val := Value.int 127 466 }, { hash := PyData.keyHash P (Str.ofString "__init__"), key := Value.str (Str.ofString "__init__") 475, val := Value.ref 213 }, { hash := PyData.keyHash P (Str.ofString "__static_attributes__"), key := Value.str (Str.ofString "__static_attributes__") 479, val := Value.ref 214 }, { hash := PyData.keyHash P (Str.ofString "__dict__"), key := Value.str (Str.ofString "__dict__") 481, val := Value.ref 217 }, { hash := PyData.keyHash P (Str.ofString "__weakref__"), key := Value.str (Str.ofString "__weakref__") 483, val := Value.ref 218 }, { hash := PyData.keyHash P (Str.ofString "__doc__"), key := Value.str (Str.ofString "__doc__") 484, val := Value.none }] 4 }) ::
(nat_lit 216, { cls := Value.type "type", data := Data.cls { name := Str.ofString "KillRing", bases := [Value.type "object"], mro := [Value.ref 216, Value.type "object"], ns := 215, qualname := Str.ofString "KillRing" }, slots := #[none, none, some (Value.str (Str.ofString "KillRing") 456), some (Value.str (Str.ofString "KillRing") 464), some (Value.builtin "object.__new__"), some (Value.bool true)] }) ::
(nat_lit 217, { cls := Value.type "getset_descriptor", data := Data.fields #[Value.str (Str.ofString "__dict__") 480, Value.ref 216, Value.builtin "function.__dict__", Value.builtin "function.__dict__#set"] }) ::
(nat_lit 218, { cls := Value.type "getset_descriptor", data := Data.fields #[Value.str (Str.ofString "__weakref__") 482, Value.ref 216, Value.builtin "ExceptionGroup.__weakref__", Value.none] }) ::
(nat_lit 221, { cls := Value.type "tuple", data := Data.seq #[] }) ::
(nat_lit 223, { cls := Value.type "tuple", data := Data.seq #[Value.str (Str.ofString "ring") 490, Value.str (Str.ofString "piece") 491, Value.str (Str.ofString "is_replacing") 492] }) ::
(nat_lit 224, { cls := Value.type "tuple", data := Data.seq #[] }) ::
(nat_lit 226, { cls := Value.type "code", data := Data.fields #[Value.str (Str.ofString "kill_new") 487, Value.str (Str.ofString "kill_new") 488, Value.str (Str.ofString "/claim/cut.py") 489, Value.int 133 0, Value.int 3 0, Value.int 0 0, Value.int 0 0, Value.int 3 0, Value.ref 221, Value.bool true, Value.int 181 0, Value.ref 222, Value.none, Value.ref 223, Value.ref 224, Value.ref 225, Value.int 493 0, Value.int 133 0, Value.str (Str.ofString "/claim/cut.py") 494] }) ::
(nat_lit 227, { cls := Value.type "function", data := Data.func { name := Str.ofString "kill_new", qualname := Str.ofString "kill_new", params := pS227.1, body := FuncBody.stmts bS227.1, scope := fS227.1, globals := 3, closure := [], defaults := Value.none, kwdefaults := Value.none, pyModule := Value.str (Str.ofString "emacs.killring") 454, code := Value.ref 226 } }) ::
(nat_lit 228, { cls := Value.type "tuple", data := Data.seq #[] }) ::
(nat_lit 230, { cls := Value.type "tuple", data := Data.seq #[Value.str (Str.ofString "ring") 499, Value.str (Str.ofString "piece") 500, Value.str (Str.ofString "is_ahead") 501, Value.str (Str.ofString "newest") 502] }) ::
(nat_lit 231, { cls := Value.type "tuple", data := Data.seq #[] }) ::
(nat_lit 233, { cls := Value.type "code", data := Data.fields #[Value.str (Str.ofString "kill_append") 496, Value.str (Str.ofString "kill_append") 497, Value.str (Str.ofString "/claim/cut.py") 498, Value.int 139 0, Value.int 3 0, Value.int 0 0, Value.int 0 0, Value.int 3 0, Value.ref 228, Value.bool true, Value.int 181 0, Value.ref 229, Value.none, Value.ref 230, Value.ref 231, Value.ref 232, Value.int 503 0, Value.int 139 0, Value.str (Str.ofString "/claim/cut.py") 504] }) ::
(nat_lit 234, { cls := Value.type "function", data := Data.func { name := Str.ofString "kill_append", qualname := Str.ofString "kill_append", params := pS234.1, body := FuncBody.stmts bS234.1, scope := fS234.1, globals := 3, closure := [], defaults := Value.none, kwdefaults := Value.none, pyModule := Value.str (Str.ofString "emacs.killring") 454, code := Value.ref 233 } }) ::
(nat_lit 235, { cls := Value.type "tuple", data := Data.seq #[] }) ::
(nat_lit 237, { cls := Value.type "tuple", data := Data.seq #[Value.str (Str.ofString "ring") 509, Value.str (Str.ofString "by") 510, Value.str (Str.ofString "keeps_pointer") 511, Value.str (Str.ofString "place") 512] }) ::
(nat_lit 238, { cls := Value.type "tuple", data := Data.seq #[] }) ::
(nat_lit 240, { cls := Value.type "code", data := Data.fields #[Value.str (Str.ofString "current_kill") 506, Value.str (Str.ofString "current_kill") 507, Value.str (Str.ofString "/claim/cut.py") 508, Value.int 145 0, Value.int 3 0, Value.int 0 0, Value.int 0 0, Value.int 3 0, Value.ref 235, Value.bool true, Value.int 181 0, Value.ref 236, Value.none, Value.ref 237, Value.ref 238, Value.ref 239, Value.int 513 0, Value.int 145 0, Value.str (Str.ofString "/claim/cut.py") 514] }) ::
(nat_lit 241, { cls := Value.type "function", data := Data.func { name := Str.ofString "current_kill", qualname := Str.ofString "current_kill", params := pS241.1, body := FuncBody.stmts bS241.1, scope := fS241.1, globals := 3, closure := [], defaults := Value.none, kwdefaults := Value.none, pyModule := Value.str (Str.ofString "emacs.killring") 454, code := Value.ref 240 } }) ::
(nat_lit 249, { cls := Value.type "tuple", data := Data.seq #[] }) ::
(nat_lit 251, { cls := Value.type "tuple", data := Data.seq #[Value.str (Str.ofString "self") 533] }) ::
(nat_lit 252, { cls := Value.type "tuple", data := Data.seq #[] }) ::
(nat_lit 254, { cls := Value.type "code", data := Data.fields #[Value.str (Str.ofString "shown") 530, Value.str (Str.ofString "Opaque.shown") 531, Value.str (Str.ofString "/claim/cut.py") 532, Value.int 155 0, Value.int 1 0, Value.int 0 0, Value.int 0 0, Value.int 3 0, Value.ref 249, Value.bool true, Value.int 181 0, Value.ref 250, Value.none, Value.ref 251, Value.ref 252, Value.ref 253, Value.int 534 0, Value.int 155 0, Value.str (Str.ofString "/claim/cut.py") 535] }) ::
(nat_lit 255, { cls := Value.type "function", data := Data.func { name := Str.ofString "shown", qualname := Str.ofString "Opaque.shown", params := pS255.1, body := FuncBody.stmts bS255.1, scope := fS255.1, globals := 3, closure := [], defaults := Value.none, kwdefaults := Value.none, pyModule := Value.str (Str.ofString "emacs.objects") 516, code := Value.ref 254 } }) ::
(nat_lit 256, { cls := Value.type "tuple", data := Data.seq #[] }) ::
(nat_lit 258, { cls := Value.type "tuple", data := Data.seq #[Value.str (Str.ofString "self") 540] }) ::
(nat_lit 259, { cls := Value.type "tuple", data := Data.seq #[] }) ::
(nat_lit 261, { cls := Value.type "code", data := Data.fields #[Value.str (Str.ofString "kind") 537, Value.str (Str.ofString "Opaque.kind") 538, Value.str (Str.ofString "/claim/cut.py") 539, Value.int 158 0, Value.int 1 0, Value.int 0 0, Value.int 0 0, Value.int 3 0, Value.ref 256, Value.bool true, Value.int 181 0, Value.ref 257, Value.none, Value.ref 258, Value.ref 259, Value.ref 260, Value.int 541 0, Value.int 158 0, Value.str (Str.ofString "/claim/cut.py") 542] }) ::
(nat_lit 262, { cls := Value.type "function", data := Data.func { name := Str.ofString "kind", qualname := Str.ofString "Opaque.kind", params := pS262.1, body := FuncBody.stmts bS262.1, scope := fS262.1, globals := 3, closure := [], defaults := Value.none, kwdefaults := Value.none, pyModule := Value.str (Str.ofString "emacs.objects") 516, code := Value.ref 261 } }) ::
(nat_lit 263, { cls := Value.type "tuple", data := Data.seq #[] }) ::
(nat_lit 265, { cls := Value.type "tuple", data := Data.seq #[Value.str (Str.ofString "self") 547, Value.str (Str.ofString "other") 548] }) ::
(nat_lit 266, { cls := Value.type "tuple", data := Data.seq #[] }) ::
(nat_lit 268, { cls := Value.type "code", data := Data.fields #[Value.str (Str.ofString "same_as") 544, Value.str (Str.ofString "Opaque.same_as") 545, Value.str (Str.ofString "/claim/cut.py") 546, Value.int 161 0, Value.int 2 0, Value.int 0 0, Value.int 0 0, Value.int 3 0, Value.ref 263, Value.bool true, Value.int 181 0, Value.ref 264, Value.none, Value.ref 265, Value.ref 266, Value.ref 267, Value.int 549 0, Value.int 161 0, Value.str (Str.ofString "/claim/cut.py") 550] }) ::
(nat_lit 269, { cls := Value.type "function", data := Data.func { name := Str.ofString "same_as", qualname := Str.ofString "Opaque.same_as", params := pS269.1, body := FuncBody.stmts bS269.1, scope := fS269.1, globals := 3, closure := [], defaults := Value.none, kwdefaults := Value.none, pyModule := Value.str (Str.ofString "emacs.objects") 516, code := Value.ref 268 } }) ::
(nat_lit 270, { cls := Value.type "tuple", data := Data.seq #[] }) ::
(nat_lit 271, { cls := Value.type "dict", data := Data.dict #[{ hash := PyData.keyHash P (Str.ofString "__module__"), key := Value.str (Str.ofString "__module__") 525, val := Value.str (Str.ofString "emacs.objects") 516 }, { hash := PyData.keyHash P (Str.ofString "__firstlineno__"), key := Value.str (Str.ofString "__firstlineno__") 529, val := Value.int 153 528 }, { hash := PyData.keyHash P (Str.ofString "shown"), key := Value.str (Str.ofString "shown") 536, val := Value.ref 255 }, { hash := PyData.keyHash P (Str.ofString "kind"), key := Value.str (Str.ofString "kind") 543, val := Value.ref 262 }, { hash := PyData.keyHash P (Str.ofString "same_as"), key := Value.str (Str.ofString "same_as") 551, val := Value.ref 269 }, { hash := PyData.keyHash P (Str.ofString "__static_attributes__"), key := Value.str (Str.ofString "__static_attributes__") 552, val := Value.ref 270 }, { hash := PyData.keyHash P (Str.ofString "__dict__"), key := Value.str (Str.ofString "__dict__") 554, val := Value.ref 273 }, { hash := PyData.keyHash P (Str.ofString "__weakref__"), key := Value.str (Str.ofString "__weakref__") 556, val := Value.ref 274 }, { hash := PyData.keyHash P (Str.ofString "__doc__"), key := Value.str (Str.ofString "__doc__") 557, val := Value.none }] 4 }) ::
(nat_lit 272, { cls := Value.type "type", data := Data.cls { name := Str.ofString "Opaque", bases := [Value.type "object"], mro := [Value.ref 272, Value.type "object"], ns := 271, qualname := Str.ofString "Opaque", subclasses := [Value.ref 314, Value.ref 685] }, slots := #[none, none, some (Value.str (Str.ofString "Opaque") 518), some (Value.str (Str.ofString "Opaque") 526), some (Value.builtin "object.__new__"), some (Value.bool true)] }) ::
(nat_lit 273, { cls := Value.type "getset_descriptor", data := Data.fields #[Value.str (Str.ofString "__dict__") 553, Value.ref 272, Value.builtin "function.__dict__", Value.builtin "function.__dict__#set"] }) ::
(nat_lit 274, { cls := Value.type "getset_descriptor", data := Data.fields #[Value.str (Str.ofString "__weakref__") 555, Value.ref 272, Value.builtin "ExceptionGroup.__weakref__", Value.none] }) ::
(nat_lit 277, { cls := Value.type "tuple", data := Data.seq #[Value.ref 272] }) ::
(nat_lit 284, { cls := Value.type "tuple", data := Data.seq #[] }) ::
(nat_lit 286, { cls := Value.type "tuple", data := Data.seq #[Value.str (Str.ofString "self") 577, Value.str (Str.ofString "number") 578, Value.str (Str.ofString "advances") 579] }) ::
(nat_lit 287, { cls := Value.type "tuple", data := Data.seq #[] }) ::
(nat_lit 289, { cls := Value.type "code", data := Data.fields #[Value.str (Str.ofString "__init__") 574, Value.str (Str.ofString "Marker.__init__") 575, Value.str (Str.ofString "/claim/cut.py") 576, Value.int 166 0, Value.int 3 0, Value.int 0 0, Value.int 0 0, Value.int 3 0, Value.ref 284, Value.bool true, Value.int 181 0, Value.ref 285, Value.none, Value.ref 286, Value.ref 287, Value.ref 288, Value.int 580 0, Value.int 166 0, Value.str (Str.ofString "/claim/cut.py") 581] }) ::
(nat_lit 290, { cls := Value.type "function", data := Data.func { name := Str.ofString "__init__", qualname := Str.ofString "Marker.__init__", params := pS290.1, body := FuncBody.stmts bS290.1, scope := fS290.1, globals := 3, closure := [], defaults := Value.none, kwdefaults := Value.none, pyModule := Value.str (Str.ofString "emacs.markers") 560, code := Value.ref 289 } }) ::
(nat_lit 291, { cls := Value.type "tuple", data := Data.seq #[] }) ::
(nat_lit 293, { cls := Value.type "tuple", data := Data.seq #[Value.str (Str.ofString "self") 586] }) ::
(nat_lit 294, { cls := Value.type "tuple", data := Data.seq #[] }) ::
(nat_lit 296, { cls := Value.type "code", data := Data.fields #[Value.str (Str.ofString "shown") 583, Value.str (Str.ofString "Marker.shown") 584, Value.str (Str.ofString "/claim/cut.py") 585, Value.int 172 0, Value.int 1 0, Value.int 0 0, Value.int 0 0, Value.int 3 0, Value.ref 291, Value.bool true, Value.int 181 0, Value.ref 292, Value.none, Value.ref 293, Value.ref 294, Value.ref 295, Value.int 587 0, Value.int 172 0, Value.str (Str.ofString "/claim/cut.py") 588] }) ::
(nat_lit 297, { cls := Value.type "function", data := Data.func { name := Str.ofString "shown", qualname := Str.ofString "Marker.shown", params := pS297.1, body := FuncBody.stmts bS297.1, scope := fS297.1, globals := 3, closure := [], defaults := Value.none, kwdefaults := Value.none, pyModule := Value.str (Str.ofString "emacs.markers") 560, code := Value.ref 296 } }) ::
(nat_lit 298, { cls := Value.type "tuple", data := Data.seq #[] }) ::
(nat_lit 300, { cls := Value.type "tuple", data := Data.seq #[Value.str (Str.ofString "self") 593] }) ::
(nat_lit 301, { cls := Value.type "tuple", data := Data.seq #[] }) ::
(nat_lit 303, { cls := Value.type "code", data := Data.fields #[Value.str (Str.ofString "kind") 590, Value.str (Str.ofString "Marker.kind") 591, Value.str (Str.ofString "/claim/cut.py") 592, Value.int 175 0, Value.int 1 0, Value.int 0 0, Value.int 0 0, Value.int 3 0, Value.ref 298, Value.bool true, Value.int 181 0, Value.ref 299, Value.none, Value.ref 300, Value.ref 301, Value.ref 302, Value.int 594 0, Value.int 175 0, Value.str (Str.ofString "/claim/cut.py") 595] }) ::
(nat_lit 304, { cls := Value.type "function", data := Data.func { name := Str.ofString "kind", qualname := Str.ofString "Marker.kind", params := pS304.1, body := FuncBody.stmts bS304.1, scope := fS304.1, globals := 3, closure := [], defaults := Value.none, kwdefaults := Value.none, pyModule := Value.str (Str.ofString "emacs.markers") 560, code := Value.ref 303 } }) ::
(nat_lit 305, { cls := Value.type "tuple", data := Data.seq #[] }) ::
(nat_lit 307, { cls := Value.type "tuple", data := Data.seq #[Value.str (Str.ofString "self") 600, Value.str (Str.ofString "other") 601] }) ::
(nat_lit 308, { cls := Value.type "tuple", data := Data.seq #[] }) ::
(nat_lit 310, { cls := Value.type "code", data := Data.fields #[Value.str (Str.ofString "same_as") 597, Value.str (Str.ofString "Marker.same_as") 598, Value.str (Str.ofString "/claim/cut.py") 599, Value.int 178 0, Value.int 2 0, Value.int 0 0, Value.int 0 0, Value.int 3 0, Value.ref 305, Value.bool true, Value.int 181 0, Value.ref 306, Value.none, Value.ref 307, Value.ref 308, Value.ref 309, Value.int 602 0, Value.int 178 0, Value.str (Str.ofString "/claim/cut.py") 603] }) ::
(nat_lit 311, { cls := Value.type "function", data := Data.func { name := Str.ofString "same_as", qualname := Str.ofString "Marker.same_as", params := pS311.1, body := FuncBody.stmts bS311.1, scope := fS311.1, globals := 3, closure := [], defaults := Value.none, kwdefaults := Value.none, pyModule := Value.str (Str.ofString "emacs.markers") 560, code := Value.ref 310 } }) ::
(nat_lit 312, { cls := Value.type "tuple", data := Data.seq #[Value.str (Str.ofString "advances") 605, Value.str (Str.ofString "buffer") 606, Value.str (Str.ofString "number") 607, Value.str (Str.ofString "position") 608] }) ::
(nat_lit 313, { cls := Value.type "dict", data := Data.dict #[{ hash := PyData.keyHash P (Str.ofString "__module__"), key := Value.str (Str.ofString "__module__") 569, val := Value.str (Str.ofString "emacs.markers") 560 }, { hash := PyData.keyHash P (Str.ofString "__firstlineno__"), key := Value.str (Str.ofString "__firstlineno__") 573, val := Value.int 164 572 }, { hash := PyData.keyHash P (Str.ofString "__init__"), key := Value.str (Str.ofString "__init__") 582, val := Value.ref 290 }, { hash := PyData.keyHash P (Str.ofString "shown"), key := Value.str (Str.ofString "shown") 589, val := Value.ref 297 }, { hash := PyData.keyHash P (Str.ofString "kind"), key := Value.str (Str.ofString "kind") 596, val := Value.ref 304 }, { hash := PyData.keyHash P (Str.ofString "same_as"), key := Value.str (Str.ofString "same_as") 604, val := Value.ref 311 }, { hash := PyData.keyHash P (Str.ofString "__static_attributes__"), key := Value.str (Str.ofString "__static_attributes__") 609, val := Value.ref 312 }, { hash := PyData.keyHash P (Str.ofString "__doc__"), key := Value.str (Str.ofString "__doc__") 610, val := Value.none }] 2 }) ::
(nat_lit 314, { cls := Value.type "type", data := Data.cls { name := Str.ofString "Marker", bases := [Value.ref 272], mro := [Value.ref 314, Value.ref 272, Value.type "object"], ns := 313, qualname := Str.ofString "Marker" }, slots := #[some (Value.ref 277), none, some (Value.str (Str.ofString "Marker") 562), some (Value.str (Str.ofString "Marker") 570), some (Value.builtin "object.__new__"), some (Value.bool true)] }) ::
(nat_lit 324, { cls := Value.type "tuple", data := Data.seq #[] }) ::
(nat_lit 326, { cls := Value.type "tuple", data := Data.seq #[Value.str (Str.ofString "self") 628] }) ::
(nat_lit 327, { cls := Value.type "tuple", data := Data.seq #[] }) ::
(nat_lit 329, { cls := Value.type "code", data := Data.fields #[Value.str (Str.ofString "__init__") 625, Value.str (Str.ofString "Markers.__init__") 626, Value.str (Str.ofString "/claim/cut.py") 627, Value.int 182 0, Value.int 1 0, Value.int 0 0, Value.int 0 0, Value.int 3 0, Value.ref 324, Value.bool true, Value.int 181 0, Value.ref 325, Value.none, Value.ref 326, Value.ref 327, Value.ref 328, Value.int 629 0, Value.int 182 0, Value.str (Str.ofString "/claim/cut.py") 630] }) ::
(nat_lit 330, { cls := Value.type "function", data := Data.func { name := Str.ofString "__init__", qualname := Str.ofString "Markers.__init__", params := pS330.1, body := FuncBody.stmts bS330.1, scope := fS330.1, globals := 3, closure := [], defaults := Value.none, kwdefaults := Value.none, pyModule := Value.str (Str.ofString "emacs.markers") 560, code := Value.ref 329 } }) ::
(nat_lit 331, { cls := Value.type "tuple", data := Data.seq #[] }) ::
(nat_lit 333, { cls := Value.type "tuple", data := Data.seq #[Value.str (Str.ofString "self") 635] }) ::
(nat_lit 334, { cls := Value.type "tuple", data := Data.seq #[] }) ::
(nat_lit 336, { cls := Value.type "code", data := Data.fields #[Value.str (Str.ofString "numbers") 632, Value.str (Str.ofString "Markers.numbers") 633, Value.str (Str.ofString "/claim/cut.py") 634, Value.int 185 0, Value.int 1 0, Value.int 0 0, Value.int 0 0, Value.int 3 0, Value.ref 331, Value.bool true, Value.int 181 0, Value.ref 332, Value.none, Value.ref 333, Value.ref 334, Value.ref 335, Value.int 636 0, Value.int 185 0, Value.str (Str.ofString "/claim/cut.py") 637] }) ::
(nat_lit 337, { cls := Value.type "function", data := Data.func { name := Str.ofString "numbers", qualname := Str.ofString "Markers.numbers", params := pS337.1, body := FuncBody.stmts bS337.1, scope := fS337.1, globals := 3, closure := [], defaults := Value.none, kwdefaults := Value.none, pyModule := Value.str (Str.ofString "emacs.markers") 560, code := Value.ref 336 } }) ::
(nat_lit 338, { cls := Value.type "tuple", data := Data.seq #[] }) ::
(nat_lit 340, { cls := Value.type "tuple", data := Data.seq #[Value.str (Str.ofString "self") 642, Value.str (Str.ofString "marker") 643, Value.str (Str.ofString "position") 644] }) ::
(nat_lit 341, { cls := Value.type "tuple", data := Data.seq #[] }) ::
(nat_lit 343, { cls := Value.type "code", data := Data.fields #[Value.str (Str.ofString "put") 639, Value.str (Str.ofString "Markers.put") 640, Value.str (Str.ofString "/claim/cut.py") 641, Value.int 188 0, Value.int 3 0, Value.int 0 0, Value.int 0 0, Value.int 3 0, Value.ref 338, Value.bool true, Value.int 181 0, Value.ref 339, Value.none, Value.ref 340, Value.ref 341, Value.ref 342, Value.int 645 0, Value.int 188 0, Value.str (Str.ofString "/claim/cut.py") 646] }) ::
(nat_lit 344, { cls := Value.type "function", data := Data.func { name := Str.ofString "put", qualname := Str.ofString "Markers.put", params := pS344.1, body := FuncBody.stmts bS344.1, scope := fS344.1, globals := 3, closure := [], defaults := Value.none, kwdefaults := Value.none, pyModule := Value.str (Str.ofString "emacs.markers") 560, code := Value.ref 343 } }) ::
(nat_lit 345, { cls := Value.type "tuple", data := Data.seq #[] }) ::
(nat_lit 347, { cls := Value.type "tuple", data := Data.seq #[Value.str (Str.ofString "self") 651, Value.str (Str.ofString "marker") 652] }) ::
(nat_lit 348, { cls := Value.type "tuple", data := Data.seq #[] }) ::
(nat_lit 350, { cls := Value.type "code", data := Data.fields #[Value.str (Str.ofString "drop") 648, Value.str (Str.ofString "Markers.drop") 649, Value.str (Str.ofString "/claim/cut.py") 650, Value.int 192 0, Value.int 2 0, Value.int 0 0, Value.int 0 0, Value.int 3 0, Value.ref 345, Value.bool true, Value.int 181 0, Value.ref 346, Value.none, Value.ref 347, Value.ref 348, Value.ref 349, Value.int 653 0, Value.int 192 0, Value.str (Str.ofString "/claim/cut.py") 654] }) ::
(nat_lit 351, { cls := Value.type "function", data := Data.func { name := Str.ofString "drop", qualname := Str.ofString "Markers.drop", params := pS351.1, body := FuncBody.stmts bS351.1, scope := fS351.1, globals := 3, closure := [], defaults := Value.none, kwdefaults := Value.none, pyModule := Value.str (Str.ofString "emacs.markers") 560, code := Value.ref 350 } }) ::
(nat_lit 352, { cls := Value.type "tuple", data := Data.seq #[] }) ::
(nat_lit 354, { cls := Value.type "tuple", data := Data.seq #[Value.str (Str.ofString "self") 659, Value.str (Str.ofString "start") 660, Value.str (Str.ofString "end") 661, Value.str (Str.ofString "found") 662, Value.str (Str.ofString "number") 663] }) ::
(nat_lit 355, { cls := Value.type "tuple", data := Data.seq #[] }) ::
(nat_lit 357, { cls := Value.type "code", data := Data.fields #[Value.str (Str.ofString "within") 656, Value.str (Str.ofString "Markers.within") 657, Value.str (Str.ofString "/claim/cut.py") 658, Value.int 196 0, Value.int 3 0, Value.int 0 0, Value.int 0 0, Value.int 3 0, Value.ref 352, Value.bool true, Value.int 181 0, Value.ref 353, Value.none, Value.ref 354, Value.ref 355, Value.ref 356, Value.int 664 0, Value.int 196 0, Value.str (Str.ofString "/claim/cut.py") 665] }) ::
(nat_lit 358, { cls := Value.type "function", data := Data.func { name := Str.ofString "within", qualname := Str.ofString "Markers.within", params := pS358.1, body := FuncBody.stmts bS358.1, scope := fS358.1, globals := 3, closure := [], defaults := Value.none, kwdefaults := Value.none, pyModule := Value.str (Str.ofString "emacs.markers") 560, code := Value.ref 357 } }) ::
(nat_lit 359, { cls := Value.type "tuple", data := Data.seq #[] }) ::
(nat_lit 361, { cls := Value.type "tuple", data := Data.seq #[Value.str (Str.ofString "self") 670, Value.str (Str.ofString "start") 671, Value.str (Str.ofString "end") 672, Value.str (Str.ofString "is_before") 673, Value.str (Str.ofString "number") 674, Value.str (Str.ofString "marker") 675] }) ::
(nat_lit 362, { cls := Value.type "tuple", data := Data.seq #[] }) ::
(nat_lit 364, { cls := Value.type "code", data := Data.fields #[Value.str (Str.ofString "inserted") 667, Value.str (Str.ofString "Markers.inserted") 668, Value.str (Str.ofString "/claim/cut.py") 669, Value.int 203 0, Value.int 4 0, Value.int 0 0, Value.int 0 0, Value.int 3 0, Value.ref 359, Value.bool true, Value.int 181 0, Value.ref 360, Value.none, Value.ref 361, Value.ref 362, Value.ref 363, Value.int 676 0, Value.int 203 0, Value.str (Str.ofString "/claim/cut.py") 677] }) ::
(nat_lit 365, { cls := Value.type "function", data := Data.func { name := Str.ofString "inserted", qualname := Str.ofString "Markers.inserted", params := pS365.1, body := FuncBody.stmts bS365.1, scope := fS365.1, globals := 3, closure := [], defaults := Value.none, kwdefaults := Value.none, pyModule := Value.str (Str.ofString "emacs.markers") 560, code := Value.ref 364 } }) ::
(nat_lit 366, { cls := Value.type "tuple", data := Data.seq #[] }) ::
(nat_lit 368, { cls := Value.type "tuple", data := Data.seq #[Value.str (Str.ofString "self") 682, Value.str (Str.ofString "start") 683, Value.str (Str.ofString "end") 684, Value.str (Str.ofString "number") 685, Value.str (Str.ofString "marker") 686] }) ::
(nat_lit 369, { cls := Value.type "tuple", data := Data.seq #[] }) ::
(nat_lit 371, { cls := Value.type "code", data := Data.fields #[Value.str (Str.ofString "deleted") 679, Value.str (Str.ofString "Markers.deleted") 680, Value.str (Str.ofString "/claim/cut.py") 681, Value.int 209 0, Value.int 3 0, Value.int 0 0, Value.int 0 0, Value.int 3 0, Value.ref 366, Value.bool true, Value.int 181 0, Value.ref 367, Value.none, Value.ref 368, Value.ref 369, Value.ref 370, Value.int 687 0, Value.int 209 0, Value.str (Str.ofString "/claim/cut.py") 688] }) ::
(nat_lit 372, { cls := Value.type "function", data := Data.func { name := Str.ofString "deleted", qualname := Str.ofString "Markers.deleted", params := pS372.1, body := FuncBody.stmts bS372.1, scope := fS372.1, globals := 3, closure := [], defaults := Value.none, kwdefaults := Value.none, pyModule := Value.str (Str.ofString "emacs.markers") 560, code := Value.ref 371 } }) ::
(nat_lit 373, { cls := Value.type "tuple", data := Data.seq #[] }) ::
(nat_lit 375, { cls := Value.type "tuple", data := Data.seq #[Value.str (Str.ofString "self") 693, Value.str (Str.ofString "start") 694, Value.str (Str.ofString "end") 695, Value.str (Str.ofString "many") 696] }) ::
(nat_lit 376, { cls := Value.type "tuple", data := Data.seq #[] }) ::
(nat_lit 378, { cls := Value.type "code", data := Data.fields #[Value.str (Str.ofString "replaced") 690, Value.str (Str.ofString "Markers.replaced") 691, Value.str (Str.ofString "/claim/cut.py") 692, Value.int 217 0, Value.int 4 0, Value.int 0 0, Value.int 0 0, Value.int 3 0, Value.ref 373, Value.bool true, Value.int 181 0, Value.ref 374, Value.none, Value.ref 375, Value.ref 376, Value.ref 377, Value.int 697 0, Value.int 217 0, Value.str (Str.ofString "/claim/cut.py") 698] }) ::
(nat_lit 379, { cls := Value.type "function", data := Data.func { name := Str.ofString "replaced", qualname := Str.ofString "Markers.replaced", params := pS379.1, body := FuncBody.stmts bS379.1, scope := fS379.1, globals := 3, closure := [], defaults := Value.none, kwdefaults := Value.none, pyModule := Value.str (Str.ofString "emacs.markers") 560, code := Value.ref 378 } }) ::
(nat_lit 380, { cls := Value.type "tuple", data := Data.seq #[Value.str (Str.ofString "rows") 700] }) ::
(nat_lit 381, { cls := Value.type "dict", data := Data.dict #[{ hash := PyData.keyHash P (Str.ofString "__module__"), key := Value.str (Str.ofString "__module__") 620, val := Value.str (Str.ofString "emacs.markers") 560 }, { hash := PyData.keyHash P (Str.ofString "__firstlineno__"), key := Value.str (Str.ofString "__firstlineno__") 624, val := Value.int 180 623 }, { hash := PyData.keyHash P (Str.ofString "__init__"), key := Value.str (Str.ofString "__init__") 631, val := Value.ref 330 }, { hash := PyData.keyHash P (Str.ofString "numbers"), key := Value.str (Str.ofString "numbers") 638, val := Value.ref 337 }, { hash := PyData.keyHash P (Str.ofString "put"), key := Value.str (Str.ofString "put") 647, val := Value.ref 344 }, { hash := PyData.keyHash P (Str.ofString "drop"), key := Value.str (Str.ofString "drop") 655, val := Value.ref 351 }, { hash := PyData.keyHash P (Str.ofString "within"), key := Value.str (Str.ofString "within") 666, val := Value.ref 358 }, { hash := PyData.keyHash P (Str.ofString "inserted"), key := Value.str (Str.ofString "inserted") 678, val := Value.ref 365 }, { hash := PyData.keyHash P (Str.ofString "deleted"), key := Value.str (Str.ofString "deleted") 689, val := Value.ref 372 }, { hash := PyData.keyHash P (Str.ofString "replaced"), key := Value.str (Str.ofString "replaced") 699, val := Value.ref 379 }, { hash := PyData.keyHash P (Str.ofString "__static_attributes__"), key := Value.str (Str.ofString "__static_attributes__") 701, val := Value.ref 380 }, { hash := PyData.keyHash P (Str.ofString "__dict__"), key := Value.str (Str.ofString "__dict__") 703, val := Value.ref 383 }, { hash := PyData.keyHash P (Str.ofString "__weakref__"), key := Value.str (Str.ofString "__weakref__") 705, val := Value.ref 384 }, { hash := PyData.keyHash P (Str.ofString "__doc__"), key := Value.str (Str.ofString "__doc__") 706, val := Value.none }] 4 }) ::
(nat_lit 382, { cls := Value.type "type", data := Data.cls { name := Str.ofString "Markers", bases := [Value.type "object"], mro := [Value.ref 382, Value.type "object"], ns := 381, qualname := Str.ofString "Markers" }, slots := #[none, none, some (Value.str (Str.ofString "Markers") 613), some (Value.str (Str.ofString "Markers") 621), some (Value.builtin "object.__new__"), some (Value.bool true)] }) ::
(nat_lit 383, { cls := Value.type "getset_descriptor", data := Data.fields #[Value.str (Str.ofString "__dict__") 702, Value.ref 382, Value.builtin "function.__dict__", Value.builtin "function.__dict__#set"] }) ::
(nat_lit 384, { cls := Value.type "getset_descriptor", data := Data.fields #[Value.str (Str.ofString "__weakref__") 704, Value.ref 382, Value.builtin "ExceptionGroup.__weakref__", Value.none] }) ::
(nat_lit 387, { cls := Value.type "tuple", data := Data.seq #[] }) ::
(nat_lit 389, { cls := Value.type "tuple", data := Data.seq #[Value.str (Str.ofString "marker") 714, Value.str (Str.ofString "buffer") 715, Value.str (Str.ofString "place") 716] }) ::
(nat_lit 390, { cls := Value.type "tuple", data := Data.seq #[] }) ::
(nat_lit 392, { cls := Value.type "code", data := Data.fields #[Value.str (Str.ofString "set_marker") 711, Value.str (Str.ofString "set_marker") 712, Value.str (Str.ofString "/claim/cut.py") 713, Value.int 220 0, Value.int 3 0, Value.int 0 0, Value.int 0 0, Value.int 3 0, Value.ref 387, Value.bool true, Value.int 181 0, Value.ref 388, Value.none, Value.ref 389, Value.ref 390, Value.ref 391, Value.int 717 0, Value.int 220 0, Value.str (Str.ofString "/claim/cut.py") 718] }) ::
(nat_lit 393, { cls := Value.type "function", data := Data.func { name := Str.ofString "set_marker", qualname := Str.ofString "set_marker", params := pS393.1, body := FuncBody.stmts bS393.1, scope := fS393.1, globals := 3, closure := [], defaults := Value.none, kwdefaults := Value.none, pyModule := Value.str (Str.ofString "emacs.placing") 709, code := Value.ref 392 } }) ::
(nat_lit 401, { cls := Value.type "tuple", data := Data.seq #[] }) ::
(nat_lit 403, { cls := Value.type "tuple", data := Data.seq #[Value.str (Str.ofString "self") 739, Value.str (Str.ofString "most") 740] }) ::
(nat_lit 404, { cls := Value.type "tuple", data := Data.seq #[] }) ::
(nat_lit 406, { cls := Value.type "code", data := Data.fields #[Value.str (Str.ofString "__init__") 736, Value.str (Str.ofString "MarkRing.__init__") 737, Value.str (Str.ofString "/claim/cut.py") 738, Value.int 232 0, Value.int 2 0, Value.int 0 0, Value.int 0 0, Value.int 3 0, Value.ref 401, Value.bool true, Value.int 181 0, Value.ref 402, Value.none, Value.ref 403, Value.ref 404, Value.ref 405, Value.int 741 0, Value.int 232 0, Value.str (Str.ofString "/claim/cut.py") 742] }) ::
(nat_lit 407, { cls := Value.type "function", data := Data.func { name := Str.ofString "__init__", qualname := Str.ofString "MarkRing.__init__", params := pS407.1, body := FuncBody.stmts bS407.1, scope := fS407.1, globals := 3, closure := [], defaults := Value.none, kwdefaults := Value.none, pyModule := Value.str (Str.ofString "emacs.marks") 720, code := Value.ref 406 } }) ::
(nat_lit 408, { cls := Value.type "tuple", data := Data.seq #[Value.str (Str.ofString "last") 744, Value.str (Str.ofString "markers") 745, Value.str (Str.ofString "most") 746] }) ::
(nat_lit 409, { cls := Value.type "dict", data := Data.dict #[{ hash := PyData.keyHash P (Str.ofString "__module__"), key := Value.str (Str.ofString "__module__") 731, val := Value.str (Str.ofString "emacs.marks") 720 }, { hash := PyData.keyHash P (Str.ofString "__firstlineno__"), key := Value.str (Str.ofString "__firstlineno__") 735, val := Value.int 230 734 }, { hash := PyData.keyHash P (Str.ofString "__init__"), key := Value.str (Str.ofString "__init__") 743, val := Value.ref 407 }, { hash := PyData.keyHash P (Str.ofString "__static_attributes__"), key := Value.str (Str.ofString "__static_attributes__") 747, val := Value.ref 408 }, { hash := PyData.keyHash P (Str.ofString "__dict__"), key := Value.str (Str.ofString "__dict__") 749, val := Value.ref 411 }, { hash := PyData.keyHash P (Str.ofString "__weakref__"), key := Value.str (Str.ofString "__weakref__") 751, val := Value.ref 412 }, { hash := PyData.keyHash P (Str.ofString "__doc__"), key := Value.str (Str.ofString "__doc__") 752, val := Value.none }] 4 }) ::
(nat_lit 410, { cls := Value.type "type", data := Data.cls { name := Str.ofString "MarkRing", bases := [Value.type "object"], mro := [Value.ref 410, Value.type "object"], ns := 409, qualname := Str.ofString "MarkRing" }, slots := #[none, none, some (Value.str (Str.ofString "MarkRing") 724), some (Value.str (Str.ofString "MarkRing") 732), some (Value.builtin "object.__new__"), some (Value.bool true)] }) ::
(nat_lit 411, { cls := Value.type "getset_descriptor", data := Data.fields #[Value.str (Str.ofString "__dict__") 748, Value.ref 410, Value.builtin "function.__dict__", Value.builtin "function.__dict__#set"] }) ::
(nat_lit 412, { cls := Value.type "getset_descriptor", data := Data.fields #[Value.str (Str.ofString "__weakref__") 750, Value.ref 410, Value.builtin "ExceptionGroup.__weakref__", Value.none] }) ::
(nat_lit 415, { cls := Value.type "tuple", data := Data.seq #[] }) ::
(nat_lit 417, { cls := Value.type "tuple", data := Data.seq #[Value.str (Str.ofString "buffer") 758, Value.str (Str.ofString "place") 759] }) ::
(nat_lit 418, { cls := Value.type "tuple", data := Data.seq #[] }) ::
(nat_lit 420, { cls := Value.type "code", data := Data.fields #[Value.str (Str.ofString "set_mark") 755, Value.str (Str.ofString "set_mark") 756, Value.str (Str.ofString "/claim/cut.py") 757, Value.int 236 0, Value.int 2 0, Value.int 0 0, Value.int 0 0, Value.int 3 0, Value.ref 415, Value.bool true, Value.int 181 0, Value.ref 416, Value.none, Value.ref 417, Value.ref 418, Value.ref 419, Value.int 760 0, Value.int 236 0, Value.str (Str.ofString "/claim/cut.py") 761] }) ::
(nat_lit 421, { cls := Value.type "function", data := Data.func { name := Str.ofString "set_mark", qualname := Str.ofString "set_mark", params := pS421.1, body := FuncBody.stmts bS421.1, scope := fS421.1, globals := 3, closure := [], defaults := Value.none, kwdefaults := Value.none, pyModule := Value.str (Str.ofString "emacs.marks") 720, code := Value.ref 420 } }) ::
(nat_lit 422, { cls := Value.type "tuple", data := Data.seq #[] }) ::
(nat_lit 424, { cls := Value.type "tuple", data := Data.seq #[Value.str (Str.ofString "buffer") 766] }) ::
(nat_lit 425, { cls := Value.type "tuple", data := Data.seq #[] }) ::
(nat_lit 427, { cls := Value.type "code", data := Data.fields #[Value.str (Str.ofString "has_mark") 763, Value.str (Str.ofString "has_mark") 764, Value.str (Str.ofString "/claim/cut.py") 765, Value.int 240 0, Value.int 1 0, Value.int 0 0, Value.int 0 0, Value.int 3 0, Value.ref 422, Value.bool true, Value.int 181 0, Value.ref 423, Value.none, Value.ref 424, Value.ref 425, Value.ref 426, Value.int 767 0, Value.int 240 0, Value.str (Str.ofString "/claim/cut.py") 768] }) ::
(nat_lit 428, { cls := Value.type "function", data := Data.func { name := Str.ofString "has_mark", qualname := Str.ofString "has_mark", params := pS428.1, body := FuncBody.stmts bS428.1, scope := fS428.1, globals := 3, closure := [], defaults := Value.none, kwdefaults := Value.none, pyModule := Value.str (Str.ofString "emacs.marks") 720, code := Value.ref 427 } }) ::
(nat_lit 429, { cls := Value.type "tuple", data := Data.seq #[] }) ::
(nat_lit 431, { cls := Value.type "tuple", data := Data.seq #[Value.str (Str.ofString "buffer") 773] }) ::
(nat_lit 432, { cls := Value.type "tuple", data := Data.seq #[] }) ::
(nat_lit 434, { cls := Value.type "code", data := Data.fields #[Value.str (Str.ofString "mark_place") 770, Value.str (Str.ofString "mark_place") 771, Value.str (Str.ofString "/claim/cut.py") 772, Value.int 242 0, Value.int 1 0, Value.int 0 0, Value.int 0 0, Value.int 3 0, Value.ref 429, Value.bool true, Value.int 181 0, Value.ref 430, Value.none, Value.ref 431, Value.ref 432, Value.ref 433, Value.int 774 0, Value.int 242 0, Value.str (Str.ofString "/claim/cut.py") 775] }) ::
(nat_lit 435, { cls := Value.type "function", data := Data.func { name := Str.ofString "mark_place", qualname := Str.ofString "mark_place", params := pS435.1, body := FuncBody.stmts bS435.1, scope := fS435.1, globals := 3, closure := [], defaults := Value.none, kwdefaults := Value.none, pyModule := Value.str (Str.ofString "emacs.marks") 720, code := Value.ref 434 } }) ::
(nat_lit 436, { cls := Value.type "tuple", data := Data.seq #[] }) ::
(nat_lit 438, { cls := Value.type "tuple", data := Data.seq #[Value.str (Str.ofString "ring") 780, Value.str (Str.ofString "buffer") 781, Value.str (Str.ofString "place") 782, Value.str (Str.ofString "marker") 783] }) ::
(nat_lit 439, { cls := Value.type "tuple", data := Data.seq #[] }) ::
(nat_lit 441, { cls := Value.type "code", data := Data.fields #[Value.str (Str.ofString "ring_marker") 777, Value.str (Str.ofString "ring_marker") 778, Value.str (Str.ofString "/claim/cut.py") 779, Value.int 246 0, Value.int 3 0, Value.int 0 0, Value.int 0 0, Value.int 3 0, Value.ref 436, Value.bool true, Value.int 181 0, Value.ref 437, Value.none, Value.ref 438, Value.ref 439, Value.ref 440, Value.int 784 0, Value.int 246 0, Value.str (Str.ofString "/claim/cut.py") 785] }) ::
(nat_lit 442, { cls := Value.type "function", data := Data.func { name := Str.ofString "ring_marker", qualname := Str.ofString "ring_marker", params := pS442.1, body := FuncBody.stmts bS442.1, scope := fS442.1, globals := 3, closure := [], defaults := Value.none, kwdefaults := Value.none, pyModule := Value.str (Str.ofString "emacs.marks") 720, code := Value.ref 441 } }) ::
(nat_lit 443, { cls := Value.type "tuple", data := Data.seq #[] }) ::
(nat_lit 445, { cls := Value.type "tuple", data := Data.seq #[Value.str (Str.ofString "ring") 790, Value.str (Str.ofString "buffer") 791, Value.str (Str.ofString "place") 792, Value.str (Str.ofString "marker") 793] }) ::
(nat_lit 446, { cls := Value.type "tuple", data := Data.seq #[] }) ::
(nat_lit 448, { cls := Value.type "code", data := Data.fields #[Value.str (Str.ofString "push_mark") 787, Value.str (Str.ofString "push_mark") 788, Value.str (Str.ofString "/claim/cut.py") 789, Value.int 251 0, Value.int 3 0, Value.int 0 0, Value.int 0 0, Value.int 3 0, Value.ref 443, Value.bool true, Value.int 181 0, Value.ref 444, Value.none, Value.ref 445, Value.ref 446, Value.ref 447, Value.int 794 0, Value.int 251 0, Value.str (Str.ofString "/claim/cut.py") 795] }) ::
(nat_lit 449, { cls := Value.type "function", data := Data.func { name := Str.ofString "push_mark", qualname := Str.ofString "push_mark", params := pS449.1, body := FuncBody.stmts bS449.1, scope := fS449.1, globals := 3, closure := [], defaults := Value.none, kwdefaults := Value.none, pyModule := Value.str (Str.ofString "emacs.marks") 720, code := Value.ref 448 } }) ::
(nat_lit 450, { cls := Value.type "tuple", data := Data.seq #[] }) ::
(nat_lit 453, { cls := Value.type "code", data := Data.fields #[Value.str (Str.ofString "plist_rows") 799, Value.str (Str.ofString "plist_rows") 800, Value.str (Str.ofString "/claim/cut.py") 801, Value.int 259 0, Value.int 3 0, Value.int 0 0, Value.int 0 0, Value.int 3 0, Value.ref 450, Value.bool true, Value.int 181 0, Value.ref 451, Value.none, Value.none, Value.none, Value.ref 452, Value.int 802 0, Value.int 259 0, Value.str (Str.ofString "/claim/cut.py") 803] }) ::
(nat_lit 454, { cls := Value.type "function", data := Data.func { name := Str.ofString "plist_rows", qualname := Str.ofString "plist_rows", params := pS454.1, body := FuncBody.stmts bS454.1, scope := fS454.1, globals := 3, closure := [], defaults := Value.none, kwdefaults := Value.none, pyModule := Value.str (Str.ofString "emacs.piecing") 797, code := Value.ref 453 } }) ::
(nat_lit 455, { cls := Value.type "tuple", data := Data.seq #[] }) ::
(nat_lit 458, { cls := Value.type "code", data := Data.fields #[Value.str (Str.ofString "piece_of") 805, Value.str (Str.ofString "piece_of") 806, Value.str (Str.ofString "/claim/cut.py") 807, Value.int 263 0, Value.int 3 0, Value.int 0 0, Value.int 0 0, Value.int 3 0, Value.ref 455, Value.bool true, Value.int 181 0, Value.ref 456, Value.none, Value.none, Value.none, Value.ref 457, Value.int 808 0, Value.int 263 0, Value.str (Str.ofString "/claim/cut.py") 809] }) ::
(nat_lit 459, { cls := Value.type "function", data := Data.func { name := Str.ofString "piece_of", qualname := Str.ofString "piece_of", params := pS459.1, body := FuncBody.stmts bS459.1, scope := fS459.1, globals := 3, closure := [], defaults := Value.none, kwdefaults := Value.none, pyModule := Value.str (Str.ofString "emacs.piecing") 797, code := Value.ref 458 } }) ::
(nat_lit 460, { cls := Value.type "tuple", data := Data.seq #[] }) ::
(nat_lit 463, { cls := Value.type "code", data := Data.fields #[Value.str (Str.ofString "insert_piece") 811, Value.str (Str.ofString "insert_piece") 812, Value.str (Str.ofString "/claim/cut.py") 813, Value.int 266 0, Value.int 2 0, Value.int 0 0, Value.int 0 0, Value.int 3 0, Value.ref 460, Value.bool true, Value.int 181 0, Value.ref 461, Value.none, Value.none, Value.none, Value.ref 462, Value.int 814 0, Value.int 266 0, Value.str (Str.ofString "/claim/cut.py") 815] }) ::
(nat_lit 464, { cls := Value.type "function", data := Data.func { name := Str.ofString "insert_piece", qualname := Str.ofString "insert_piece", params := pS464.1, body := FuncBody.stmts bS464.1, scope := fS464.1, globals := 3, closure := [], defaults := Value.none, kwdefaults := Value.none, pyModule := Value.str (Str.ofString "emacs.piecing") 797, code := Value.ref 463 } }) ::
(nat_lit 465, { cls := Value.type "tuple", data := Data.seq #[] }) ::
(nat_lit 467, { cls := Value.type "tuple", data := Data.seq #[Value.str (Str.ofString "ring") 822, Value.str (Str.ofString "piece") 823, Value.str (Str.ofString "goes_on") 824, Value.str (Str.ofString "is_ahead") 825] }) ::
(nat_lit 468, { cls := Value.type "tuple", data := Data.seq #[] }) ::
(nat_lit 470, { cls := Value.type "code", data := Data.fields #[Value.str (Str.ofString "save_kill") 819, Value.str (Str.ofString "save_kill") 820, Value.str (Str.ofString "/claim/cut.py") 821, Value.int 274 0, Value.int 4 0, Value.int 0 0, Value.int 0 0, Value.int 3 0, Value.ref 465, Value.bool true, Value.int 181 0, Value.ref 466, Value.none, Value.ref 467, Value.ref 468, Value.ref 469, Value.int 826 0, Value.int 274 0, Value.str (Str.ofString "/claim/cut.py") 827] }) ::
(nat_lit 471, { cls := Value.type "function", data := Data.func { name := Str.ofString "save_kill", qualname := Str.ofString "save_kill", params := pS471.1, body := FuncBody.stmts bS471.1, scope := fS471.1, globals := 3, closure := [], defaults := Value.none, kwdefaults := Value.none, pyModule := Value.str (Str.ofString "emacs.yanking") 817, code := Value.ref 470 } }) ::
(nat_lit 472, { cls := Value.type "tuple", data := Data.seq #[] }) ::
(nat_lit 474, { cls := Value.type "tuple", data := Data.seq #[Value.str (Str.ofString "buffer") 832, Value.str (Str.ofString "ring") 833, Value.str (Str.ofString "start") 834, Value.str (Str.ofString "end") 835, Value.str (Str.ofString "goes_on") 836, Value.str (Str.ofString "low") 837, Value.str (Str.ofString "high") 838] }) ::
(nat_lit 475, { cls := Value.type "tuple", data := Data.seq #[] }) ::
(nat_lit 477, { cls := Value.type "code", data := Data.fields #[Value.str (Str.ofString "kill_region") 829, Value.str (Str.ofString "kill_region") 830, Value.str (Str.ofString "/claim/cut.py") 831, Value.int 279 0, Value.int 5 0, Value.int 0 0, Value.int 0 0, Value.int 3 0, Value.ref 472, Value.bool true, Value.int 181 0, Value.ref 473, Value.none, Value.ref 474, Value.ref 475, Value.ref 476, Value.int 839 0, Value.int 279 0, Value.str (Str.ofString "/claim/cut.py") 840] }) ::
(nat_lit 478, { cls := Value.type "function", data := Data.func { name := Str.ofString "kill_region", qualname := Str.ofString "kill_region", params := pS478.1, body := FuncBody.stmts bS478.1, scope := fS478.1, globals := 3, closure := [], defaults := Value.none, kwdefaults := Value.none, pyModule := Value.str (Str.ofString "emacs.yanking") 817, code := Value.ref 477 } }) ::
(nat_lit 479, { cls := Value.type "tuple", data := Data.seq #[] }) ::
(nat_lit 481, { cls := Value.type "tuple", data := Data.seq #[Value.str (Str.ofString "buffer") 845, Value.str (Str.ofString "place") 846] }) ::
(nat_lit 482, { cls := Value.type "tuple", data := Data.seq #[] }) ::
(nat_lit 484, { cls := Value.type "code", data := Data.fields #[Value.str (Str.ofString "swap_point_and_mark") 842, Value.str (Str.ofString "swap_point_and_mark") 843, Value.str (Str.ofString "/claim/cut.py") 844, Value.int 285 0, Value.int 1 0, Value.int 0 0, Value.int 0 0, Value.int 3 0, Value.ref 479, Value.bool true, Value.int 181 0, Value.ref 480, Value.none, Value.ref 481, Value.ref 482, Value.ref 483, Value.int 847 0, Value.int 285 0, Value.str (Str.ofString "/claim/cut.py") 848] }) ::
(nat_lit 485, { cls := Value.type "function", data := Data.func { name := Str.ofString "swap_point_and_mark", qualname := Str.ofString "swap_point_and_mark", params := pS485.1, body := FuncBody.stmts bS485.1, scope := fS485.1, globals := 3, closure := [], defaults := Value.none, kwdefaults := Value.none, pyModule := Value.str (Str.ofString "emacs.yanking") 817, code := Value.ref 484 } }) ::
(nat_lit 486, { cls := Value.type "tuple", data := Data.seq #[] }) ::
(nat_lit 488, { cls := Value.type "tuple", data := Data.seq #[Value.str (Str.ofString "buffer") 853, Value.str (Str.ofString "ring") 854, Value.str (Str.ofString "marks") 855, Value.str (Str.ofString "count") 856, Value.str (Str.ofString "is_swapped") 857, Value.str (Str.ofString "excluded") 858, Value.str (Str.ofString "piece") 859] }) ::
(nat_lit 489, { cls := Value.type "tuple", data := Data.seq #[] }) ::
(nat_lit 491, { cls := Value.type "code", data := Data.fields #[Value.str (Str.ofString "yank") 850, Value.str (Str.ofString "yank") 851, Value.str (Str.ofString "/claim/cut.py") 852, Value.int 289 0, Value.int 6 0, Value.int 0 0, Value.int 0 0, Value.int 3 0, Value.ref 486, Value.bool true, Value.int 181 0, Value.ref 487, Value.none, Value.ref 488, Value.ref 489, Value.ref 490, Value.int 860 0, Value.int 289 0, Value.str (Str.ofString "/claim/cut.py") 861] }) ::
(nat_lit 492, { cls := Value.type "function", data := Data.func { name := Str.ofString "yank", qualname := Str.ofString "yank", params := pS492.1, body := FuncBody.stmts bS492.1, scope := fS492.1, globals := 3, closure := [], defaults := Value.none, kwdefaults := Value.none, pyModule := Value.str (Str.ofString "emacs.yanking") 817, code := Value.ref 491 } }) ::
(nat_lit 500, { cls := Value.type "tuple", data := Data.seq #[] }) ::
(nat_lit 502, { cls := Value.type "tuple", data := Data.seq #[Value.str (Str.ofString "self") 880, Value.str (Str.ofString "codes") 881, Value.str (Str.ofString "room") 882] }) ::
(nat_lit 503, { cls := Value.type "tuple", data := Data.seq #[] }) ::
(nat_lit 505, { cls := Value.type "code", data := Data.fields #[Value.str (Str.ofString "__init__") 877, Value.str (Str.ofString "GapText.__init__") 878, Value.str (Str.ofString "/claim/cut.py") 879, Value.int 299 0, Value.int 3 0, Value.int 0 0, Value.int 0 0, Value.int 3 0, Value.ref 500, Value.bool true, Value.int 181 0, Value.ref 501, Value.none, Value.ref 502, Value.ref 503, Value.ref 504, Value.int 883 0, Value.int 299 0, Value.str (Str.ofString "/claim/cut.py") 884] }) ::
(nat_lit 506, { cls := Value.type "function", data := Data.func { name := Str.ofString "__init__", qualname := Str.ofString "GapText.__init__", params := pS506.1, body := FuncBody.stmts bS506.1, scope := fS506.1, globals := 3, closure := [], defaults := Value.none, kwdefaults := Value.none, pyModule := Value.str (Str.ofString "emacs.gap") 863, code := Value.ref 505 } }) ::
(nat_lit 507, { cls := Value.type "tuple", data := Data.seq #[] }) ::
(nat_lit 509, { cls := Value.type "tuple", data := Data.seq #[Value.str (Str.ofString "self") 889] }) ::
(nat_lit 510, { cls := Value.type "tuple", data := Data.seq #[] }) ::
(nat_lit 512, { cls := Value.type "code", data := Data.fields #[Value.str (Str.ofString "size") 886, Value.str (Str.ofString "GapText.size") 887, Value.str (Str.ofString "/claim/cut.py") 888, Value.int 305 0, Value.int 1 0, Value.int 0 0, Value.int 0 0, Value.int 3 0, Value.ref 507, Value.bool true, Value.int 181 0, Value.ref 508, Value.none, Value.ref 509, Value.ref 510, Value.ref 511, Value.int 890 0, Value.int 305 0, Value.str (Str.ofString "/claim/cut.py") 891] }) ::
(nat_lit 513, { cls := Value.type "function", data := Data.func { name := Str.ofString "size", qualname := Str.ofString "GapText.size", params := pS513.1, body := FuncBody.stmts bS513.1, scope := fS513.1, globals := 3, closure := [], defaults := Value.none, kwdefaults := Value.none, pyModule := Value.str (Str.ofString "emacs.gap") 863, code := Value.ref 512 } }) ::
(nat_lit 514, { cls := Value.type "tuple", data := Data.seq #[] }) ::
(nat_lit 516, { cls := Value.type "tuple", data := Data.seq #[Value.str (Str.ofString "self") 896, Value.str (Str.ofString "at") 897] }) ::
(nat_lit 517, { cls := Value.type "tuple", data := Data.seq #[] }) ::
(nat_lit 519, { cls := Value.type "code", data := Data.fields #[Value.str (Str.ofString "code") 893, Value.str (Str.ofString "GapText.code") 894, Value.str (Str.ofString "/claim/cut.py") 895, Value.int 308 0, Value.int 2 0, Value.int 0 0, Value.int 0 0, Value.int 3 0, Value.ref 514, Value.bool true, Value.int 181 0, Value.ref 515, Value.none, Value.ref 516, Value.ref 517, Value.ref 518, Value.int 898 0, Value.int 308 0, Value.str (Str.ofString "/claim/cut.py") 899] }) ::
(nat_lit 520, { cls := Value.type "function", data := Data.func { name := Str.ofString "code", qualname := Str.ofString "GapText.code", params := pS520.1, body := FuncBody.stmts bS520.1, scope := fS520.1, globals := 3, closure := [], defaults := Value.none, kwdefaults := Value.none, pyModule := Value.str (Str.ofString "emacs.gap") 863, code := Value.ref 519 } }) ::
(nat_lit 521, { cls := Value.type "tuple", data := Data.seq #[] }) ::
(nat_lit 523, { cls := Value.type "tuple", data := Data.seq #[Value.str (Str.ofString "self") 904, Value.str (Str.ofString "start") 905, Value.str (Str.ofString "end") 906, Value.str (Str.ofString "shift") 907] }) ::
(nat_lit 524, { cls := Value.type "tuple", data := Data.seq #[] }) ::
(nat_lit 526, { cls := Value.type "code", data := Data.fields #[Value.str (Str.ofString "codes") 901, Value.str (Str.ofString "GapText.codes") 902, Value.str (Str.ofString "/claim/cut.py") 903, Value.int 313 0, Value.int 3 0, Value.int 0 0, Value.int 0 0, Value.int 3 0, Value.ref 521, Value.bool true, Value.int 181 0, Value.ref 522, Value.none, Value.ref 523, Value.ref 524, Value.ref 525, Value.int 908 0, Value.int 313 0, Value.str (Str.ofString "/claim/cut.py") 909] }) ::
(nat_lit 527, { cls := Value.type "function", data := Data.func { name := Str.ofString "codes", qualname := Str.ofString "GapText.codes", params := pS527.1, body := FuncBody.stmts bS527.1, scope := fS527.1, globals := 3, closure := [], defaults := Value.none, kwdefaults := Value.none, pyModule := Value.str (Str.ofString "emacs.gap") 863, code := Value.ref 526 } }) ::
(nat_lit 528, { cls := Value.type "tuple", data := Data.seq #[] }) ::
(nat_lit 530, { cls := Value.type "tuple", data := Data.seq #[Value.str (Str.ofString "self") 914, Value.str (Str.ofString "at") 915, Value.str (Str.ofString "moved") 916] }) ::
(nat_lit 531, { cls := Value.type "tuple", data := Data.seq #[] }) ::
(nat_lit 533, { cls := Value.type "code", data := Data.fields #[Value.str (Str.ofString "move_gap") 911, Value.str (Str.ofString "GapText.move_gap") 912, Value.str (Str.ofString "/claim/cut.py") 913, Value.int 321 0, Value.int 2 0, Value.int 0 0, Value.int 0 0, Value.int 3 0, Value.ref 528, Value.bool true, Value.int 181 0, Value.ref 529, Value.none, Value.ref 530, Value.ref 531, Value.ref 532, Value.int 917 0, Value.int 321 0, Value.str (Str.ofString "/claim/cut.py") 918] }) ::
(nat_lit 534, { cls := Value.type "function", data := Data.func { name := Str.ofString "move_gap", qualname := Str.ofString "GapText.move_gap", params := pS534.1, body := FuncBody.stmts bS534.1, scope := fS534.1, globals := 3, closure := [], defaults := Value.none, kwdefaults := Value.none, pyModule := Value.str (Str.ofString "emacs.gap") 863, code := Value.ref 533 } }) ::
(nat_lit 535, { cls := Value.type "tuple", data := Data.seq #[] }) ::
(nat_lit 537, { cls := Value.type "tuple", data := Data.seq #[Value.str (Str.ofString "self") 923, Value.str (Str.ofString "wanted") 924, Value.str (Str.ofString "lack") 925] }) ::
(nat_lit 538, { cls := Value.type "tuple", data := Data.seq #[] }) ::
(nat_lit 540, { cls := Value.type "code", data := Data.fields #[Value.str (Str.ofString "widen_gap") 920, Value.str (Str.ofString "GapText.widen_gap") 921, Value.str (Str.ofString "/claim/cut.py") 922, Value.int 332 0, Value.int 2 0, Value.int 0 0, Value.int 0 0, Value.int 3 0, Value.ref 535, Value.bool true, Value.int 181 0, Value.ref 536, Value.none, Value.ref 537, Value.ref 538, Value.ref 539, Value.int 926 0, Value.int 332 0, Value.str (Str.ofString "/claim/cut.py") 927] }) ::
(nat_lit 541, { cls := Value.type "function", data := Data.func { name := Str.ofString "widen_gap", qualname := Str.ofString "GapText.widen_gap", params := pS541.1, body := FuncBody.stmts bS541.1, scope := fS541.1, globals := 3, closure := [], defaults := Value.none, kwdefaults := Value.none, pyModule := Value.str (Str.ofString "emacs.gap") 863, code := Value.ref 540 } }) ::
(nat_lit 542, { cls := Value.type "tuple", data := Data.seq #[] }) ::
(nat_lit 544, { cls := Value.type "tuple", data := Data.seq #[Value.str (Str.ofString "self") 932, Value.str (Str.ofString "at") 933, Value.str (Str.ofString "codes") 934] }) ::
(nat_lit 545, { cls := Value.type "tuple", data := Data.seq #[] }) ::
(nat_lit 547, { cls := Value.type "code", data := Data.fields #[Value.str (Str.ofString "insert") 929, Value.str (Str.ofString "GapText.insert") 930, Value.str (Str.ofString "/claim/cut.py") 931, Value.int 338 0, Value.int 3 0, Value.int 0 0, Value.int 0 0, Value.int 3 0, Value.ref 542, Value.bool true, Value.int 181 0, Value.ref 543, Value.none, Value.ref 544, Value.ref 545, Value.ref 546, Value.int 935 0, Value.int 338 0, Value.str (Str.ofString "/claim/cut.py") 936] }) ::
(nat_lit 548, { cls := Value.type "function", data := Data.func { name := Str.ofString "insert", qualname := Str.ofString "GapText.insert", params := pS548.1, body := FuncBody.stmts bS548.1, scope := fS548.1, globals := 3, closure := [], defaults := Value.none, kwdefaults := Value.none, pyModule := Value.str (Str.ofString "emacs.gap") 863, code := Value.ref 547 } }) ::
(nat_lit 549, { cls := Value.type "tuple", data := Data.seq #[] }) ::
(nat_lit 551, { cls := Value.type "tuple", data := Data.seq #[Value.str (Str.ofString "self") 941, Value.str (Str.ofString "start") 942, Value.str (Str.ofString "end") 943, Value.str (Str.ofString "gone") 944] }) ::
(nat_lit 552, { cls := Value.type "tuple", data := Data.seq #[] }) ::
(nat_lit 554, { cls := Value.type "code", data := Data.fields #[Value.str (Str.ofString "delete") 938, Value.str (Str.ofString "GapText.delete") 939, Value.str (Str.ofString "/claim/cut.py") 940, Value.int 344 0, Value.int 3 0, Value.int 0 0, Value.int 0 0, Value.int 3 0, Value.ref 549, Value.bool true, Value.int 181 0, Value.ref 550, Value.none, Value.ref 551, Value.ref 552, Value.ref 553, Value.int 945 0, Value.int 344 0, Value.str (Str.ofString "/claim/cut.py") 946] }) ::
(nat_lit 555, { cls := Value.type "function", data := Data.func { name := Str.ofString "delete", qualname := Str.ofString "GapText.delete", params := pS555.1, body := FuncBody.stmts bS555.1, scope := fS555.1, globals := 3, closure := [], defaults := Value.none, kwdefaults := Value.none, pyModule := Value.str (Str.ofString "emacs.gap") 863, code := Value.ref 554 } }) ::
(nat_lit 556, { cls := Value.type "tuple", data := Data.seq #[] }) ::
(nat_lit 558, { cls := Value.type "tuple", data := Data.seq #[Value.str (Str.ofString "self") 951, Value.str (Str.ofString "at") 952, Value.str (Str.ofString "code") 953] }) ::
(nat_lit 559, { cls := Value.type "tuple", data := Data.seq #[] }) ::
(nat_lit 561, { cls := Value.type "code", data := Data.fields #[Value.str (Str.ofString "put") 948, Value.str (Str.ofString "GapText.put") 949, Value.str (Str.ofString "/claim/cut.py") 950, Value.int 354 0, Value.int 3 0, Value.int 0 0, Value.int 0 0, Value.int 3 0, Value.ref 556, Value.bool true, Value.int 181 0, Value.ref 557, Value.none, Value.ref 558, Value.ref 559, Value.ref 560, Value.int 954 0, Value.int 354 0, Value.str (Str.ofString "/claim/cut.py") 955] }) ::
(nat_lit 562, { cls := Value.type "function", data := Data.func { name := Str.ofString "put", qualname := Str.ofString "GapText.put", params := pS562.1, body := FuncBody.stmts bS562.1, scope := fS562.1, globals := 3, closure := [], defaults := Value.none, kwdefaults := Value.none, pyModule := Value.str (Str.ofString "emacs.gap") 863, code := Value.ref 561 } }) ::
(nat_lit 563, { cls := Value.type "tuple", data := Data.seq #[] }) ::
(nat_lit 565, { cls := Value.type "tuple", data := Data.seq #[Value.str (Str.ofString "self") 960] }) ::
(nat_lit 566, { cls := Value.type "tuple", data := Data.seq #[] }) ::
(nat_lit 568, { cls := Value.type "code", data := Data.fields #[Value.str (Str.ofString "narrow_gap") 957, Value.str (Str.ofString "GapText.narrow_gap") 958, Value.str (Str.ofString "/claim/cut.py") 959, Value.int 357 0, Value.int 1 0, Value.int 0 0, Value.int 0 0, Value.int 3 0, Value.ref 563, Value.bool true, Value.int 181 0, Value.ref 564, Value.none, Value.ref 565, Value.ref 566, Value.ref 567, Value.int 961 0, Value.int 357 0, Value.str (Str.ofString "/claim/cut.py") 962] }) ::
(nat_lit 569, { cls := Value.type "function", data := Data.func { name := Str.ofString "narrow_gap", qualname := Str.ofString "GapText.narrow_gap", params := pS569.1, body := FuncBody.stmts bS569.1, scope := fS569.1, globals := 3, closure := [], defaults := Value.none, kwdefaults := Value.none, pyModule := Value.str (Str.ofString "emacs.gap") 863, code := Value.ref 568 } }) ::
(nat_lit 570, { cls := Value.type "tuple", data := Data.seq #[] }) ::
(nat_lit 572, { cls := Value.type "tuple", data := Data.seq #[Value.str (Str.ofString "self") 967] }) ::
(nat_lit 573, { cls := Value.type "tuple", data := Data.seq #[] }) ::
(nat_lit 575, { cls := Value.type "code", data := Data.fields #[Value.str (Str.ofString "is_whole") 964, Value.str (Str.ofString "GapText.is_whole") 965, Value.str (Str.ofString "/claim/cut.py") 966, Value.int 360 0, Value.int 1 0, Value.int 0 0, Value.int 0 0, Value.int 3 0, Value.ref 570, Value.bool true, Value.int 181 0, Value.ref 571, Value.none, Value.ref 572, Value.ref 573, Value.ref 574, Value.int 968 0, Value.int 360 0, Value.str (Str.ofString "/claim/cut.py") 969] }) ::
(nat_lit 576, { cls := Value.type "function", data := Data.func { name := Str.ofString "is_whole", qualname := Str.ofString "GapText.is_whole", params := pS576.1, body := FuncBody.stmts bS576.1, scope := fS576.1, globals := 3, closure := [], defaults := Value.none, kwdefaults := Value.none, pyModule := Value.str (Str.ofString "emacs.gap") 863, code := Value.ref 575 } }) ::
(nat_lit 577, { cls := Value.type "tuple", data := Data.seq #[Value.str (Str.ofString "cells") 971, Value.str (Str.ofString "gap_end") 972, Value.str (Str.ofString "gap_start") 973, Value.str (Str.ofString "room") 974] }) ::
(nat_lit 578, { cls := Value.type "dict", data := Data.dict #[{ hash := PyData.keyHash P (Str.ofString "__module__"), key := Value.str (Str.ofString "__module__") 872, val := Value.str (Str.ofString "emacs.gap") 863 }, { hash := PyData.keyHash P (Str.ofString "__firstlineno__"), key := Value.str (Str.ofString "__firstlineno__") 876, val := Value.int 297 875 }, { hash := PyData.keyHash P (Str.ofString "__init__"), key := Value.str (Str.ofString "__init__") 885, val := Value.ref 506 }, { hash := PyData.keyHash P (Str.ofString "size"), key := Value.str (Str.ofString "size") 892, val := Value.ref 513 }, { hash := PyData.keyHash P (Str.ofString "code"), key := Value.str (Str.ofString "code") 900, val := Value.ref 520 }, { hash := PyData.keyHash P (Str.ofString "codes"), key := Value.str (Str.ofString "codes") 910, val := Value.ref 527 }, { hash := PyData.keyHash P (Str.ofString "move_gap"), key := Value.str (Str.ofString "move_gap") 919, val := Value.ref 534 }, { hash := PyData.keyHash P (Str.ofString "widen_gap"), key := Value.str (Str.ofString "widen_gap") 928, val := Value.ref 541 }, { hash := PyData.keyHash P (Str.ofString "insert"), key := Value.str (Str.ofString "insert") 937, val := Value.ref 548 }, { hash := PyData.keyHash P (Str.ofString "delete"), key := Value.str (Str.ofString "delete") 947, val := Value.ref 555 }, { hash := PyData.keyHash P (Str.ofString "put"), key := Value.str (Str.ofString "put") 956, val := Value.ref 562 }, { hash := PyData.keyHash P (Str.ofString "narrow_gap"), key := Value.str (Str.ofString "narrow_gap") 963, val := Value.ref 569 }, { hash := PyData.keyHash P (Str.ofString "is_whole"), key := Value.str (Str.ofString "is_whole") 970, val := Value.ref 576 }, { hash := PyData.keyHash P (Str.ofString "__static_attributes__"), key := Value.str (Str.ofString "__static_attributes__") 975, val := Value.ref 577 }, { hash := PyData.keyHash P (Str.ofString "__dict__"), key := Value.str (Str.ofString "__dict__") 977, val := Value.ref 580 }, { hash := PyData.keyHash P (Str.ofString "__weakref__"), key := Value.str (Str.ofString "__weakref__") 979, val := Value.ref 581 }, { hash := PyData.keyHash P (Str.ofString "__doc__"), key := Value.str (Str.ofString "__doc__") 980, val := Value.none }] 4 }) ::
(nat_lit 579, { cls := Value.type "type", data := Data.cls { name := Str.ofString "GapText", bases := [Value.type "object"], mro := [Value.ref 579, Value.type "object"], ns := 578, qualname := Str.ofString "GapText" }, slots := #[none, none, some (Value.str (Str.ofString "GapText") 865), some (Value.str (Str.ofString "GapText") 873), some (Value.builtin "object.__new__"), some (Value.bool true)] }) ::
(nat_lit 580, { cls := Value.type "getset_descriptor", data := Data.fields #[Value.str (Str.ofString "__dict__") 976, Value.ref 579, Value.builtin "function.__dict__", Value.builtin "function.__dict__#set"] }) ::
(nat_lit 581, { cls := Value.type "getset_descriptor", data := Data.fields #[Value.str (Str.ofString "__weakref__") 978, Value.ref 579, Value.builtin "ExceptionGroup.__weakref__", Value.none] }) ::
(nat_lit 584, { cls := Value.type "tuple", data := Data.seq #[Value.ref 272] }) ::
(nat_lit 591, { cls := Value.type "tuple", data := Data.seq #[Value.int 8 997] }) ::
(nat_lit 592, { cls := Value.type "tuple", data := Data.seq #[] }) ::
(nat_lit 594, { cls := Value.type "tuple", data := Data.seq #[Value.str (Str.ofString "self") 1001, Value.str (Str.ofString "number") 1002, Value.str (Str.ofString "name") 1003, Value.str (Str.ofString "room") 1004] }) ::
(nat_lit 595, { cls := Value.type "tuple", data := Data.seq #[] }) ::
(nat_lit 597, { cls := Value.type "code", data := Data.fields #[Value.str (Str.ofString "__init__") 998, Value.str (Str.ofString "Buffer.__init__") 999, Value.str (Str.ofString "/claim/cut.py") 1000, Value.int 365 0, Value.int 4 0, Value.int 0 0, Value.int 0 0, Value.int 3 0, Value.ref 592, Value.bool true, Value.int 181 0, Value.ref 593, Value.none, Value.ref 594, Value.ref 595, Value.ref 596, Value.int 1005 0, Value.int 365 0, Value.str (Str.ofString "/claim/cut.py") 1006] }) ::
(nat_lit 598, { cls := Value.type "function", data := Data.func { name := Str.ofString "__init__", qualname := Str.ofString "Buffer.__init__", params := pS598.1, body := FuncBody.stmts bS598.1, scope := fS598.1, globals := 3, closure := [], defaults := Value.ref 591, kwdefaults := Value.none, pyModule := Value.str (Str.ofString "emacs.buffer") 983, code := Value.ref 597 } }) ::
(nat_lit 599, { cls := Value.type "tuple", data := Data.seq #[] }) ::
(nat_lit 601, { cls := Value.type "tuple", data := Data.seq #[Value.str (Str.ofString "self") 1011] }) ::
(nat_lit 602, { cls := Value.type "tuple", data := Data.seq #[] }) ::
(nat_lit 604, { cls := Value.type "code", data := Data.fields #[Value.str (Str.ofString "shown") 1008, Value.str (Str.ofString "Buffer.shown") 1009, Value.str (Str.ofString "/claim/cut.py") 1010, Value.int 387 0, Value.int 1 0, Value.int 0 0, Value.int 0 0, Value.int 3 0, Value.ref 599, Value.bool true, Value.int 181 0, Value.ref 600, Value.none, Value.ref 601, Value.ref 602, Value.ref 603, Value.int 1012 0, Value.int 387 0, Value.str (Str.ofString "/claim/cut.py") 1013] }) ::
(nat_lit 605, { cls := Value.type "function", data := Data.func { name := Str.ofString "shown", qualname := Str.ofString "Buffer.shown", params := pS605.1, body := FuncBody.stmts bS605.1, scope := fS605.1, globals := 3, closure := [], defaults := Value.none, kwdefaults := Value.none, pyModule := Value.str (Str.ofString "emacs.buffer") 983, code := Value.ref 604 } }) ::
(nat_lit 606, { cls := Value.type "tuple", data := Data.seq #[] }) ::
(nat_lit 608, { cls := Value.type "tuple", data := Data.seq #[Value.str (Str.ofString "self") 1018] }) ::
(nat_lit 609, { cls := Value.type "tuple", data := Data.seq #[] }) ::
(nat_lit 611, { cls := Value.type "code", data := Data.fields #[Value.str (Str.ofString "kind") 1015, Value.str (Str.ofString "Buffer.kind") 1016, Value.str (Str.ofString "/claim/cut.py") 1017, Value.int 390 0, Value.int 1 0, Value.int 0 0, Value.int 0 0, Value.int 3 0, Value.ref 606, Value.bool true, Value.int 181 0, Value.ref 607, Value.none, Value.ref 608, Value.ref 609, Value.ref 610, Value.int 1019 0, Value.int 390 0, Value.str (Str.ofString "/claim/cut.py") 1020] }) ::
(nat_lit 612, { cls := Value.type "function", data := Data.func { name := Str.ofString "kind", qualname := Str.ofString "Buffer.kind", params := pS612.1, body := FuncBody.stmts bS612.1, scope := fS612.1, globals := 3, closure := [], defaults := Value.none, kwdefaults := Value.none, pyModule := Value.str (Str.ofString "emacs.buffer") 983, code := Value.ref 611 } }) ::
(nat_lit 613, { cls := Value.type "tuple", data := Data.seq #[] }) ::
(nat_lit 615, { cls := Value.type "tuple", data := Data.seq #[Value.str (Str.ofString "self") 1025] }) ::
(nat_lit 616, { cls := Value.type "tuple", data := Data.seq #[] }) ::
(nat_lit 618, { cls := Value.type "code", data := Data.fields #[Value.str (Str.ofString "begin") 1022, Value.str (Str.ofString "Buffer.begin") 1023, Value.str (Str.ofString "/claim/cut.py") 1024, Value.int 393 0, Value.int 1 0, Value.int 0 0, Value.int 0 0, Value.int 3 0, Value.ref 613, Value.bool true, Value.int 181 0, Value.ref 614, Value.none, Value.ref 615, Value.ref 616, Value.ref 617, Value.int 1026 0, Value.int 393 0, Value.str (Str.ofString "/claim/cut.py") 1027] }) ::
(nat_lit 619, { cls := Value.type "function", data := Data.func { name := Str.ofString "begin", qualname := Str.ofString "Buffer.begin", params := pS619.1, body := FuncBody.stmts bS619.1, scope := fS619.1, globals := 3, closure := [], defaults := Value.none, kwdefaults := Value.none, pyModule := Value.str (Str.ofString "emacs.buffer") 983, code := Value.ref 618 } }) ::
(nat_lit 620, { cls := Value.type "tuple", data := Data.seq #[] }) ::
(nat_lit 622, { cls := Value.type "tuple", data := Data.seq #[Value.str (Str.ofString "self") 1032] }) ::
(nat_lit 623, { cls := Value.type "tuple", data := Data.seq #[] }) ::
(nat_lit 625, { cls := Value.type "code", data := Data.fields #[Value.str (Str.ofString "end") 1029, Value.str (Str.ofString "Buffer.end") 1030, Value.str (Str.ofString "/claim/cut.py") 1031, Value.int 396 0, Value.int 1 0, Value.int 0 0, Value.int 0 0, Value.int 3 0, Value.ref 620, Value.bool true, Value.int 181 0, Value.ref 621, Value.none, Value.ref 622, Value.ref 623, Value.ref 624, Value.int 1033 0, Value.int 396 0, Value.str (Str.ofString "/claim/cut.py") 1034] }) ::
(nat_lit 626, { cls := Value.type "function", data := Data.func { name := Str.ofString "end", qualname := Str.ofString "Buffer.end", params := pS626.1, body := FuncBody.stmts bS626.1, scope := fS626.1, globals := 3, closure := [], defaults := Value.none, kwdefaults := Value.none, pyModule := Value.str (Str.ofString "emacs.buffer") 983, code := Value.ref 625 } }) ::
(nat_lit 627, { cls := Value.type "tuple", data := Data.seq #[] }) ::
(nat_lit 629, { cls := Value.type "tuple", data := Data.seq #[Value.str (Str.ofString "self") 1039] }) ::
(nat_lit 630, { cls := Value.type "tuple", data := Data.seq #[] }) ::
(nat_lit 632, { cls := Value.type "code", data := Data.fields #[Value.str (Str.ofString "size") 1036, Value.str (Str.ofString "Buffer.size") 1037, Value.str (Str.ofString "/claim/cut.py") 1038, Value.int 399 0, Value.int 1 0, Value.int 0 0, Value.int 0 0, Value.int 3 0, Value.ref 627, Value.bool true, Value.int 181 0, Value.ref 628, Value.none, Value.ref 629, Value.ref 630, Value.ref 631, Value.int 1040 0, Value.int 399 0, Value.str (Str.ofString "/claim/cut.py") 1041] }) ::
(nat_lit 633, { cls := Value.type "function", data := Data.func { name := Str.ofString "size", qualname := Str.ofString "Buffer.size", params := pS633.1, body := FuncBody.stmts bS633.1, scope := fS633.1, globals := 3, closure := [], defaults := Value.none, kwdefaults := Value.none, pyModule := Value.str (Str.ofString "emacs.buffer") 983, code := Value.ref 632 } }) ::
(nat_lit 634, { cls := Value.type "tuple", data := Data.seq #[] }) ::
(nat_lit 636, { cls := Value.type "tuple", data := Data.seq #[Value.str (Str.ofString "self") 1046, Value.str (Str.ofString "place") 1047] }) ::
(nat_lit 637, { cls := Value.type "tuple", data := Data.seq #[] }) ::
(nat_lit 639, { cls := Value.type "code", data := Data.fields #[Value.str (Str.ofString "code_at") 1043, Value.str (Str.ofString "Buffer.code_at") 1044, Value.str (Str.ofString "/claim/cut.py") 1045, Value.int 402 0, Value.int 2 0, Value.int 0 0, Value.int 0 0, Value.int 3 0, Value.ref 634, Value.bool true, Value.int 181 0, Value.ref 635, Value.none, Value.ref 636, Value.ref 637, Value.ref 638, Value.int 1048 0, Value.int 402 0, Value.str (Str.ofString "/claim/cut.py") 1049] }) ::
(nat_lit 640, { cls := Value.type "function", data := Data.func { name := Str.ofString "code_at", qualname := Str.ofString "Buffer.code_at", params := pS640.1, body := FuncBody.stmts bS640.1, scope := fS640.1, globals := 3, closure := [], defaults := Value.none, kwdefaults := Value.none, pyModule := Value.str (Str.ofString "emacs.buffer") 983, code := Value.ref 639 } }) ::
(nat_lit 641, { cls := Value.type "tuple", data := Data.seq #[] }) ::
(nat_lit 643, { cls := Value.type "tuple", data := Data.seq #[Value.str (Str.ofString "self") 1054, Value.str (Str.ofString "start") 1055, Value.str (Str.ofString "end") 1056] }) ::
(nat_lit 644, { cls := Value.type "tuple", data := Data.seq #[] }) ::
(nat_lit 646, { cls := Value.type "code", data := Data.fields #[Value.str (Str.ofString "codes") 1051, Value.str (Str.ofString "Buffer.codes") 1052, Value.str (Str.ofString "/claim/cut.py") 1053, Value.int 405 0, Value.int 3 0, Value.int 0 0, Value.int 0 0, Value.int 3 0, Value.ref 641, Value.bool true, Value.int 181 0, Value.ref 642, Value.none, Value.ref 643, Value.ref 644, Value.ref 645, Value.int 1057 0, Value.int 405 0, Value.str (Str.ofString "/claim/cut.py") 1058] }) ::
(nat_lit 647, { cls := Value.type "function", data := Data.func { name := Str.ofString "codes", qualname := Str.ofString "Buffer.codes", params := pS647.1, body := FuncBody.stmts bS647.1, scope := fS647.1, globals := 3, closure := [], defaults := Value.none, kwdefaults := Value.none, pyModule := Value.str (Str.ofString "emacs.buffer") 983, code := Value.ref 646 } }) ::
(nat_lit 648, { cls := Value.type "tuple", data := Data.seq #[] }) ::
(nat_lit 650, { cls := Value.type "tuple", data := Data.seq #[Value.str (Str.ofString "self") 1063, Value.str (Str.ofString "place") 1064] }) ::
(nat_lit 651, { cls := Value.type "tuple", data := Data.seq #[] }) ::
(nat_lit 653, { cls := Value.type "code", data := Data.fields #[Value.str (Str.ofString "goto") 1060, Value.str (Str.ofString "Buffer.goto") 1061, Value.str (Str.ofString "/claim/cut.py") 1062, Value.int 408 0, Value.int 2 0, Value.int 0 0, Value.int 0 0, Value.int 3 0, Value.ref 648, Value.bool true, Value.int 181 0, Value.ref 649, Value.none, Value.ref 650, Value.ref 651, Value.ref 652, Value.int 1065 0, Value.int 408 0, Value.str (Str.ofString "/claim/cut.py") 1066] }) ::
(nat_lit 654, { cls := Value.type "function", data := Data.func { name := Str.ofString "goto", qualname := Str.ofString "Buffer.goto", params := pS654.1, body := FuncBody.stmts bS654.1, scope := fS654.1, globals := 3, closure := [], defaults := Value.none, kwdefaults := Value.none, pyModule := Value.str (Str.ofString "emacs.buffer") 983, code := Value.ref 653 } }) ::
(nat_lit 655, { cls := Value.type "tuple", data := Data.seq #[] }) ::
(nat_lit 657, { cls := Value.type "tuple", data := Data.seq #[Value.str (Str.ofString "self") 1071] }) ::
(nat_lit 658, { cls := Value.type "tuple", data := Data.seq #[] }) ::
(nat_lit 660, { cls := Value.type "code", data := Data.fields #[Value.str (Str.ofString "tick") 1068, Value.str (Str.ofString "Buffer.tick") 1069, Value.str (Str.ofString "/claim/cut.py") 1070, Value.int 412 0, Value.int 1 0, Value.int 0 0, Value.int 0 0, Value.int 3 0, Value.ref 655, Value.bool true, Value.int 181 0, Value.ref 656, Value.none, Value.ref 657, Value.ref 658, Value.ref 659, Value.int 1072 0, Value.int 412 0, Value.str (Str.ofString "/claim/cut.py") 1073] }) ::
(nat_lit 661, { cls := Value.type "function", data := Data.func { name := Str.ofString "tick", qualname := Str.ofString "Buffer.tick", params := pS661.1, body := FuncBody.stmts bS661.1, scope := fS661.1, globals := 3, closure := [], defaults := Value.none, kwdefaults := Value.none, pyModule := Value.str (Str.ofString "emacs.buffer") 983, code := Value.ref 660 } }) ::
(nat_lit 662, { cls := Value.type "tuple", data := Data.seq #[] }) ::
(nat_lit 664, { cls := Value.type "tuple", data := Data.seq #[Value.str (Str.ofString "self") 1078] }) ::
(nat_lit 665, { cls := Value.type "tuple", data := Data.seq #[] }) ::
(nat_lit 667, { cls := Value.type "code", data := Data.fields #[Value.str (Str.ofString "is_modified") 1075, Value.str (Str.ofString "Buffer.is_modified") 1076, Value.str (Str.ofString "/claim/cut.py") 1077, Value.int 415 0, Value.int 1 0, Value.int 0 0, Value.int 0 0, Value.int 3 0, Value.ref 662, Value.bool true, Value.int 181 0, Value.ref 663, Value.none, Value.ref 664, Value.ref 665, Value.ref 666, Value.int 1079 0, Value.int 415 0, Value.str (Str.ofString "/claim/cut.py") 1080] }) ::
(nat_lit 668, { cls := Value.type "function", data := Data.func { name := Str.ofString "is_modified", qualname := Str.ofString "Buffer.is_modified", params := pS668.1, body := FuncBody.stmts bS668.1, scope := fS668.1, globals := 3, closure := [], defaults := Value.none, kwdefaults := Value.none, pyModule := Value.str (Str.ofString "emacs.buffer") 983, code := Value.ref 667 } }) ::
(nat_lit 669, { cls := Value.type "tuple", data := Data.seq #[] }) ::
(nat_lit 671, { cls := Value.type "tuple", data := Data.seq #[Value.str (Str.ofString "self") 1085, Value.str (Str.ofString "is_so") 1086] }) ::
(nat_lit 672, { cls := Value.type "tuple", data := Data.seq #[] }) ::
(nat_lit 674, { cls := Value.type "code", data := Data.fields #[Value.str (Str.ofString "set_modified") 1082, Value.str (Str.ofString "Buffer.set_modified") 1083, Value.str (Str.ofString "/claim/cut.py") 1084, Value.int 418 0, Value.int 2 0, Value.int 0 0, Value.int 0 0, Value.int 3 0, Value.ref 669, Value.bool true, Value.int 181 0, Value.ref 670, Value.none, Value.ref 671, Value.ref 672, Value.ref 673, Value.int 1087 0, Value.int 418 0, Value.str (Str.ofString "/claim/cut.py") 1088] }) ::
(nat_lit 675, { cls := Value.type "function", data := Data.func { name := Str.ofString "set_modified", qualname := Str.ofString "Buffer.set_modified", params := pS675.1, body := FuncBody.stmts bS675.1, scope := fS675.1, globals := 3, closure := [], defaults := Value.none, kwdefaults := Value.none, pyModule := Value.str (Str.ofString "emacs.buffer") 983, code := Value.ref 674 } }) ::
(nat_lit 676, { cls := Value.type "tuple", data := Data.seq #[] }) ::
(nat_lit 678, { cls := Value.type "tuple", data := Data.seq #[Value.str (Str.ofString "self") 1093, Value.str (Str.ofString "are_codes") 1094] }) ::
(nat_lit 679, { cls := Value.type "tuple", data := Data.seq #[] }) ::
(nat_lit 681, { cls := Value.type "code", data := Data.fields #[Value.str (Str.ofString "touch") 1090, Value.str (Str.ofString "Buffer.touch") 1091, Value.str (Str.ofString "/claim/cut.py") 1092, Value.int 421 0, Value.int 2 0, Value.int 0 0, Value.int 0 0, Value.int 3 0, Value.ref 676, Value.bool true, Value.int 181 0, Value.ref 677, Value.none, Value.ref 678, Value.ref 679, Value.ref 680, Value.int 1095 0, Value.int 421 0, Value.str (Str.ofString "/claim/cut.py") 1096] }) ::
(nat_lit 682, { cls := Value.type "function", data := Data.func { name := Str.ofString "touch", qualname := Str.ofString "Buffer.touch", params := pS682.1, body := FuncBody.stmts bS682.1, scope := fS682.1, globals := 3, closure := [], defaults := Value.none, kwdefaults := Value.none, pyModule := Value.str (Str.ofString "emacs.buffer") 983, code := Value.ref 681 } }) ::
(nat_lit 683, { cls := Value.type "tuple", data := Data.seq #[Value.str (Str.ofString "begv") 1098, Value.str (Str.ofString "codes_ticks") 1099, Value.str (Str.ofString "file") 1100, Value.str (Str.ofString "is_live") 1101, Value.str (Str.ofString "is_read_only") 1102, Value.str (Str.ofString "listeners") 1103, Value.str (Str.ofString "locals") 1104, Value.str (Str.ofString "mark") 1105, Value.str (Str.ofString "markers") 1106, Value.str (Str.ofString "name") 1107, Value.str (Str.ofString "number") 1108, Value.str (Str.ofString "overlays") 1109, Value.str (Str.ofString "point") 1110, Value.str (Str.ofString "props") 1111, Value.str (Str.ofString "saved_ticks") 1112, Value.str (Str.ofString "syntax") 1113, Value.str (Str.ofString "text") 1114, Value.str (Str.ofString "ticks") 1115, Value.str (Str.ofString "undo") 1116, Value.str (Str.ofString "zv") 1117] }) ::
(nat_lit 684, { cls := Value.type "dict", data := Data.dict #[{ hash := PyData.keyHash P (Str.ofString "__module__"), key := Value.str (Str.ofString "__module__") 992, val := Value.str (Str.ofString "emacs.buffer") 983 }, { hash := PyData.keyHash P (Str.ofString "__firstlineno__"), key := Value.str (Str.ofString "__firstlineno__") 996, val := Value.int 363 995 }, { hash := PyData.keyHash P (Str.ofString "__init__"), key := Value.str (Str.ofString "__init__") 1007, val := Value.ref 598 }, { hash := PyData.keyHash P (Str.ofString "shown"), key := Value.str (Str.ofString "shown") 1014, val := Value.ref 605 }, { hash := PyData.keyHash P (Str.ofString "kind"), key := Value.str (Str.ofString "kind") 1021, val := Value.ref 612 }, { hash := PyData.keyHash P (Str.ofString "begin"), key := Value.str (Str.ofString "begin") 1028, val := Value.ref 619 }, { hash := PyData.keyHash P (Str.ofString "end"), key := Value.str (Str.ofString "end") 1035, val := Value.ref 626 }, { hash := PyData.keyHash P (Str.ofString "size"), key := Value.str (Str.ofString "size") 1042, val := Value.ref 633 }, { hash := PyData.keyHash P (Str.ofString "code_at"), key := Value.str (Str.ofString "code_at") 1050, val := Value.ref 640 }, { hash := PyData.keyHash P (Str.ofString "codes"), key := Value.str (Str.ofString "codes") 1059, val := Value.ref 647 }, { hash := PyData.keyHash P (Str.ofString "goto"), key := Value.str (Str.ofString "goto") 1067, val := Value.ref 654 }, { hash := PyData.keyHash P (Str.ofString "tick"), key := Value.str (Str.ofString "tick") 1074, val := Value.ref 661 }, { hash := PyData.keyHash P (Str.ofString "is_modified"), key := Value.str (Str.ofString "is_modified") 1081, val := Value.ref 668 }, { hash := PyData.keyHash P (Str.ofString "set_modified"), key := Value.str (Str.ofString "set_modified") 1089, val := Value.ref 675 }, { hash := PyData.keyHash P (Str.ofString "touch"), key := Value.str (Str.ofString "touch") 1097, val := Value.ref 682 }, { hash := PyData.keyHash P (Str.ofString "__static_attributes__"), key := Value.str (Str.ofString "__static_attributes__") 1118, val := Value.ref 683 }, { hash := PyData.keyHash P (Str.ofString "__doc__"), key := Value.str (Str.ofString "__doc__") 1119, val := Value.none }] 2 }) ::
(nat_lit 685, { cls := Value.type "type", data := Data.cls { name := Str.ofString "Buffer", bases := [Value.ref 272], mro := [Value.ref 685, Value.ref 272, Value.type "object"], ns := 684, qualname := Str.ofString "Buffer" }, slots := #[some (Value.ref 584), none, some (Value.str (Str.ofString "Buffer") 985), some (Value.str (Str.ofString "Buffer") 993), some (Value.builtin "object.__new__"), some (Value.bool true)] }) ::
(nat_lit 688, { cls := Value.type "tuple", data := Data.seq #[] }) ::
(nat_lit 691, { cls := Value.type "code", data := Data.fields #[Value.str (Str.ofString "_law_deck") 1124, Value.str (Str.ofString "_law_deck") 1125, Value.str (Str.ofString "/claim/cut.py") 1126, Value.int 426 0, Value.int 1 0, Value.int 0 0, Value.int 0 0, Value.int 3 0, Value.ref 688, Value.bool true, Value.int 181 0, Value.ref 689, Value.none, Value.none, Value.none, Value.ref 690, Value.int 1127 0, Value.int 426 0, Value.str (Str.ofString "/claim/cut.py") 1128] }) ::
(nat_lit 692, { cls := Value.type "function", data := Data.func { name := Str.ofString "_law_deck", qualname := Str.ofString "_law_deck", params := pS692.1, body := FuncBody.stmts bS692.1, scope := fS692.1, globals := 3, closure := [], defaults := Value.none, kwdefaults := Value.none, pyModule := Value.str (Str.ofString "law_pq0289_01") 1122, code := Value.ref 691 } }) ::
(nat_lit 693, { cls := Value.type "tuple", data := Data.seq #[] }) ::
(nat_lit 695, { cls := Value.type "tuple", data := Data.seq #[Value.str (Str.ofString "deck") 1133, Value.str (Str.ofString "many") 1134, Value.str (Str.ofString "rest") 1135, Value.str (Str.ofString "mixed") 1136] }) ::
(nat_lit 696, { cls := Value.type "tuple", data := Data.seq #[] }) ::
(nat_lit 698, { cls := Value.type "code", data := Data.fields #[Value.str (Str.ofString "_law_draw") 1130, Value.str (Str.ofString "_law_draw") 1131, Value.str (Str.ofString "/claim/cut.py") 1132, Value.int 429 0, Value.int 2 0, Value.int 0 0, Value.int 0 0, Value.int 3 0, Value.ref 693, Value.bool true, Value.int 181 0, Value.ref 694, Value.none, Value.ref 695, Value.ref 696, Value.ref 697, Value.int 1137 0, Value.int 429 0, Value.str (Str.ofString "/claim/cut.py") 1138] }) ::
(nat_lit 699, { cls := Value.type "function", data := Data.func { name := Str.ofString "_law_draw", qualname := Str.ofString "_law_draw", params := pS699.1, body := FuncBody.stmts bS699.1, scope := fS699.1, globals := 3, closure := [], defaults := Value.none, kwdefaults := Value.none, pyModule := Value.str (Str.ofString "law_pq0289_01") 1122, code := Value.ref 698 } }) ::
(nat_lit 700, { cls := Value.type "tuple", data := Data.seq #[] }) ::
(nat_lit 702, { cls := Value.type "tuple", data := Data.seq #[Value.str (Str.ofString "codes") 1143, Value.str (Str.ofString "place") 1144, Value.str (Str.ofString "buffer") 1145] }) ::
(nat_lit 703, { cls := Value.type "tuple", data := Data.seq #[] }) ::
(nat_lit 705, { cls := Value.type "code", data := Data.fields #[Value.str (Str.ofString "_law_buffer_of") 1140, Value.str (Str.ofString "_law_buffer_of") 1141, Value.str (Str.ofString "/claim/cut.py") 1142, Value.int 440 0, Value.int 2 0, Value.int 0 0, Value.int 0 0, Value.int 3 0, Value.ref 700, Value.bool true, Value.int 181 0, Value.ref 701, Value.none, Value.ref 702, Value.ref 703, Value.ref 704, Value.int 1146 0, Value.int 440 0, Value.str (Str.ofString "/claim/cut.py") 1147] }) ::
(nat_lit 706, { cls := Value.type "function", data := Data.func { name := Str.ofString "_law_buffer_of", qualname := Str.ofString "_law_buffer_of", params := pS706.1, body := FuncBody.stmts bS706.1, scope := fS706.1, globals := 3, closure := [], defaults := Value.none, kwdefaults := Value.none, pyModule := Value.str (Str.ofString "law_pq0289_01") 1122, code := Value.ref 705 } }) ::
(nat_lit 707, { cls := Value.type "tuple", data := Data.seq #[] }) ::
(nat_lit 710, { cls := Value.type "code", data := Data.fields #[Value.str (Str.ofString "law") 1149, Value.str (Str.ofString "law") 1150, Value.str (Str.ofString "/claim/cut.py") 1151, Value.int 445 0, Value.int 1 0, Value.int 0 0, Value.int 0 0, Value.int 3 0, Value.ref 707, Value.bool true, Value.int 181 0, Value.ref 708, Value.none, Value.none, Value.none, Value.ref 709, Value.int 1152 0, Value.int 445 0, Value.str (Str.ofString "/claim/cut.py") 1153] }) ::
(nat_lit 711, { cls := Value.type "function", data := Data.func { name := Str.ofString "law", qualname := Str.ofString "law", params := pS711.1, body := FuncBody.stmts bS711.1, scope := fS711.1, globals := 3, closure := [], defaults := Value.none, kwdefaults := Value.none, pyModule := Value.str (Str.ofString "law_pq0289_01") 1122, code := Value.ref 710 } }) :: []
noncomputable def has : List Nat := [2, 3, 15, 17, 18, 20, 21, 22, 29, 31, 32, 34, 35, 36, 37, 38, 39, 42, 44, 45, 47, 48, 49, 51, 52, 54, 55, 56, 58, 59, 61, 62, 63, 65, 66, 68, 69, 70, 72, 73, 75, 76, 77, 79, 80, 82, 83, 84, 86, 87, 89, 90, 91, 93, 94, 96, 97, 98, 100, 101, 103, 104, 105, 107, 108, 110, 111, 112, 113, 115, 116, 118, 119, 120, 122, 123, 125, 126, 127, 129, 130, 132, 133, 134, 136, 137, 139, 140, 141, 143, 144, 146, 147, 148, 150, 151, 153, 154, 162, 164, 165, 167, 168, 169, 170, 171, 172, 173, 176, 178, 179, 181, 182, 183, 186, 187, 188, 190, 191, 193, 194, 195, 198, 199, 207, 209, 210, 212, 213, 214, 215, 216, 217, 218, 221, 223, 224, 226, 227, 228, 230, 231, 233, 234, 235, 237, 238, 240, 241, 249, 251, 252, 254, 255, 256, 258, 259, 261, 262, 263, 265, 266, 268, 269, 270, 271, 272, 273, 274, 277, 284, 286, 287, 289, 290, 291, 293, 294, 296, 297, 298, 300, 301, 303, 304, 305, 307, 308, 310, 311, 312, 313, 314, 324, 326, 327, 329, 330, 331, 333, 334, 336, 337, 338, 340, 341, 343, 344, 345, 347, 348, 350, 351, 352, 354, 355, 357, 358, 359, 361, 362, 364, 365, 366, 368, 369, 371, 372, 373, 375, 376, 378, 379, 380, 381, 382, 383, 384, 387, 389, 390, 392, 393, 401, 403, 404, 406, 407, 408, 409, 410, 411, 412, 415, 417, 418, 420, 421, 422, 424, 425, 427, 428, 429, 431, 432, 434, 435, 436, 438, 439, 441, 442, 443, 445, 446, 448, 449, 450, 453, 454, 455, 458, 459, 460, 463, 464, 465, 467, 468, 470, 471, 472, 474, 475, 477, 478, 479, 481, 482, 484, 485, 486, 488, 489, 491, 492, 500, 502, 503, 505, 506, 507, 509, 510, 512, 513, 514, 516, 517, 519, 520, 521, 523, 524, 526, 527, 528, 530, 531, 533, 534, 535, 537, 538, 540, 541, 542, 544, 545, 547, 548, 549, 551, 552, 554, 555, 556, 558, 559, 561, 562, 563, 565, 566, 568, 569, 570, 572, 573, 575, 576, 577, 578, 579, 580, 581, 584, 591, 592, 594, 595, 597, 598, 599, 601, 602, 604, 605, 606, 608, 609, 611, 612, 613, 615, 616, 618, 619, 620, 622, 623, 625, 626, 627, 629, 630, 632, 633, 634, 636, 637, 639, 640, 641, 643, 644, 646, 647, 648, 650, 651, 653, 654, 655, 657, 658, 660, 661, 662, 664, 665, 667, 668, 669, 671, 672, 674, 675, 676, 678, 679, 681, 682, 683, 684, 685, 688, 691, 692, 693, 695, 696, 698, 699, 700, 702, 703, 705, 706, 707, 710, 711]
end KR
end
section
open PySem PySem.W PyProof.Rows PySem.Calls
set_option Elab.async false
set_option maxRecDepth 100000
set_option maxHeartbeats 4000000
namespace KR
noncomputable abbrev Pg : Program := PySem.Challenge.rw_pq0289_01.prog
noncomputable def adr : List (Addr × Obj) → List Nat
  | [] => []
  | p :: r => p.1 :: adr r
noncomputable def Apart : List Nat → Prop
  | [] => True
  | a :: r => (∀ b ∈ r, a ≠ b) ∧ Apart r
theorem adr_eq : ∀ l : List (Addr × Obj), adr l = l.map (·.1)
  | [] => rfl
  | p :: r => by simp [adr, adr_eq r]
theorem mem_adr {p : Addr × Obj} {l : List (Addr × Obj)} (h : p ∈ l) : p.1 ∈ adr l := by rw [adr_eq]; exact List.mem_map.mpr ⟨p, h, rfl⟩
theorem of_mem_adr {a : Nat} {l : List (Addr × Obj)} (h : a ∈ adr l) : ∃ p ∈ l, p.1 = a := by rw [adr_eq] at h; exact List.mem_map.mp h
theorem adr_append : ∀ a b : List (Addr × Obj), adr (a ++ b) = adr a ++ adr b
  | [], _ => rfl
  | p :: r, b => by show p.1 :: adr (r ++ b) = _; rw [adr_append r b]; rfl
theorem apart_iff : ∀ {l : List Nat}, Apart l ↔ List.Pairwise (fun a b => a ≠ b) l
  | [] => ⟨fun _ => .nil, fun _ => trivial⟩
  | _ :: _ => ⟨fun h => .cons h.1 (apart_iff.mp h.2), fun h => by cases h with | cons h1 h2 => exact ⟨h1, apart_iff.mpr h2⟩⟩
structure Sel (ex l own : List (Addr × Obj)) : Prop where
  perm : ∀ p, p ∈ l ↔ p ∈ ex ++ own
  apartA : Apart (adr l) → Apart (adr (ex ++ own))
theorem apart_left : ∀ {a b : List Nat}, Apart (a ++ b) → Apart a
  | [], _, _ => trivial
  | _ :: r, b, D => ⟨fun z hz => D.1 z (List.mem_append_left _ hz), apart_left D.2⟩
theorem apart_off : ∀ {a b : List Nat}, Apart (a ++ b) → ∀ x ∈ a, ∀ y ∈ b, x ≠ y
  | _ :: r, b, D, x, hx, y, hy => by
    rcases List.mem_cons.mp hx with rfl | hx
    · exact D.1 y (List.mem_append_right _ hy)
    · exact apart_off D.2 x hx y hy
theorem Sel.off {ex l own : List (Addr × Obj)} (h : Sel ex l own) (D : Apart (adr l)) : OwnOff own (adr ex) := fun p hp b hb => by
  have q := h.apartA D
  rw [adr_append] at q
  exact fun e => apart_off q b hb p.1 (mem_adr hp) e.symm
section
variable {prog : Program} {w : World} {A A₀ : Around} {E : Value → Shared → Prop} {s : Shared} {K : Frag} {C L : Addr} {h₀ base : Heap} {m mg mb : Str → Option Value} {ex own lit : List (Addr × Obj)} {p : Program} {loose : List Str} {mean : ExcName → Option Value} {Q : Value → Shared → Prop} 
theorem codeF {env : Env} {outer : List Env} {R : Result → Shared → Prop} {name qual : Str} {params : Arguments} {body : List Stmt} {scope : Scope} {dV kV doc pm cdv ct oc : Value} {an od : Option Addr} {osl : Array (Option Value)} {f : Addr} {args : Args} {binds : List (Str × Value)}
    (B : Below A₀ base outer h₀) (F : Fr h₀ L s.heap m) (X₀ : K.In h₀) (N : News h₀ L s.heap lit) (P : Sel ex lit own) (D : Apart (adr lit)) (T : Top p loose mean mg mb h₀) (hA : A.frames = some (env :: outer)) (hf : env.frame = some L) (hke : env.scope.kind = .function)
    (ho : K.lookup f = some ⟨oc, od, .func (fnOf name qual params body scope dV kV doc pm an cdv ct), osl⟩) (hcd : codeIn K cdv qual = true) (hroom : A.depth < recursionLimit)
    (hbind : BindsTo s (fnOf name qual params body scope dV kV doc pm an cdv ct) args binds) (hloc : ∀ y ∈ binds, scope.names.lookup y.1 = some .local)
    (h : ∀ g L' h₁, Fr h₀ L g m → Fr g L' h₁ (fun y => binds.reverse.lookup y) → News g L' h₁ ex → Below A base (env :: outer) g → K.In g → Top p loose mean mg mb g → (∀ q ∈ own, g.get? q.1 = some q.2) →
      wpAny (model prog w) (A.deeper (envOf qual scope L' f cdv)) (execs body (envOf qual scope L' f cdv))
        (fun fl s' => LeaveK h₀ L m g R (match fl with | .ret v => v | _ => .none) s')
        (fun e s' => wpAny (model prog w) (A.deeper (envOf qual scope L' f cdv)) (leaving (envOf qual scope L' f cdv) e) (fun _ s'' => R (.error e) s'') (fun e' s'' => R (.error e') s'') s')
        { s with heap := h₁, toks := s.toks + binds.length })
    (hco : scope.isCoroutine = false) (hgen : scope.isGenerator = false) (hk : scope.kind = .function)
    (hcell : ∀ x ∈ scope.names, x.2 ≠ .cell) : codeAny (model prog w) A (.call (.ref f) args) R s := by
  have Nex : News h₀ L s.heap ex := fun q hq => N q ((P.perm q).mpr (List.mem_append_left _ hq))
  have Now : News h₀ L s.heap own := fun q hq => N q ((P.perm q).mpr (List.mem_append_right _ hq))
  have off := P.off D
  obtain ⟨FG, BG, st, lv⟩ := groundX (R := R) B F Nex hA hf hke
  refine codeAny_call_def (fd := fnOf name qual params body scope dV kV doc pm an cdv ct) (body := body) (binds := binds) hroom ((X₀.keeps F.keep) _ _ ho) rfl (T.nolimit.keeps F.keep) (codeRec_of (X₀.keeps F.keep) hcd) rfl hbind hcell hloc (fun h₁ hns hk₁ => ?_) hco hgen hk
  have hown : ∀ q ∈ own, (hideAll s.heap (ex.map (·.1))).get? q.1 = some q.2 := fun q hq => hideAll_get _ (Now q hq).1 fun z => by
    rw [← adr_eq] at z
    exact off q hq _ z rfl
  exact wpAny_mono (h _ s.heap.objs.size h₁ FG ⟨hns, fun b o e => hk₁ b o (of_hideAll _ e), Nat.le_of_eq (hideAll_size _ _)⟩
    (fun q hq => ⟨hk₁ _ _ (Nex q hq).1, Nat.ne_of_lt (Heap.lt_size (Nex q hq).1), hideAll_none _ (List.mem_map_of_mem hq)⟩) BG (X₀.keeps st) (T.keeps st) hown) (fun fl s' hl => lv _ _ hl) fun _ _ y => y
theorem codeFC {env : Env} {outer : List Env} {R : Result → Shared → Prop} {name qual : Str} {params : Arguments} {body : List Stmt} {scope : Scope} {dV kV doc pm cdv ct oc : Value} {an od : Option Addr} {osl : Array (Option Value)} {f : Addr} {args : Args} {binds : List (Str × Value)}
    (B : Below A₀ base outer h₀) (F : Fr h₀ L s.heap m) (X₀ : K.In h₀) (N : News h₀ L s.heap lit) (P : Sel ex lit own) (D : Apart (adr lit)) (T : Top p loose mean mg mb h₀) (hA : A.frames = some (env :: outer)) (hf : env.frame = some L) (hke : env.scope.kind = .function)
    (ho : K.lookup f = some ⟨oc, od, .func (fnOf name qual params body scope dV kV doc pm an cdv ct), osl⟩) (hcd : codeIn K cdv qual = true) (hroom : A.depth < recursionLimit)
    (hbind : BindsTo s (fnOf name qual params body scope dV kV doc pm an cdv ct) args binds) (hkind : (binds.all fun y => scope.names.lookup y.1 == some .local || scope.names.lookup y.1 == some .cell) = true)
    (hnd : ((cellsFrom 0 scope.names []).map (·.1)).Nodup)
    (h : ∀ g L' h₁ tk cells, Fr h₀ L g m → Fr g L' h₁ (bindL (envOfC qual scope L' f cdv).kindOf binds fun _ => none) → News g L' h₁ (cells ++ ex) →
      CellsAre (bindC (envOfC qual scope L' f cdv).kindOf binds fun _ => none) (cellsFrom (L' + 1) scope.names []) cells → Below A base (env :: outer) g → K.In g → Top p loose mean mg mb g → (∀ q ∈ ex, q.1 < L') → (∀ q ∈ own, g.get? q.1 = some q.2) →
      wpAny (model prog w) (A.deeper (envOfC qual scope L' f cdv)) (execs body (envOfC qual scope L' f cdv))
        (fun fl s' => LeaveK h₀ L m g R (match fl with | .ret v => v | _ => .none) s')
        (fun e s' => wpAny (model prog w) (A.deeper (envOfC qual scope L' f cdv)) (leaving (envOfC qual scope L' f cdv) e) (fun _ s'' => R (.error e) s'') (fun e' s'' => R (.error e') s'') s')
        { s with heap := h₁, toks := tk })
    (hco : scope.isCoroutine = false) (hgen : scope.isGenerator = false) (hk : scope.kind = .function) : codeAny (model prog w) A (.call (.ref f) args) R s := by
  have Nex : News h₀ L s.heap ex := fun q hq => N q ((P.perm q).mpr (List.mem_append_left _ hq))
  have Now : News h₀ L s.heap own := fun q hq => N q ((P.perm q).mpr (List.mem_append_right _ hq))
  have off := P.off D
  obtain ⟨FG, BG, st, lv⟩ := groundX (R := R) B F Nex hA hf hke
  have hown : ∀ q ∈ own, (hideAll s.heap (ex.map (·.1))).get? q.1 = some q.2 := fun q hq => hideAll_get _ (Now q hq).1 fun z => by
    rw [← adr_eq] at z
    exact off q hq _ z rfl
  refine codeAny_call_function hroom ((X₀.keeps F.keep) _ _ ho) rfl hco hgen rfl (codeRec_of (X₀.keeps F.keep) hcd) (hbind _ _ _ _ ?_)
  refine wpAny_newFunctionEnv_cells hk (kindsX hkind _) fun env' he s' x => ?_
  subst he
  refine ⟨(T.nolimit.keeps F.keep).keeps x.toInCall.keep, codeAny_func ?_⟩
  obtain ⟨h₁, tk, rfl, _⟩ := x.done
  have hk₁ := x.toInCall.keep
  obtain ⟨cells, NC, Y⟩ := Cl.news (h₀ := s.heap) (Nat.le_refl _) fun n c hm => ⟨x.cell n c (lookup_of_mem_nodup (cellsFrom_names scope.names 0 (s.heap.objs.size + 1) [] [] rfl ▸ hnd) hm), x.above n c hm⟩
  refine wpAny_mono (h _ s.heap.objs.size h₁ tk cells FG ⟨x.toInCall.ns, fun b o e => hk₁ b o (of_hideAll _ e), Nat.le_of_eq (hideAll_size _ _)⟩ (fun q hq => ?_) Y BG (X₀.keeps st) (T.keeps st) (fun q hq => Heap.lt_size (Nex q hq).1) hown) (fun fl s' hl => lv _ _ hl) fun _ _ y => y
  rcases List.mem_append.mp hq with hq | hq
  · refine ⟨(NC q hq).1, (NC q hq).2.1, ?_⟩
    cases z : (hideAll s.heap (ex.map (·.1))).get? q.1 with
    | none => rfl
    | some o => have := of_hideAll _ z; rw [(NC q hq).2.2] at this; cases this
  · exact ⟨hk₁ _ _ (Nex q hq).1, Nat.ne_of_lt (Heap.lt_size (Nex q hq).1), hideAll_none _ (List.mem_map_of_mem hq)⟩
theorem item_at {news : List (Addr × Obj)} {value slice : PySem.Expr} {a : Addr} {l : List Value} {k : Int} {u : Tok} {n : Nat} {x : Value} (N : News h₀ L s.heap news) (hm : (a, listOf l.toArray n) ∈ news) (h0 : 0 ≤ k) (hfit : k < 2 ^ 63) (hx : l[k.toNat]? = some x) (h : Q x s)
    (hs : subscripted slice false (.ref a) (.int k u) = operate [.ref a, .int k u] (getItem (.ref a) (.int k u)) := by with_unfolding_all rfl) (hg : ∀ r, letTemporaryGo value (.ref a) r = pure () := by intro _; with_unfolding_all rfl) :
    wpAny (model prog w) A (subscriptTail value slice (.ref a) (.int k u)) Q E s := kim_list (lo := listOf l.toArray n) N hm rfl rfl h0 hfit hx h hs hg
end
end KR
end
section
open PySem PySem.W PyProof.Rows PySem.Calls
set_option Elab.async false
set_option maxRecDepth 100000
set_option maxHeartbeats 4000000
namespace KR
theorem pick_run {l : List Value} {x y : Int} (h0 : 0 ≤ x) (h1 : 0 ≤ y) : kms_pick l (some x) (some y) = (l.take y.toNat).drop x.toNat := by
  have a : ¬ x < 0 := by lia
  have b : ¬ y < 0 := by lia
  simp only [kms_pick, kms_lo, kms_hi, if_neg a, if_neg b]
  rw [List.drop_take]
  by_cases hx : x.toNat ≤ l.length
  · rw [Nat.min_eq_left hx]
    by_cases hy : y.toNat ≤ l.length
    · rw [Nat.min_eq_left hy]
    · rw [Nat.min_eq_right (by lia), List.take_of_length_le (by simp), List.take_of_length_le (by simp; lia)]
  · rw [Nat.min_eq_right (Nat.le_of_lt (Nat.lt_of_not_le hx)), List.drop_length, List.drop_of_length_le (by lia)]
    simp
theorem pick_upto {l : List Value} {y : Int} (h1 : 0 ≤ y) : kms_pick l none (some y) = l.take y.toNat := by
  have b : ¬ y < 0 := by lia
  simp only [kms_pick, kms_lo, kms_hi, if_neg b, List.drop_zero, Nat.sub_zero]
  by_cases hy : y.toNat ≤ l.length
  · rw [Nat.min_eq_left hy]
  · rw [Nat.min_eq_right (by lia), List.take_of_length_le (Nat.le_refl _), List.take_of_length_le (by lia)]
theorem pick_from {l : List Value} {x : Int} (h0 : 0 ≤ x) : kms_pick l (some x) none = l.drop x.toNat := by
  have a : ¬ x < 0 := by lia
  simp only [kms_pick, kms_lo, kms_hi, if_neg a]
  by_cases hx : x.toNat ≤ l.length
  · rw [Nat.min_eq_left hx, List.take_of_length_le (by simp)]
  · rw [Nat.min_eq_right (by lia), List.drop_length, List.drop_of_length_le (by lia)]
    simp
section
variable {prog : Program} {w : World} {A : Around} {E : Value → Shared → Prop} {s : Shared} {h₀ : Heap} {L l b : Addr} {m : Str → Option Value} {news news' : List (Addr × Obj)} {value slice : PySem.Expr} {vs ws : List Value} {n nb : Nat} {x y : Int} {tx ty : Nat}
theorem add_at {Q : Value → Shared → Prop} (F : Fr h₀ L s.heap m) (N : News h₀ L s.heap news) (ha : (l, listOf vs.toArray n) ∈ news) (hb : (b, listOf ws.toArray nb) ∈ news) (hz : vs.length + ws.length ≤ 4000)
    (h : ∀ D h', Fr h₀ L h' m → News h₀ L h' ((D, listOf (vs ++ ws).toArray 0) :: news) → (∀ p ∈ news, p.1 < D) → Q (.ref D) { s with heap := h' }) :
    wpAny (model prog w) A (binaryOp .Add (.ref l) (.ref b)) Q E s :=
  kmk_add_lit F N (PySem.IsL.isList (n := n) (N _ ha).1) (PySem.IsL.isList (n := nb) (N _ hb).1) rfl h (by rw [sizeLine_eq]; show vs.length + ws.length ≤ _; lia)
theorem len_at {Q : Value → Shared → Prop} (N : News h₀ L s.heap news) (hm : (l, listOf vs.toArray n) ∈ news) (hz : vs.length ≤ 4000)
    (h : Q (.int (vs.length : Int) (s.toks + 1)) { s with toks := s.toks + 1 + 1 }) : wpAny (model prog w) A (call (.builtin "len") [.ref l]) Q E s :=
  kst_len N hm rfl (by lia) h
theorem setslice_raw {sl : Addr} {items new : Array Value} {Q : Unit → Shared → Prop} (ho : s.heap.get? l = some (listOf items n)) (hs : s.heap.IsSliceOf sl (.int x tx) (.int y ty) .none) (hb : s.heap.get? b = some (listOf new nb)) (hne : l ≠ b) (h0 : 0 ≤ x) (h1 : x ≤ y) (h2 : y ≤ items.size) (hz : items.size + new.size ≤ 8000)
    (hQ : Q () { s with heap := s.heap.update l (Obj.mapSeq fun xs => xs.extract 0 x.toNat ++ new ++ xs.extract y.toNat xs.size) }) : wpAny (model prog w) A (setItem (.ref l) (.ref sl) (.ref b)) Q E s := by
  have hl : s.heap.IsList l items := PySem.IsL.isList (n := n) ho
  obtain ⟨os, hos, hcs, hds⟩ := id hs
  have hTs : s.TypeIs (.ref sl) "slice" := ⟨os, hos, hcs⟩
  have hTb : s.TypeIs (.ref b) "list" := ⟨_, hb, rfl⟩
  unfold setItem
  try with_reducible refine wpAny_holding ?_
  first | refine wpAny_bind (wpAny_pure ?_) | skip
  refine wpAny_bind (wpAny_sequenceKey hl.typeIs (by decide) ?_)
  refine wpAny_bind (wpAny_callSpecial?_slot (name := Str.ofString "__setitem__") hl.typeIs PySem.slot_list_setitem
    (wpAny_call_entry PySem.slot_list_setitem hl.typeIs PySem.entry_list_setitem ?_ (args_list_setitem _ _ _)))
  show wpAny _ _ (Builtin.List.listSubscript? (.ref sl) >>= _) _ _ s
  refine wpAny_bind ?_
  unfold Builtin.List.listSubscript?
  refine wpAny_bind (wpAny_specialOf hTs slice_no_index ?_)
  simp only [Option.isNone_none, if_true]
  refine wpAny_pure ?_
  show wpAny _ _ (typeOf (.ref sl) >>= _) _ _ s
  refine wpAny_bind (wpAny_typeOf hTs ?_)
  rw [if_neg (by decide)]
  rw [listSliceParts_eq]
  refine wpAny_bind (wpAny_bind (wpAny_field hos hds (x := .none) rfl (wpAny_bind (wpAny_listPart .none ?_))))
  have hstep : ¬ ((rawPart none == rawInt 0) = true) := Bool.false_ne_true
  rw [if_neg hstep]
  refine wpAny_bind (wpAny_field hos hds (x := .int x tx) rfl (wpAny_bind (wpAny_listPart (.int x tx) ?_)))
  refine wpAny_bind (wpAny_field hos hds (x := .int y ty) rfl (wpAny_bind (wpAny_listPart (.int y ty) (wpAny_pure ?_))))
  have hns : Builtin.List.listSameRef (.ref l) (.ref b) = false := by
    unfold Builtin.List.listSameRef
    simp [hne]
  rw [hns]
  simp only [Bool.false_eq_true, if_false]
  refine wpAny_bind (m := Builtin.List.listAllItems (.ref b) "must assign iterable to extended slice") ?_
  unfold Builtin.List.listAllItems
  refine wpAny_bind (wpAny_typeOf hTb ?_)
  rw [if_pos (by decide)]
  refine wpAny_bind (wpAny_seqItems hb rfl (wpAny_pure ?_))
  refine wpAny_bind (wpAny_listItems ho rfl ?_)
  have hsi : sliceIndices (rawPart (some x)) (rawPart (some y)) (rawPart none) items.size = pure (x, y, 1) := by
    rw [sliceIndices_raw _ _ _ _ (by simp)]
    have e := kms_bounds (some x) (some y) items.size
    rw [e]
    have a1 : ¬ x < 0 := by lia
    have a2 : ¬ y < 0 := by lia
    simp only [kms_lo, kms_hi, if_neg a1, if_neg a2]
    congr 2
    · lia
    · congr 1
      lia
  refine wpAny_bind (wpAny_of_eq hsi ?_)
  rw [if_pos (show (((x, y, (1 : Int)) : Int × Int × Int).2.snd == 1) = true from rfl)]
  refine wpAny_bind (wpAny_rule ?_)
  rw [if_neg (by unfold Builtin.List.listTooLong; rw [sizeLine_eq]; simp; lia)]
  have hmx : max x y = y := by lia
  dsimp only
  rw [hmx]
  show wpAny _ _ (updateSeq l (fun xs => xs.extract 0 x.toNat ++ new ++ xs.extract y.toNat xs.size) >>= _) _ _ s
  refine wpAny_bind (wpAny_updateSeq ho rfl ?_ (by rw [sizeLine_eq]; lia) (by rw [sizeLine_eq]; simp only [Array.size_append, Array.size_extract]; lia))
  exact wpAny_bind (wpAny_letGo (wpAny_pure ⟨.none, rfl, wpAny_pure hQ⟩))
theorem setslice_list (vs ws : List Value) (i j : Nat) (h : j ≤ vs.length) : (vs.toArray.extract 0 i ++ ws.toArray ++ vs.toArray.extract j vs.toArray.size) = (vs.take i ++ (ws ++ vs.drop j)).toArray := by
  apply Array.toList_inj.mp
  simp only [Array.toList_append, Array.toList_extract, List.append_assoc, List.size_toArray, List.extract_eq_take_drop, List.drop_zero, Nat.sub_zero]
  rw [List.take_of_length_le (l := List.drop j vs) (by simp)]
theorem setslice_at {Q : Unit → Shared → Prop} (F : Fr h₀ L s.heap m) (N : News h₀ L s.heap news) (hb : (b, listOf ws.toArray nb) ∈ news) (hne : l ≠ b) (h0 : 0 ≤ x) (h1 : x ≤ y) (h2 : y ≤ vs.length) (hz : vs.length + ws.length ≤ 8000)
    {n' : Nat} (hn' : n' = if (vs.take x.toNat ++ (ws ++ vs.drop y.toNat)).toArray.size == vs.toArray.size then n else n + 1)
    (U : Upd l (listOf vs.toArray n) (listOf (vs.take x.toNat ++ (ws ++ vs.drop y.toNat)).toArray n') news news')
    (h : ∀ h', Fr h₀ L h' m → News h₀ L h' news' → Q () { s with heap := h' }) :
    wpAny (model prog w) A (setItem (.ref l) (.ref s.heap.objs.size) (.ref b)) Q E { s with heap := s.heap.push { cls := .type "slice", data := .fields #[.int x tx, .int y ty, .none] } } := by
  obtain ⟨pre, post, rfl, rfl, a, c⟩ := U.split
  have F1 := F.push { cls := .type "slice", data := .fields #[.int x tx, .int y ty, .none] }
  have N1 : News h₀ L (s.heap.push { cls := .type "slice", data := .fields #[.int x tx, .int y ty, .none] }) (pre ++ (l, listOf vs.toArray n) :: post) := fun p hp => ⟨Heap.get?_push_of_some _ (N p hp).1, (N p hp).2⟩
  have z := N1 (l, listOf vs.toArray n) (List.mem_append.mpr (.inr (.head _)))
  refine setslice_raw (s := { s with heap := s.heap.push _ }) (n := n) (nb := nb) z.1 (Heap.IsSliceOf.new ..) (N1 _ hb).1 hne h0 h1 (by rw [List.size_toArray]; exact h2) (by rw [List.size_toArray, List.size_toArray]; exact hz) ?_
  refine h _ (F1.change (Heap.SameBut.update ..) z.2.1 z.2.2) (ki_turn _ N1 a c ?_ hn'.symm)
  exact setslice_list vs ws _ _ (by lia)
end
section
variable {prog : Program} {w : World} {A : Around} {E : Value → Shared → Prop} {K : Frag} {h₀ hp : Heap} {L x C dx : Addr} {m : Str → Option Value} {news news' : List (Addr × Obj)} {ge dr os} {tk : Nat} {ox : Obj} {es es' : List DictEntry} {n n' : Nat} {name : Str} {v : Value} {env : Env}
theorem const_clean {i : Int} {k pos} {Q : Value → Shared → Prop} (h : ∀ t' tk', Q (.int i t') ⟨hp, ge, dr, tk', os⟩) : wpAny (model prog w) A (eval (.Constant (.int i) k pos) env) Q E ⟨hp, ge, dr, tk, os⟩ := wpAny_Constant_int (h _ _)
theorem add_clean {a b : Int} {t u : Tok} {Q : Value → Shared → Prop} (h : ∀ t' tk', Q (.int (a + b) t') ⟨hp, ge, dr, tk', os⟩) : wpAny (model prog w) A (binaryOp .Add (.int a t) (.int b u)) Q E ⟨hp, ge, dr, tk, os⟩ := add_int (h _ _)
theorem sub_clean {a b : Int} {t u : Tok} {Q : Value → Shared → Prop} (h : ∀ t' tk', Q (.int (a - b) t') ⟨hp, ge, dr, tk', os⟩) : wpAny (model prog w) A (binaryOp .Sub (.int a t) (.int b u)) Q E ⟨hp, ge, dr, tk, os⟩ := sub_int (h _ _)
theorem get_clean {expr : Bool} {Q : Value → Shared → Prop} {attr : Option Value} (F : Fr h₀ L hp m) (X₀ : K.In h₀) (I : InstAt hp x ox C (some (dictOf es n))) (hg : plainGet K C name = true) (hh : hasDictIn K C = true)
    (ha : findIn K (.ref C) name = some attr) (hn : noGet K attr = true) (hl : getL name es = some (some v)) (hv : handedIn v = true) (h : ∀ tk', Q v ⟨hp, ge, dr, tk', os⟩) :
    wpAny (model prog w) A (getAttr (.ref x) name expr) Q E ⟨hp, ge, dr, tk, os⟩ := get_own (s := ⟨hp, ge, dr, tk, os⟩) F X₀ I hg hh ha hn hl hv (h _)
theorem set_clean {Q : Unit → Shared → Prop} (F : Fr h₀ L hp m) (X₀ : K.In h₀) (N : News h₀ L hp news) (I : InstAt hp x ox C (some (dictOf es n))) (hd : ox.dict = some dx)
    (hs : findIn K (.ref C) "__setattr__" = some (some (.builtin "object.__setattr__"))) (hpl : plainOver K C = true) (ht : takerIn K C name = some none) (hh : hasDictIn K C = true) (hl : (getL name es).isSome = true)
    (e : (putL name (PyData.keyHash w.params name) (.str name (tk + 1)) v es, putN name es n) = (es', n')) (U : Upd dx (dictOf es n) (dictOf es' n') news news') (hz : es'.length ≤ 1000)
    (h : ∀ h' tk', Fr h₀ L h' m → News h₀ L h' news' → Q () ⟨h', ge, dr, tk', os⟩) :
    wpAny (model prog w) A (setAttr (.ref x) name v) Q E ⟨hp, ge, dr, tk, os⟩ := set_dict (s := ⟨hp, ge, dr, tk, os⟩) F X₀ N I hd hs hpl ht hh hl e U hz (fun h' F' N' => h h' _ F' N')
end
end KR
end
section
open PySem PySem.W PyProof.Rows PySem.Calls
set_option Elab.async false
set_option maxRecDepth 100000
set_option maxHeartbeats 4000000
namespace KR
inductive Bi where
  | len | min | max | list | sorted | range
noncomputable def Bi.val : Bi → Value
  | .len => .builtin "len" | .min => .builtin "min" | .max => .builtin "max" | .list => .type "list" | .sorted => .builtin "sorted" | .range => .type "range"
inductive SV where
  | i (z : Int) | r (p : Nat) | n | b (t : Bool) | c (p : Prop) | u | x | g (a : Nat) | f (b : Bi) | cl (p : Nat) | j (n : Nat)
noncomputable abbrev Al := Nat → Option Addr
noncomputable def Ext (α β : Al) : Prop := ∀ p a, α p = some a → β p = some a
theorem Ext.rfl' {α : Al} : Ext α α := fun _ _ h => h
theorem Ext.trans {α β γ : Al} (h : Ext α β) (g : Ext β γ) : Ext α γ := fun p a e => g p a (h p a e)
noncomputable def SV.Is (α : Al) : SV → Value → Prop
  | .i z, v => ∃ t, v = .int z t
  | .r p, v => ∃ a, α p = some a ∧ v = .ref a
  | .n, v => v = .none
  | .b t, v => v = .bool t
  | .c p, v => ∃ t : Bool, v = .bool t ∧ (t = true ↔ p)
  | .u, v => ∃ z t, v = .int z t
  | .x, _ => True
  | .g a, v => v = .ref a
  | .f y, v => v = y.val
  | .cl _, _ => False
  | .j k, v => ∃ t, v = .int (k : Int) t
theorem SV.Is.mono {α β : Al} (e : Ext α β) : ∀ {s : SV} {v : Value}, s.Is α v → s.Is β v
  | .i _, _, h | .n, _, h | .b _, _, h | .c _, _, h | .u, _, h | .x, _, h | .g _, _, h | .f _, _, h | .cl _, _, h | .j _, _, h => h
  | .r _, _, ⟨a, h1, h2⟩ => ⟨a, e _ _ h1, h2⟩
noncomputable def eqL : List Nat → List Nat → Bool
  | [], [] => true
  | a :: r, b :: s => match Nat.beq a b with
    | true => eqL r s
    | false => false
  | _, _ => false
noncomputable def eqS (a b : Str) : Bool := eqL a.cps.toList b.cps.toList
theorem eqL_iff : ∀ {a b : List Nat}, eqL a b = true ↔ a = b
  | [], [] => by simp [eqL]
  | [], _ :: _ => by simp [eqL]
  | _ :: _, [] => by simp [eqL]
  | a :: r, b :: s => by
    unfold eqL
    cases h : Nat.beq a b with
    | true => simp only [Nat.eq_of_beq_eq_true h, eqL_iff, List.cons.injEq, true_and]
    | false => simp only [List.cons.injEq, Nat.ne_of_beq_eq_false h, false_and, Bool.false_eq_true]
theorem eqS_iff {a b : Str} : eqS a b = true ↔ a = b := by
  obtain ⟨⟨a⟩⟩ := a
  obtain ⟨⟨b⟩⟩ := b
  simp [eqS, eqL_iff]
theorem eqS_no {a b : Str} : eqS a b = false ↔ a ≠ b := by
  rw [← Bool.not_eq_true, eqS_iff]
noncomputable def lkS {α : Type} (x : Str) : List (Str × α) → Option α
  | [] => none
  | (y, v) :: r => match eqS x y with
    | true => some v
    | false => lkS x r
noncomputable def putS {α : Type} (x : Str) (v : α) : List (Str × α) → List (Str × α)
  | [] => [(x, v)]
  | (y, w) :: r => match eqS x y with
    | true => (y, v) :: r
    | false => (y, w) :: putS x v r
theorem lkS_lookup {α : Type} {x : Str} : ∀ {l : List (Str × α)}, lkS x l = l.lookup x
  | [] => rfl
  | (y, v) :: r => by
    unfold lkS
    rw [List.lookup_cons]
    cases h : eqS x y with
    | true => simp [eqS_iff.mp h]
    | false => simp [show (x == y) = false by simpa using eqS_no.mp h, lkS_lookup]
theorem lkS_put {α : Type} {x : Str} {v : α} : ∀ {l : List (Str × α)} (y : Str), lkS y (putS x v l) = if eqS y x = true then some v else lkS y l
  | [], y => by
    simp only [putS, lkS]
    cases eqS y x <;> rfl
  | (z, w) :: r, y => by
    unfold putS
    cases h : eqS x z with
    | true =>
      have e := eqS_iff.mp h
      subst e
      simp only [lkS]
      cases eqS y x <;> rfl
    | false =>
      simp only [lkS]
      cases h2 : eqS y z with
      | true =>
        have e := eqS_iff.mp h2
        subst e
        have : eqS y x = false := eqS_no.mpr fun e => eqS_no.mp h e.symm
        simp [this]
      | false => exact lkS_put y
inductive FsAre (P : Params) (α : Al) : List (Str × SV) → List DictEntry → Prop
  | nil : FsAre P α [] []
  | cons {x : Str} {sv : SV} {v : Value} {k : Tok} {fs es} : sv.Is α v → FsAre P α fs es → FsAre P α ((x, sv) :: fs) (⟨PyData.keyHash P x, .str x k, v⟩ :: es)
theorem FsAre.mono {P : Params} {α β : Al} (e : Ext α β) {fs es} (h : FsAre P α fs es) : FsAre P β fs es := by
  induction h with
  | nil => exact .nil
  | cons h _ ih => exact .cons (h.mono e) ih
theorem isStr_str {x y : Str} {k : Tok} : (Value.str y k).isStr x = eqS x y := by
  cases h : eqS x y with
  | true => rw [eqS_iff.mp h]; simp [Value.isStr]
  | false => have := eqS_no.mp h; simp [Value.isStr]; exact fun e => this e.symm
theorem FsAre.get {P : Params} {α : Al} {x : Str} {sv : SV} : ∀ {fs es}, FsAre P α fs es → lkS x fs = some sv → ∃ v, getL x es = some (some v) ∧ sv.Is α v := by
  intro fs es h
  suffices H : lkS x fs = some sv → ∃ e, es.find? (·.key.isStr x) = some e ∧ sv.Is α e.val from fun g => by
    obtain ⟨e, h1, h2⟩ := H g
    exact ⟨e.val, by simp [getL, h1], h2⟩
  induction h with
  | nil => intro g; cases g
  | @cons y w v k fs es i h ih =>
    intro g
    simp only [lkS] at g
    rw [List.find?_cons]
    rw [show (Value.str y k).isStr x = eqS x y from isStr_str]
    cases e : eqS x y with
    | true => rw [e] at g; cases g; exact ⟨_, rfl, i⟩
    | false => rw [e] at g; exact ih g
theorem FsAre.norefs {P : Params} {α : Al} {fs es} (h : FsAre P α fs es) : es.any (·.refKey) = false := by
  induction h with
  | nil => rfl
  | cons _ _ ih => rw [List.any_cons, ih]; rfl
theorem FsAre.no {P : Params} {α : Al} {x : Str} {fs es} (h : FsAre P α fs es) (g : lkS x fs = none) : getL x es = some none := by
  have H : es.find? (·.key.isStr x) = none := by
    induction h with
    | nil => rfl
    | @cons y w v k fs es i h ih =>
      simp only [lkS] at g
      rw [List.find?_cons, show (Value.str y k).isStr x = eqS x y from isStr_str]
      cases e : eqS x y with
      | true => rw [e] at g; cases g
      | false => rw [e] at g; exact ih g
  simp [getL, H, h.norefs]
theorem FsAre.isSome {P : Params} {α : Al} {x : Str} {fs es} (h : FsAre P α fs es) : (getL x es).isSome = true := by
  cases g : lkS x fs with
  | none => rw [h.no g]; rfl
  | some sv => obtain ⟨v, e, _⟩ := h.get g; rw [e]; rfl
theorem FsAre.put {P : Params} {α : Al} {x : Str} {sv : SV} {v : Value} {k : Tok} (i : sv.Is α v) {fs es} (h : FsAre P α fs es) : FsAre P α (putS x sv fs) (putL x (PyData.keyHash P x) (.str x k) v es) := by
  induction h with
  | nil => exact .cons i .nil
  | @cons y w u k' fs es j h ih =>
    simp only [putS, putL]
    rw [show (Value.str y k').isStr x = eqS x y from isStr_str]
    cases eqS x y with
    | true => exact .cons i h
    | false => exact .cons j ih
theorem FsAre.putN {P : Params} {α : Al} {x : Str} {sv : SV} {fs es} (h : FsAre P α fs es) {n : Nat} (e : n = fs.length) : PySem.W.putN x es n = (putS x sv fs).length := by
  subst e
  have key : ∀ {fs es}, FsAre P α fs es → (if es.any (·.key.isStr x) = true then fs.length else fs.length + 1) = (putS x sv fs).length := by
    intro fs es h
    induction h with
    | nil => rfl
    | @cons y w u k' fs es j h ih =>
      simp only [putS, List.any_cons, isStr_str]
      cases eqS x y with
      | true => simp
      | false => simp only [Bool.false_or, List.length_cons]; rw [← ih]; split <;> rfl
  exact key h
theorem FsAre.len {P : Params} {α : Al} {fs es} (h : FsAre P α fs es) : es.length = fs.length := by
  induction h with
  | nil => rfl
  | cons _ _ ih => simp [ih]
inductive AreAll (α : Al) : List SV → List Value → Prop
  | nil : AreAll α [] []
  | cons {s v l vs} : s.Is α v → AreAll α l vs → AreAll α (s :: l) (v :: vs)
theorem AreAll.mono {α β : Al} (e : Ext α β) {l vs} (h : AreAll α l vs) : AreAll β l vs := by
  induction h with
  | nil => exact .nil
  | cons h _ ih => exact .cons (h.mono e) ih
theorem AreAll.len {α : Al} {l vs} (h : AreAll α l vs) : vs.length = l.length := by
  induction h with
  | nil => rfl
  | cons _ _ ih => simp [ih]
theorem AreAll.append {α : Al} {l vs l' vs'} (h : AreAll α l vs) (g : AreAll α l' vs') : AreAll α (l ++ l') (vs ++ vs') := by
  induction h with
  | nil => exact g
  | cons h _ ih => exact .cons h ih
end KR
end
section
open PySem PySem.W PyProof.Rows PySem.Calls
set_option Elab.async false
set_option maxRecDepth 100000
set_option maxHeartbeats 4000000
namespace KR
noncomputable def chkGet (K : Frag) (C : Addr) (n : Str) : Bool := plainGet K C n && hasDictIn K C && (match findIn K (.ref C) n with | some none => true | _ => false)
noncomputable def chkSet (K : Frag) (C : Addr) (n : Str) : Bool := (match findIn K (.ref C) "__setattr__" with | some (some (.builtin b)) => b == "object.__setattr__" | _ => false) && plainOver K C && (match takerIn K C n with | some none => true | _ => false)
noncomputable def atab : List (Nat × List Str) :=
  [(171, ["codes", "runs"]), (216, ["most", "pieces", "pointer"]), (314, ["number", "advances", "buffer", "position"]), (382, ["rows"]), (410, ["most", "markers", "last"]),
   (579, ["room", "cells", "gap_start", "gap_end"]),
   (685, ["number", "name", "text", "markers", "point", "begv", "zv", "mark", "is_live", "is_read_only", "ticks", "codes_ticks", "saved_ticks", "listeners", "undo", "props", "overlays", "locals", "syntax", "file"])]
theorem atab_ok (P : Params) : (atab.all fun q => q.2.all fun n => chkGet (hp P) q.1 n && chkSet (hp P) q.1 n) = true := by kernel_rfl
noncomputable def known (C : Nat) (n : Str) : Bool := atab.any fun q => Nat.beq q.1 C && q.2.any fun m => eqS m n
theorem known_ok {C : Nat} {n : Str} (h : known C n = true) (P : Params) : chkGet (hp P) C n = true ∧ chkSet (hp P) C n = true := by
  obtain ⟨q, hq, h⟩ := List.any_eq_true.mp h
  simp only [Bool.and_eq_true] at h
  obtain ⟨h1, h2⟩ := h
  obtain ⟨m, hm, e⟩ := List.any_eq_true.mp h2
  have e1 := Nat.eq_of_beq_eq_true h1
  have e2 := eqS_iff.mp e
  subst e1 e2
  have H := List.all_eq_true.mp (List.all_eq_true.mp (atab_ok P) q hq) m hm
  simpa only [Bool.and_eq_true] using H
noncomputable def mtab : List (Nat × Str × Nat) :=
  [(382, "numbers", 337), (382, "put", 344), (382, "drop", 351), (382, "inserted", 365), (382, "deleted", 372),
   (579, "size", 513), (579, "codes", 527), (579, "move_gap", 534), (579, "widen_gap", 541), (579, "insert", 548), (579, "delete", 555),
   (685, "size", 633), (685, "codes", 647), (685, "goto", 654), (685, "touch", 682)]
noncomputable def chkM (K : Frag) (C : Addr) (n : Str) (f : Addr) : Bool := plainGet K C n && (match findIn K (.ref C) n with | some (some (.ref g)) => Nat.beq g f | _ => false) && isFn K (.ref f) && keepIn K (.ref f)
theorem mtab_ok (P : Params) : (mtab.all fun q => chkM (hp P) q.1 q.2.1 q.2.2) = true := by kernel_rfl
noncomputable def methOf (C : Nat) (n : Str) : List (Nat × Str × Nat) → Option Nat
  | [] => none
  | (D, m, f) :: r => match Nat.beq C D with
    | true => (match eqS n m with
      | true => some f
      | false => methOf C n r)
    | false => methOf C n r
theorem methOf_mem {C : Nat} {n : Str} {f : Nat} : ∀ {l}, methOf C n l = some f → (C, n, f) ∈ l
  | [], h => nomatch h
  | (D, m, g) :: r, h => by
    unfold methOf at h
    split at h
    · rename_i e1
      split at h
      · rename_i e2
        cases h
        rw [Nat.eq_of_beq_eq_true e1, eqS_iff.mp e2]
        exact .head _
      · exact .tail _ (methOf_mem h)
    · exact .tail _ (methOf_mem h)
theorem methOf_ok {C : Nat} {n : Str} {f : Nat} (h : methOf C n mtab = some f) (P : Params) : chkM (hp P) C n f = true := List.all_eq_true.mp (mtab_ok P) _ (methOf_mem h)
end KR
end
section
open PySem PySem.W PyProof.Rows PySem.Calls
set_option Elab.async false
set_option maxRecDepth 100000
set_option maxHeartbeats 4000000
namespace KR
inductive SO where
  | obj (C : Nat) (fs : List (Str × SV))
  | list (l : List SV)
  | ints (T : List Int)
  | tup (l : List SV)
  | gap (T : List Int) (bd : Nat)
  | rows (l : List (Int × Nat))
  | cell (v : Option SV)
  | deck
noncomputable def gapα (a c : Addr) : Al := fun p => match p with
  | 0 => some a
  | 1 => some c
  | _ => none
noncomputable def gapF (gs ge : Int) : List (Str × SV) := [("room", .i 8), ("cells", .r 1), ("gap_start", .i gs), ("gap_end", .i ge)]
inductive RowsAre (α : Al) : List (Int × Nat) → List (Int × Value) → Prop
  | nil : RowsAre α [] []
  | cons {k p a l kvs} : α p = some a → RowsAre α l kvs → RowsAre α ((k, p) :: l) ((k, .ref a) :: kvs)
theorem RowsAre.mono {α β : Al} (e : Ext α β) {l kvs} (h : RowsAre α l kvs) : RowsAre β l kvs := by
  induction h with
  | nil => exact .nil
  | cons h _ ih => exact .cons (e _ _ h) ih
noncomputable def SO.Is (w : World) (α : Al) : SO → Addr → List (Addr × Obj) → Prop
  | .obj C fs, a, cs => ∃ d es, cs = [(a, instObj C d), (d, dictOf es fs.length)] ∧ FsAre w.params α fs es
  | .list l, a, cs => ∃ vs n, cs = [(a, listOf vs.toArray n)] ∧ AreAll α l vs
  | .ints T, a, cs => ∃ vs n, cs = [(a, listOf vs.toArray n)] ∧ IntsAre vs T
  | .tup l, a, cs => ∃ vs, cs = [(a, { cls := .type "tuple", data := .seq vs.toArray })] ∧ AreAll α l vs
  | .gap T bd, a, cs => ∃ gd es c vs n C gs ge, cs = [(a, instObj 579 gd), (gd, dictOf es 4), (c, listOf vs.toArray n)] ∧ FsAre w.params (gapα a c) (gapF (gs : Nat) (ge : Nat)) es ∧ IntsAre vs C ∧ gs ≤ ge ∧ ge ≤ C.length ∧ C.length ≤ bd ∧ T = C.take gs ++ C.drop ge
  | .rows l, a, cs => ∃ ro kvs, cs = [(a, ro)] ∧ (a == sysModules) = false ∧ ro.IsDictOf (PySem.intKind Pg w) kvs ∧ RowsAre α l kvs
  | .cell (some sv), a, cs => ∃ ob u, cs = [(a, ob)] ∧ ob.data = .cell (some u) ∧ sv.Is α u
  | .cell none, a, cs => ∃ ob, cs = [(a, ob)] ∧ ob.data = .cell none
  | .deck, a, cs => ∃ b d n t vs ws k0 k1 k2 R C, cs = [(a, listOf [.ref b, .ref d, .int n t].toArray k0), (b, listOf vs.toArray k1), (d, listOf ws.toArray k2)] ∧ IntsAre vs R ∧ IntsAre ws C ∧ R.length ≤ 64 ∧ 0 < C.length ∧ C.length ≤ 64
theorem SO.Is.mono {w : World} {α β : Al} (e : Ext α β) : ∀ {o : SO} {a cs}, o.Is w α a cs → o.Is w β a cs
  | .obj _ _, _, _, ⟨d, es, h1, h2⟩ => ⟨d, es, h1, h2.mono e⟩
  | .list _, _, _, ⟨vs, n, h1, h2⟩ => ⟨vs, n, h1, h2.mono e⟩
  | .ints _, _, _, h => h
  | .tup _, _, _, ⟨vs, h1, h2⟩ => ⟨vs, h1, h2.mono e⟩
  | .gap _ _, _, _, h => h
  | .rows _, _, _, ⟨ro, kvs, h1, h2, h3, h4⟩ => ⟨ro, kvs, h1, h2, h3, h4.mono e⟩
  | .cell (some _), _, _, ⟨ob, u, h1, h2, h3⟩ => ⟨ob, u, h1, h2, h3.mono e⟩
  | .cell none, _, _, h => h
  | .deck, _, _, h => h
structure HS where
  nx : Nat
  σ : List (Nat × SO)
noncomputable def lk (p : Nat) : List (Nat × SO) → Option SO
  | [] => none
  | (q, o) :: r => match Nat.beq p q with
    | true => some o
    | false => lk p r
noncomputable def up (p : Nat) (o' : SO) : List (Nat × SO) → List (Nat × SO)
  | [] => []
  | (q, o) :: r => match Nat.beq p q with
    | true => (q, o') :: r
    | false => (q, o) :: up p o' r
inductive Cells (w : World) (α : Al) : List (Nat × SO) → List (Addr × Obj) → Prop
  | nil : Cells w α [] []
  | cons {p o a cs σ lit} : α p = some a → o.Is w α a cs → Cells w α σ lit → Cells w α ((p, o) :: σ) (cs ++ lit)
theorem Cells.mono {w : World} {α β : Al} (e : Ext α β) {σ lit} (h : Cells w α σ lit) : Cells w β σ lit := by
  induction h with
  | nil => exact .nil
  | cons h1 h2 _ ih => exact .cons (e _ _ h1) (h2.mono e) ih
theorem Cells.find {w : World} {α : Al} {p : Nat} {o : SO} : ∀ {σ lit}, Cells w α σ lit → lk p σ = some o →
    ∃ a cs pre post, α p = some a ∧ lit = pre ++ (cs ++ post) ∧ o.Is w α a cs ∧ (∀ α', Ext α α' → ∀ o' cs', o'.Is w α' a cs' → Cells w α' (up p o' σ) (pre ++ (cs' ++ post))) := by
  intro σ lit h
  induction h with
  | nil => intro g; cases g
  | @cons q oq a cs σ lit h1 h2 h3 ih =>
    intro g
    simp only [lk] at g
    cases e : Nat.beq p q with
    | true =>
      rw [e] at g
      cases g
      have e' := Nat.eq_of_beq_eq_true e
      subst e'
      refine ⟨a, cs, [], lit, h1, rfl, h2, fun α' x o' cs' h' => ?_⟩
      simp only [up, e, List.nil_append]
      exact .cons (x _ _ h1) h' (h3.mono x)
    | false =>
      rw [e] at g
      obtain ⟨b, cb, pre, post, i1, i2, i3, i4⟩ := ih g
      refine ⟨b, cb, cs ++ pre, post, i1, by rw [i2, List.append_assoc], i3, fun α' x o' cs' h' => ?_⟩
      simp only [up, e, List.append_assoc]
      exact .cons (x _ _ h1) (h2.mono x) (i4 α' x o' cs' h')
structure Cx where
  (w : World) (q : Program) (loose : List Str) (mean : ExcName → Option Value) (mg mb : Str → Option Value) (dp un : Nat) (gds : Option (List Code)) (cnm : Str) (csc : Scope) (acl : Addr) (ccd : Value) (outer : List Env) (A₀ : Around) (base h₀ : Heap) (L : Addr) (clo : List (Str × Addr))
structure Cx.Ok (c : Cx) (d : Nat) : Prop where
  B : Below c.A₀ c.base c.outer c.h₀
  X : (hp c.w.params).In c.h₀
  T : Top c.q c.loose c.mean c.mg c.mb c.h₀
  hk : c.csc.kind = .function
  hdp : c.dp + 20 * d ≤ 900
  hun : c.un + 200 * d ≤ 5000
noncomputable abbrev Cx.A (c : Cx) : Around := ktrTop c.dp c.un c.gds c.cnm c.csc c.L c.acl c.ccd c.clo c.outer
noncomputable abbrev Cx.env (c : Cx) : Env := envX c.cnm c.csc c.L c.acl c.ccd c.clo
theorem Cx.Ok.room {c : Cx} {d : Nat} (O : c.Ok d) : c.A.units + 64 < cLine := by
  have := O.hun
  show c.un + 64 < 9900
  lia
noncomputable abbrev Loc := List (Str × SV)
noncomputable def LocIs (c : Cx) (m : Str → Option Value) (α : Al) (x : Str) : SV → Prop
  | .cl p => ∃ a, c.clo.lookup x = some a ∧ α p = some a
  | sv => ∃ v, m x = some v ∧ sv.Is α v
theorem LocIs.mono {c : Cx} {m : Str → Option Value} {α β : Al} {x : Str} (e : Ext α β) : ∀ {sv : SV}, LocIs c m α x sv → LocIs c m β x sv
  | .cl _, ⟨a, h1, h2⟩ => ⟨a, h1, e _ _ h2⟩
  | .i _, ⟨v, h1, h2⟩ | .r _, ⟨v, h1, h2⟩ | .n, ⟨v, h1, h2⟩ | .b _, ⟨v, h1, h2⟩ | .c _, ⟨v, h1, h2⟩ | .u, ⟨v, h1, h2⟩ | .x, ⟨v, h1, h2⟩ | .g _, ⟨v, h1, h2⟩ | .f _, ⟨v, h1, h2⟩ | .j _, ⟨v, h1, h2⟩ => ⟨v, h1, h2.mono e⟩
theorem LocIs.of {c : Cx} {m : Str → Option Value} {α : Al} {x : Str} {v : Value} (h : m x = some v) : ∀ {sv : SV}, sv.Is α v → LocIs c m α x sv
  | .cl _, i => i.elim
  | .i _, i | .r _, i | .n, i | .b _, i | .c _, i | .u, i | .x, i | .g _, i | .f _, i | .j _, i => ⟨v, h, i⟩
theorem LocIs.at {c : Cx} {m m' : Str → Option Value} {α : Al} {x : Str} (e : m' x = m x) : ∀ {sv : SV}, LocIs c m α x sv → LocIs c m' α x sv
  | .cl _, h => h
  | .i _, ⟨v, h1, h2⟩ | .r _, ⟨v, h1, h2⟩ | .n, ⟨v, h1, h2⟩ | .b _, ⟨v, h1, h2⟩ | .c _, ⟨v, h1, h2⟩ | .u, ⟨v, h1, h2⟩ | .x, ⟨v, h1, h2⟩ | .g _, ⟨v, h1, h2⟩ | .f _, ⟨v, h1, h2⟩ | .j _, ⟨v, h1, h2⟩ => ⟨v, e.trans h1, h2⟩
noncomputable def isCl : SV → Bool
  | .cl _ => true
  | _ => false
theorem LocIs.val {c : Cx} {m : Str → Option Value} {α : Al} {x : Str} : ∀ {sv : SV}, isCl sv = false → LocIs c m α x sv → ∃ v, m x = some v ∧ sv.Is α v
  | .i _, _, h | .r _, _, h | .n, _, h | .b _, _, h | .c _, _, h | .u, _, h | .x, _, h | .g _, _, h | .f _, _, h | .j _, _, h => h
structure SatX (c : Cx) (own : List (Addr × Obj)) (α : Al) (ρ : Loc) (H : HS) (s : Shared) (m : Str → Option Value) (lit : List (Addr × Obj)) : Prop where
  F : Fr c.h₀ c.L s.heap m
  N : News c.h₀ c.L s.heap (lit ++ own)
  D : Apart (adr (lit ++ own))
  C : Cells c.w α H.σ lit
  V : ∀ x sv, lkS x ρ = some sv → LocIs c m α x sv
  Z : ∀ p, H.nx ≤ p → α p = none
noncomputable def Sat (c : Cx) (own : List (Addr × Obj)) (α : Al) (ρ : Loc) (H : HS) (s : Shared) : Prop := ∃ m lit, SatX c own α ρ H s m lit
noncomputable def Rest (s s' : Shared) : Prop := s'.gens = s.gens ∧ s'.drawn = s.drawn ∧ s'.os = s.os
theorem Rest.rfl' {s : Shared} : Rest s s := ⟨rfl, rfl, rfl⟩
theorem Rest.trans {a b c : Shared} (h : Rest a b) (g : Rest b c) : Rest a c := ⟨g.1.trans h.1, g.2.1.trans h.2.1, g.2.2.trans h.2.2⟩
inductive T (β : Type) where
  | ret (b : β) | br (p : Prop) (t e : T β) | need (p : Prop) (t : T β) | fail | all (p : Int → Prop) (t : Int → T β)
noncomputable def T.bind {β γ : Type} : T β → (β → T γ) → T γ
  | .ret b, k => k b
  | .br p t e, k => .br p (t.bind k) (e.bind k)
  | .need p t, k => .need p (t.bind k)
  | .fail, _ => .fail
  | .all p t, k => .all p fun z => (t z).bind k
noncomputable def T.ok {β : Type} : T β → (β → Prop) → Prop
  | .ret b, K => K b
  | .br p t e, K => (p → t.ok K) ∧ (¬p → e.ok K)
  | .need p t, K => p ∧ t.ok K
  | .fail, _ => False
  | .all p t, K => ∀ z, p z → (t z).ok K
theorem T.ok_bind {β γ : Type} {k : β → T γ} {K : γ → Prop} : ∀ {t : T β}, (t.bind k).ok K → t.ok fun b => (k b).ok K
  | .ret _, h => h
  | .br _ _ _, h => ⟨fun x => T.ok_bind (h.1 x), fun x => T.ok_bind (h.2 x)⟩
  | .need _ _, h => ⟨h.1, T.ok_bind h.2⟩
  | .fail, h => h
  | .all _ _, h => fun z x => T.ok_bind (h z x)
theorem T.bind_ok {β γ : Type} {k : β → T γ} {K : γ → Prop} : ∀ {t : T β}, (t.ok fun b => (k b).ok K) → (t.bind k).ok K
  | .ret _, h => h
  | .br _ _ _, h => ⟨fun x => T.bind_ok (h.1 x), fun x => T.bind_ok (h.2 x)⟩
  | .need _ _, h => ⟨h.1, T.bind_ok h.2⟩
  | .fail, h => h
  | .all _ _, h => fun z x => T.bind_ok (h z x)
noncomputable def boolT {β : Type} (b : Bool) (t : T β) : T β := match b with
  | true => t
  | false => .fail
theorem boolT_ok {β : Type} {K : β → Prop} {b : Bool} {t : T β} (h : (boolT b t).ok K) : b = true ∧ t.ok K := by
  cases b
  · exact h.elim
  · exact ⟨rfl, h⟩
noncomputable def optT {γ β : Type} (o : Option γ) (k : γ → T β) : T β := match o with
  | some x => k x
  | none => .fail
theorem optT_ok {γ β : Type} {K : β → Prop} {o : Option γ} {k : γ → T β} (h : (optT o k).ok K) : ∃ x, o = some x ∧ (k x).ok K := by
  cases o
  · exact h.elim
  · exact ⟨_, rfl, h⟩
noncomputable def asR : SV → Option Nat
  | .r p => some p
  | _ => none
noncomputable def asI : SV → Option Int
  | .i z => some z
  | _ => none
theorem asR_eq {v : SV} {p : Nat} (h : asR v = some p) : v = .r p := by cases v <;> cases h; rfl
theorem asI_eq {v : SV} {z : Int} (h : asI v = some z) : v = .i z := by cases v <;> cases h; rfl
theorem asR_ok {β : Type} {K : β → Prop} {v : SV} {k : Nat → T β} (h : (optT (asR v) k).ok K) : ∃ p, v = .r p ∧ (k p).ok K := by
  replace h := optT_ok h
  obtain ⟨p, e, h⟩ := h
  exact ⟨p, asR_eq e, h⟩
theorem asI_ok {β : Type} {K : β → Prop} {v : SV} {k : Int → T β} (h : (optT (asI v) k).ok K) : ∃ z, v = .i z ∧ (k z).ok K := by
  replace h := optT_ok h
  obtain ⟨p, e, h⟩ := h
  exact ⟨p, asI_eq e, h⟩
noncomputable def asObj : SO → Option (Nat × List (Str × SV))
  | .obj C fs => some (C, fs)
  | _ => none
noncomputable def asLst : SO → Option (List SV)
  | .list l => some l
  | _ => none
noncomputable def lkO {γ : Type} (f : SO → Option γ) (p : Nat) (H : HS) : Option γ := match lk p H.σ with
  | some o => f o
  | none => none
theorem lkO_eq {γ : Type} {f : SO → Option γ} {p : Nat} {H : HS} {x : γ} (h : lkO f p H = some x) : ∃ o, lk p H.σ = some o ∧ f o = some x := by
  unfold lkO at h
  generalize lk p H.σ = g at h ⊢
  cases g
  · cases h
  · exact ⟨_, rfl, h⟩
theorem obj_ok {β : Type} {K : β → Prop} {p : Nat} {H : HS} {k : Nat × List (Str × SV) → T β} (h : (optT (lkO asObj p H) k).ok K) : ∃ C fs, lk p H.σ = some (.obj C fs) ∧ (k (C, fs)).ok K := by
  replace h := optT_ok h
  obtain ⟨q, e, h⟩ := h
  obtain ⟨o, e1, e2⟩ := lkO_eq e
  cases o <;> cases e2
  exact ⟨_, _, e1, h⟩
theorem lst_ok {β : Type} {K : β → Prop} {p : Nat} {H : HS} {k : List SV → T β} (h : (optT (lkO asLst p H) k).ok K) : ∃ l, lk p H.σ = some (.list l) ∧ (k l).ok K := by
  replace h := optT_ok h
  obtain ⟨q, e, h⟩ := h
  obtain ⟨o, e1, e2⟩ := lkO_eq e
  cases o <;> cases e2
  exact ⟨_, e1, h⟩
theorem via {P : Prop} (h : ∀ G : Prop, G = P → G) : P := h P rfl
section
variable {γ β : Type} {K : β → Prop} {G : Prop}
theorem optT_el {o : Option γ} {k : γ → T β} (h : (optT o k).ok K) (f : ∀ x, o = some x → (k x).ok K → G) : G := (optT_ok h).elim fun x e => f x e.1 e.2
theorem boolT_el {b : Bool} {t : T β} (h : (boolT b t).ok K) (f : b = true → t.ok K → G) : G := f (boolT_ok h).1 (boolT_ok h).2
theorem asR_el {v : SV} {k : Nat → T β} (h : (optT (asR v) k).ok K) (f : ∀ p, v = .r p → (k p).ok K → G) : G := (asR_ok h).elim fun x e => f x e.1 e.2
theorem asI_el {v : SV} {k : Int → T β} (h : (optT (asI v) k).ok K) (f : ∀ z, v = .i z → (k z).ok K → G) : G := (asI_ok h).elim fun x e => f x e.1 e.2
theorem lst_el {p : Nat} {H : HS} {k : List SV → T β} (h : (optT (lkO asLst p H) k).ok K) (f : ∀ l, lk p H.σ = some (.list l) → (k l).ok K → G) : G := (lst_ok h).elim fun x e => f x e.1 e.2
theorem obj_el {p : Nat} {H : HS} {k : Nat × List (Str × SV) → T β} (h : (optT (lkO asObj p H) k).ok K) (f : ∀ C fs, lk p H.σ = some (.obj C fs) → (k (C, fs)).ok K → G) : G := (obj_ok h).elim fun x e => e.elim fun y e => f x y e.1 e.2
end
inductive Pt where
  | e | l (q : Pt) | r (q : Pt) | f (a b : Pt)
noncomputable def T.cut {β : Type} : Pt → T β → T β
  | .l q, .br p t _ => .need p (t.cut q)
  | .r q, .br p _ e => .need (¬p) (e.cut q)
  | .f a b, .br p t e => .br p (t.cut a) (e.cut b)
  | q, .need p t => .need p (t.cut q)
  | q, .all p t => .all p fun z => (t z).cut q
  | _, t => t
theorem T.cut_ok {β : Type} {K : β → Prop} : ∀ {t : T β} {q : Pt}, (t.cut q).ok K → t.ok K
  | .ret _, q, h => by cases q <;> exact h
  | .fail, q, h => by cases q <;> exact h
  | .need p t, q, h => by cases q <;> exact ⟨h.1, T.cut_ok h.2⟩
  | .all p t, q, h => by cases q <;> exact fun z x => T.cut_ok (h z x)
  | .br p t e, q, h => by
    cases q with
    | e => exact h
    | l q => exact ⟨fun _ => T.cut_ok h.2, fun x => absurd h.1 x⟩
    | r q => exact ⟨fun x => absurd x h.1, fun _ => T.cut_ok h.2⟩
    | f a b => exact ⟨fun x => T.cut_ok (h.1 x), fun x => T.cut_ok (h.2 x)⟩
noncomputable def SatM (c : Cx) (own : List (Addr × Obj)) (α : Al) (ρ : Loc) (H : HS) (m : Str → Option Value) (s : Shared) : Prop := ∃ lit, SatX c own α ρ H s m lit
noncomputable def Post {β γ : Type} (R : Al → γ → β → Prop) (c : Cx) (own : List (Addr × Obj)) (α : Al) (ρ : Loc) (m : Str → Option Value) (s : Shared) (K : γ × HS → Prop) (v : β) (s' : Shared) : Prop :=
  ∃ α' sv H', Ext α α' ∧ SatM c own α' ρ H' m s' ∧ Rest s s' ∧ R α' sv v ∧ K (sv, H')
noncomputable abbrev PostV (c : Cx) (own : List (Addr × Obj)) (α : Al) (ρ : Loc) (m : Str → Option Value) (s : Shared) (K : SV × HS → Prop) (v : Value) (s' : Shared) : Prop := Post (fun α g v => SV.Is α g v) c own α ρ m s K v s'
theorem Post.back {β γ : Type} {R : Al → γ → β → Prop} {c : Cx} {own : List (Addr × Obj)} {α α₁ : Al} {ρ : Loc} {m : Str → Option Value} {s s₁ : Shared} {K : γ × HS → Prop} {v : β} {s' : Shared} (e : Ext α α₁) (r : Rest s s₁) (h : Post R c own α₁ ρ m s₁ K v s') : Post R c own α ρ m s K v s' := by
  obtain ⟨α', sv, H', h1, h2, h3, h4, h5⟩ := h
  exact ⟨α', sv, H', e.trans h1, h2, r.trans h3, h4, h5⟩
theorem Post.on {β γ : Type} {R : Al → γ → β → Prop} {c : Cx} {own : List (Addr × Obj)} {α α₁ : Al} {ρ : Loc} {m : Str → Option Value} {s s₁ s₂ : Shared} {K : γ × HS → Prop} {M : Model} {A : Around} {t : Sem β} {E : Value → Shared → Prop} (e : Ext α α₁) (r : Rest s s₁) (h : wpAny M A t (Post R c own α₁ ρ m s₁ K) E s₂) : wpAny M A t (Post R c own α ρ m s K) E s₂ :=
  wpAny_mono h (fun _ _ p => p.back e r) fun _ _ x => x
theorem Post.go {β γ : Type} {R : Al → γ → β → Prop} {c : Cx} {own : List (Addr × Obj)} {α : Al} {ρ : Loc} {m : Str → Option Value} {s s₂ : Shared} {K : γ × HS → Prop} {M : Model} {A : Around} {t : Sem β} {Q : β → Shared → Prop} {E : Value → Shared → Prop} (h : wpAny M A t (Post R c own α ρ m s K) E s₂)
    (f : ∀ v s₁ α₁ sv H₁, Ext α α₁ → SatM c own α₁ ρ H₁ m s₁ → Rest s s₁ → R α₁ sv v → K (sv, H₁) → Q v s₁) : wpAny M A t Q E s₂ :=
  wpAny_mono h (fun _ _ p => by obtain ⟨_, _, _, h1, h2, h3, h4, h5⟩ := p; exact f _ _ _ _ _ h1 h2 h3 h4 h5) fun _ _ x => x
noncomputable def Post0 {β γ : Type} (R : Al → γ → β → Prop) (c : Cx) (own : List (Addr × Obj)) (α : Al) (ρ : Loc) (s : Shared) (K : γ × HS → Prop) (v : β) (s' : Shared) : Prop :=
  ∃ α' sv H', Ext α α' ∧ Sat c own α' ρ H' s' ∧ Rest s s' ∧ R α' sv v ∧ K (sv, H')
theorem Post0.go {β γ : Type} {R : Al → γ → β → Prop} {c : Cx} {own : List (Addr × Obj)} {α : Al} {ρ : Loc} {s s₂ : Shared} {K : γ × HS → Prop} {M : Model} {A : Around} {t : Sem β} {Q : β → Shared → Prop} {E : Value → Shared → Prop} (h : wpAny M A t (Post0 R c own α ρ s K) E s₂)
    (f : ∀ v s₁ α₁ sv H₁, Ext α α₁ → Sat c own α₁ ρ H₁ s₁ → Rest s s₁ → R α₁ sv v → K (sv, H₁) → Q v s₁) : wpAny M A t Q E s₂ :=
  wpAny_mono h (fun _ _ p => by obtain ⟨_, _, _, h1, h2, h3, h4, h5⟩ := p; exact f _ _ _ _ _ h1 h2 h3 h4 h5) fun _ _ x => x
noncomputable abbrev PostV0 (c : Cx) (own : List (Addr × Obj)) (α : Al) (ρ : Loc) (s : Shared) (K : SV × HS → Prop) (v : Value) (s' : Shared) : Prop := Post0 (fun α g v => SV.Is α g v) c own α ρ s K v s'
theorem Post.forget {β γ : Type} {R : Al → γ → β → Prop} {c : Cx} {own : List (Addr × Obj)} {α : Al} {ρ : Loc} {m : Str → Option Value} {s : Shared} {K : γ × HS → Prop} {v : β} {s' : Shared} (h : Post R c own α ρ m s K v s') : Post0 R c own α ρ s K v s' := by
  obtain ⟨α', sv, H', h1, h2, h3, h4, h5⟩ := h
  exact ⟨α', sv, H', h1, ⟨m, h2⟩, h3, h4, h5⟩
noncomputable def PostM (c : Cx) (own : List (Addr × Obj)) (α : Al) (m : Str → Option Value) (s : Shared) (K : SV × HS → Prop) (v : Value) (s' : Shared) : Prop :=
  ∃ α' sv H' lit', Ext α α' ∧ SatX c own α' [] H' s' m lit' ∧ Rest s s' ∧ SV.Is α' sv v ∧ K (sv, H')
theorem SatX.drop {c : Cx} {own : List (Addr × Obj)} {α : Al} {ρ : Loc} {H : HS} {s : Shared} {m : Str → Option Value} {lit : List (Addr × Obj)} (S : SatX c own α ρ H s m lit) : SatX c own α [] H s m lit := ⟨S.F, S.N, S.D, S.C, (fun _ _ h => nomatch h), S.Z⟩
theorem PostM.toV {c : Cx} {own : List (Addr × Obj)} {α : Al} {ρ : Loc} {H : HS} {s : Shared} {m : Str → Option Value} {lit : List (Addr × Obj)} {K : SV × HS → Prop} {v : Value} {s' : Shared} (S : SatX c own α ρ H s m lit) (h : PostM c own α m s K v s') : PostV c own α ρ m s K v s' := by
  obtain ⟨α', sv, H', lit', h1, h2, h3, h4, h5⟩ := h
  exact ⟨α', sv, H', h1, ⟨lit', h2.F, h2.N, h2.D, h2.C, fun x sv hx => (S.V x sv hx).mono h1, h2.Z⟩, h3, h4, h5⟩
section
variable {c : Cx} {own : List (Addr × Obj)} {α : Al} {ρ : Loc} {H : HS} {s : Shared} {m : Str → Option Value} {lit : List (Addr × Obj)}
theorem SatX.heap (S : SatX c own α ρ H s m lit) {g dr tk os} : SatX c own α ρ H ⟨s.heap, g, dr, tk, os⟩ m lit := ⟨S.F, S.N, S.D, S.C, S.V, S.Z⟩
noncomputable def setα (α : Al) (p : Nat) (a : Addr) : Al := fun q => match Nat.beq q p with
  | true => some a
  | false => α q
theorem setα_same {p : Nat} {a : Addr} : setα α p a p = some a := by simp [setα, Nat.beq_refl]
theorem setα_ext {p : Nat} {a : Addr} (h : α p = none) : Ext α (setα α p a) := by
  intro q b e
  unfold setα
  cases x : Nat.beq q p with
  | true => rw [Nat.eq_of_beq_eq_true x, h] at e; cases e
  | false => exact e
theorem setα_none {n : Nat} {a : Addr} (Z : ∀ p, n ≤ p → α p = none) : ∀ p, n + 1 ≤ p → setα α n a p = none := by
  intro p hp
  have : Nat.beq p n = false := by
    cases e : Nat.beq p n with
    | false => rfl
    | true => have := Nat.eq_of_beq_eq_true e; lia
  simp only [setα, this]
  exact Z p (by lia)
noncomputable def HS.new (H : HS) (o : SO) : HS := ⟨H.nx + 1, (H.nx, o) :: H.σ⟩
theorem SatX.alloc (S : SatX c own α ρ H s m lit) {a : Addr} {cs : List (Addr × Obj)} {o : SO} {s' : Shared} (F : Fr c.h₀ c.L s'.heap m) (N : News c.h₀ c.L s'.heap (cs ++ (lit ++ own))) (D : Apart (adr (cs ++ (lit ++ own)))) (i : o.Is c.w (setα α H.nx a) a cs) :
    SatX c own (setα α H.nx a) ρ (H.new o) s' m (cs ++ lit) where
  F := F
  N := by rw [List.append_assoc]; exact N
  D := by rw [List.append_assoc]; exact D
  C := .cons setα_same i (S.C.mono (setα_ext (S.Z _ (Nat.le_refl _))))
  V := fun x sv h => (S.V x sv h).mono (setα_ext (S.Z _ (Nat.le_refl _)))
  Z := fun p hp => by
    have hp' : H.nx + 1 ≤ p := hp
    have : Nat.beq p H.nx = false := by
      cases e : Nat.beq p H.nx with
      | false => rfl
      | true => have := Nat.eq_of_beq_eq_true e; lia
    simp only [setα, this]
    exact S.Z p (by lia)
end
noncomputable def readable : SV → Bool
  | .x | .g _ | .f _ | .cl _ | .j _ => false
  | _ => true
theorem readable_ok {α : Al} {s : SV} {v : Value} (h : readable s = true) (i : s.Is α v) : handedIn v = true := by
  cases s with
  | i z => obtain ⟨t, rfl⟩ := i; rfl
  | r p => obtain ⟨a, _, rfl⟩ := i; rfl
  | n => cases i; rfl
  | b t => cases i; rfl
  | c p => obtain ⟨t, rfl, _⟩ := i; rfl
  | u => obtain ⟨z, t, rfl⟩ := i; rfl
  | x => cases h
  | g a => cases h
  | f b => cases h
  | cl p => cases h
  | j n => cases h
noncomputable def getA (v : SV) (a : Str) (H : HS) : T (SV × HS) := optT (asR v) fun p => optT (lkO asObj p H) fun q => boolT (known q.1 a) (optT (lkS a q.2) fun w => boolT (readable w) (.ret (w, H)))
section
variable {c : Cx} {d : Nat} {own : List (Addr × Obj)} {α : Al} {ρ : Loc} {H : HS} {s : Shared} {m : Str → Option Value} {lit : List (Addr × Obj)} {prog : Program} {A : Around} {E : Value → Shared → Prop} {K : SV × HS → Prop}
theorem getA_sound (O : c.Ok d) (S : SatM c own α ρ H m s) {sv : SV} {v : Value} {a : Str} {expr : Bool} (i : sv.Is α v) (h : (getA sv a H).ok K) : wpAny (model prog c.w) A (getAttr v a expr) (PostV c own α ρ m s K) E s := by
  obtain ⟨lit, S⟩ := S
  refine asR_el h ?_
  clear h
  rintro p rfl h
  refine obj_el h ?_
  clear h
  intro C fs hl h
  refine boolT_el h ?_
  clear h
  intro hkn h
  refine optT_el h ?_
  clear h
  intro w hw h
  refine boolT_el h ?_
  clear h
  intro hr h
  obtain ⟨x, hx, rfl⟩ := i
  obtain ⟨x', cs, pre, post, hx', hlit, hI, _⟩ := S.C.find hl
  rw [hx] at hx'
  cases hx'
  obtain ⟨dd, es, rfl, hfs⟩ := hI
  obtain ⟨u, hu, iu⟩ := hfs.get hw
  have hg := (known_ok hkn c.w.params).1
  simp only [chkGet, Bool.and_eq_true] at hg
  obtain ⟨⟨g1, g2⟩, g3⟩ := hg
  split at g3 <;> try cases g3
  rename_i g4
  subst hlit
  have S' := S
  obtain ⟨heap, gens, drawn, toks, os⟩ := s
  refine get_clean (K := hp c.w.params) S.F O.X (InstAt.of_news S.N (x := x) (C := C) (dx := dd) (od := dictOf es fs.length) (sl := #[]) ?_ ?_) g1 g2 g4 rfl hu (readable_ok hr iu) fun tk' => ⟨α, w, H, Ext.rfl', ⟨_, S'.heap⟩, Rest.rfl', iu, h⟩
  · simp [instObj]
  · simp
end
theorem apart_mid {d : Addr} {o o' : Obj} {l1 l2 : List (Addr × Obj)} (D : Apart (adr (l1 ++ (d, o) :: l2))) : Apart (adr (l1 ++ (d, o') :: l2)) := by
  have e : adr (l1 ++ (d, o') :: l2) = adr (l1 ++ (d, o) :: l2) := by simp [adr_append, adr]
  rw [e]; exact D
theorem upd_mid {d : Addr} {o o' : Obj} : ∀ {l1 l2 : List (Addr × Obj)}, Apart (adr (l1 ++ (d, o) :: l2)) → Upd d o o' (l1 ++ (d, o) :: l2) (l1 ++ (d, o') :: l2)
  | [], _, D => .head fun p hp e => D.1 p.1 (mem_adr hp) e.symm
  | p :: l1, l2, D => .tail (D.1 d (by show d ∈ adr (l1 ++ (d, o) :: l2); rw [adr_append]; simp [adr])) (upd_mid D.2)
noncomputable def PostU (c : Cx) (own : List (Addr × Obj)) (α : Al) (ρ : Loc) (s : Shared) (K : HS → Prop) (s' : Shared) : Prop :=
  ∃ α' H', Ext α α' ∧ Sat c own α' ρ H' s' ∧ Rest s s' ∧ K H'
noncomputable def unj : SV → SV
  | .j k => .i k
  | v => v
theorem unj_is {α : Al} : ∀ {s : SV} {v : Value}, s.Is α v → (unj s).Is α v
  | .i _, _, h | .n, _, h | .b _, _, h | .c _, _, h | .u, _, h | .x, _, h | .g _, _, h | .f _, _, h | .cl _, _, h | .j _, _, h | .r _, _, h => h
noncomputable def setA (ov : SV) (a : Str) (v : SV) (H : HS) : T HS := optT (asR ov) fun p => optT (lkO asObj p H) fun q => boolT (known q.1 a) (boolT (Nat.ble q.2.length 900) (.ret ⟨H.nx, up p (.obj q.1 (putS a (unj v) q.2)) H.σ⟩))
theorem putS_len {α : Type} {x : Str} {v : α} : ∀ {l : List (Str × α)}, (putS x v l).length ≤ l.length + 1
  | [] => Nat.le_refl _
  | (y, w) :: r => by
    unfold putS
    cases eqS x y with
    | true => exact Nat.le_succ _
    | false => exact Nat.succ_le_succ putS_len
section
variable {c : Cx} {d : Nat} {own : List (Addr × Obj)} {α : Al} {ρ : Loc} {H : HS} {s : Shared} {A : Around} {prog : Program} {E : Value → Shared → Prop} {m : Str → Option Value}
theorem setA_sound (O : c.Ok d) {K : HS → Prop} (S : Sat c own α ρ H s) {sv svo : SV} {v vo : Value} {a : Str} (io : svo.Is α vo) (i : sv.Is α v) (h : (setA svo a sv H).ok K) : wpAny (model prog c.w) A (setAttr vo a v) (fun _ => PostU c own α ρ s K) E s := by
  obtain ⟨m, lit, S⟩ := S
  refine asR_el h ?_
  clear h
  rintro p rfl h
  refine obj_el h ?_
  clear h
  intro C fs hl h
  refine boolT_el h ?_
  clear h
  intro hkn h
  refine boolT_el h ?_
  clear h
  intro hlen h
  have hlen : Nat.ble fs.length 900 = true := hlen
  obtain ⟨x, hx, rfl⟩ := io
  obtain ⟨x', cs, pre, post, hx', hlit, hI, hup⟩ := S.C.find hl
  rw [hx] at hx'
  cases hx'
  obtain ⟨dd, es, rfl, hfs⟩ := hI
  have hg := known_ok hkn c.w.params
  have hg1 := hg.1
  have hg2 := hg.2
  simp only [chkGet, chkSet, Bool.and_eq_true] at hg1 hg2
  obtain ⟨⟨g1, g2⟩, g3⟩ := hg1
  obtain ⟨⟨k1, k2⟩, k3⟩ := hg2
  split at k1 <;> try cases k1
  rename_i b k4
  have k1' := eq_of_beq k1
  subst k1'
  split at k3 <;> try cases k3
  rename_i k5
  subst hlit
  obtain ⟨heap, gens, drawn, toks, os⟩ := s
  have N := S.N
  have D := S.D
  rw [show pre ++ ([(x, instObj C dd), (dd, dictOf es fs.length)] ++ post) ++ own = (pre ++ [(x, instObj C dd)]) ++ (dd, dictOf es fs.length) :: (post ++ own) by simp] at N D
  have hput := hfs.put (x := a) (k := toks + 1) (unj_is i)
  have hn := hfs.putN (x := a) (sv := unj sv) rfl
  refine set_clean (K := hp c.w.params) S.F O.X N (InstAt.of_news N (x := x) (C := C) (dx := dd) (od := dictOf es fs.length) (sl := #[]) ?_ ?_) rfl k4 k2 k5 g2 hfs.isSome (by rw [hn]) (upd_mid D) ?_ fun h' tk' F' N' => ?_
  · simp [instObj]
  · simp
  · rw [hput.len]
    have := putS_len (x := a) (v := unj sv) (l := fs)
    have := Nat.le_of_ble_eq_true hlen
    lia
  · have e : ∀ o, (pre ++ [(x, instObj C dd)]) ++ (dd, o) :: (post ++ own) = (pre ++ ([(x, instObj C dd), (dd, o)] ++ post)) ++ own := by intro o; simp
    refine ⟨α, ⟨H.nx, up p (.obj C (putS a (unj sv) fs)) H.σ⟩, Ext.rfl', ⟨m, pre ++ ([(x, instObj C dd), (dd, dictOf (putL a (PyData.keyHash c.w.params a) (.str a (toks + 1)) v es) (putS a (unj sv) fs).length)] ++ post), ⟨F', ?_, ?_, hup α Ext.rfl' _ _ ⟨dd, _, rfl, hput⟩, S.V, S.Z⟩⟩, Rest.rfl', h⟩
    · rw [← e]; exact N'
    · rw [← e]; exact apart_mid D
noncomputable def asCls : SO → Option (Nat × List (Str × SV))
  | .obj C fs => some (C, fs)
  | .gap _ _ => some (579, gapF 0 0)
  | _ => none
noncomputable def isNo {γ : Type} : Option γ → Bool
  | none => true
  | some _ => false
theorem isNo_eq {γ : Type} {o : Option γ} (h : isNo o = true) : o = none := by
  cases o
  · rfl
  · cases h
noncomputable def getM (v : SV) (a : Str) (H : HS) : T (Nat × SV) := optT (asR v) fun p => optT (lkO asCls p H) fun q => optT (methOf q.1 a mtab) fun f => boolT (isNo (lkS a q.2)) (.ret (f, .r p))
theorem getM_sound (O : c.Ok d) {K : Nat × SV → Prop} (S : SatM c own α ρ H m s) {sv : SV} {v : Value} {a : Str} {pl : Sem Bool} (i : sv.Is α v) (h : (getM sv a H).ok K) :
    wpAny (model prog c.w) A (getMethod v a pl) (fun fx s' => ∃ f u, fx = (.ref f, [u]) ∧ keepIn (hp c.w.params) (.ref f) = true ∧ ∃ su, su.Is α u ∧ K (f, su) ∧ s' = s) E s := by
  obtain ⟨lit, S⟩ := S
  refine asR_el h ?_
  clear h
  rintro p rfl h
  refine optT_el h ?_
  clear h
  intro q hq h
  obtain ⟨ob, hl, hc⟩ := lkO_eq hq
  refine optT_el h ?_
  clear h
  intro f hm h
  refine boolT_el h ?_
  clear h
  intro hno h
  have hno := isNo_eq hno
  obtain ⟨x, hx, rfl⟩ := i
  have chk : ∀ {C f : Nat}, methOf C a mtab = some f → plainGet (hp c.w.params) C a = true ∧ findIn (hp c.w.params) (.ref C) a = some (some (.ref f)) ∧ isFn (hp c.w.params) (.ref f) = true ∧ keepIn (hp c.w.params) (.ref f) = true := by
    intro C f hm
    have q := methOf_ok hm c.w.params
    simp only [chkM, Bool.and_eq_true] at q
    obtain ⟨⟨⟨q1, q2⟩, q3⟩, q4⟩ := q
    split at q2 <;> try cases q2
    rename_i g e
    rw [Nat.eq_of_beq_eq_true q2] at e
    exact ⟨q1, e, q3, q4⟩
  obtain ⟨heap, gens, drawn, toks, os⟩ := s
  cases ob <;> cases hc
  · rename_i C fs _
    obtain ⟨x', cs, pre, post, hx', hlit, hI, hup⟩ := S.C.find hl
    rw [hx] at hx'
    cases hx'
    obtain ⟨dd, es, rfl, hfs⟩ := hI
    obtain ⟨q1, q2, q3, q4⟩ := chk hm
    subst hlit
    refine method_inst (K := hp c.w.params) S.F O.X (InstAt.of_news S.N (x := x) (C := C) (dx := dd) (od := dictOf es fs.length) (sl := #[]) ?_ ?_) q1 q2 q3 (hfs.no hno) ⟨f, _, rfl, q4, .r p, ⟨x, hx, rfl⟩, h, rfl⟩
    · simp [instObj]
    · simp
  · obtain ⟨x', cs, pre, post, hx', hlit, hI, hup⟩ := S.C.find hl
    rw [hx] at hx'
    cases hx'
    obtain ⟨gd, es, cc, vs, n, C, gs, ge, rfl, hG, _⟩ := hI
    obtain ⟨q1, q2, q3, q4⟩ := chk hm
    subst hlit
    refine method_inst (K := hp c.w.params) S.F O.X (InstAt.of_news S.N (x := x) (C := 579) (dx := gd) (od := dictOf es 4) (sl := #[]) ?_ ?_) q1 q2 q3 (hG.no ?_) ⟨f, _, rfl, q4, .r p, ⟨x, hx, rfl⟩, h, rfl⟩
    · simp [instObj]
    · simp
    · have : ∀ gs ge, lkS a (gapF gs ge) = none ↔ lkS a (gapF 0 0) = none := by
        intro gs ge
        simp only [gapF, lkS]
        repeat' split
        all_goals simp
      exact (this _ _).mpr hno
end
end KR
end
section
open PySem PySem.W PyProof.Rows PySem.Calls
set_option Elab.async false
set_option maxRecDepth 100000
set_option maxHeartbeats 4000000
namespace KR
section
variable {cs : List Value} {Ap G Z X : List Int} {i j a b c g : Nat}
theorem seg_take_lo (h : j ≤ Ap.length) : (Ap ++ X).take j = Ap.take j := List.take_append_of_le_length h
theorem seg_drop_hi (h : Ap.length ≤ i) : (Ap ++ X).drop i = X.drop (i - Ap.length) := by
  rw [List.drop_append, List.drop_of_length_le h, List.nil_append]
theorem seg_drop_lo (h : i ≤ Ap.length) : (Ap ++ X).drop i = Ap.drop i ++ X := by
  rw [List.drop_append, Nat.sub_eq_zero_of_le h, List.drop_zero]
theorem seg_take_hi (h : Ap.length ≤ j) : (Ap ++ X).take j = Ap ++ X.take (j - Ap.length) := by
  rw [List.take_append, List.take_of_length_le h]
end
end KR
end
section
open PySem PySem.W PyProof.Rows PySem.Calls PyProof.V PySem.Spec
set_option Elab.async false
set_option maxRecDepth 100000
set_option maxHeartbeats 1000000
namespace KR
section
variable {prog : Program} {w : World} {A : Around} {E : Value → Shared → Prop} {s : Shared} {h₀ : Heap} {L D d : Addr} {m : Str → Option Value} {news : List (Addr × Obj)}
end
end KR
end
section
open PySem PySem.W PyProof.Rows PySem.Calls
set_option Elab.async false
set_option maxRecDepth 100000
set_option maxHeartbeats 4000000
set_option linter.constructorNameAsVariable false
set_option linter.unusedVariables false
namespace KR
noncomputable def allI : List SV → Option (List Int)
  | [] => some []
  | .i z :: r => match allI r with
    | some X => some (z :: X)
    | none => none
  | _ => none
theorem allI_is {α : Al} {l : List SV} {vs : List Value} (i : AreAll α l vs) : ∀ {X : List Int}, allI l = some X → IntsAre vs X := by
  induction i with
  | nil => intro X h; cases h; exact .nil
  | @cons sv v l vs i1 i2 ih =>
    intro X h
    cases sv <;> try cases h
    unfold allI at h
    split at h <;> cases h
    rename_i e
    obtain ⟨t, rfl⟩ := i1
    exact .cons _ t (ih e)
noncomputable def asInts : SO → Option (List Int)
  | .ints T => some T
  | .list l => allI l
  | _ => none
theorem asInts_is {w : World} {α : Al} {o : SO} {U : List Int} {a : Addr} {cs : List (Addr × Obj)} (h : asInts o = some U) (i : o.Is w α a cs) : ∃ vs n, cs = [(a, listOf vs.toArray n)] ∧ IntsAre vs U := by
  cases o <;> try cases h
  · obtain ⟨vs, n, h1, h2⟩ := i
    exact ⟨vs, n, h1, allI_is h2 h⟩
  · exact i
theorem AreAll.take {α : Al} {l vs} (h : AreAll α l vs) : ∀ k : Nat, AreAll α (l.take k) (vs.take k) := by
  induction h with
  | nil => intro k; simp; exact .nil
  | cons i _ ih => intro k; cases k with
    | zero => exact .nil
    | succ k => exact .cons i (ih k)
theorem AreAll.drop {α : Al} {l vs} (h : AreAll α l vs) : ∀ k : Nat, AreAll α (l.drop k) (vs.drop k) := by
  induction h with
  | nil => intro k; simp; exact .nil
  | cons i h ih => intro k; cases k with
    | zero => exact .cons i h
    | succ k => exact ih k
theorem AreAll.get {α : Al} {l vs} (h : AreAll α l vs) : ∀ (k : Nat) {x : SV}, l[k]? = some x → ∃ v, vs[k]? = some v ∧ x.Is α v := by
  induction h with
  | nil => intro k x e; simp at e
  | cons i h ih => intro k x e; cases k with
    | zero => simp at e; subst e; exact ⟨_, rfl, i⟩
    | succ k => simp at e; simpa using ih k e
section
variable {c : Cx} {d : Nat} {own : List (Addr × Obj)} {α : Al} {ρ : Loc} {H : HS} {s : Shared} {A : Around} {prog : Program} {E : Value → Shared → Prop} {m : Str → Option Value} {lit : List (Addr × Obj)}
theorem SatX.at (S : SatX c own α ρ H s m lit) {p : Nat} {o : SO} (h : lk p H.σ = some o) : ∃ a cs, α p = some a ∧ o.Is c.w α a cs ∧ ∀ q ∈ cs, q ∈ lit ++ own := by
  obtain ⟨a, cs, pre, post, h1, h2, h3, _⟩ := S.C.find h
  exact ⟨a, cs, h1, h3, fun q hq => by rw [h2]; simp [hq]⟩
theorem SatX.list (S : SatX c own α ρ H s m lit) {p : Nat} {l : List SV} {a : Addr} (h : lk p H.σ = some (.list l)) (ha : α p = some a) : ∃ vs n, (a, listOf vs.toArray n) ∈ lit ++ own ∧ AreAll α l vs := by
  obtain ⟨b, cs, h1, ⟨vs, n, rfl, h3⟩, h4⟩ := S.at h
  rw [ha] at h1
  cases h1
  exact ⟨vs, n, h4 _ (.head _), h3⟩
theorem SatX.ints (S : SatX c own α ρ H s m lit) {p : Nat} {o : SO} {U : List Int} {a : Addr} (h : lk p H.σ = some o) (hU : asInts o = some U) (ha : α p = some a) : ∃ vs n, (a, listOf vs.toArray n) ∈ lit ++ own ∧ IntsAre vs U := by
  obtain ⟨b, cs, h1, hi, h4⟩ := S.at h
  obtain ⟨vs, n, rfl, h3⟩ := asInts_is hU hi
  rw [ha] at h1
  cases h1
  exact ⟨vs, n, h4 _ (.head _), h3⟩
theorem Sat.done {β γ : Type} {R : Al → γ → β → Prop} {K : γ × HS → Prop} {g : γ} {v : β} {s' : Shared} (h : (T.ret (g, H)).ok K) (S : SatM c own α ρ H m s') (r : Rest s s') (i : R α g v) : Post R c own α ρ m s K v s' := ⟨α, g, H, Ext.rfl', S, r, i, h⟩
theorem SatX.one (S : SatX c own α ρ H s m lit) {a : Addr} {ob : Obj} {o : SO} {s' : Shared} (F : Fr c.h₀ c.L s'.heap m) (N : News c.h₀ c.L s'.heap ((a, ob) :: (lit ++ own))) (l1 : ∀ p ∈ lit ++ own, p.1 < a) (i : o.Is c.w α a [(a, ob)]) :
    SatM c own (setα α H.nx a) ρ (H.new o) m s' :=
  ⟨_, S.alloc (cs := [(a, ob)]) F N ⟨fun b hb => by
    obtain ⟨q, hq, rfl⟩ := of_mem_adr hb
    exact Nat.ne_of_gt (l1 q hq), S.D⟩ (i.mono (setα_ext (S.Z _ (Nat.le_refl _))))⟩
theorem SatX.oneV (S : SatX c own α ρ H s m lit) {K : SV × HS → Prop} {a : Addr} {ob : Obj} {o : SO} {s' : Shared} (F : Fr c.h₀ c.L s'.heap m) (N : News c.h₀ c.L s'.heap ((a, ob) :: (lit ++ own))) (l1 : ∀ p ∈ lit ++ own, p.1 < a) (h : (T.ret (SV.r H.nx, H.new o)).ok K) (i : o.Is c.w α a [(a, ob)]) (r : Rest s s') :
    PostV c own α ρ m s K (.ref a) s' :=
  ⟨setα α H.nx a, .r H.nx, H.new o, setα_ext (S.Z _ (Nat.le_refl _)), S.one F N l1 i, r, ⟨a, setα_same, rfl⟩, h⟩
theorem SatX.stay (S : SatX c own α ρ H s m lit) {K : SV × HS → Prop} {s' : Shared} (F : Fr c.h₀ c.L s'.heap m) (N : News c.h₀ c.L s'.heap (lit ++ own)) {sv : SV} {v : Value} (h : (T.ret (sv, H)).ok K) (i : sv.Is α v) (r : Rest s s') : PostV c own α ρ m s K v s' :=
  ⟨α, sv, H, Ext.rfl', ⟨lit, F, N, S.D, S.C, S.V, S.Z⟩, r, i, h⟩
noncomputable def newL (l : List SV) (H : HS) : T (SV × HS) := boolT (Nat.ble l.length 1000) (.ret (.r H.nx, H.new (.list l)))
theorem newL_sound (S : SatM c own α ρ H m s) {K : SV × HS → Prop} {l : List SV} {vs : List Value} (i : AreAll α l vs) (h : (newL l H).ok K) : wpAny (model prog c.w) A (newList vs) (PostV c own α ρ m s K) E s := by
  obtain ⟨lit, S⟩ := S
  refine boolT_el h ?_
  clear h
  intro hz h
  refine newList_K S.F S.N (fun a h' F' N' l1 => S.oneV F' N' l1 h ⟨vs, 0, rfl, i⟩ Rest.rfl') ?_
  rw [i.len, PySem.sizeLine_eq]
  have := Nat.le_of_ble_eq_true hz
  lia
noncomputable def newT (l : List SV) (H : HS) : T (SV × HS) := boolT (Nat.ble l.length 1000) (.ret (.r H.nx, H.new (.tup l)))
theorem newT_sound (S : SatM c own α ρ H m s) {K : SV × HS → Prop} {l : List SV} {vs : List Value} (i : AreAll α l vs) (h : (newT l H).ok K) : wpAny (model prog c.w) A (newTuple vs) (PostV c own α ρ m s K) E s := by
  obtain ⟨lit, S⟩ := S
  refine boolT_el h ?_
  clear h
  intro hz h
  refine kup_newTuple S.F S.N (fun a h' F' N' l1 => S.oneV F' N' l1 h ⟨vs, rfl, i⟩ Rest.rfl') ?_
  rw [i.len, PySem.sizeLine_eq]
  have := Nat.le_of_ble_eq_true hz
  lia
noncomputable def ii (a b : SV) (f : Int → Int → SV) : T SV := optT (asI a) fun x => optT (asI b) fun y => .ret (f x y)
theorem ii_ok {K : SV → Prop} {a b : SV} {f : Int → Int → SV} (h : (ii a b f).ok K) : ∃ x y, a = .i x ∧ b = .i y ∧ K (f x y) := by
  refine asI_el h ?_
  clear h
  intro x e1 h
  refine asI_el h ?_
  clear h
  intro y e2 h
  exact ⟨x, y, e1, e2, h⟩
noncomputable def asJ : SV → Option Nat
  | .j n => some n
  | _ => none
theorem asJ_eq {v : SV} {n : Nat} (h : asJ v = some n) : v = .j n := by cases v <;> cases h; rfl
noncomputable def ji (a b : SV) (g f : Int → Int → SV) : T SV := match asJ a with
  | some n => optT (asI b) fun y => .ret (g n y)
  | none => ii a b f
theorem ji_ok {K : SV → Prop} {a b : SV} {g f : Int → Int → SV} (h : (ji a b g f).ok K) : ∃ x y : Int, b = .i y ∧ ((∃ n : Nat, a = .j n ∧ x = n ∧ K (g x y)) ∨ (a = .i x ∧ K (f x y))) := by
  unfold ji at h
  generalize e : asJ a = o at h
  cases o with
  | none =>
    replace h := ii_ok h
    obtain ⟨x, y, e1, e2, h⟩ := h
    exact ⟨x, y, e2, .inr ⟨e1, h⟩⟩
  | some n =>
    refine asI_el h ?_
    clear h
    intro y e2 h
    exact ⟨n, y, e2, .inl ⟨n, asJ_eq e, rfl, h⟩⟩
noncomputable def nul : SV → Option Bool
  | .n => some true
  | .r _ => some false
  | _ => none
noncomputable def isN : SV → Bool
  | .n => true
  | _ => false
theorem isN_eq {v : SV} (h : isN v = true) : v = .n := by cases v <;> first | rfl | cases h
noncomputable def cmp (op : CmpOp) (a b : SV) : T SV := match op with
  | .Lt => ii a b fun x y => .c (x < y)
  | .LtE => ii a b fun x y => .c (x ≤ y)
  | .Gt => ji a b (fun x y => .b (decide (y < x))) fun x y => .c (y < x)
  | .GtE => ii a b fun x y => .c (y ≤ x)
  | .Eq => ji a b (fun x y => .b (decide (x = y))) fun x y => .c (x = y)
  | .NotEq => ii a b fun x y => .c (x ≠ y)
  | .Is => optT (nul a) fun t => boolT (isN b) (.ret (.b t))
  | .IsNot => match asR b with
    | some q => optT (asR a) fun p => boolT (Nat.beq p q) (.ret (.b false))
    | none => optT (nul a) fun t => boolT (isN b) (.ret (.b (!t)))
  | _ => .fail
theorem nul_is {α : Al} {a : SV} {v : Value} {t : Bool} (i : a.Is α v) (h : nul a = some t) : (t = true ∧ v = .none) ∨ (t = false ∧ ∃ x, v = .ref x) := by
  cases a <;> cases h
  · obtain ⟨x, _, rfl⟩ := i
    exact .inr ⟨rfl, x, rfl⟩
  · exact .inl ⟨rfl, i⟩
theorem cmp_sound (S : SatM c own α ρ H m s) {K : SV × HS → Prop} {op : CmpOp} {a b : SV} {v u : Value} (i : a.Is α v) (j : b.Is α u) (h : ((cmp op a b).bind fun r => .ret (r, H)).ok K) : wpAny (model prog c.w) A (compareOp op v u) (PostV c own α ρ m s K) E s := by
  replace h := T.ok_bind h
  have done : ∀ {r : SV} {x : Value}, K (r, H) → r.Is α x → PostV c own α ρ m s K x s := fun k i => Sat.done k S Rest.rfl' i
  have two : ∀ {f : Int → Int → SV}, (ii a b f).ok (fun r => K (r, H)) → ∃ x y t t', v = .int x t ∧ u = .int y t' ∧ K (f x y, H) := fun k => by
    obtain ⟨x, y, e1, e2, k⟩ := ii_ok k
    rw [e1] at i
    rw [e2] at j
    obtain ⟨t, rfl⟩ := i
    obtain ⟨t', rfl⟩ := j
    exact ⟨x, y, t, t', rfl, rfl, k⟩
  have three : ∀ {g f : Int → Int → SV}, (ji a b g f).ok (fun r => K (r, H)) → ∃ x y t t', v = .int x t ∧ u = .int y t' ∧ (K (g x y, H) ∨ K (f x y, H)) := fun k => by
    obtain ⟨x, y, e1, k⟩ := ji_ok k
    rw [e1] at j
    obtain ⟨t', rfl⟩ := j
    rcases k with ⟨n, e2, rfl, k⟩ | ⟨e2, k⟩
    · rw [e2] at i
      obtain ⟨t, rfl⟩ := i
      exact ⟨n, y, t, t', rfl, rfl, .inl k⟩
    · rw [e2] at i
      obtain ⟨t, rfl⟩ := i
      exact ⟨x, y, t, t', rfl, rfl, .inr k⟩
  cases op <;> try exact h.elim
  case Eq =>
    have h : (ji a b (fun x y => .b (decide (x = y))) (fun x y => .c (x = y))).ok fun r => K (r, H) := h
    replace h := three h
    obtain ⟨x, y, t, t', rfl, rfl, h⟩ := h
    rcases h with h | h
    · exact eq_int (done h rfl)
    · exact eq_int (done h ⟨_, rfl, by simp⟩)
  case NotEq =>
    have h : (ii a b (fun x y => .c (x ≠ y))).ok fun r => K (r, H) := h
    replace h := two h
    obtain ⟨x, y, t, t', rfl, rfl, h⟩ := h
    exact ne_int (done h ⟨_, rfl, by simp⟩)
  case Lt =>
    have h : (ii a b (fun x y => .c (x < y))).ok fun r => K (r, H) := h
    replace h := two h
    obtain ⟨x, y, t, t', rfl, rfl, h⟩ := h
    exact lt_int (done h ⟨_, rfl, by simp⟩)
  case LtE =>
    have h : (ii a b (fun x y => .c (x ≤ y))).ok fun r => K (r, H) := h
    replace h := two h
    obtain ⟨x, y, t, t', rfl, rfl, h⟩ := h
    exact le_int (done h ⟨_, rfl, by simp⟩)
  case Gt =>
    have h : (ji a b (fun x y => .b (decide (y < x))) (fun x y => .c (y < x))).ok fun r => K (r, H) := h
    replace h := three h
    obtain ⟨x, y, t, t', rfl, rfl, h⟩ := h
    rcases h with h | h
    · exact gt_int (done h rfl)
    · exact gt_int (done h ⟨_, rfl, by simp⟩)
  case GtE =>
    have h : (ii a b (fun x y => .c (y ≤ x))).ok fun r => K (r, H) := h
    replace h := two h
    obtain ⟨x, y, t, t', rfl, rfl, h⟩ := h
    exact ge_int (done h ⟨_, rfl, by simp⟩)
  case Is =>
    refine optT_el h ?_
    clear h
    intro t e h
    refine boolT_el h ?_
    clear h
    intro hb h
    cases isN_eq hb
    cases j
    rcases nul_is i e with ⟨rfl, rfl⟩ | ⟨rfl, x, rfl⟩
    · exact is_none_none (done h rfl)
    · exact is_ref_none (done h rfl)
  case IsNot =>
    replace h : (match asR b with
      | some q => optT (asR a) fun p => boolT (Nat.beq p q) (.ret (.b false))
      | none => optT (nul a) fun t => boolT (isN b) (.ret (.b (!t))) : T SV).ok (fun r => K (r, H)) := h
    generalize eb : asR b = ob at h
    cases ob with
    | some q =>
      refine asR_el h ?_
      clear h
      rintro p rfl h
      refine boolT_el h ?_
      clear h
      intro e h
      cases asR_eq eb
      obtain ⟨x, hx, rfl⟩ := i
      obtain ⟨y, hy, rfl⟩ := j
      rw [Nat.eq_of_beq_eq_true e, hy] at hx
      cases hx
      exact wpAny_isNot_ref_self (done h rfl)
    | none =>
      refine optT_el h ?_
      clear h
      intro t e h
      refine boolT_el h ?_
      clear h
      intro hb h
      cases isN_eq hb
      cases j
      rcases nul_is i e with ⟨rfl, rfl⟩ | ⟨rfl, x, rfl⟩
      · exact isnot_none_none (done h rfl)
      · exact isnot_ref_none (done h rfl)
noncomputable def addN (a : SV) (y : Int) : Option SV := match a with
  | .i x => some (.i (x + y))
  | .u => some .u
  | .j k => some (.i ((k : Int) + y))
  | _ => none
noncomputable def subN (a : SV) (y : Int) : Option SV := match a with
  | .i x => some (.i (x - y))
  | .j k => some (.i ((k : Int) - y))
  | _ => none
noncomputable def bothL (p q : Nat) (H : HS) : Option (List SV × List SV) := (lkO asLst p H).bind fun l => (lkO asLst q H).bind fun l' => some (l, l')
noncomputable def addL (p q : Nat) (H : HS) : T (SV × HS) := match bothL p q H with
  | some x => boolT (Nat.ble (x.1.length + x.2.length) 1000) (.ret (.r H.nx, H.new (.list (x.1 ++ x.2))))
  | none => optT (lkO asInts p H) fun X => optT (lkO asInts q H) fun Y => .need (X.length + Y.length ≤ 4000) (.ret (.r H.nx, H.new (.ints (X ++ Y))))
noncomputable def one1 : List SV → Option Int
  | [v] => asI v
  | _ => none
noncomputable def modJ (x : Int) (b : SV) (H : HS) : T (SV × HS) := match asJ b with
  | some k => boolT (Nat.blt 0 k) (.ret (.i (x.fmod (k : Int)), H))
  | none => optT (asI b) fun y => .need (y ≠ 0) (.ret (.i (x.fmod y), H))
noncomputable def mulS (a : SV) (n : Int) (H : HS) : T (SV × HS) := match asR a with
  | some p => optT (lkO asLst p H) fun l => optT (one1 l) fun z => .need (-4000 ≤ n ∧ n ≤ 4000) (.ret (.r H.nx, H.new (.ints (List.replicate n.toNat z))))
  | none => optT (asI a) fun x => .need (IntMulOk x n) (.ret (.i (x * n), H))
noncomputable def addS (a b : SV) (H : HS) : T (SV × HS) := match asR a with
  | some p => optT (asR b) fun q => addL p q H
  | none => optT (asI b) fun y => optT (addN a y) fun r => .ret (r, H)
noncomputable def bin (op : Operator) (a b : SV) (H : HS) : T (SV × HS) := match op with
  | .Add => addS a b H
  | .Sub => optT (asI b) fun y => optT (subN a y) fun r => .ret (r, H)
  | .Mod => optT (asI a) fun x => modJ x b H
  | .FloorDiv => optT (asI a) fun x => optT (asI b) fun y => .need (0 < y ∧ y ≤ 1024) (.ret (.i (x.fdiv y), H))
  | .Mult => optT (asI b) fun y => mulS a y H
  | _ => .fail
theorem ints_ok {β : Type} {K : β → Prop} {p : Nat} {H : HS} {k : List Int → T β} (h : (optT (lkO asInts p H) k).ok K) : ∃ o U, lk p H.σ = some o ∧ asInts o = some U ∧ (k U).ok K := by
  obtain ⟨U, e, h⟩ := optT_ok h
  obtain ⟨o, e1, e2⟩ := lkO_eq e
  exact ⟨o, U, e1, e2, h⟩
theorem lst_eq {p : Nat} {H : HS} {l : List SV} (h : lkO asLst p H = some l) : lk p H.σ = some (.list l) := by
  obtain ⟨o, e1, e2⟩ := lkO_eq h
  cases o <;> cases e2
  exact e1
theorem bin_sound (S : SatM c own α ρ H m s) {K : SV × HS → Prop} {op : Operator} {a b : SV} {v u : Value} (i : a.Is α v) (j : b.Is α u) (h : (bin op a b H).ok K) : wpAny (model prog c.w) A (binaryOp op v u) (PostV c own α ρ m s K) E s := by
  obtain ⟨heap, gens, drawn, toks, os⟩ := s
  obtain ⟨lit, S⟩ := S
  have done : ∀ {r : SV} {x : Value} {tk}, K (r, H) → r.Is α x → PostV c own α ρ m ⟨heap, gens, drawn, toks, os⟩ K x ⟨heap, gens, drawn, tk, os⟩ := fun k i => Sat.done k ⟨lit, S.heap⟩ Rest.rfl' i
  cases op <;> try exact h.elim
  case Add =>
    replace h : (addS a b H).ok K := h
    unfold addS at h
    generalize ea : asR a = oa at h
    cases oa with
    | none =>
      refine asI_el h ?_
      clear h
      intro y e1 h
      rw [e1] at j
      obtain ⟨t', rfl⟩ := j
      refine optT_el h ?_
      clear h
      intro r e2 h
      cases a <;> cases e2
      · obtain ⟨t, rfl⟩ := i
        exact add_clean fun t' tk' => done h ⟨_, rfl⟩
      · obtain ⟨z, t, rfl⟩ := i
        exact add_clean fun t' tk' => done h ⟨_, _, rfl⟩
      · obtain ⟨t, rfl⟩ := i
        exact add_clean fun t' tk' => done h ⟨_, rfl⟩
    | some p =>
      rw [asR_eq ea] at i
      refine asR_el h ?_
      clear h
      intro q e1 h
      rw [e1] at j
      obtain ⟨x, hx, rfl⟩ := i
      obtain ⟨y, hy, rfl⟩ := j
      unfold addL at h
      generalize eb : bothL p q H = ob at h
      cases ob with
      | some x2 =>
        obtain ⟨l, e3, eb⟩ := Option.bind_eq_some_iff.mp eb
        obtain ⟨l', e4, eb⟩ := Option.bind_eq_some_iff.mp eb
        cases eb
        refine boolT_el h ?_
        clear h
        intro hz h
        obtain ⟨vs, n, h1, h2⟩ := S.list (lst_eq e3) hx
        obtain ⟨ws, k, h3, h4⟩ := S.list (lst_eq e4) hy
        refine add_at S.F S.N h1 h3 ?_ fun D h' F' N' l1 => S.oneV F' N' l1 h ⟨_, 0, rfl, h2.append h4⟩ Rest.rfl'
        rw [h2.len, h4.len]
        have : l.length + l'.length ≤ 1000 := Nat.le_of_ble_eq_true hz
        lia
      | none =>
        replace h := ints_ok h
        obtain ⟨o1, X, g1, z1, h⟩ := h
        replace h := ints_ok h
        obtain ⟨o2, Y, g2, z2, h⟩ := h
        obtain ⟨vs, n, h1, h2⟩ := S.ints g1 z1 hx
        obtain ⟨ws, k, h3, h4⟩ := S.ints g2 z2 hy
        exact add_at S.F S.N h1 h3 (by rw [h2.length, h4.length]; exact h.1) fun D h' F' N' l1 => S.oneV F' N' l1 h.2 ⟨_, 0, rfl, h2.append h4⟩ Rest.rfl'
  case Sub =>
    refine asI_el h ?_
    clear h
    intro y e1 h
    rw [e1] at j
    obtain ⟨t', rfl⟩ := j
    refine optT_el h ?_
    clear h
    intro r e2 h
    cases a <;> cases e2
    · obtain ⟨t, rfl⟩ := i
      exact sub_clean fun t' tk' => done h ⟨_, rfl⟩
    · obtain ⟨t, rfl⟩ := i
      exact sub_clean fun t' tk' => done h ⟨_, rfl⟩
  case Mult =>
    refine asI_el h ?_
    clear h
    intro y e1 h
    rw [e1] at j
    obtain ⟨t, rfl⟩ := j
    unfold mulS at h
    generalize ea : asR a = oa at h
    cases oa with
    | none =>
      refine asI_el h ?_
      clear h
      intro x e2 h
      rw [e2] at i
      obtain ⟨t', rfl⟩ := i
      exact mul_int (done h.2 ⟨_, rfl⟩) h.1
    | some p =>
      rw [asR_eq ea] at i
      obtain ⟨x, hx, rfl⟩ := i
      refine lst_el h ?_
      clear h
      intro l e1 h
      refine optT_el h ?_
      clear h
      intro z e2 h
      obtain ⟨⟨g0, g1⟩, h⟩ := h
      have el : l = [.i z] := by
        match l, e2 with
        | [v], e2 => rw [asI_eq e2]
      subst el
      obtain ⟨vs, n, h1, h2⟩ := S.list e1 hx
      obtain _ | ⟨⟨t2, rfl⟩, _ | _⟩ := h2
      refine KM.mul (ns := [z]) S.F S.N (PySem.IsL.isList (n := n) (S.N _ h1).1) (.cons z t2 .nil) (by lia) (by lia) (by simp; lia) fun D h' F' N' l1 i1 _ _ _ _ _ => S.oneV F' N' l1 h ⟨_, 0, rfl, ?_⟩ Rest.rfl'
      rw [List.flatten_replicate_singleton, List.flatten_replicate_singleton] at i1
      rw [List.flatten_replicate_singleton]
      exact i1
  case Mod =>
    refine asI_el h ?_
    clear h
    intro x e1 h
    rw [e1] at i
    obtain ⟨t, rfl⟩ := i
    unfold modJ at h
    generalize eb : asJ b = ob at h
    cases ob with
    | some k =>
      rw [asJ_eq eb] at j
      obtain ⟨t', rfl⟩ := j
      refine boolT_el h ?_
      clear h
      intro hk h
      have hk : 0 < k := Nat.le_of_ble_eq_true hk
      exact mod_int (by lia) (done h ⟨_, rfl⟩)
    | none =>
      refine asI_el h ?_
      clear h
      intro y e2 h
      rw [e2] at j
      obtain ⟨t', rfl⟩ := j
      exact mod_int h.1 (done h.2 ⟨_, rfl⟩)
  case FloorDiv =>
    refine asI_el h ?_
    clear h
    intro x e1 h
    refine asI_el h ?_
    clear h
    intro y e2 h
    rw [e1] at i
    rw [e2] at j
    obtain ⟨t, rfl⟩ := i
    obtain ⟨t', rfl⟩ := j
    obtain ⟨⟨h0, h1⟩, h⟩ := h
    exact floordiv_int (by lia) (done h ⟨_, rfl⟩) (.inl (PyProof.noPylong_small (by lia)))
noncomputable def ins (x : Int) : List Int → List Int
  | [] => [x]
  | y :: r => match decide (x ≤ y) with
    | true => x :: y :: r
    | false => y :: ins x r
noncomputable def isort : List Int → List Int
  | [] => []
  | x :: r => ins x (isort r)
theorem ins_perm (x : Int) : ∀ l, (ins x l).Perm (x :: l)
  | [] => .rfl
  | y :: r => by
    unfold ins
    cases decide (x ≤ y) with
    | true => exact .rfl
    | false => exact (List.Perm.cons y (ins_perm x r)).trans (.swap x y r)
theorem isort_perm : ∀ l, (isort l).Perm l
  | [] => .rfl
  | x :: r => (ins_perm x _).trans (List.Perm.cons x (isort_perm r))
theorem ins_sorted (x : Int) : ∀ l : List Int, l.Pairwise (· ≤ ·) → (ins x l).Pairwise (· ≤ ·)
  | [], _ => List.pairwise_singleton ..
  | y :: r, h => by
    unfold ins
    cases e : decide (x ≤ y) with
    | true =>
      have e := of_decide_eq_true e
      refine .cons (fun z hz => ?_) h
      rcases List.mem_cons.mp hz with rfl | hz
      · exact e
      · exact Int.le_trans e ((List.pairwise_cons.mp h).1 z hz)
    | false =>
      have e := of_decide_eq_false e
      refine .cons (fun z hz => ?_) (ins_sorted x r (List.pairwise_cons.mp h).2)
      rcases List.mem_cons.mp ((ins_perm x r).mem_iff.mp hz) with rfl | hz
      · lia
      · exact (List.pairwise_cons.mp h).1 z hz
theorem isort_sorted : ∀ l : List Int, (isort l).Pairwise (· ≤ ·)
  | [] => .nil
  | x :: r => ins_sorted x _ (isort_sorted r)
theorem sorted_eq : ∀ {a b : List Int}, a.Perm b → a.Pairwise (· ≤ ·) → b.Pairwise (· ≤ ·) → a = b
  | [], b, p, _, _ => (List.nil_perm.mp p).symm
  | x :: a, [], p, _, _ => absurd (List.perm_nil.mp p) (by simp)
  | x :: a, y :: b, p, h1, h2 => by
    have e : x = y := by
      have hx : x ∈ y :: b := p.mem_iff.mp (.head _)
      have hy : y ∈ x :: a := p.mem_iff.mpr (.head _)
      rcases List.mem_cons.mp hx with e | hx
      · exact e
      · rcases List.mem_cons.mp hy with e | hy
        · exact e.symm
        · exact Int.le_antisymm ((List.pairwise_cons.mp h1).1 y hy) ((List.pairwise_cons.mp h2).1 x hx)
    subst e
    rw [sorted_eq (List.Perm.cons_inv p) (List.pairwise_cons.mp h1).2 (List.pairwise_cons.mp h2).2]
theorem sort_freshO {prog : Program} {w : World} {A : Around} {E : Value → Shared → Prop} {s : Shared} {h₀ : Heap} {L D : Addr} {m : Str → Option Value} {news : List (Addr × Obj)} {vs : List Value} {ns : List Int} {c : Nat} {Q : Value → Shared → Prop} (F : Fr h₀ L s.heap m) (N : News h₀ L s.heap ((D, listOf vs.toArray c) :: news)) (hD : ∀ q ∈ news, q.1 < D) (hI : IntsAre vs ns) (hn : vs.length ≤ 10)
    (h : ∀ (vs' : List Value) (ns' : List Int) (c' : Nat) (h' : Heap), Fr h₀ L h' m → News h₀ L h' ((D, listOf vs'.toArray c') :: news) → IntsAre vs' ns' → ns'.Perm ns → ns'.Pairwise (· ≤ ·) → Q .none { s with heap := h' }) :
    wpAny (model prog w) A (call (.builtin "list.sort") [.ref D]) Q E s := by
  have z := N _ (.head _)
  have hs : D < s.heap.objs.size := Heap.lt_size z.1
  refine wpAny_call_entry PyProof.Rows.slot_list_sort ⟨_, z.1, rfl⟩ PyProof.Rows.entry_list_sort (list_sort_tree (n := c) (vs := vs) z.1 hI (by lia) fun out ns' hI' hp ho => ⟨.none, rfl, ?_⟩) (PyProof.Rows.args_list_sort _)
  obtain ⟨e, he⟩ := sortedHeap_at (out := out) z.1
  have old : ∀ b o, b ≠ D → s.heap.get? b = some o → (sortedHeap s.heap D vs out).get? b = some o := fun b o hb ho => by
    rw [sortedHeap_old hb (Heap.lt_size ho)]; exact ho
  have F1 : Fr h₀ L (sortedHeap s.heap D vs out) m := by
    obtain ⟨oL, a1, a2, hL, a3⟩ := F.ns
    refine ⟨⟨oL, a1, a2, old _ _ (Ne.symm z.2.1) hL, a3⟩, fun b o hb => old _ _ (fun e => ?_) (F.keep b o hb), F.above⟩
    rw [e, z.2.2] at hb
    cases hb
  refine h out.toList ns' e _ F1 ?_ hI' hp ho
  intro q hq
  rcases List.mem_cons.mp hq with rfl | hq
  · refine ⟨?_, z.2⟩
    rw [Array.toArray_toList]
    exact he
  · exact ⟨old _ _ (Nat.ne_of_lt (hD q hq)) (N q (List.mem_cons_of_mem _ hq)).1, (N q (List.mem_cons_of_mem _ hq)).2⟩
theorem keys_all {prog : Program} {w : World} {kvs : List (Int × Value)} : ∀ {vs : List Value}, vs.length = kvs.length → (∀ (j : Nat) (v : Value), vs[j]? = some v → ∃ k x, kvs[j]? = some (k, x) ∧ (PySem.intKind prog w).is k v = true) → IntsAre vs (kvs.map (·.1))
  | [], e, _ => by
    have : kvs = [] := List.eq_nil_of_length_eq_zero e.symm
    subst this
    exact .nil
  | v :: r, e, h => by
    obtain ⟨k, x, h1, h2⟩ := h 0 v rfl
    obtain ⟨t, rfl⟩ := Value.isInt_shape h2
    cases kvs with
    | nil => cases h1
    | cons q kvs =>
      cases h1
      exact .cons k t (keys_all (vs := r) (by simpa using e) fun j u hu => h (j + 1) u hu)
theorem RowsAre.keys {α : Al} {l kvs} (h : RowsAre α l kvs) : kvs.map (·.1) = l.map (·.1) := by
  induction h with
  | nil => rfl
  | cons _ _ ih => simp [ih]
theorem ints_all {α : Al} : ∀ {vs : List Value} {ns : List Int}, IntsAre vs ns → AreAll α (ns.map SV.i) vs
  | _, _, .nil => .nil
  | _, _, .cons n t h => .cons ⟨t, rfl⟩ (ints_all h)
noncomputable def arg1 : List SV → Option Nat
  | [v] => asR v
  | _ => none
noncomputable def arg2 : List SV → Option (Int × Int)
  | [v, u] => (asI v).bind fun x => (asI u).bind fun y => some (x, y)
  | _ => none
noncomputable def asRows : SO → Option (List (Int × Nat))
  | .rows l => some l
  | _ => none
noncomputable def lstOr (p : Nat) (H : HS) (f : List SV → T (SV × HS)) (g : List Int → T (SV × HS)) : T (SV × HS) := match lkO asLst p H with
  | some l => boolT (Nat.ble l.length 1000) (f l)
  | none => optT (lkO asInts p H) fun U => .need (U.length ≤ 4000) (g U)
theorem lstOr_ok {p : Nat} {H : HS} {f : List SV → T (SV × HS)} {g : List Int → T (SV × HS)} {K : SV × HS → Prop} (h : (lstOr p H f g).ok K) : (∃ l, lk p H.σ = some (.list l) ∧ l.length ≤ 1000 ∧ (f l).ok K) ∨ (∃ o U, lk p H.σ = some o ∧ asInts o = some U ∧ U.length ≤ 4000 ∧ (g U).ok K) := by
  unfold lstOr at h
  generalize e : lkO asLst p H = o at h
  cases o with
  | some l =>
    obtain ⟨hz, h⟩ := boolT_ok h
    exact .inl ⟨l, lst_eq e, Nat.le_of_ble_eq_true hz, h⟩
  | none =>
    obtain ⟨o, U, e1, e2, h3, h⟩ := ints_ok h
    exact .inr ⟨o, U, e1, e2, h3, h⟩
noncomputable def builtS (b : Bi) (args : List SV) (H : HS) : T (SV × HS) := match b with
  | .min => optT (arg2 args) fun x => .all (fun m => m ≤ x.1 ∧ m ≤ x.2 ∧ (m = x.1 ∨ m = x.2)) fun m => .ret (.i m, H)
  | .max => optT (arg2 args) fun x => .all (fun m => x.1 ≤ m ∧ x.2 ≤ m ∧ (m = x.1 ∨ m = x.2)) fun m => .ret (.i m, H)
  | .len => optT (arg1 args) fun p => lstOr p H (fun l => .ret (.j l.length, H)) fun U => .ret (.i U.length, H)
  | .sorted => optT (arg1 args) fun p => optT (lkO asRows p H) fun l => boolT (Nat.ble l.length 10) (.ret (.r H.nx, H.new (.list ((isort (l.map (·.1))).map SV.i))))
  | .list => optT (arg1 args) fun p => lstOr p H (fun l => .ret (.r H.nx, H.new (.list l))) fun U => .ret (.r H.nx, H.new (.ints U))
  | _ => .fail
theorem arg1_is {α : Al} {args : List SV} {vs : List Value} {p : Nat} (i : AreAll α args vs) (h : arg1 args = some p) : ∃ a, α p = some a ∧ vs = [.ref a] := by
  match args, h with
  | [v], h =>
    rw [asR_eq h] at i
    obtain _ | ⟨⟨a, ha, rfl⟩, _ | _⟩ := i
    exact ⟨a, ha, rfl⟩
theorem arg2_is {α : Al} {args : List SV} {vs : List Value} {x : Int × Int} (i : AreAll α args vs) (h : arg2 args = some x) : ∃ t t', vs = [.int x.1 t, .int x.2 t'] := by
  match args, h with
  | [v, u], h =>
    obtain ⟨y, e1, h⟩ := Option.bind_eq_some_iff.mp h
    obtain ⟨z, e2, h⟩ := Option.bind_eq_some_iff.mp h
    cases h
    rw [asI_eq e1, asI_eq e2] at i
    obtain _ | ⟨⟨t, rfl⟩, _ | ⟨⟨t', rfl⟩, _ | _⟩⟩ := i
    exact ⟨t, t', rfl⟩
theorem builtS_sound (hh : A.handled = none) (S : SatM c own α ρ H m s) {K : SV × HS → Prop} {b : Bi} {args : List SV} {vs : List Value} (i : AreAll α args vs) (h : (builtS b args H).ok K) : wpAny (model Pg c.w) A (call b.val vs) (PostV c own α ρ m s K) E s := by
  obtain ⟨heap, gens, drawn, toks, os⟩ := s
  obtain ⟨lit, S⟩ := S
  cases b <;> try exact h.elim
  all_goals
    refine optT_el h ?_
    clear h
    intro x e h
  case len =>
    obtain ⟨a, ha, rfl⟩ := arg1_is i e
    rcases lstOr_ok h with ⟨l, e1, hz, h⟩ | ⟨o, U, e1, e2, hz, h⟩
    · obtain ⟨vs, n, h1, h2⟩ := S.list e1 ha
      exact len_at S.N h1 (by rw [h2.len]; lia) (Sat.done h ⟨lit, S.heap⟩ Rest.rfl' ⟨toks + 1, by rw [h2.len]⟩)
    · obtain ⟨vs, n, h1, h2⟩ := S.ints e1 e2 ha
      exact len_at S.N h1 (by rw [h2.length]; exact hz) (Sat.done h ⟨lit, S.heap⟩ Rest.rfl' ⟨toks + 1, by rw [h2.length]⟩)
  case min =>
    obtain ⟨t, t', rfl⟩ := arg2_is i e
    exact min_two_N hh S.F S.N fun h' tk F' N' => S.stay F' N' (h (if x.2 < x.1 then x.2 else x.1) (by split <;> lia)) ⟨_, rfl⟩ Rest.rfl'
  case max =>
    obtain ⟨t, t', rfl⟩ := arg2_is i e
    exact max_two_N hh S.F S.N fun h' tk F' N' => S.stay F' N' (h (if x.1 < x.2 then x.2 else x.1) (by split <;> lia)) ⟨_, rfl⟩ Rest.rfl'
  case list =>
    obtain ⟨a, ha, rfl⟩ := arg1_is i e
    rcases lstOr_ok h with ⟨l, e1, hz, h⟩ | ⟨o, U, e1, e2, hz, h⟩
    · obtain ⟨vs, n, h1, h2⟩ := S.list e1 ha
      exact list_copyK S.F S.N (PySem.IsL.isList (n := n) (S.N _ h1).1) (fun D k h' F' N' l1 => S.oneV F' N' l1 h ⟨_, k, rfl, h2⟩ Rest.rfl') (by rw [List.size_toArray, h2.len, PySem.sizeLine_eq]; lia)
    · obtain ⟨vs, n, h1, h2⟩ := S.ints e1 e2 ha
      exact list_copyK S.F S.N (PySem.IsL.isList (n := n) (S.N _ h1).1) (fun D k h' F' N' l1 => S.oneV F' N' l1 h ⟨_, k, rfl, h2⟩ Rest.rfl') (by rw [List.size_toArray, h2.length, PySem.sizeLine_eq]; lia)
  case sorted =>
    obtain ⟨a, ha, rfl⟩ := arg1_is i e
    refine optT_el h ?_
    clear h
    intro l e1 h
    obtain ⟨o, e1, e2⟩ := lkO_eq e1
    cases o <;> cases e2
    refine boolT_el h ?_
    clear h
    intro hz h
    have hz := Nat.le_of_ble_eq_true hz
    obtain ⟨x', cs, hx', ⟨ro, kvs, rfl, lo, hd, hr⟩, hm⟩ := S.at e1
    rw [ha] at hx'
    cases hx'
    have hk := hr.keys
    have hl : kvs.length = l.length := by simpa using congrArg List.length hk
    have N := S.N _ (hm _ (.head _))
    have hD : Heap.DictOf (PySem.intKind Pg c.w) heap a kvs := Heap.dictOf_iff.mpr ⟨ro, N.1, hd⟩
    obtain ⟨ep, hat⟩ := hD.dictAt
    refine kdu_sorted (kdl_dict (knd := PySem.intKind Pg c.w) (kvs := kvs) (ep := ep) lo) hh S.F S.N hat (kdl_size (by lia)) fun B h' tk vs F' N' l1 hl' hv => ?_
    have iv := keys_all (prog := Pg) (w := c.w) (kvs := kvs) (vs := vs) (by lia) hv
    refine sort_freshO F' N' l1 iv (by lia) fun vs' ns' c' h2 F2 N2 i4 p o => S.oneV F2 N2 l1 h ⟨vs', c', rfl, ?_⟩ Rest.rfl'
    have : ns' = isort (l.map (·.1)) := sorted_eq (p.trans (by rw [hk]; exact (isort_perm _).symm)) o (isort_sorted _)
    rw [← this]
    exact ints_all i4
noncomputable def truth (v : SV) (H : HS) : T (Bool × HS) := match v with
  | .b t => .ret (t, H)
  | .c p => .br p (.ret (true, H)) (.ret (false, H))
  | _ => .fail
noncomputable abbrev PostB (c : Cx) (own : List (Addr × Obj)) (α : Al) (ρ : Loc) (m : Str → Option Value) (s : Shared) (K : Bool × HS → Prop) (v : Bool) (s' : Shared) : Prop := Post (fun _ g v => v = g) c own α ρ m s K v s'
theorem truth_sound (S : SatM c own α ρ H m s) {K : Bool × HS → Prop} {a : SV} {v : Value} (i : a.Is α v) (h : (truth a H).ok K) : wpAny (model prog c.w) A (truthy v) (PostB c own α ρ m s K) E s := by
  cases a <;> try exact h.elim
  case b =>
    cases i
    exact wpAny_truthy_bool (Sat.done h S Rest.rfl' rfl)
  case c =>
    obtain ⟨t, rfl, e⟩ := i
    refine wpAny_truthy_bool ⟨α, t, H, Ext.rfl', S, Rest.rfl', rfl, ?_⟩
    cases t with
    | true => exact h.1 (e.mp rfl)
    | false => exact h.2 fun x => by cases e.mpr x
end
end KR
end
section
open PySem PySem.W PyProof.Rows PySem.Calls
set_option Elab.async false
set_option maxRecDepth 100000
set_option maxHeartbeats 4000000
set_option linter.constructorNameAsVariable false
set_option linter.unusedVariables false
set_option linter.unusedSimpArgs false
namespace KR
theorem SO.Is.head {w : World} {α : Al} {o : SO} {a : Addr} {cs : List (Addr × Obj)} (h : o.Is w α a cs) : ∃ ob r, cs = (a, ob) :: r := by
  cases o with
  | obj C fs => obtain ⟨d, es, h, _⟩ := h; exact ⟨_, _, h⟩
  | list l => obtain ⟨vs, n, h, _⟩ := h; exact ⟨_, _, h⟩
  | «ints» l => obtain ⟨vs, n, h, _⟩ := h; exact ⟨_, _, h⟩
  | tup l => obtain ⟨vs, h, _⟩ := h; exact ⟨_, _, h⟩
  | gap T bd => obtain ⟨gd, es, c, vs, n, C, gs, ge, h, _⟩ := h; exact ⟨_, _, h⟩
  | rows l => obtain ⟨ro, kvs, h, _⟩ := h; exact ⟨_, _, h⟩
  | cell v =>
    cases v with
    | none => obtain ⟨ob, h, _⟩ := h; exact ⟨_, _, h⟩
    | some v => obtain ⟨ob, u, h, _⟩ := h; exact ⟨_, _, h⟩
  | deck => obtain ⟨b, d, n, t, vs, ws, k0, k1, k2, R, C, h, _⟩ := h; exact ⟨_, _, h⟩
theorem Cells.has {w : World} {α : Al} {p : Nat} {o : SO} {σ lit} (C : Cells w α σ lit) (h : lk p σ = some o) : ∃ a, α p = some a ∧ a ∈ adr lit := by
  obtain ⟨a, cs, pre, post, h1, h2, h3, _⟩ := C.find h
  obtain ⟨ob, r, e⟩ := h3.head
  refine ⟨a, h1, mem_adr (p := (a, ob)) ?_⟩
  rw [h2, e]; simp
theorem Cells.ne {w : World} {α : Al} {p q : Nat} {o o' : SO} : ∀ {σ lit}, Cells w α σ lit → Apart (adr lit) → lk p σ = some o → lk q σ = some o' → Nat.beq p q = false → ∃ a b, α p = some a ∧ α q = some b ∧ a ≠ b := by
  intro σ lit C
  induction C with
  | nil => intro _ h; cases h
  | @cons r or a cs σ lit h1 h2 h3 ih =>
    intro D hp hq ne
    rw [adr_append] at D
    obtain ⟨ob, rr, e⟩ := h2.head
    have ha : a ∈ adr cs := mem_adr (p := (a, ob)) (by rw [e]; simp)
    simp only [lk] at hp hq
    cases e1 : Nat.beq p r with
    | true =>
      have := Nat.eq_of_beq_eq_true e1
      subst this
      cases e2 : Nat.beq q p with
      | true =>
        have := Nat.eq_of_beq_eq_true e2
        subst this
        rw [Nat.beq_refl] at ne
        cases ne
      | false =>
        rw [e2] at hq
        obtain ⟨b, hb, hm⟩ := h3.has hq
        exact ⟨a, b, h1, hb, apart_off D a ha b hm⟩
    | false =>
      rw [e1] at hp
      obtain ⟨b, hb, hm⟩ := h3.has hp
      cases e2 : Nat.beq q r with
      | true =>
        have := Nat.eq_of_beq_eq_true e2
        subst this
        exact ⟨b, a, hb, h1, fun z => apart_off D a ha b hm z.symm⟩
      | false =>
        rw [e2] at hq
        have D2 : Apart (adr lit) := by
          have : Apart (adr cs ++ adr lit) → Apart (adr lit) := by
            generalize adr cs = l
            induction l with
            | nil => exact id
            | cons _ _ ih => exact fun D => ih D.2
          exact this D
        exact ih D2 hp hq ne
section
variable {c : Cx} {d : Nat} {own : List (Addr × Obj)} {α : Al} {ρ : Loc} {H : HS} {s : Shared} {A : Around} {prog : Program} {E : Value → Shared → Prop} {m : Str → Option Value} {lit : List (Addr × Obj)}
theorem apart_left' {a b : List (Addr × Obj)} (D : Apart (adr (a ++ b))) : Apart (adr a) := by
  rw [adr_append] at D
  exact apart_left D
theorem SatX.upd (S : SatX c own α ρ H s m lit) {p : Nat} {o : SO} (h : lk p H.σ = some o) {a : Addr} (ha : α p = some a) : ∃ cs pre post, o.Is c.w α a cs ∧ (∀ q ∈ cs, q ∈ lit ++ own) ∧ (∀ ob, cs = [(a, ob)] → lit ++ own = pre ++ (a, ob) :: (post ++ own)) ∧
    ∀ ob ob' o', cs = [(a, ob)] → o'.Is c.w α a [(a, ob')] → Upd a ob ob' (lit ++ own) (pre ++ ((a, ob') :: (post ++ own))) ∧ ∀ s', Fr c.h₀ c.L s'.heap m → News c.h₀ c.L s'.heap (pre ++ ((a, ob') :: (post ++ own))) → SatM c own α ρ ⟨H.nx, up p o' H.σ⟩ m s' := by
  obtain ⟨b, cs, pre, post, h1, h2, h3, h4⟩ := S.C.find h
  rw [ha] at h1
  cases h1
  refine ⟨cs, pre, post, h3, fun q hq => by rw [h2]; simp [hq], fun ob e => by rw [h2, e]; simp, fun ob ob' o' e i => ?_⟩
  subst e h2
  have e1 : pre ++ ([(a, ob)] ++ post) ++ own = pre ++ (a, ob) :: (post ++ own) := by simp
  have D := S.D
  rw [e1] at D
  refine ⟨by rw [e1]; exact upd_mid D, fun s' F' N' => ⟨pre ++ ([(a, ob')] ++ post), F', ?_, ?_, h4 α Ext.rfl' _ _ i, S.V, S.Z⟩⟩
  · rw [show pre ++ ([(a, ob')] ++ post) ++ own = pre ++ (a, ob') :: (post ++ own) by simp]; exact N'
  · rw [show pre ++ ([(a, ob')] ++ post) ++ own = pre ++ (a, ob') :: (post ++ own) by simp]; exact apart_mid D
inductive LM where
  | insert | pop
noncomputable def LM.id : LM → String
  | .insert => "list.insert" | .pop => "list.pop"
noncomputable def lname (a : Str) : Option LM := match eqS a "insert" with
  | true => some .insert
  | false => match eqS a "pop" with
    | true => some .pop
    | false => none
noncomputable def asSeq : SO → Option Unit
  | .list _ => some ()
  | .ints _ => some ()
  | _ => none
noncomputable def lstAt (v : SV) (H : HS) : Option Nat := (asR v).bind fun p => (lkO asSeq p H).bind fun _ => some p
noncomputable def isLst (v : SV) (H : HS) : Bool := !isNo (lstAt v H)
noncomputable def asIn : SO → Option (List Int)
  | .ints U => some U
  | _ => none
noncomputable def z0 (v : SV) : Bool := match asI v with
  | some z => decide (z = 0)
  | none => false
theorem z0_is {α : Al} {v : SV} {u : Value} (h : z0 v = true) (i : v.Is α u) : ∃ t, u = .int 0 t := by
  unfold z0 at h
  generalize e : asI v = o at h
  cases o with
  | none => cases h
  | some z =>
    have h : z = 0 := of_decide_eq_true h
    subst h
    rw [asI_eq e] at i
    exact i
noncomputable def ins0 : List SV → Option SV
  | [z, v] => match z0 z with
    | true => some v
    | false => none
  | _ => none
noncomputable def pop0 : List SV → Bool
  | [z] => z0 z
  | _ => false
noncomputable def lmeth (a : LM) (o : SV) (args : List SV) (H : HS) : T (SV × HS) := match a with
  | .insert => optT (asR o) fun p => optT (lkO asLst p H) fun l => optT (ins0 args) fun v => boolT (Nat.ble l.length 1000) (.ret (.n, ⟨H.nx, up p (.list (v :: l)) H.σ⟩))
  | .pop => optT (asR o) fun p => optT (lkO asIn p H) fun U => boolT (pop0 args) (.need (0 < U.length ∧ U.length ≤ 4000) (.ret (.i (U.headD 0), ⟨H.nx, up p (.ints U.tail) H.σ⟩)))
theorem in_eq {p : Nat} {H : HS} {l : List Int} (h : lkO asIn p H = some l) : lk p H.σ = some (.ints l) := by
  obtain ⟨o, e1, e2⟩ := lkO_eq h
  cases o <;> cases e2
  exact e1
theorem getL_sound (S : SatM c own α ρ H m s) {sv : SV} {v : Value} {a : Str} {lm : LM} {pl : Sem Bool} (i : sv.Is α v) (h1 : isLst sv H = true) (h2 : lname a = some lm) :
    wpAny (model prog c.w) A (getMethod v a pl) (fun fx s' => fx = (.builtin lm.id, [v]) ∧ s' = s) E s := by
  obtain ⟨lit, S⟩ := S
  have key : ∃ D its n, v = .ref D ∧ (D, listOf its n) ∈ lit ++ own := by
    unfold isLst at h1
    generalize e : lstAt sv H = o at h1
    cases o with
    | none => cases h1
    | some p =>
      obtain ⟨q, e1, e⟩ := Option.bind_eq_some_iff.mp e
      obtain ⟨_, e2, _⟩ := Option.bind_eq_some_iff.mp e
      obtain ⟨o, e3, e4⟩ := lkO_eq e2
      rw [asR_eq e1] at i
      obtain ⟨D, hD, rfl⟩ := i
      cases o <;> cases e4
      · obtain ⟨vs, n, g1, _⟩ := S.list e3 hD
        exact ⟨D, _, n, rfl, g1⟩
      · obtain ⟨vs, n, g1, _⟩ := S.ints e3 rfl hD
        exact ⟨D, _, n, rfl, g1⟩
  obtain ⟨D, its, n, rfl, hm⟩ := key
  unfold lname at h2
  generalize e : eqS a "insert" = b at h2
  cases b with
  | true =>
    cases h2
    rw [eqS_iff.mp e]
    exact kl_method S.N hm PySem.F.slot_list_insert PySem.F.type_list_insert ⟨rfl, rfl⟩
  | false =>
    dsimp only at h2
    generalize e : eqS a "pop" = b at h2
    cases b <;> cases h2
    rw [eqS_iff.mp e]
    exact kl_method S.N hm PySem.F.slot_list_pop PySem.F.type_list_pop ⟨rfl, rfl⟩
theorem lmeth_sound (S : SatM c own α ρ H m s) {K : SV × HS → Prop} {lm : LM} {o : SV} {vo : Value} {args : List SV} {vs : List Value} (i : o.Is α vo) (j : AreAll α args vs) (h : (lmeth lm o args H).ok K) : wpAny (model prog c.w) A (call (.builtin lm.id) (vo :: vs)) (PostV c own α ρ m s K) E s := by
  obtain ⟨lit, S⟩ := S
  cases lm with
  | insert =>
    refine asR_el h ?_
    clear h
    intro p e h
    rw [e] at i
    obtain ⟨a, ha, rfl⟩ := i
    refine lst_el h ?_
    clear h
    intro l ep h
    refine optT_el h ?_
    clear h
    intro v e0 h
    refine boolT_el h ?_
    clear h
    intro hl h
    have hl := Nat.le_of_ble_eq_true hl
    match args, e0 with
    | [z, v'], e0 =>
      have hz : z0 z = true ∧ v' = v := by
        have e0 : (match z0 z with | true => some v' | false => none) = some v := e0
        generalize z0 z = b at e0
        cases b <;> cases e0
        exact ⟨rfl, rfl⟩
      obtain ⟨hz, rfl⟩ := hz
      obtain _ | ⟨iz, _ | ⟨iv, _ | _⟩⟩ := j
      obtain ⟨t, rfl⟩ := z0_is hz iz
      obtain ⟨cs, pre, post, ⟨vs, n, rfl, j⟩, i2, ie, i3⟩ := S.upd ep ha
      obtain ⟨U1, U2⟩ := i3 _ _ (.list _) rfl ⟨_, n + 1, rfl, .cons iv j⟩
      exact kl_insert S.F S.N rfl rfl U1 (by have := j.len; simp only [PySem.sizeLine_eq]; lia) fun h' F' N' => Sat.done h (U2 _ F' N') Rest.rfl' rfl
  | pop =>
    refine asR_el h ?_
    clear h
    intro p e h
    rw [e] at i
    obtain ⟨a, ha, rfl⟩ := i
    refine optT_el h ?_
    clear h
    intro U ep h
    have ep := in_eq ep
    refine boolT_el h ?_
    clear h
    intro hz h
    obtain ⟨⟨h0, h1⟩, h⟩ := h
    match args, hz with
    | [z], hz =>
      obtain _ | ⟨iz, _ | _⟩ := j
      obtain ⟨t, rfl⟩ := z0_is hz iz
      obtain ⟨cs, pre, post, ⟨vs, n, rfl, j⟩, i2, ie, i3⟩ := S.upd ep ha
      cases j with
      | nil => simp at h0
      | cons u t iu =>
        obtain ⟨U1, U2⟩ := i3 _ _ (.ints _) rfl ⟨_, n + 1, rfl, iu⟩
        have := iu.length
        simp only [List.length_cons] at h1
        exact kl_popAt (k := 0) (p := []) (y := .int u t) S.F S.N rfl (by simp [PySem.seqIndex?]) rfl U1 (by simp only [PySem.sizeLine_eq, List.length_cons]; lia) fun h' F' N' => Sat.done h (U2 _ F' N') Rest.rfl' ⟨_, rfl⟩
noncomputable def asInts2 (H : HS) : List SV → Option (List (List Int))
  | [] => some []
  | v :: r => (asR v).bind fun p => (lkO asInts p H).bind fun X => (asInts2 H r).bind fun Y => some (X :: Y)
noncomputable def dat (X : List Int) : PyData := .list (X.map PyData.int)
theorem same2 : ∀ X Y : List (List Int), PySem.Spec.sameAll (X.map dat) (Y.map dat) = decide (X = Y)
  | [], [] => by simp [PySem.Spec.sameAll]
  | [], _ :: _ => by simp [PySem.Spec.sameAll]
  | _ :: _, [] => by simp [PySem.Spec.sameAll]
  | n :: r, k :: q => by
    simp only [List.map_cons, PySem.Spec.sameAll, dat, PySem.Spec.same, same_ints]
    rw [show (PySem.Spec.sameAll (r.map dat) (q.map dat)) = decide (r = q) from same2 r q]
    by_cases h : n = k <;> simp [h]
theorem noMix2 : ∀ X Y : List (List Int), PySem.SeqAt.noMixAll (X.map dat) (Y.map dat) = true
  | [], [] => by simp [PySem.SeqAt.noMixAll]
  | [], _ :: _ => by simp [PySem.SeqAt.noMixAll]
  | _ :: _, [] => by simp [PySem.SeqAt.noMixAll]
  | _ :: r, _ :: q => by
    simp only [List.map_cons, PySem.SeqAt.noMixAll, dat, PySem.SeqAt.noMix, noMix_ints, Bool.true_and]
    exact noMix2 r q
theorem lay2 : ∀ X : List (List Int), PyData.canLayAll0 (X.map dat) = true ∧ PyData.depthAll (X.map dat) ≤ 2
  | [] => by simp [PyData.canLayAll0, PyData.depthAll]
  | X :: r => by
    obtain ⟨h1, h2⟩ := lay2 r
    have := PySem.W.depthAll_ints X
    simp only [List.map_cons, PyData.canLayAll0, dat, PyData.canLay0, canLayAll0_ints, h1, PyData.depthAll, PyData.depth, Bool.and_self, true_and]
    try simp only [dat] at h2
    lia
theorem shaped2 (X : List (List Int)) : PySem.SeqAt.shaped (.list (X.map dat)) = true := by
  obtain ⟨h1, h2⟩ := lay2 X
  show (PyData.canLay0 (.list (X.map dat)) && decide (PyData.depth (.list (X.map dat)) ≤ 64)) = true
  rw [Bool.and_eq_true]
  exact ⟨by simp only [PyData.canLay0]; exact h1, decide_eq_true (by simp only [PyData.depth]; lia)⟩
theorem SatX.intsC (S : SatX c own α ρ H s m lit) {p : Nat} {o : SO} {U : List Int} {a : Addr} (h : lk p H.σ = some o) (hU : asInts o = some U) (ha : α p = some a) : ∃ vs, s.heap.IsList a vs.toArray ∧ IntsAre vs U := by
  obtain ⟨vs, n, h1, h2⟩ := S.ints h hU ha
  exact ⟨vs, PySem.IsL.isList (n := n) (S.N _ h1).1, h2⟩
theorem SatX.ints2 (S : SatX c own α ρ H s m lit) {l : List SV} {vs : List Value} (i : AreAll α l vs) : ∀ {X : List (List Int)}, asInts2 H l = some X → ∃ as, ReadsAll s.heap vs (X.map dat) as := by
  induction i with
  | nil => intro X h; cases h; exact ⟨_, .nil⟩
  | @cons sv v l vs i1 i2 ih =>
    intro X h
    obtain ⟨p, e0, h⟩ := Option.bind_eq_some_iff.mp h
    obtain ⟨Y, e1, h⟩ := Option.bind_eq_some_iff.mp h
    obtain ⟨Z, e2, h⟩ := Option.bind_eq_some_iff.mp h
    cases h
    obtain ⟨o, e3, e4⟩ := lkO_eq e1
    rw [asR_eq e0] at i1
    obtain ⟨a, ha, rfl⟩ := i1
    obtain ⟨ws, h1, h2⟩ := S.intsC e3 e4 ha
    obtain ⟨as, h3⟩ := ih e2
    exact ⟨_, .cons (reads_of_ints h1 h2) h3⟩
noncomputable def bothI (p q : Nat) (H : HS) : Option (List Int × List Int) := (lkO asInts p H).bind fun X => (lkO asInts q H).bind fun Y => some (X, Y)
noncomputable def both2 (l l' : List SV) (H : HS) : Option (List (List Int) × List (List Int)) := (asInts2 H l).bind fun X => (asInts2 H l').bind fun Y => some (X, Y)
noncomputable def cmpL (H : HS) (p q : Nat) : Option (Option Prop) := match bothI p q H with
  | some x => some (some (x.1 = x.2))
  | none => (bothL p q H).bind fun x => match both2 x.1 x.2 H with
    | some y => some (some (y.1 = y.2))
    | none => match Nat.beq x.1.length x.2.length with
      | false => some none
      | true => none
noncomputable def refs (a b : SV) : Option (Nat × Nat) := (asR a).bind fun p => (asR b).bind fun q => some (p, q)
noncomputable def eqT (r : Option Prop) : T SV := match r with
  | some P => .ret (.c P)
  | none => .fail
noncomputable def neT (r : Option Prop) : T SV := match r with
  | some P => .ret (.c (¬P))
  | none => .ret (.b true)
noncomputable def cmpH (op : CmpOp) (a b : SV) (H : HS) : T SV := match op with
  | .Eq => (match refs a b with
    | some x => optT (cmpL H x.1 x.2) eqT
    | none => cmp .Eq a b)
  | .NotEq => (match refs a b with
    | some x => optT (cmpL H x.1 x.2) neT
    | none => cmp .NotEq a b)
  | op => cmp op a b
noncomputable def CmpIs (c : Cx) (prog : Program) (A : Around) (E : Value → Shared → Prop) (s : Shared) (a b : Addr) : Option Prop → Prop
  | some P => ∃ v : Bool, (∀ {Q : Value → Shared → Prop}, Q (.bool v) s → wpAny (model prog c.w) A (compareOp .Eq (.ref a) (.ref b)) Q E s) ∧ (∀ {Q : Value → Shared → Prop}, Q (.bool (!v)) s → wpAny (model prog c.w) A (compareOp .NotEq (.ref a) (.ref b)) Q E s) ∧ (v = true ↔ P)
  | none => ∀ {Q : Value → Shared → Prop}, Q (.bool true) s → wpAny (model prog c.w) A (compareOp .NotEq (.ref a) (.ref b)) Q E s
theorem cmpL_is (S : SatX c own α ρ H s m lit) {p q : Nat} {a b : Addr} (ha : α p = some a) (hb : α q = some b) {r : Option Prop} (h : cmpL H p q = some r) (hu : A.units + 64 < cLine) : CmpIs c prog A E s a b r := by
  unfold cmpL at h
  generalize e : bothI p q H = o at h
  cases o with
  | some x =>
    cases h
    obtain ⟨X, e1, e⟩ := Option.bind_eq_some_iff.mp e
    obtain ⟨Y, e2, e⟩ := Option.bind_eq_some_iff.mp e
    cases e
    obtain ⟨o1, g1, z1⟩ := lkO_eq e1
    obtain ⟨o2, g2, z2⟩ := lkO_eq e2
    obtain ⟨vs, h1, h2⟩ := S.intsC g1 z1 ha
    obtain ⟨ws, h3, h4⟩ := S.intsC g2 z2 hb
    exact ⟨decide (X = Y), fun h => eq_intsK h1 h2 h3 h4 hu h, fun h => ne_intsK h1 h2 h3 h4 hu h, by simp⟩
  | none =>
    obtain ⟨x, e3, h⟩ := Option.bind_eq_some_iff.mp h
    obtain ⟨l, e1, e3⟩ := Option.bind_eq_some_iff.mp e3
    obtain ⟨l', e2, e3⟩ := Option.bind_eq_some_iff.mp e3
    cases e3
    obtain ⟨vs, n, g1, g2⟩ := S.list (lst_eq e1) ha
    obtain ⟨ws, k, g3, g4⟩ := S.list (lst_eq e2) hb
    generalize e4 : both2 l l' H = o at h
    cases o with
    | some y =>
      cases h
      obtain ⟨X, z1, e4⟩ := Option.bind_eq_some_iff.mp e4
      obtain ⟨Y, z2, e4⟩ := Option.bind_eq_some_iff.mp e4
      cases e4
      obtain ⟨as, r1⟩ := S.ints2 g2 z1
      obtain ⟨bs, r2⟩ := S.ints2 g4 z2
      have R1 := reads_list_at (S.N _ g1).1 rfl rfl r1
      have R2 := reads_list_at (S.N _ g3).1 rfl rfl r2
      have e : PySem.Spec.same (.list (X.map dat)) (.list (Y.map dat)) = decide (X = Y) := by simp only [PySem.Spec.same]; exact same2 X Y
      have nm : PySem.SeqAt.noMix (.list (X.map dat)) (.list (Y.map dat)) = true := by simp only [PySem.SeqAt.noMix]; exact noMix2 X Y
      exact ⟨decide (X = Y), fun h => eq_dataH_same R1 R2 (shaped2 X) (shaped2 Y) hu nm (by rw [e]; exact h), fun h => ne_dataH_same R1 R2 (shaped2 X) (shaped2 Y) hu nm (by rw [e]; exact h), by simp⟩
    | none =>
      dsimp only at h
      generalize z : Nat.beq l.length l'.length = o at h
      cases o <;> cases h
      have ne : (vs.toArray.size != ws.toArray.size) = true := by
        have h1 := g2.len
        have h2 := g4.len
        have := Nat.ne_of_beq_eq_false z
        rw [List.size_toArray, List.size_toArray, h1, h2]
        simpa using this
      intro Q h
      exact PySem.SeqAt.RcNeAt.lists_lengths (PySem.IsL.isList (n := n) (S.N _ g1).1) (PySem.IsL.isList (n := k) (S.N _ g3).1) ne (by lia) prog c.w E _ h
theorem cmpH_sound (hu : A.units + 64 < cLine) (S : SatM c own α ρ H m s) {K : SV × HS → Prop} {op : CmpOp} {a b : SV} {v u : Value} (i : a.Is α v) (j : b.Is α u) (h : ((cmpH op a b H).bind fun r => .ret (r, H)).ok K) : wpAny (model prog c.w) A (compareOp op v u) (PostV c own α ρ m s K) E s := by
  have lists : ∀ {x : Nat × Nat}, refs a b = some x → ∃ p q, v = .ref p ∧ u = .ref q ∧ ∀ {r}, cmpL H x.1 x.2 = some r → CmpIs c prog A E s p q r := fun e => by
    obtain ⟨p, e1, e⟩ := Option.bind_eq_some_iff.mp e
    obtain ⟨q, e2, e⟩ := Option.bind_eq_some_iff.mp e
    cases e
    rw [asR_eq e1] at i
    rw [asR_eq e2] at j
    obtain ⟨x, hx, rfl⟩ := i
    obtain ⟨y, hy, rfl⟩ := j
    obtain ⟨lit, S⟩ := S
    exact ⟨x, y, rfl, rfl, fun e => cmpL_is S hx hy e hu⟩
  cases op
  case Eq =>
    replace h : ((match refs a b with
      | some x => optT (cmpL H x.1 x.2) eqT
      | none => cmp .Eq a b).bind fun r => .ret (r, H)).ok K := h
    generalize e : refs a b = o at h
    cases o with
    | none => exact cmp_sound S i j h
    | some x =>
      obtain ⟨p, q, rfl, rfl, k⟩ := lists e
      replace h := optT_ok (T.ok_bind h)
      obtain ⟨r, e1, h⟩ := h
      cases r with
      | none => exact h.elim
      | some P =>
        obtain ⟨v, k1, k2, k3⟩ := k e1
        exact k1 (Sat.done h S Rest.rfl' ⟨v, rfl, k3⟩)
  case NotEq =>
    replace h : ((match refs a b with
      | some x => optT (cmpL H x.1 x.2) neT
      | none => cmp .NotEq a b).bind fun r => .ret (r, H)).ok K := h
    generalize e : refs a b = o at h
    cases o with
    | none => exact cmp_sound S i j h
    | some x =>
      obtain ⟨p, q, rfl, rfl, k⟩ := lists e
      replace h := optT_ok (T.ok_bind h)
      obtain ⟨r, e1, h⟩ := h
      cases r with
      | none => exact k e1 (Sat.done h S Rest.rfl' rfl)
      | some P =>
        obtain ⟨v, k1, k2, k3⟩ := k e1
        exact k2 (Sat.done h S Rest.rfl' ⟨!v, rfl, by rw [← k3]; simp⟩)
  all_goals exact cmp_sound S i j h
end
end KR
end
section
open PySem PySem.W PyProof.Rows PySem.Calls
set_option Elab.async false
set_option maxRecDepth 100000
set_option maxHeartbeats 4000000
set_option linter.constructorNameAsVariable false
set_option linter.unusedVariables false
namespace KR
noncomputable def glob0 : List (Str × SV) := [("need_writable", .g 48), ("need_room", .g 55), ("reached", .g 62), ("tell_ahead", .g 69), ("tell_behind", .g 76), ("text_out", .g 83), ("text_in", .g 90), ("hung_out", .g 97), ("hung_in", .g 104), ("put_in", .g 111), ("insert", .g 119), ("delete", .g 126), ("tidy_runs", .g 182), ("moved_runs", .g 187), ("piece_joined", .g 194)]
noncomputable def glob1 : List (Str × SV) := [("piece_without", .g 199), ("Piece", .g 171), ("KillRing", .g 216), ("kill_new", .g 227), ("kill_append", .g 234), ("current_kill", .g 241), ("Marker", .g 314), ("Markers", .g 382), ("set_marker", .g 393), ("MarkRing", .g 410), ("set_mark", .g 421), ("has_mark", .g 428), ("mark_place", .g 435), ("ring_marker", .g 442), ("push_mark", .g 449)]
noncomputable def glob2 : List (Str × SV) := [("plist_rows", .g 454), ("piece_of", .g 459), ("insert_piece", .g 464), ("save_kill", .g 471), ("kill_region", .g 478), ("yank", .g 492), ("GapText", .g 579), ("Buffer", .g 685), ("_law_deck", .g 692), ("_law_draw", .g 699), ("_law_buffer_of", .g 706), ("LONGEST", .i 4194304), ("OWN_NUMBER", .i 0)]
noncomputable def glob : List (Str × SV) := glob0 ++ (glob1 ++ (glob2))
noncomputable def chkG (K : Frag) (x : Str) : SV → Bool
  | .g a => keepIn K (.ref a) && match nsIn K mainGlobals x with | some (some (.ref b)) => Nat.beq a b | _ => false
  | .i z => match nsIn K mainGlobals x with | some (some (.int y _)) => decide (z = y) | _ => false
  | _ => false
theorem glob_ok (P : Params) : (glob.all fun q => chkG (hp P) q.1 q.2) = true := by kernel_rfl
noncomputable def btab : List (Str × Bi) := [("len", .len), ("min", .min), ("max", .max), ("list", .list), ("sorted", .sorted), ("range", .range)]
noncomputable def chkB (K : Frag) (x : Str) : Bool := match nsIn K mainGlobals x with | some none => true | _ => false
theorem btab_ok (P : Params) : (btab.all fun q => chkB (hp P) q.1) = true := by kernel_rfl
theorem btab_boot : ∀ q ∈ btab, bootBuiltins q.1 = some q.2.val := by
  intro q hq
  simp only [btab, List.mem_cons, List.not_mem_nil, or_false] at hq
  rcases hq with rfl | rfl | rfl | rfl | rfl | rfl
  · exact PySem.boot_len
  · exact boot_min
  · exact boot_max
  · exact boot_list
  · exact boot_sorted
  · exact boot_range
theorem lkS_mem {α : Type} {x : Str} {v : α} : ∀ {l : List (Str × α)}, lkS x l = some v → (x, v) ∈ l
  | [], h => nomatch h
  | (y, w) :: r, h => by
    unfold lkS at h
    split at h
    · rename_i e
      cases h
      rw [eqS_iff.mp e]
      exact .head _
    · exact .tail _ (lkS_mem h)
noncomputable def asCl : SV → Option Nat
  | .cl p => some p
  | _ => none
theorem asCl_eq {v : SV} {p : Nat} (h : asCl v = some p) : v = .cl p := by cases v <;> cases h; rfl
noncomputable def asCell : SO → Option SV
  | .cell v => v
  | _ => none
noncomputable def evGlob (x : Str) (H : HS) : T (SV × HS) := match lkS x glob with
  | some v => .ret (v, H)
  | none => boolT (!eqS x "__name__") (optT (lkS x btab) fun b => .ret (.f b, H))
noncomputable def evKind (k : NameKind) (ρ : Loc) (x : Str) (H : HS) : T (SV × HS) := match k with
  | .local => optT (lkS x ρ) fun v => boolT (!isCl v) (.ret (v, H))
  | .cell => optT (lkS x ρ) fun v => optT (asCl v) fun p => optT (lkO asCell p H) fun v => .ret (v, H)
  | .globalImplicit => evGlob x H
  | _ => .fail
noncomputable def evName (sc : List (Str × NameKind)) (ρ : Loc) (x : Str) (H : HS) : T (SV × HS) := boolT (!eqS x "__debug__") (optT (lkS x sc) fun k => evKind k ρ x H)
section
variable {c : Cx} {d : Nat} {own : List (Addr × Obj)} {α : Al} {ρ : Loc} {H : HS} {s : Shared} {A : Around} {M : Model} {prog : Program} {E : Value → Shared → Prop} {m : Str → Option Value} {lit : List (Addr × Obj)} {sc : List (Str × NameKind)}
theorem not_eqS {x y : Str} (h : (!eqS x y) = true) : x ≠ y := by
  cases e : eqS x y with
  | true => rw [e] at h; cases h
  | false => exact eqS_no.mp e
theorem evName_sound (O : c.Ok d) (hsc : c.csc.names = sc) (S : SatM c own α ρ H m s) {K : SV × HS → Prop} {x : Str} {pos : Pos} (h : (evName sc ρ x H).ok K) : wpAny M A (eval (.Name x pos) c.env) (PostV c own α ρ m s K) E s := by
  obtain ⟨lit, S⟩ := S
  subst hsc
  refine boolT_el h ?_
  clear h
  intro hd h
  have hd' : (x == Str.ofString "__debug__") = false := by simpa using not_eqS hd
  refine optT_el h ?_
  clear h
  intro k hk h
  rw [lkS_lookup] at hk
  cases k <;> try exact h.elim
  case «local» =>
    refine optT_el h ?_
    clear h
    intro v hv h
    refine boolT_el h ?_
    clear h
    intro hcl h
    obtain ⟨v, h1, h2⟩ := (S.V _ _ hv).val (by simpa using hcl)
    exact nameX_L S.F h1 (Sat.done h ⟨lit, S⟩ Rest.rfl' h2) O.hk hk hd'
  case cell =>
    refine optT_el h ?_
    clear h
    intro v hv h
    refine optT_el h ?_
    clear h
    intro p hp h
    rw [asCl_eq hp] at hv
    refine optT_el h ?_
    clear h
    intro u hu h
    obtain ⟨o, e1, e2⟩ := lkO_eq hu
    cases o <;> cases e2
    obtain ⟨a, h1, h2⟩ := S.V _ _ hv
    obtain ⟨a', cs, h3, ⟨ob, u, rfl, h4, h5⟩, h6⟩ := S.at e1
    rw [h2] at h3
    cases h3
    exact nameX_C S.N h1 (h6 _ (.head _)) h4 (Sat.done h ⟨lit, S⟩ Rest.rfl' h5) O.hk hk hd'
  case globalImplicit =>
    replace h : (evGlob x H).ok K := h
    unfold evGlob at h
    generalize hg : lkS x glob = o at h
    cases o with
    | some sv =>
      have q := List.all_eq_true.mp (glob_ok c.w.params) _ (lkS_mem hg)
      unfold chkG at q
      cases sv <;> try cases q
      case i z =>
        dsimp only at q
        split at q <;> try cases q
        rename_i e
        rw [← of_decide_eq_true q] at e
        exact nameX_K (K := hp c.w.params) S.F O.X (topRead_of O.T) e (Sat.done h ⟨lit, S⟩ Rest.rfl' ⟨_, rfl⟩) O.hk hk hd'
      case g a =>
        simp only [Bool.and_eq_true] at q
        obtain ⟨_, q⟩ := q
        split at q <;> try cases q
        rename_i e
        rw [← Nat.eq_of_beq_eq_true q] at e
        exact nameX_K (K := hp c.w.params) S.F O.X (topRead_of O.T) e (Sat.done h ⟨lit, S⟩ Rest.rfl' rfl) O.hk hk hd'
    | none =>
      refine boolT_el h ?_
      clear h
      intro hn h
      refine optT_el h ?_
      clear h
      intro b hb h
      have q := List.all_eq_true.mp (btab_ok c.w.params) _ (lkS_mem hb)
      have q2 := btab_boot _ (lkS_mem hb)
      unfold chkB at q
      dsimp only at q
      split at q <;> try cases q
      rename_i e
      exact nameX_B (K := hp c.w.params) S.F O.X (topRead_of O.T) e q2 (not_eqS hn) (Sat.done h ⟨lit, S⟩ Rest.rfl' rfl) O.hk hk hd'
end
noncomputable abbrev Fsp := List SV → HS → T (SV × HS)
noncomputable abbrev Tab := Nat → Option Fsp
noncomputable def FnSound (d : Nat) (f : Nat) (sp : Fsp) : Prop := ∀ (c : Cx), c.Ok d → ∀ own α H s m lit args vs K E, SatX c own α [] H s m lit → AreAll α args vs → (sp args H).ok K → wpAny (model Pg c.w) c.A (call (.ref f) vs) (PostM c own α m s K) E s
theorem FnSound.use {d f : Nat} {sp : Fsp} (h : FnSound d f sp) {c : Cx} (O : c.Ok d) {own α ρ H s args vs K E} (S : SatM c own α ρ H m s) (j : AreAll α args vs) (hk : (sp args H).ok K) : wpAny (model Pg c.w) c.A (call (.ref f) vs) (PostV c own α ρ m s K) E s := by
  obtain ⟨lit, S⟩ := S
  exact wpAny_mono (h c O own α H s m lit args vs K E S.drop j hk) (fun v s' p => p.toV S) fun _ _ x => x
noncomputable def TabSound (d : Nat) (Γ : Tab) : Prop := ∀ f sp, Γ f = some sp → FnSound d f sp
noncomputable def inK (f : Nat) : Bool := glob.any (fun q => match q.2 with | .g a => Nat.beq a f | _ => false)
theorem inK_ok {f : Nat} (h : inK f = true) (P : Params) : keepIn (hp P) (.ref f) = true := by
  obtain ⟨q, hq, h⟩ := List.any_eq_true.mp h
  split at h <;> try cases h
  rename_i a e
  have := List.all_eq_true.mp (glob_ok P) _ hq
  rw [e] at this
  simp only [chkG, Bool.and_eq_true] at this
  rw [← Nat.eq_of_beq_eq_true h]
  exact this.1
noncomputable def notStar : PySem.Expr → Bool
  | .Starred .. => false
  | _ => true
noncomputable def notSet : PySem.Expr → Bool
  | .Set .. => false
  | _ => true
noncomputable def baseOk : PySem.Expr → Bool
  | .Name .. => true
  | .Attribute .. => true
  | .Subscript .. => true
  | _ => false
noncomputable def methOk (apos pos : Pos) (es : List PySem.Expr) : Bool := es.all notStar && Nat.ble (es.length + 1) 30 && apos.endLine == pos.line
noncomputable def plainT : PySem.Expr → Bool
  | .Name .. => true
  | .Attribute .. => true
  | .Subscript .. => true
  | .Call .. => true
  | .Constant .. => true
  | _ => false
noncomputable abbrev Ev := PySem.Expr → HS → T (SV × HS)
noncomputable def evs1 (ev : Ev) : List PySem.Expr → HS → T (List SV × HS)
  | [], H => .ret ([], H)
  | e :: r, H => (ev e H).bind fun x => (evs1 ev r x.2).bind fun y => .ret (x.1 :: y.1, y.2)
noncomputable def evs (ev : Ev) (es : List PySem.Expr) (H : HS) : T (List SV × HS) := match es.all notStar with
  | true => evs1 ev es H
  | false => .fail
noncomputable def tru (ev : Ev) : Nat → PySem.Expr → HS → T (Bool × HS)
  | 0, _, _ => .fail
  | n + 1, e, H => match e with
    | .Compare l [op] [r] _ => boolT (notSet r) ((ev l H).bind fun x => (ev r x.2).bind fun y => (cmpH op x.1 y.1 y.2).bind fun v => truth v y.2)
    | .BoolOp .And [a, b] _ => (tru ev n a H).bind fun x => match x.1 with
      | true => tru ev n b x.2
      | false => .ret (false, x.2)
    | .BoolOp .Or [a, b] _ => (tru ev n a H).bind fun x => match x.1 with
      | true => .ret (true, x.2)
      | false => tru ev n b x.2
    | .UnaryOp .Not a _ => (tru ev n a H).bind fun x => .ret (!x.1, x.2)
    | e => boolT (plainT e) ((ev e H).bind fun x => truth x.1 x.2)
noncomputable def callS (Γ : Tab) (f : SV) (args : List SV) (H : HS) : T (SV × HS) := match f with
  | .g a => optT (Γ a) fun sp => sp args H
  | .f b => builtS b args H
  | _ => .fail
noncomputable def nonE {γ : Type} : List γ → Bool
  | [] => false
  | _ => true
noncomputable def okF (f : SV) (es : List PySem.Expr) : Bool := match f with
  | .g a => inK a
  | .f _ => nonE es
  | _ => false
noncomputable def partI : Option SV → Option (Option Int)
  | none => some none
  | some v => (asI v).bind fun x => some (some x)
noncomputable def needP {β : Type} (x : Option Int) (t : T β) : T β := match x with
  | none => t
  | some x => .need (0 ≤ x) t
noncomputable def takeP {γ : Type} (x : Option Int) (l : List γ) : List γ := match x with
  | none => l
  | some x => l.take x.toNat
noncomputable def dropP {γ : Type} (x : Option Int) (l : List γ) : List γ := match x with
  | none => l
  | some x => l.drop x.toNat
noncomputable def sliceO (o : SO) (x y : Option Int) (H : HS) : T (SV × HS) := match o with
  | .list l => boolT (Nat.ble l.length 1000) (needP x (needP y (.ret (.r H.nx, H.new (.list (dropP x (takeP y l)))))))
  | .ints U => needP x (needP y (.need (U.length ≤ 4000) (.ret (.r H.nx, H.new (.ints (dropP x (takeP y U)))))))
  | _ => .fail
noncomputable def sliceS (o : SV) (lo hi : Option SV) (H : HS) : T (SV × HS) := optT (asR o) fun p => optT (partI lo) fun x => optT (partI hi) fun y => optT (lk p H.σ) fun o => sliceO o x y H
noncomputable def lkI (z : Int) : List (Int × Nat) → Option Nat
  | [] => none
  | (k, p) :: r => match decide (k = z) with
    | true => some p
    | false => lkI z r
theorem lkI_at {α : Al} {z : Int} {p : Nat} {l kvs} (h : RowsAre α l kvs) (g : lkI z l = some p) : ∃ a, α p = some a ∧ PySem.valueAt kvs z = some (.ref a) := by
  induction h with
  | nil => cases g
  | @cons k p' a l kvs h1 h2 ih =>
    unfold lkI at g
    unfold PySem.valueAt at ih ⊢
    split at g
    · rename_i e
      cases g
      exact ⟨a, h1, by simp [List.find?_cons, of_decide_eq_true e]⟩
    · rename_i e
      obtain ⟨b, h3, h4⟩ := ih g
      exact ⟨b, h3, by simpa [List.find?_cons, of_decide_eq_false e] using h4⟩
noncomputable def itemO (o : SO) (z : Int) (H : HS) : T (SV × HS) := match o with
  | .rows l => optT (lkI z l) fun q => .ret (.r q, H)
  | .list l => boolT (decide (0 ≤ z ∧ z < 1000)) (optT (l[z.toNat]?) fun v => .ret (v, H))
  | .ints U => .need (0 ≤ z ∧ z < U.length ∧ U.length ≤ 4000) (.ret (.i (U.getD z.toNat 0), H))
  | _ => .fail
noncomputable def itemS (o i : SV) (H : HS) : T (SV × HS) := optT (asR o) fun p => optT (asI i) fun z => optT (lk p H.σ) fun o => itemO o z H
noncomputable def rm1 (p : Nat) : List (Nat × SO) → List (Nat × SO)
  | [] => []
  | (q, o) :: r => match Nat.beq p q with
    | true => r
    | false => (q, o) :: rm1 p r
noncomputable def isLoc (sc : List (Str × NameKind)) (x : Str) : Bool := match lkS x sc with
  | some .local => true
  | _ => false
noncomputable def optB {γ : Type} (b : Bool) (o : Option γ) : Option γ := match b with
  | true => o
  | false => none
theorem optB_eq {γ : Type} {b : Bool} {o : Option γ} {x : γ} (h : optB b o = some x) : b = true ∧ o = some x := by
  cases b
  · cases h
  · exact ⟨rfl, h⟩
noncomputable def getO (v : SV) (a : Str) (H : HS) : Option SV := (asR v).bind fun p => (lkO asObj p H).bind fun q => optB (known q.1 a) ((lkS a q.2).bind fun w => optB (readable w) (some w))
noncomputable def attrsO (a : Str) (H : HS) : List SV → Option (List SV)
  | [] => some []
  | v :: r => (getO v a H).bind fun u => (attrsO a H r).bind fun ws => some (u :: ws)
noncomputable def nameOf : PySem.Expr → Option Str
  | .Name x _ => some x
  | _ => none
noncomputable def attrOf : PySem.Expr → Option (Str × Str)
  | .Attribute o a _ => (nameOf o).bind fun y => some (y, a)
  | _ => none
noncomputable def oneG : List Comprehension → Option Comprehension
  | [g] => some g
  | _ => none
noncomputable def kindOk : NameKind → Bool → Bool
  | .local, b => b
  | .cell, _ => false
  | .free, _ => false
  | _, _ => true
noncomputable def isFun : ScopeKind → Bool
  | .function => true
  | _ => false
noncomputable def compB (y x : Str) (g : Comprehension) (scope : Scope) : Bool := eqS x y && (!nonE g.ifs && (decide (g.is_async = 0) && (notSet g.iter && (isLoc scope.names x && (isFun scope.kind && (!eqS x "__debug__" && scope.names.all fun q => kindOk q.2 (isLoc scope.names q.1)))))))
noncomputable def compV (elt : PySem.Expr) (gens : List Comprehension) (scope : Scope) : Option (Str × PySem.Expr) := (attrOf elt).bind fun ya => (oneG gens).bind fun g => (nameOf g.target).bind fun x => optB (compB ya.1 x g scope) (some (ya.2, g.iter))
noncomputable def compS (a : Str) (v : SV) (H : HS) : T (SV × HS) := optT (asR v) fun p => optT (lkO asLst p H) fun l => boolT (Nat.ble l.length 1000) (optT (attrsO a ⟨H.nx, rm1 p H.σ⟩ l) fun ws => .ret (.r H.nx, ⟨H.nx + 1, (H.nx, .list ws) :: (p, .list l) :: rm1 p H.σ⟩))
noncomputable def evO (ev : Ev) : Option PySem.Expr → HS → T (Option SV × HS)
  | none, H => .ret (none, H)
  | some e, H => (ev e H).bind fun x => .ret (some x.1, x.2)
noncomputable def evSub (Γ : Tab) (nm : Str → HS → T (SV × HS)) (ev : Ev) (o : SV) (i : PySem.Expr) (H : HS) : T (SV × HS) := match i with
  | .Slice lo hi none _ => (evO ev lo H).bind fun y => (evO ev hi y.2).bind fun z => sliceS o y.1 z.1 z.2
  | .Constant (.int z) _ _ => itemS o (.i z) H
  | .Name i _ => (nm i H).bind fun y => itemS o y.1 y.2
  | .BinOp l op r p => (ev (.BinOp l op r p) H).bind fun y => itemS o y.1 y.2
  | _ => .fail
noncomputable def evC (k : Const) (H : HS) : T (SV × HS) := match k with
  | .int z => .ret (.i z, H)
  | .bool b => .ret (.b b, H)
  | .none => .ret (.n, H)
  | .str _ => .ret (.x, H)
  | _ => .fail
noncomputable def evM (Γ : Tab) (ev : Ev) (o : SV) (a : Str) (es : List PySem.Expr) (H : HS) : T (SV × HS) := match isLst o H with
  | true => optT (lname a) fun lm => boolT (nonE es) ((evs ev es H).bind fun y => lmeth lm o y.1 y.2)
  | false => (getM o a H).bind fun fm => (evs ev es H).bind fun y => optT (Γ fm.1) fun sp => sp (fm.2 :: y.1) y.2
noncomputable def evF (Γ : Tab) (nm : Str → HS → T (SV × HS)) (ev : Ev) (f : PySem.Expr) (es : List PySem.Expr) (pos : Pos) (H : HS) : T (SV × HS) := match f with
  | .Attribute o a apos => boolT (baseOk o && methOk apos pos es) ((ev o H).bind fun x => evM Γ ev x.1 a es x.2)
  | .Name f _ => (nm f H).bind fun x => boolT (okF x.1 es) ((evs ev es x.2).bind fun y => callS Γ x.1 y.1 y.2)
  | _ => .fail
noncomputable def andS (v : SV) (H : HS) (t : T (SV × HS)) : T (SV × HS) := match v with
  | .b b => (match b with
    | false => .ret (.b false, H)
    | true => t)
  | _ => .fail
noncomputable def ev (Γ : Tab) (nm : Str → HS → T (SV × HS)) : Nat → Ev
  | 0, _, _ => .fail
  | n + 1, e, H => match e with
    | .Name x _ => nm x H
    | .Constant k _ _ => evC k H
    | .Dict [] [] _ => .ret (.r H.nx, H.new (.rows []))
    | .Attribute o a _ => boolT (baseOk o) ((ev Γ nm n o H).bind fun x => getA x.1 a x.2)
    | .BinOp l op r _ => (ev Γ nm n l H).bind fun x => (ev Γ nm n r x.2).bind fun y => bin op x.1 y.1 y.2
    | .Compare l [op] [r] _ => boolT (notSet r) ((ev Γ nm n l H).bind fun x => (ev Γ nm n r x.2).bind fun y => (cmpH op x.1 y.1 y.2).bind fun v => .ret (v, y.2))
    | .BoolOp .And [a, b] _ => (ev Γ nm n a H).bind fun x => andS x.1 x.2 (ev Γ nm n b x.2)
    | .IfExp t a b _ => (tru (ev Γ nm n) 9 t H).bind fun x => match x.1 with
      | true => ev Γ nm n a x.2
      | false => ev Γ nm n b x.2
    | .List es _ => (evs (ev Γ nm n) es H).bind fun x => newL x.1 x.2
    | .Tuple es _ _ => (evs (ev Γ nm n) es H).bind fun x => newT x.1 x.2
    | .Subscript v i _ => (ev Γ nm n v H).bind fun x => evSub Γ nm (ev Γ nm n) x.1 i x.2
    | .Call f es [] pos => evF Γ nm (ev Γ nm n) f es pos H
    | .ListComp elt gens scope _ => optT (compV elt gens scope) fun q => (ev Γ nm n q.2 H).bind fun x => compS q.1 x.1 x.2
    | _ => .fail
end KR
end
section
open PySem PySem.W PyProof.Rows PySem.Calls
set_option Elab.async false
set_option maxRecDepth 100000
set_option maxHeartbeats 4000000
set_option linter.constructorNameAsVariable false
set_option linter.unusedVariables false
namespace KR
noncomputable abbrev PostL (c : Cx) (own : List (Addr × Obj)) (α : Al) (ρ : Loc) (m : Str → Option Value) (s : Shared) (K : List SV × HS → Prop) (v : List Value) (s' : Shared) : Prop := Post (fun α g v => AreAll α g v) c own α ρ m s K v s'
theorem starEach_no {e : PySem.Expr} {rest : List PySem.Expr} {env : Env} (h : notStar e = true) : starEach (e :: rest) env = (false, eval e env) :: starEach rest env := by
  cases e <;> first | rfl | cases h
theorem star_any {pos : Pos} {env : Env} : ∀ {es : List PySem.Expr}, es.all notStar = true → ((backTo pos (starEach es env)).any fun x => x.1) = false
  | [], _ => rfl
  | e :: r, h => by
    simp only [List.all_cons, Bool.and_eq_true] at h
    rw [starEach_no h.1]
    simpa [backTo] using star_any (pos := pos) (env := env) h.2
theorem behind_no {op : CmpOp} {r : PySem.Expr} (h : notSet r = true) : behindInMarks op r = false := by
  cases r <;> first | rfl | cases h
section
variable {c : Cx} {d : Nat} {own : List (Addr × Obj)} {ρ : Loc} {sc : List (Str × NameKind)} {Γ : Tab} {e' : Ev} {env : Env}
noncomputable def EvS (c : Cx) (own : List (Addr × Obj)) (ρ : Loc) (env : Env) (e' : Ev) : Prop := ∀ e α H m s K E, SatM c own α ρ H m s → (e' e H).ok K → wpAny (model Pg c.w) c.A (eval e env) (PostV c own α ρ m s K) E s
noncomputable def NmS (c : Cx) (own : List (Addr × Obj)) (ρ : Loc) (env : Env) (nm : Str → HS → T (SV × HS)) : Prop := ∀ x pos α H m s K E, SatM c own α ρ H m s → (nm x H).ok K → wpAny (model Pg c.w) c.A (eval (.Name x pos) env) (PostV c own α ρ m s K) E s
theorem evs1_sound (I : EvS c own ρ env e') {pos : Pos} : ∀ (es : List PySem.Expr) {α H m s K E}, es.all notStar = true → SatM c own α ρ H m s → (evs1 e' es H).ok K → wpAny (model Pg c.w) c.A (spliced (backTo pos (starEach es env))) (PostL c own α ρ m s K) E s
  | [], α, H, m, s, K, E, _, S, h => args_nil (Sat.done h S Rest.rfl' .nil)
  | e :: r, α, H, m, s, K, E, g, S, h => by
    simp only [List.all_cons, Bool.and_eq_true] at g
    unfold evs1 at h
    have h := T.ok_bind h
    refine args_cons ?_ (starEach_no g.1)
    refine Post.go (I e α H m s _ E S h) ?_
    rintro v s1 α1 sv H1 x1 S1 r1 i1 h1
    have h1 := T.ok_bind h1
    refine Post.go (evs1_sound I (pos := pos) r g.2 S1 h1) ?_
    rintro vs s2 α2 svs H2 x2 S2 r2 i2 h2
    exact ⟨α2, sv :: svs, H2, x1.trans x2, S2, r1.trans r2, .cons (i1.mono x2) i2, h2⟩
theorem evs_sound (I : EvS c own ρ env e') {pos : Pos} (es : List PySem.Expr) {α H m s K E} (S : SatM c own α ρ H m s) (h : (evs e' es H).ok K) : es.all notStar = true ∧ wpAny (model Pg c.w) c.A (spliced (backTo pos (starEach es env))) (PostL c own α ρ m s K) E s := by
  unfold evs at h
  split at h <;> try exact h.elim
  rename_i g
  exact ⟨g, evs1_sound I es g S h⟩
theorem tru_sound (hu : c.A.units + 64 < cLine) (I : EvS c own ρ env e') : ∀ (n : Nat) (e : PySem.Expr) {α H m s K E}, SatM c own α ρ H m s → (tru e' n e H).ok K → wpAny (model Pg c.w) c.A (PySem.isTrue e env (eval e env)) (PostB c own α ρ m s K) E s
  | 0, _, _, _, _, _, _, _, _, h => h.elim
  | n + 1, e, α, H, m, s, K, E, S, h => by
    have plain : PySem.isTrue e env (eval e env) = (do let v ← eval e env; standAt e.pos; holding [v] (truthy v)) → ((e' e H).bind fun x => truth x.1 x.2).ok K → wpAny (model Pg c.w) c.A (PySem.isTrue e env (eval e env)) (PostB c own α ρ m s K) E s := fun he k => by
      refine isTrue_plain ?_ he
      refine Post.go (I e α H m s _ E S (T.ok_bind k)) ?_
      rintro v s1 α1 sv H1 x1 S1 r1 i1 h1
      exact Post.on x1 r1 (truth_sound S1 i1 h1)
    cases e <;> try exact h.elim
    case BoolOp op vs pos =>
      cases op <;> (obtain _ | ⟨a, _ | ⟨b, _ | _⟩⟩ := vs) <;> try exact h.elim
      · refine isTrue_and ?_
        refine Post.go (tru_sound hu I n a S (T.ok_bind h)) ?_
        rintro v s1 α1 t H1 x1 S1 r1 i1 h1
        subst i1
        cases v with
        | false => exact ⟨α1, false, H1, x1, S1, r1, rfl, h1⟩
        | true =>
          refine isTrue_and ?_
          refine Post.go (tru_sound hu I n b S1 h1) ?_
          rintro v s2 α2 t H2 x2 S2 r2 i2 h2
          subst i2
          cases v with
          | false => exact ⟨α2, false, H2, x1.trans x2, S2, r1.trans r2, rfl, h2⟩
          | true => exact isTrue_and_nil ⟨α2, true, H2, x1.trans x2, S2, r1.trans r2, rfl, h2⟩
      · refine isTrue_or ?_
        refine Post.go (tru_sound hu I n a S (T.ok_bind h)) ?_
        rintro v s1 α1 t H1 x1 S1 r1 i1 h1
        subst i1
        cases v with
        | true => exact ⟨α1, true, H1, x1, S1, r1, rfl, h1⟩
        | false =>
          refine isTrue_or ?_
          refine Post.go (tru_sound hu I n b S1 h1) ?_
          rintro v s2 α2 t H2 x2 S2 r2 i2 h2
          subst i2
          cases v with
          | true => exact ⟨α2, true, H2, x1.trans x2, S2, r1.trans r2, rfl, h2⟩
          | false => exact isTrue_or_nil ⟨α2, false, H2, x1.trans x2, S2, r1.trans r2, rfl, h2⟩
    case UnaryOp op a pos =>
      cases op <;> try exact h.elim
      refine isTrue_not ?_
      refine Post.go (tru_sound hu I n a S (T.ok_bind h)) ?_
      rintro v s1 α1 t H1 x1 S1 r1 i1 h1
      subst i1
      exact ⟨α1, _, H1, x1, S1, r1, rfl, h1⟩
    case Compare l ops rs pos =>
      obtain _ | ⟨op, _ | _⟩ := ops <;> (obtain _ | ⟨r, _ | _⟩ := rs) <;> try exact h.elim
      refine boolT_el h ?_
      clear h
      intro hr h
      refine wpAny_isTrue_Compare1 ?_ (behind_no hr)
      refine Post.go (I l α H m s _ E S (T.ok_bind h)) ?_
      rintro v s1 α1 sv H1 x1 S1 r1 i1 h1
      refine Post.go (I r α1 H1 m s1 _ E S1 (T.ok_bind h1)) ?_
      rintro u s2 α2 su H2 x2 S2 r2 i2 h2
      have h2 := T.ok_bind h2
      refine Post.go (cmpH_sound (K := fun q => (truth q.1 q.2).ok K) (H := H2) hu S2 (i1.mono x2) i2 (T.bind_ok h2)) ?_
      rintro b s3 α3 sb H3 x3 S3 r3 i3 h3
      exact Post.on (x1.trans (x2.trans x3)) (r1.trans (r2.trans r3)) (truth_sound S3 i3 h3)
    case Call f es kw pos => exact plain rfl h
    case Constant k kk pos => exact plain rfl h
    case Attribute o a pos => exact plain rfl h
    case Subscript o i pos => exact plain rfl h
    case Name x pos => exact plain rfl h
theorem evO_sound (I : EvS c own ρ env e') {o : Option PySem.Expr} {α : Al} {H : HS} {m : Str → Option Value} {s : Shared} {K : Option SV × HS → Prop} {E : Value → Shared → Prop} (S : SatM c own α ρ H m s) (h : (evO e' o H).ok K) {Q : Value → Shared → Prop}
    (k : ∀ α1 v s1 x H1, Ext α α1 → SatM c own α1 ρ H1 m s1 → Rest s s1 → (x = none ∧ v = .none ∨ ∃ sv, x = some sv ∧ sv.Is α1 v) → K (x, H1) → Q v s1) : wpAny (model Pg c.w) c.A (evalPart o env) Q E s := by
  cases o with
  | none => exact evalPart_none_step (k α _ s none H Ext.rfl' S Rest.rfl' (.inl ⟨rfl, rfl⟩) h)
  | some e =>
    refine evalPart_some_step (Post.go (I e α H m s _ E S (T.ok_bind h)) ?_)
    rintro v s1 α1 sv H1 x1 S1 r1 i1 h1
    exact k α1 v s1 (some sv) H1 x1 S1 r1 (.inr ⟨sv, rfl, i1⟩) h1
end
end KR
end
section
open PySem PySem.W PyProof.Rows PySem.Calls
set_option Elab.async false
set_option maxRecDepth 100000
set_option maxHeartbeats 4000000
set_option linter.constructorNameAsVariable false
set_option linter.unusedVariables false
namespace KR
section
variable {c : Cx} {d : Nat} {own : List (Addr × Obj)} {α : Al} {ρ : Loc} {H : HS} {s : Shared} {A : Around} {prog : Program} {E : Value → Shared → Prop} {sc : List (Str × NameKind)} {Γ : Tab} {K : SV × HS → Prop} {m : Str → Option Value}
theorem pick_P {l : List Value} {x y : Option Int} (h0 : ∀ z, x = some z → 0 ≤ z) (h1 : ∀ z, y = some z → 0 ≤ z) : kms_pick l x y = dropP x (takeP y l) := by
  cases x with
  | none =>
    cases y with
    | none => simp [kms_pick, kms_lo, kms_hi, dropP, takeP]
    | some y => exact pick_upto (h1 y rfl)
  | some x =>
    cases y with
    | none => exact pick_from (h0 x rfl)
    | some y => exact pick_run (h0 x rfl) (h1 y rfl)
theorem AreAll.dropP {l : List SV} {vs : List Value} (h : AreAll α l vs) (x : Option Int) : AreAll α (KR.dropP x l) (KR.dropP x vs) := by
  cases x
  · exact h
  · exact h.drop _
theorem AreAll.takeP {l : List SV} {vs : List Value} (h : AreAll α l vs) (x : Option Int) : AreAll α (KR.takeP x l) (KR.takeP x vs) := by
  cases x
  · exact h
  · exact h.take _
theorem IntsAre.dropP {l : List Int} {vs : List Value} (h : IntsAre vs l) (x : Option Int) : IntsAre (KR.dropP x vs) (KR.dropP x l) := by
  cases x
  · exact h
  · exact h.drop _
theorem IntsAre.takeP {l : List Int} {vs : List Value} (h : IntsAre vs l) (x : Option Int) : IntsAre (KR.takeP x vs) (KR.takeP x l) := by
  cases x
  · exact h
  · exact h.take _
theorem needP_ok {β : Type} {K : β → Prop} {x : Option Int} {t : T β} (h : (needP x t).ok K) : (∀ z, x = some z → 0 ≤ z) ∧ t.ok K := by
  cases x
  · exact ⟨fun _ e => (nomatch e), h⟩
  · exact ⟨fun _ e => by cases e; exact h.1, h.2⟩
noncomputable def PartOk (α : Al) (x : Option SV) (v : Value) : Prop := x = none ∧ v = .none ∨ ∃ sv, x = some sv ∧ sv.Is α v
theorem partI_is {x : Option SV} {v : Value} {z : Option Int} (h : partI x = some z) (i : PartOk α x v) : IsPart v z := by
  rcases i with ⟨rfl, rfl⟩ | ⟨sv, rfl, i⟩
  · cases h
    exact .none
  · obtain ⟨y, e1, h⟩ := Option.bind_eq_some_iff.mp h
    cases h
    rw [asI_eq e1] at i
    obtain ⟨t, rfl⟩ := i
    exact .int y t
theorem slice_sound (S : SatM c own α ρ H m s) {o : SV} {vo : Value} (io : o.Is α vo) {v : PySem.Expr} {x y : Option SV} {vx vy : Value} {lo hi : Option PySem.Expr} {p : Pos} (ix : PartOk α x vx) (iy : PartOk α y vy) (h : (sliceS o x y H).ok K) :
    wpAny (model prog c.w) A (subscriptTail v (.Slice lo hi none p) vo (.ref s.heap.objs.size)) (PostV c own α ρ m s K) E { s with heap := s.heap.push { cls := .type "slice", data := .fields #[vx, vy, .none] } } := by
  obtain ⟨lit, S⟩ := S
  refine asR_el h ?_
  clear h
  intro q e0 h
  rw [e0] at io
  obtain ⟨a, ha, rfl⟩ := io
  refine optT_el h ?_
  clear h
  intro zx e1 h
  refine optT_el h ?_
  clear h
  intro zy e2 h
  refine optT_el h ?_
  clear h
  intro ob e3 h
  have px := partI_is e1 ix
  have py := partI_is e2 iy
  refine kba_turn (value' := PySem.Expr.Name (PySem.Str.ofString "_") ⟨0, 0, 0, 0⟩) (fun _ => rfl) ?_
  cases ob <;> try exact h.elim
  case list l =>
    refine boolT_el h ?_
    clear h
    intro hz h
    replace h := needP_ok h
    obtain ⟨h0, h⟩ := h
    replace h := needP_ok h
    obtain ⟨h1, h⟩ := h
    obtain ⟨vs, n, g1, g2⟩ := S.list e3 ha
    exact kms_slice_lit S.F S.N (PySem.IsL.isList (n := n) (S.N _ g1).1) px py (pick_P h0 h1) (fun D h' F' N' l1 => S.oneV F' N' l1 h ⟨_, 0, rfl, (g2.takeP _).dropP _⟩ Rest.rfl') rfl (fun _ => rfl) (by rw [List.size_toArray, g2.len, sizeLine_eq]; exact Nat.le_trans (Nat.le_of_ble_eq_true hz) (by decide))
  case «ints» U =>
    replace h := needP_ok h
    obtain ⟨h0, h⟩ := h
    replace h := needP_ok h
    obtain ⟨h1, h⟩ := h
    obtain ⟨h2, h⟩ := h
    obtain ⟨vs, n, g1, g2⟩ := S.ints e3 rfl ha
    exact kms_slice_lit S.F S.N (PySem.IsL.isList (n := n) (S.N _ g1).1) px py (pick_P h0 h1) (fun D h' F' N' l1 => S.oneV F' N' l1 h ⟨_, 0, rfl, IntsAre.dropP (IntsAre.takeP g2 _) _⟩ Rest.rfl') rfl (fun _ => rfl) (by rw [List.size_toArray, g2.length, sizeLine_eq]; omega)
theorem ints_get {vs : List Value} {U : List Int} (h : IntsAre vs U) : ∀ {k : Nat}, k < U.length → ∃ t, vs[k]? = some (.int (U.getD k 0) t) := by
  induction h with
  | nil => intro k hk; simp at hk
  | cons n t h ih => intro k hk; cases k with
    | zero => exact ⟨t, rfl⟩
    | succ k => simpa using ih (k := k) (by simpa using hk)
theorem item_sound (S : SatM c own α ρ H m s) {o i : SV} {vo vi : Value} (io : o.Is α vo) (ii : i.Is α vi) {v sl : PySem.Expr} (hsl : ∀ a k u, subscripted sl false (.ref a) (.int k u) = operate [.ref a, .int k u] (getItem (.ref a) (.int k u))) (h : (itemS o i H).ok K) :
    wpAny (model Pg c.w) A (subscriptTail v sl vo vi) (PostV c own α ρ m s K) E s := by
  obtain ⟨lit, S⟩ := S
  refine asR_el h ?_
  clear h
  intro p e0 h
  rw [e0] at io
  obtain ⟨a, ha, rfl⟩ := io
  refine asI_el h ?_
  clear h
  intro z e1 h
  rw [e1] at ii
  obtain ⟨t, rfl⟩ := ii
  refine optT_el h ?_
  clear h
  intro ob e h
  refine kba_turn (value' := PySem.Expr.Name (PySem.Str.ofString "_") ⟨0, 0, 0, 0⟩) (fun _ => rfl) ?_
  cases ob <;> try exact h.elim
  case rows l =>
    refine optT_el h ?_
    clear h
    intro q hq h
    obtain ⟨a', cs, ha', ⟨ro, kvs, rfl, lo, hd, hr⟩, hm⟩ := S.at e
    rw [ha] at ha'
    cases ha'
    obtain ⟨b, hb, hv⟩ := lkI_at hr hq
    exact kda_item S.N (hm _ (.head _)) hd (intKind_is _ _ _ _) hv (Sat.done h ⟨lit, S.heap⟩ Rest.rfl' ⟨b, hb, rfl⟩) (hsl _ _ _) (fun _ => rfl)
  case list l =>
    refine boolT_el h ?_
    clear h
    intro hz h
    refine optT_el h ?_
    clear h
    intro x hx h
    obtain ⟨vs, n, g1, g2⟩ := S.list e ha
    obtain ⟨u, hu, iu⟩ := g2.get _ hx
    have hz := of_decide_eq_true hz
    exact item_at S.N g1 hz.1 (by omega) hu (Sat.done h ⟨lit, S⟩ Rest.rfl' iu) (hsl _ _ _) (fun _ => rfl)
  case «ints» U =>
    obtain ⟨⟨h0, h1, h2⟩, h⟩ := h
    obtain ⟨vs, n, g1, g2⟩ := S.ints e rfl ha
    have hk : ∀ z : Int, 0 ≤ z → z < U.length → z.toNat < U.length := by omega
    obtain ⟨t, ht⟩ := ints_get g2 (hk _ h0 h1)
    exact item_at S.N g1 h0 (by omega) ht (Sat.done h ⟨lit, S⟩ Rest.rfl' ⟨t, rfl⟩) (hsl _ _ _) (fun _ => rfl)
theorem callS_sound (G : TabSound d Γ) (O : c.Ok d) (S : SatM c own α ρ H m s) {f : SV} {vf : Value} (i : f.Is α vf) {args : List SV} {vs : List Value} (j : AreAll α args vs) (h : (callS Γ f args H).ok K) : wpAny (model Pg c.w) c.A (call vf vs) (PostV c own α ρ m s K) E s := by
  cases f <;> try exact h.elim
  case g a =>
    refine optT_el h ?_
    clear h
    intro sp e h
    cases i
    exact (G _ _ e).use O S j h
  case f b =>
    cases i
    exact builtS_sound rfl S j h
end
end KR
end
section
open PySem PySem.W PyProof.Rows PySem.Calls
set_option Elab.async false
set_option maxRecDepth 100000
set_option maxHeartbeats 4000000
set_option linter.constructorNameAsVariable false
set_option linter.unusedVariables false
namespace KR
theorem Cells.without {w : World} {α : Al} {p : Nat} {o : SO} : ∀ {σ lit}, Cells w α σ lit → lk p σ = some o → ∃ a cs r, α p = some a ∧ o.Is w α a cs ∧ Cells w α (rm1 p σ) r ∧ lit.Perm (cs ++ r) := by
  intro σ lit C
  induction C with
  | nil => intro h; cases h
  | @cons q oq a cs σ lit h1 h2 h3 ih =>
    intro h
    simp only [lk] at h
    cases e : Nat.beq p q with
    | true =>
      rw [e] at h
      cases h
      have := Nat.eq_of_beq_eq_true e
      subst this
      refine ⟨a, cs, lit, h1, h2, ?_, .rfl⟩
      simpa only [rm1, e] using h3
    | false =>
      rw [e] at h
      obtain ⟨b, cb, r, i1, i2, i3, i4⟩ := ih h
      refine ⟨b, cb, cs ++ r, i1, i2, ?_, ?_⟩
      · simp only [rm1, e]
        exact .cons h1 h2 i3
      · refine (List.Perm.append_left cs i4).trans ?_
        rw [← List.append_assoc, ← List.append_assoc]
        exact List.Perm.append_right r List.perm_append_comm
theorem apart_perm' {a b : List (Addr × Obj)} (D : Apart (adr a)) (p : a.Perm b) : Apart (adr b) := by
  rw [adr_eq] at D ⊢
  rw [apart_iff] at D ⊢
  exact (List.Perm.pairwise_iff (fun h e => h e.symm) (p.map _)).mp D
structure LedX (c : Cx) (own : List (Addr × Obj)) (α : Al) (ρ : Loc) (H : HS) (m : Str → Option Value) (lit : List (Addr × Obj)) : Prop where
  D : Apart (adr (lit ++ own))
  C : Cells c.w α H.σ lit
  V : ∀ x sv, lkS x ρ = some sv → LocIs c m α x sv
  Z : ∀ p, H.nx ≤ p → α p = none
theorem getO_ok {v : SV} {a : Str} {H : HS} {u : SV} (h : getO v a H = some u) : (getA v a H).ok fun q => q = (u, H) := by
  obtain ⟨p, e1, h⟩ := Option.bind_eq_some_iff.mp h
  obtain ⟨q, e2, h⟩ := Option.bind_eq_some_iff.mp h
  obtain ⟨e3, h⟩ := optB_eq h
  obtain ⟨w, e4, h⟩ := Option.bind_eq_some_iff.mp h
  obtain ⟨e5, h⟩ := optB_eq h
  cases h
  unfold getA
  rw [e1]
  dsimp only [optT]
  rw [e2]
  dsimp only [boolT]
  rw [e3]
  dsimp only
  rw [e4]
  dsimp only
  rw [e5]
  exact rfl
theorem forIn_no {β γ : Type} {f : β → γ → Sem (ForInStep γ)} : ∀ {l : List β} {r : γ}, (∀ q ∈ l, ∀ r, f q r = pure (.yield r)) → forIn l r f = pure r
  | [], _, _ => rfl
  | q :: l, r, h => by
    rw [List.forIn_cons, h q (.head _) r, pure_bind]
    exact forIn_no fun x hx => h x (.tail _ hx)
theorem closure_no {scope : Scope} {env : Env} (h : ∀ q ∈ scope.names, q.2 ≠ .free) : closureFor scope env = pure [] := by
  unfold closureFor
  dsimp only
  rw [forIn_no fun q hq r => by
    have hq : (q.2 == NameKind.free) = false := by simpa using h q hq
    obtain ⟨a, k⟩ := q
    dsimp only at hq ⊢
    rw [hq]
    rfl]
  rfl
section
variable {c : Cx} {d : Nat} {own : List (Addr × Obj)} {ρ : Loc} {env : Env} {m : Str → Option Value}
open LCg in
theorem comp_rest (O : c.Ok d) {x a : Str} {px pa : Pos} {scope : Scope} (hk : scope.kind = .function) (hx : scope.names.lookup x = some .local) (hd : (x == Str.ofString "__debug__") = false) {its : Array Value} {S : List (Addr × Obj) → Prop} (hS : ∀ lit, S (lit ++ own)) {Fin : List Value → List (Addr × Obj) → Prop} {s : Shared} {H : HS} :
    ∀ (l : List SV) (vs : List Value) (ws yl : List SV) (α : Al) (i : Nat) (ys : List Value) (lit : List (Addr × Obj)), AreAll α l vs → AreAll α yl ys → attrsO a H l = some ws → (∀ j v, its[i + j]? = some v → vs[j]? = some v) → LedX c own α ρ H m lit →
      (∀ α' lit' zs, Ext α α' → LedX c own α' ρ H m lit' → AreAll α' (yl ++ ws) zs → Fin zs (lit' ++ own)) →
      CompRest Pg c.w c.A c.h₀ c.L m env (.Attribute (.Name x px) a pa) x scope [] s S (fun i v => its[i]? = some v) Fin vs.length i ys (lit ++ own)
  | [], _, ws, yl, α, i, ys, lit, .nil, jy, hw, hi, Y, hF => by
    cases hw
    exact CompRest.zero (hF α lit ys Ext.rfl' Y (by rw [List.append_nil]; exact jy))
  | v :: r, _, ws, yl, α, i, ys, lit, .cons (v := u) (vs := vs) iv j, jy, hw, hi, Y, hF => by
    obtain ⟨sv, hg, hw⟩ := Option.bind_eq_some_iff.mp hw
    obtain ⟨ws, hr, hw⟩ := Option.bind_eq_some_iff.mp hw
    cases hw
    refine CompRest.succ fun v' I oI C oC D m₂ h tk E' hv hC hm F N off ne => ?_
    have : u = v' := by simpa using hi 0 v' hv
    subst this
    have off3 := off.mem
    refine Attribute_any_ ?_ rfl
    have mC : (C, oC) ∈ (I, oI) :: (C, oC) :: (D, lst ys) :: (lit ++ own) := .tail _ (.head _)
    refine LCgL.ld_own N mC hC hm ?_ (by simpa [compEnvC, relabel] using hk) (lookup_relabel_local hx) hd
    let own2 := (I, oI) :: (C, oC) :: (D, lst ys) :: own
    have perm : ∀ lit : List (Addr × Obj), ((I, oI) :: (C, oC) :: (D, lst ys) :: (lit ++ own)).Perm (lit ++ own2) := fun lit =>
      ((List.Perm.cons _ ((List.Perm.cons _ List.perm_middle.symm).trans List.perm_middle.symm)).trans List.perm_middle.symm)
    have D2 : Apart (adr ((I, oI) :: (C, oC) :: (D, lst ys) :: (lit ++ own))) := by
      refine ⟨fun b hb => ?_, fun b hb => ?_, fun b hb => ?_, Y.D⟩
      · obtain ⟨q, hq, rfl⟩ := of_mem_adr hb
        rcases List.mem_cons.mp hq with rfl | hq
        · exact ne.1
        · rcases List.mem_cons.mp hq with rfl | hq
          · exact ne.2.1
          · exact (off3 q hq).1.symm
      · obtain ⟨q, hq, rfl⟩ := of_mem_adr hb
        rcases List.mem_cons.mp hq with rfl | hq
        · exact ne.2.2
        · exact (off3 q hq).2.1.symm
      · obtain ⟨q, hq, rfl⟩ := of_mem_adr hb
        exact (off3 q hq).2.2.symm
    have S2 : SatM c own2 α ρ H m { s with heap := h, toks := tk } := ⟨lit, F, N.perm fun q hq => (perm lit).mem_iff.mpr hq, apart_perm' D2 (perm lit), Y.C, Y.V, Y.Z⟩
    refine Post.go (getA_sound O S2 iv (getO_ok hg)) ?_
    rintro y s3 α3 sv3 H3 x3 ⟨lit3, S3⟩ r3 i3 e3
    cases e3
    have N3 := S3.N.perm fun q hq => (perm lit3).mem_iff.mp hq
    have D3 := apart_perm' S3.D (perm lit3).symm
    obtain ⟨heap3, gens3, drawn3, toks3, os3⟩ := s3
    obtain ⟨rfl, rfl, rfl⟩ := r3
    refine ⟨heap3, toks3, lit3 ++ own, rfl, S3.F, N3, LCg.Off3.of fun q hq => ⟨fun e => D3.1 q.1 (.tail _ (.tail _ (mem_adr hq))) e.symm, fun e => D3.2.1 q.1 (.tail _ (mem_adr hq)) e.symm, fun e => D3.2.2.1 q.1 (mem_adr hq) e.symm⟩, hS lit3, ?_⟩
    refine comp_rest O hk hx hd hS r vs ws (yl ++ [sv]) α3 (i + 1) (ys ++ [y]) lit3 (j.mono x3) ((jy.mono x3).append (.cons i3 .nil)) hr (fun k v hk => ?_) ⟨D3.2.2.2, S3.C, S3.V, S3.Z⟩ fun α' lit' zs e' Y' z' => hF α' lit' zs (x3.trans e') Y' (by rw [List.append_cons]; exact z')
    have := hi (k + 1) v (by rw [← hk]; congr 1; lia)
    simpa using this
theorem off1_mem {D : Addr} : ∀ {l : List (Addr × Obj)}, LCg.Off1 D l → ∀ p ∈ l, p.1 ≠ D
  | [], _, _, h => nomatch h
  | p :: r, h, q, hq => by
    rcases List.mem_cons.mp hq with rfl | hq
    · exact h.1
    · exact off1_mem h.2 q hq
theorem nameOf_ok {e : PySem.Expr} {x : Str} (h : nameOf e = some x) : ∃ p, e = .Name x p := by
  cases e <;> cases h
  exact ⟨_, rfl⟩
theorem attrOf_ok {e : PySem.Expr} {q : Str × Str} (h : attrOf e = some q) : ∃ p1 p2, e = .Attribute (.Name q.1 p1) q.2 p2 := by
  cases e <;> try cases h
  obtain ⟨z, q1, q2⟩ := Option.bind_eq_some_iff.mp h
  cases q2
  obtain ⟨p, rfl⟩ := nameOf_ok q1
  exact ⟨_, _, rfl⟩
theorem nonE_no {γ : Type} {l : List γ} (h : nonE l = false) : l = [] := by
  cases l
  · rfl
  · cases h
structure CompOk (x : Str) (it : PySem.Expr) (scope : Scope) : Prop where
  free : ∀ q ∈ scope.names, q.2 ≠ .free
  cell : ∀ q ∈ scope.names, q.2 ≠ .cell
  kind : scope.kind = .function
  names : ∀ q ∈ scope.names, q.2 = .local → scope.names.lookup q.1 = some .local
  loc : scope.names.lookup x = some .local
  dbg : (x == Str.ofString "__debug__") = false
  set : notSet it = true
theorem isLoc_look {l : List (Str × NameKind)} {x : Str} (hx : isLoc l x = true) : l.lookup x = some .local := by
  unfold isLoc at hx
  rw [← lkS_lookup]
  generalize lkS x l = o at hx
  rcases o with _ | k
  · cases hx
  · cases k <;> first | rfl | cases hx
theorem compB_ok {y x : Str} {g : Comprehension} {scope : Scope} (h : compB y x g scope = true) : x = y ∧ g.ifs = [] ∧ g.is_async = 0 ∧ CompOk x g.iter scope := by
  simp only [compB, Bool.and_eq_true, Bool.not_eq_true'] at h
  obtain ⟨b1, b0, b2, b3, b4, b5, b6, b7⟩ := h
  have b7 := List.all_eq_true.mp b7
  refine ⟨eqS_iff.mp b1, nonE_no b0, of_decide_eq_true b2, fun q hq e => ?_, fun q hq e => ?_, ?_, fun q hq e => ?_, isLoc_look b4, by simpa using eqS_no.mp b6, b3⟩
  · have := b7 q hq
    rw [e] at this
    cases this
  · have := b7 q hq
    rw [e] at this
    cases this
  · generalize scope.kind = k at b5
    cases k <;> first | rfl | cases b5
  · have := b7 q hq
    rw [e] at this
    exact isLoc_look this
theorem compV_ok {elt it : PySem.Expr} {gens : List Comprehension} {scope : Scope} {a : Str} (hv : compV elt gens scope = some (a, it)) : ∃ x p1 p2 p3, elt = .Attribute (.Name x p1) a p2 ∧ gens = [⟨.Name x p3, it, [], 0⟩] ∧ CompOk x it scope := by
  obtain ⟨q, e1, h1⟩ := Option.bind_eq_some_iff.mp hv
  clear hv
  obtain ⟨g, e2, h2⟩ := Option.bind_eq_some_iff.mp h1
  clear h1
  obtain ⟨x, e3, h3⟩ := Option.bind_eq_some_iff.mp h2
  clear h2
  obtain ⟨hb, h4⟩ := optB_eq h3
  clear h3
  obtain ⟨c1, c2, c3, c4⟩ := compB_ok hb
  clear hb
  obtain ⟨p1, p2, e5⟩ := attrOf_ok e1
  clear e1
  have eg : gens = [g] := by
    match gens, e2 with
    | [_], e2 => cases e2; rfl
  clear e2
  obtain ⟨p3, e6⟩ := nameOf_ok e3
  clear e3
  obtain ⟨target, iter, ifs, isa⟩ := g
  dsimp only at c2 c3 c4 e6
  subst c2 c3 e6
  cases h4
  cases c1
  exact ⟨_, p1, p2, p3, e5, eg, c4⟩
theorem comp_sound (O : c.Ok d) {elt it : PySem.Expr} {gens : List Comprehension} {scope : Scope} {pos : Pos} {a : Str} (hv : compV elt gens scope = some (a, it)) {α : Al} {H : HS} {s : Shared} {K : SV × HS → Prop} {E : Value → Shared → Prop} (S : SatM c own α ρ H m s)
    (w : wpAny (model Pg c.w) c.A (eval it env) (PostV c own α ρ m s fun v => (compS a v.1 v.2).ok K) E s) : wpAny (model Pg c.w) c.A (eval (.ListComp elt gens scope pos) env) (PostV c own α ρ m s K) E s := by
  obtain ⟨x, p1, p2, p3, e1, e2, k⟩ := compV_ok hv
  clear hv
  subst e1 e2
  obtain ⟨lit0, S0⟩ := S
  refine LCg.ListComp_U (cl := []) S0.F (closure_no k.free) k.cell k.kind k.names k.loc ?_ (fun x => by
    have := k.set
    cases it <;> first | rfl | cases this)
  refine Post.go w ?_
  rintro v s1 α1 sv H1 x1 ⟨lit, S1⟩ r1 i1 h1
  refine asR_el h1 ?_
  clear h1
  intro p e0 h1
  have e0 : sv = .r p := e0
  rw [e0] at i1
  refine lst_el h1 ?_
  clear h1
  intro l hl h1
  refine boolT_el h1 ?_
  clear h1
  intro hle h1
  refine optT_el h1 ?_
  clear h1
  intro ws hw h1
  obtain ⟨A1, ha, rfl⟩ := i1
  obtain ⟨a', cs, r, h2, ⟨vs, kk, rfl, j⟩, h4, h5⟩ := S1.C.without hl
  rw [ha] at h2
  cases h2
  have p3 : (lit ++ own).Perm (r ++ ((A1, listOf vs.toArray kk) :: own)) := by
    refine (List.Perm.append_right own (h5.trans List.perm_append_comm)).trans ?_
    rw [List.append_assoc]; exact .rfl
  have N := S1.N.perm fun q hq => p3.mem_iff.mpr hq
  have hz := Nat.le_of_ble_eq_true hle
  have jl := j.len
  refine LCg.CompSrc.ledger (news := r ++ ((A1, listOf vs.toArray kk) :: own)) rfl S1.F N (List.mem_append_right _ (.head _)) (by rw [List.size_toArray, jl, PySem.sizeLine_eq]; lia) fun g => ?_
  rw [List.size_toArray]
  refine comp_rest (own := (A1, listOf vs.toArray kk) :: own) O k.kind k.loc k.dbg (fun lit => .inr ⟨_, List.mem_append_right _ (.head _), rfl, kk, rfl⟩) l vs ws [] α1 0 [] r j .nil hw (fun j v e => by simpa using e) ⟨apart_perm' S1.D p3, h4, S1.V, S1.Z⟩ fun α2 lit2 zs e2 Y zz => ?_
  intro D h tk F2 N2 off
  have p4 : (lit2 ++ ((A1, listOf vs.toArray kk) :: own)).Perm (([(A1, listOf vs.toArray kk)] ++ lit2) ++ own) := List.perm_middle
  have offm := off1_mem off
  have e0 := setα_ext (a := D) (Y.Z _ (Nat.le_refl _))
  have CC : Cells c.w (setα α2 H1.nx D) ((H1.nx, .list ws) :: (p, .list l) :: rm1 p H1.σ) ([(D, LCg.lst zs)] ++ ([(A1, listOf vs.toArray kk)] ++ lit2)) := .cons setα_same ⟨zs, _, rfl, zz.mono e0⟩ (.cons (e0 _ _ (e2 _ _ ha)) ⟨vs, kk, rfl, (j.mono e2).mono e0⟩ (Y.C.mono e0))
  refine ⟨setα α2 H1.nx D, .r H1.nx, _, x1.trans (e2.trans e0), ⟨_, F2, ?_, ?_, CC, fun y sy hy => (Y.V y sy hy).mono e0, setα_none Y.Z⟩, r1, ⟨D, setα_same, rfl⟩, h1⟩
  · intro q hq
    rw [List.append_assoc] at hq
    rcases List.mem_cons.mp hq with rfl | hq
    · exact N2 _ (.head _)
    · exact N2 q (.tail _ (p4.mem_iff.mpr hq))
  · rw [List.append_assoc]
    refine ⟨fun b hb => ?_, apart_perm' Y.D p4⟩
    obtain ⟨q, hq, rfl⟩ := of_mem_adr hb
    exact fun e => offm q (p4.mem_iff.mpr hq) e.symm
end
end KR
end
section
open PySem PySem.W PyProof.Rows PySem.Calls
set_option Elab.async false
set_option maxRecDepth 100000
set_option maxHeartbeats 4000000
set_option linter.constructorNameAsVariable false
set_option linter.unusedVariables false
namespace KR
section
variable {c : Cx} {d : Nat} {own : List (Addr × Obj)} {ρ : Loc} {env : Env} {Γ : Tab} {nm : Str → HS → T (SV × HS)}
theorem SatM.keepIn (O : c.Ok d) {α : Al} {H : HS} {s : Shared} {m : Str → Option Value} (S : SatM c own α ρ H m s) : (hp c.w.params).In s.heap := by
  obtain ⟨lit, S⟩ := S
  exact O.X.keeps S.F.keep
theorem args_call (G : TabSound d Γ) (O : c.Ok d) {e' : Ev} (I : EvS c own ρ env e') {pos : Pos} {f : SV} {vf : Value} {es : List PySem.Expr} {α : Al} {H : HS} {s : Shared} {m : Str → Option Value} {K : SV × HS → Prop} {E : Value → Shared → Prop} (S : SatM c own α ρ H m s) (i : f.Is α vf) (hf : okF f es = true)
    (h : ((evs e' es H).bind fun y => callS Γ f y.1 y.2).ok K) : wpAny (model Pg c.w) c.A (callWith pos vf [] (backTo pos (starEach es env)) []) (PostV c own α ρ m s K) E s := by
  obtain ⟨star, w⟩ := evs_sound (K := fun y => (callS Γ f y.1 y.2).ok K) (E := E) (pos := pos) I es S (T.ok_bind h)
  have go : wpAny (model Pg c.w) c.A (spliced (backTo pos (starEach es env))) (fun vs s₁ => (hp c.w.params).In s₁.heap ∧ wpAny (model Pg c.w) c.A (call vf vs) (PostV c own α ρ m s K) E s₁) E s := by
    refine Post.go w ?_
    rintro vs s1 α1 svs H1 x1 S1 r1 i1 h1
    refine ⟨S1.keepIn O, Post.on x1 r1 (callS_sound G O S1 (i.mono x1) i1 h1)⟩
  have noargs : es = [] → wpAny (model Pg c.w) c.A (call vf []) (PostV c own α ρ m s K) E s := by
    intro e
    subst e
    exact callS_sound G O S i .nil h
  cases f <;> try cases hf
  case g a =>
    cases i
    have kp := inK_ok hf c.w.params
    cases es with
    | nil => exact callWith_K0 (K := hp c.w.params) (S.keepIn O) kp (noargs rfl)
    | cons e rest =>
      simp only [List.all_cons, Bool.and_eq_true] at star
      exact callWith_K (K := hp c.w.params) O.X kp go (starEach_no star.1) (star_any star.2)
  case f b =>
    cases i
    cases es with
    | nil => cases hf
    | cons e rest =>
      simp only [List.all_cons, Bool.and_eq_true] at star
      have go' := wpAny_mono go (fun vs s1 p => p.2) fun _ _ x => x
      cases b
      · exact callWith_builtin1 go' (starEach_no star.1) (star_any star.2)
      · exact callWith_builtin1 go' (starEach_no star.1) (star_any star.2)
      · exact callWith_builtin1 go' (starEach_no star.1) (star_any star.2)
      · exact Pv.callWith_type1 go' (starEach_no star.1) (star_any star.2)
      · exact callWith_builtin1 go' (starEach_no star.1) (star_any star.2)
      · exact Pv.callWith_type1 go' (starEach_no star.1) (star_any star.2)
theorem args_meth (G : TabSound d Γ) (O : c.Ok d) {e' : Ev} (I : EvS c own ρ env e') {pos : Pos} {f : Nat} {u : SV} {vu : Value} {es : List PySem.Expr} {α : Al} {H : HS} {s : Shared} {m : Str → Option Value} {K : SV × HS → Prop} {E : Value → Shared → Prop} (S : SatM c own α ρ H m s) (i : u.Is α vu) (kp : PySem.W.keepIn (hp c.w.params) (.ref f) = true)
    (h : ((evs e' es H).bind fun y => optT (Γ f) fun sp => sp (u :: y.1) y.2).ok K) : wpAny (model Pg c.w) c.A (callWith pos (.ref f) [vu] (backTo pos (starEach es env)) []) (PostV c own α ρ m s K) E s := by
  obtain ⟨star, w⟩ := evs_sound (K := fun y => (optT (Γ f) fun sp => sp (u :: y.1) y.2).ok K) (E := E) (pos := pos) I es S (T.ok_bind h)
  have one : ∀ {α1 H1 s1 svs vs}, SatM c own α1 ρ H1 m s1 → Ext α α1 → Rest s s1 → AreAll α1 svs vs → (optT (Γ f) fun sp => sp (u :: svs) H1).ok K → wpAny (model Pg c.w) c.A (call (.ref f) (vu :: vs)) (PostV c own α ρ m s K) E s1 := by
    intro α1 H1 s1 svs vs S1 x1 r1 i1 h1
    refine optT_el h1 ?_
    clear h1
    intro sp e h1
    exact Post.on x1 r1 ((G _ _ e).use O S1 (.cons (i.mono x1) i1) h1)
  cases es with
  | nil => exact callWith_K0 (K := hp c.w.params) (S.keepIn O) kp (one S Ext.rfl' Rest.rfl' .nil h)
  | cons e rest =>
    simp only [List.all_cons, Bool.and_eq_true] at star
    refine callWith_K (K := hp c.w.params) O.X kp ?_ (starEach_no star.1) (star_any star.2)
    refine Post.go w ?_
    rintro vs s1 α1 svs H1 x1 S1 r1 i1 h1
    exact ⟨S1.keepIn O, one S1 x1 r1 i1 h1⟩
theorem args_lm {e' : Ev} (I : EvS c own ρ env e') {pos : Pos} {lm : LM} {u : SV} {vu : Value} {e : PySem.Expr} {es : List PySem.Expr} {α : Al} {H : HS} {s : Shared} {m : Str → Option Value} {K : SV × HS → Prop} {E : Value → Shared → Prop} (S : SatM c own α ρ H m s) (i : u.Is α vu)
    (h : ((evs e' (e :: es) H).bind fun y => lmeth lm u y.1 y.2).ok K) : wpAny (model Pg c.w) c.A (callWith pos (.builtin lm.id) [vu] (backTo pos (starEach (e :: es) env)) []) (PostV c own α ρ m s K) E s := by
  obtain ⟨star, w⟩ := evs_sound (K := fun y => (lmeth lm u y.1 y.2).ok K) (E := E) (pos := pos) I (e :: es) S (T.ok_bind h)
  simp only [List.all_cons, Bool.and_eq_true] at star
  have he : starEach (e :: es) env = (false, eval e env) :: starEach es env := starEach_no star.1
  have hp : (backTo pos (starEach es env)).any (·.1) = false := star_any star.2
  rw [he] at w ⊢
  refine callWith_builtin (by show (false || (backTo pos (starEach es env)).any (·.1)) = false; rw [hp]; rfl) (evalArgs_plain (Post.go w ?_))
  rintro vs s1 α1 svs H1 x1 S1 r1 i1 h1
  exact Post.on x1 r1 (lmeth_sound S1 (i.mono x1) i1 h1)
theorem method_any {M : Model} {A : Around} {E : Value → Shared → Prop} {s : Shared} {o : PySem.Expr} {name : Str} {apos pos : Pos} {args : List PySem.Expr} {Q : Value → Shared → Prop} (hb : baseOk o = true) (hm : methOk apos pos args = true)
    (h : wpAny M A (eval o env) (fun ov s₁ => ∀ pl, wpAny M A (getMethod ov name pl) (fun fx s₂ => wpAny M A (callWith pos fx.1 fx.2 (backTo pos (starEach args env)) []) Q E s₂) E s₁) E s) : wpAny M A (eval ((o.Attribute name apos).Call args [] pos) env) Q E s := by
  simp only [methOk, Bool.and_eq_true] at hm
  obtain ⟨⟨h1, h2⟩, h3⟩ := hm
  have he : eval (.Call (.Attribute o name apos) args [] pos) env = (do
      let ov ← eval o env
      standAt apos.atName
      methodCall o name apos pos env ov (args.length + 0) (backTo pos (starEach args env)) []) := by
    cases o <;> first | rfl | cases hb
  have hf : methodCallForm (args.length + 0) (backTo pos (starEach args env)) [] = true := by
    have := star_any (pos := pos) (env := env) h1
    simp only [methodCallForm, List.all_nil, List.isEmpty_nil, if_true, Nat.add_zero, Bool.and_true, Bool.and_eq_true, decide_eq_true_eq]
    refine ⟨?_, Nat.lt_of_succ_le (Nat.le_of_ble_eq_true h2)⟩
    rw [List.any_eq_false] at this
    rw [List.all_eq_true]
    intro x hx
    simpa using this x hx
  rw [he]
  refine wpAny_bind (wpAny_mono h (fun ov s₁ h₁ => wpAny_bind (wpAny_standAt ?_)) fun _ _ x => x)
  unfold methodCall
  rw [hf]
  refine wpAny_bind (wpAny_holding (wpAny_mono (h₁ _) (fun fx s₂ h₂ => ?_) fun _ _ x => x))
  refine wpAny_bind ?_
  unfold methodCallPos
  rw [show ((!true) || apos.endLine == pos.line) = true by simpa using h3]
  exact wpAny_pure h₂
theorem sub_sound (O : c.Ok d) (nmS : NmS c own ρ env nm) {e' : Ev} (I : EvS c own ρ env e') {v i : PySem.Expr} {o : SV} {vo : Value} {α : Al} {H : HS} {m : Str → Option Value} {s : Shared} {K : SV × HS → Prop} {E : Value → Shared → Prop} (S : SatM c own α ρ H m s) (io : o.Is α vo) (h : (evSub Γ nm e' o i H).ok K) :
    wpAny (model Pg c.w) c.A (eval i env) (fun vi s1 => wpAny (model Pg c.w) c.A (subscriptTail v i vo vi) (PostV c own α ρ m s K) E s1) E s := by
  cases i <;> try exact h.elim
  case Slice lo hi st p =>
    cases st with
    | some _ => exact h.elim
    | none =>
      refine wpAny_Slice (evO_sound I S (T.ok_bind h) fun α1 vl s1 x H1 x1 S1 r1 i1 h1 => evO_sound I S1 (T.ok_bind h1) fun α2 vh s2 y H2 x2 S2 r2 i2 h2 => evalPart_none_step ?_)
      have i1' : PartOk α2 x vl := i1.imp id fun q => by
        obtain ⟨sv, q1, q2⟩ := q
        exact ⟨sv, q1, q2.mono x2⟩
      exact Post.on (x1.trans x2) (r1.trans r2) (slice_sound S2 (io.mono (x1.trans x2)) i1' i2 h2)
  case Constant k kk p =>
    cases k <;> try exact h.elim
    rename_i z
    obtain ⟨heap, gens, drawn, toks, os⟩ := s
    obtain ⟨lit, S⟩ := S
    refine const_clean fun t' tk' => ?_
    exact wpAny_mono (item_sound (i := .i z) ⟨lit, S.heap⟩ io ⟨t', rfl⟩ (fun _ _ _ => by rfl) h) (fun v s4 p => Post.back Ext.rfl' Rest.rfl' p) fun _ _ x => x
  case Name x p =>
    refine Post.go (nmS _ _ _ _ _ _ _ _ S (T.ok_bind h)) ?_
    rintro vl s2 α2 sl H2 x2 S2 r2 i2 h2
    exact Post.on x2 r2 (item_sound S2 (io.mono x2) i2 (fun _ _ _ => by rfl) h2)
  case BinOp l op r p1 =>
    refine Post.go (I (.BinOp l op r p1) α H m s _ E S (T.ok_bind h)) ?_
    rintro vl s2 α2 sl H2 x2 S2 r2 i2 h2
    exact Post.on x2 r2 (item_sound S2 (io.mono x2) i2 (fun _ _ _ => by rfl) h2)
theorem call_sound (G : TabSound d Γ) (O : c.Ok d) (nmS : NmS c own ρ env nm) {e' : Ev} (I : EvS c own ρ env e') {f : PySem.Expr} {es : List PySem.Expr} {pos : Pos} {α : Al} {H : HS} {m : Str → Option Value} {s : Shared} {K : SV × HS → Prop} {E : Value → Shared → Prop} (S : SatM c own α ρ H m s) (h : (evF Γ nm e' f es pos H).ok K) :
    wpAny (model Pg c.w) c.A (eval (.Call f es [] pos) env) (PostV c own α ρ m s K) E s := by
  cases f <;> try exact h.elim
  case Attribute o a p1 =>
    refine boolT_el h ?_
    clear h
    intro hb h
    rw [Bool.and_eq_true] at hb
    refine method_any hb.1 hb.2 ?_
    refine wpAny_mono (I o α H m s _ E S (T.ok_bind h)) (fun vo s1 p => ?_) fun _ _ x => x
    intro pl
    obtain ⟨α1, sv, H1, x1, S1, r1, i1, h1⟩ := p
    replace h1 : (evM Γ e' sv a es H1).ok K := h1
    unfold evM at h1
    generalize hL : isLst sv H1 = b at h1
    cases b with
    | true =>
      refine optT_el h1 ?_
      clear h1
      intro lm e2 h1
      refine boolT_el h1 ?_
      clear h1
      intro he h1
      cases es with
      | nil => cases he
      | cons e rest =>
        refine wpAny_mono (getL_sound S1 i1 hL e2) (fun fx s2 p => ?_) fun _ _ x => x
        obtain ⟨rfl, rfl⟩ := p
        exact Post.on x1 r1 (args_lm I S1 i1 h1)
    | false =>
      refine wpAny_mono (getM_sound O S1 i1 (T.ok_bind h1)) (fun fx s2 p => ?_) fun _ _ x => x
      obtain ⟨f, u, rfl, kp, su, iu, h2, rfl⟩ := p
      exact Post.on x1 r1 (args_meth G O I S1 iu kp h2)
  case Name f p1 =>
    refine Call_ ?_
    refine Post.go (nmS _ _ _ _ _ _ _ _ S (T.ok_bind h)) ?_
    rintro vo s1 α1 sv H1 x1 S1 r1 i1 h1
    refine boolT_el h1 ?_
    clear h1
    intro hf h1
    exact Post.on x1 r1 (args_call G O I S1 i1 hf h1)
theorem ev_sound (G : TabSound d Γ) (O : c.Ok d) (nmS : NmS c own ρ env nm) : ∀ n, EvS c own ρ env (ev Γ nm n)
  | 0 => fun _ _ _ _ _ _ _ _ h => h.elim
  | n + 1 => by
    have I := ev_sound G O nmS n
    intro e α H m s K E S h
    cases e <;> try exact h.elim
    case Name x p => exact nmS _ _ _ _ _ _ _ _ S h
    case Constant k kk p =>
      cases k <;> try exact h.elim
      · exact wpAny_Constant_none (Sat.done h S Rest.rfl' rfl)
      · exact Constant_bool (Sat.done h S Rest.rfl' rfl)
      · obtain ⟨heap, gens, drawn, toks, os⟩ := s
        obtain ⟨lit, S⟩ := S
        exact const_clean fun t' tk' => Sat.done h ⟨lit, S.heap⟩ Rest.rfl' ⟨_, rfl⟩
      · obtain ⟨lit, S⟩ := S
        exact Constant_str (Sat.done h ⟨lit, S.heap⟩ Rest.rfl' trivial)
    case Dict ks vs p =>
      cases ks <;> cases vs <;> try exact h.elim
      obtain ⟨lit, S⟩ := S
      exact newDict_K (prog := Pg) (w := c.w) S.F S.N O.T.nolimit fun d h' o F' N' l1 lo _ _ hd _ => S.oneV F' N' l1 h ⟨o, [], rfl, lo, hd, .nil⟩ Rest.rfl'
    case Attribute o a pos =>
      refine boolT_el h ?_
      clear h
      intro hb h
      refine Attribute_any_ ?_ (by cases o <;> first | rfl | cases hb)
      refine Post.go (I o α H m s _ E S (T.ok_bind h)) ?_
      rintro v s1 α1 sv H1 x1 S1 r1 i1 h1
      exact Post.on x1 r1 (getA_sound O S1 i1 h1)
    case BinOp l op r pos =>
      refine wpAny_BinOp ?_
      refine Post.go (I l α H m s _ E S (T.ok_bind h)) ?_
      rintro v s1 α1 sv H1 x1 S1 r1 i1 h1
      refine Post.go (I r α1 H1 m s1 _ E S1 (T.ok_bind h1)) ?_
      rintro u s2 α2 su H2 x2 S2 r2 i2 h2
      exact Post.on (x1.trans x2) (r1.trans r2) (bin_sound S2 (i1.mono x2) i2 h2)
    case Compare l ops rs pos =>
      obtain _ | ⟨op, _ | _⟩ := ops <;> (obtain _ | ⟨r, _ | _⟩ := rs) <;> try exact h.elim
      refine boolT_el h ?_
      clear h
      intro hr h
      refine wpAny_Compare1 ?_ (behind_no hr)
      refine Post.go (I l α H m s _ E S (T.ok_bind h)) ?_
      rintro v s1 α1 sv H1 x1 S1 r1 i1 h1
      refine Post.go (I r α1 H1 m s1 _ E S1 (T.ok_bind h1)) ?_
      rintro u s2 α2 su H2 x2 S2 r2 i2 h2
      exact Post.on (x1.trans x2) (r1.trans r2) (cmpH_sound O.room S2 (i1.mono x2) i2 h2)
    case BoolOp op vs pos =>
      cases op <;> (obtain _ | ⟨a, _ | ⟨b, _ | _⟩⟩ := vs) <;> try exact h.elim
      refine BoolOp_and ?_
      refine Post.go (I a α H m s _ E S (T.ok_bind h)) ?_
      rintro v s1 α1 sv H1 x1 S1 r1 i1 h1
      cases sv <;> try exact h1.elim
      rename_i t
      cases (show v = .bool t from i1)
      cases t with
      | false =>
        refine wpAny_truthy_bool ?_
        rw [if_neg Bool.false_ne_true]
        exact Post.back x1 r1 (Sat.done h1 S1 Rest.rfl' rfl)
      | true =>
        refine wpAny_truthy_bool ?_
        rw [if_pos rfl]
        exact BoolOp_one (Post.on x1 r1 (I b α1 H1 m s1 K E S1 h1))
    case IfExp t a b pos =>
      refine IfExp_ ?_
      refine Post.go (tru_sound O.room I 9 t S (T.ok_bind h)) ?_
      rintro v s1 α1 t H1 x1 S1 r1 i1 h1
      subst i1
      cases v with
      | true => exact Post.on x1 r1 (I a α1 H1 m s1 K E S1 h1)
      | false => exact Post.on x1 r1 (I b α1 H1 m s1 K E S1 h1)
    case List es pos =>
      refine List_ ?_
      refine Post.go (evs_sound I es S (T.ok_bind h)).2 ?_
      rintro vs s1 α1 svs H1 x1 S1 r1 i1 h1
      exact Post.on x1 r1 (newL_sound S1 i1 h1)
    case Tuple es k pos =>
      refine Tuple_ ?_
      refine Post.go (evs_sound I es S (T.ok_bind h)).2 ?_
      rintro vs s1 α1 svs H1 x1 S1 r1 i1 h1
      exact Post.on x1 r1 (newT_sound S1 i1 h1)
    case Subscript v i pos =>
      refine Subscript_ ?_
      refine Post.go (I v α H m s _ E S (T.ok_bind h)) ?_
      rintro vo s1 α1 sv H1 x1 S1 r1 i1 h1
      exact wpAny_mono (sub_sound (Γ := Γ) O nmS I S1 i1 h1) (fun vi s2 q => Post.on x1 r1 q) fun _ _ x => x
    case Call f es kw pos =>
      cases kw <;> try exact h.elim
      exact call_sound G O nmS I S h
    case ListComp elt gens scope pos =>
      refine optT_el h ?_
      clear h
      intro q hv h
      exact comp_sound O hv S (I q.2 α H m s _ E S (T.ok_bind h))
end
noncomputable def EvS0 (c : Cx) (own : List (Addr × Obj)) (ρ : Loc) (env : Env) (e' : Ev) : Prop := ∀ e α H s K E, Sat c own α ρ H s → (e' e H).ok K → wpAny (model Pg c.w) c.A (eval e env) (PostV0 c own α ρ s K) E s
theorem EvS.zero {c : Cx} {own : List (Addr × Obj)} {ρ : Loc} {env : Env} {e' : Ev} (I : EvS c own ρ env e') : EvS0 c own ρ env e' := fun e α H s K E S h => by
  obtain ⟨m, S⟩ := S
  exact wpAny_mono (I e α H m s K E S h) (fun v s' p => p.forget) fun _ _ x => x
theorem tru_sound0 {c : Cx} {own : List (Addr × Obj)} {ρ : Loc} {env : Env} {e' : Ev} (hu : c.A.units + 64 < cLine) (I : EvS c own ρ env e') (n : Nat) (e : PySem.Expr) {α H s K E} (S : Sat c own α ρ H s) (h : (tru e' n e H).ok K) : wpAny (model Pg c.w) c.A (PySem.isTrue e env (eval e env)) (Post0 (fun _ g v => v = g) c own α ρ s K) E s := by
  obtain ⟨m, S⟩ := S
  exact wpAny_mono (tru_sound hu I n e S h) (fun v s' p => p.forget) fun _ _ x => x
end KR
end
section
open PySem PySem.W PyProof.Rows PySem.Calls
set_option Elab.async false
set_option maxRecDepth 100000
set_option maxHeartbeats 4000000
set_option linter.constructorNameAsVariable false
set_option linter.unusedVariables false
namespace KR
inductive Out where
  | next | ret (v : SV)
noncomputable def Out.Is (α : Al) : Out → Flow → Prop
  | .next, f => f = .next
  | .ret sv, f => ∃ v, f = .ret v ∧ sv.Is α v
noncomputable def PostS (c : Cx) (own : List (Addr × Obj)) (α : Al) (s : Shared) (K : Out × Loc × HS → Prop) (f : Flow) (s' : Shared) : Prop :=
  ∃ α' o ρ' H', Ext α α' ∧ Sat c own α' ρ' H' s' ∧ Rest s s' ∧ o.Is α' f ∧ K (o, ρ', H')
theorem PostS.back {c : Cx} {own : List (Addr × Obj)} {α α₁ : Al} {s s₁ : Shared} {K : Out × Loc × HS → Prop} {f : Flow} {s' : Shared} (e : Ext α α₁) (r : Rest s s₁) (h : PostS c own α₁ s₁ K f s') : PostS c own α s K f s' := by
  obtain ⟨α', o, ρ', H', h1, h2, h3, h4, h5⟩ := h
  exact ⟨α', o, ρ', H', e.trans h1, h2, r.trans h3, h4, h5⟩
theorem PostS.on {c : Cx} {own : List (Addr × Obj)} {α α₁ : Al} {s s₁ s₂ : Shared} {K : Out × Loc × HS → Prop} {M : Model} {A : Around} {t : Sem Flow} {E : Value → Shared → Prop} (e : Ext α α₁) (r : Rest s s₁) (h : wpAny M A t (PostS c own α₁ s₁ K) E s₂) : wpAny M A t (PostS c own α s K) E s₂ :=
  wpAny_mono h (fun _ _ p => p.back e r) fun _ _ x => x
theorem PostS.go {c : Cx} {own : List (Addr × Obj)} {α : Al} {s s₂ : Shared} {K : Out × Loc × HS → Prop} {M : Model} {A : Around} {t : Sem Flow} {Q : Flow → Shared → Prop} {E : Value → Shared → Prop} (h : wpAny M A t (PostS c own α s K) E s₂)
    (f : ∀ v s₁ α₁ o ρ₁ H₁, Ext α α₁ → Sat c own α₁ ρ₁ H₁ s₁ → Rest s s₁ → o.Is α₁ v → K (o, ρ₁, H₁) → Q v s₁) : wpAny M A t Q E s₂ :=
  wpAny_mono h (fun _ _ p => by obtain ⟨_, _, _, _, h1, h2, h3, h4, h5⟩ := p; exact f _ _ _ _ _ _ h1 h2 h3 h4 h5) fun _ _ x => x
noncomputable def notComp : PySem.Expr → Bool
  | .ListComp .. | .SetComp .. | .DictComp .. => false
  | _ => true
theorem swaps_no {e : PySem.Expr} {t : Option PySem.Expr} {n : Nat} {env : Env} (h : notComp e = true) : swapsWith e t n env = pure false := by
  cases e <;> first | rfl | cases h
noncomputable def swNames (sc : List (Str × NameKind)) (ts vs : List PySem.Expr) : Option (List Str) :=
  if !(ts.length == 2 || ts.length == 3) || vs.length != ts.length then none else
  if vs.any (fun | .Starred .. => true | _ => false) then none else
  let line := (ts.head?.map (·.pos.line)).getD 0
  let names := ts.filterMap fun
    | .Name id pos => if sc.lookup id == some .local && pos.line == line then some id else none
    | _ => none
  if names.length != ts.length || names.eraseDups.length != names.length then none else
  if vs.all (foldedForSure 8) then none else
  if vs.all (constantsAlone 8) then none else
  some names
noncomputable def storeAll : List Str → List SV → Loc → Loc
  | x :: xs, v :: vs, ρ => storeAll xs vs (putS x v ρ)
  | _, _, ρ => ρ
noncomputable def namesOf : List PySem.Expr → Option (List Str)
  | [] => some []
  | .Name x _ :: r => (namesOf r).map (x :: ·)
  | _ => none
section
variable {c : Cx} {d : Nat} {own : List (Addr × Obj)} {α : Al} {ρ : Loc} {H : HS} {s : Shared} {A : Around} {M : Model} {prog : Program} {E : Value → Shared → Prop} {sc : List (Str × NameKind)}
theorem isLoc_ok (hsc : c.csc.names = sc) {x : Str} (h : isLoc sc x = true) : c.env.kindOf x = some .local := by
  unfold isLoc at h
  split at h <;> try cases h
  rename_i e
  subst hsc
  exact (lkS_lookup (l := c.csc.names)).symm.trans e
theorem store_sound (O : c.Ok d) (hsc : c.csc.names = sc) (S : Sat c own α ρ H s) {x : Str} {sv : SV} {v : Value} (i : sv.Is α v) (hx : isLoc sc x = true) {Q : Unit → Shared → Prop} (h : ∀ s', Sat c own α (putS x sv ρ) H s' → Rest s s' → Q () s') : wpAny M A (storeName c.env x v) Q E s := by
  obtain ⟨m, lit, S⟩ := S
  refine storeX_L S.F S.N (fun h' F' N' => h _ ⟨_, lit, F', N', S.D, S.C, fun y sy hy => ?_, S.Z⟩ Rest.rfl') O.hk (isLoc_ok hsc hx)
  rw [lkS_put] at hy
  cases e : eqS y x with
  | true =>
    rw [e, if_pos rfl] at hy
    cases hy
    exact LocIs.of (if_pos (eqS_iff.mp e)) i
  | false =>
    rw [e, if_neg (by simp)] at hy
    exact (S.V y sy hy).at (if_neg (eqS_no.mp e))
theorem storeAll_sound (O : c.Ok d) (hsc : c.csc.names = sc) {Q : Unit → Shared → Prop} : ∀ {xs : List Str} {l : List SV} {vs : List Value} {ρ : Loc} {s : Shared}, Sat c own α ρ H s → AreAll α l vs → xs.all (isLoc sc) = true → (∀ s', Sat c own α (storeAll xs l ρ) H s' → Rest s s' → Q () s') →
    wpAny M A (assignInOrder (xs.map fun n => bindName c.env n) vs) Q E s
  | [], _, _, _, _, S, _, _, h => wpAny_pure (h _ S Rest.rfl')
  | x :: xs, _, _, _, _, S, .nil, _, h => wpAny_pure (h _ S Rest.rfl')
  | x :: xs, _, _, _, _, S, .cons i j, hx, h => by
    simp only [List.all_cons, Bool.and_eq_true] at hx
    exact assignInOrder_cons (bindName_ (store_sound O hsc S i hx.1 fun s' S' r => storeAll_sound O hsc S' j hx.2 fun s'' S'' r' => h s'' S'' (r.trans r')))
theorem assignNames_sound (O : c.Ok d) (hsc : c.csc.names = sc) {Q : Unit → Shared → Prop} : ∀ {es : List PySem.Expr} {xs : List Str} {l : List SV} {vs : List Value} {ρ : Loc} {s : Shared}, namesOf es = some xs → Sat c own α ρ H s → AreAll α l vs → xs.all (isLoc sc) = true → (∀ s', Sat c own α (storeAll xs l ρ) H s' → Rest s s' → Q () s') →
    wpAny M A (assignInOrder ((assignEach es c.env).map (·.2)) vs) Q E s
  | [], _, _, _, _, _, e, S, _, _, h => by cases e; exact wpAny_pure (h _ S Rest.rfl')
  | e0 :: es, xs, l, vs, ρ, s, e, S, j, hx, h => by
    unfold namesOf at e
    split at e
    · rename_i e1; cases e1
    · rename_i x p r e1
      cases e1
      cases hr : namesOf es with
      | none => rw [hr] at e; cases e
      | some ys =>
        rw [hr] at e
        cases e
        simp only [List.all_cons, Bool.and_eq_true] at hx
        cases j with
        | nil => exact wpAny_pure (h _ S Rest.rfl')
        | cons i j => exact assignInOrder_cons (PyProof.Rows.assign_Name (store_sound O hsc S i hx.1 fun s' S' r => assignNames_sound O hsc hr S' j hx.2 fun s'' S'' r' => h s'' S'' (r.trans r')))
    · cases e
theorem swapped_ok (O : c.Ok d) (hsc : c.csc.names = sc) {ts vs : List PySem.Expr} {k k' : Nat} {p p' : Pos} {xs : List Str} (h : swNames sc ts vs = some xs) : swappedStores [.Tuple ts k p] (.Tuple vs k' p') c.env = pure (some xs) := by
  have hb : c.env.blockKind = .function := by
    show (if c.csc.kind.isAnnotationScope then ScopeKind.function else c.csc.kind) = .function
    rw [O.hk]; rfl
  subst hsc
  unfold swNames at h
  split at h <;> try cases h
  rename_i h1
  split at h <;> try cases h
  rename_i h2
  dsimp only at h
  split at h <;> try cases h
  rename_i h3
  split at h <;> try cases h
  rename_i h4
  split at h <;> try cases h
  rename_i h5
  unfold swappedStores
  dsimp only
  have e1 : (!(ts.length == 2 || ts.length == 3) || vs.length != ts.length || c.env.blockKind != .function) = false := by
    rw [hb]
    simpa using h1
  rw [e1]
  simp only [Bool.false_eq_true, if_false, pure_bind]
  exact (if_neg h2).trans ((if_neg h3).trans ((if_neg h4).trans (if_neg h5)))
end
end KR
end
section
open PySem PySem.W PyProof.Rows PySem.Calls
set_option Elab.async false
set_option maxRecDepth 100000
set_option maxHeartbeats 4000000
set_option linter.constructorNameAsVariable false
set_option linter.unusedVariables false
set_option linter.unusedSimpArgs false
namespace KR
section
variable {c : Cx} {d : Nat} {own : List (Addr × Obj)} {α : Al} {ρ : Loc} {H : HS} {s : Shared} {A : Around} {prog : Program} {E : Value → Shared → Prop} {m : Str → Option Value} {lit : List (Addr × Obj)}
noncomputable def setSl (o lo hi v : SV) (H : HS) : T HS := optT (asR o) fun p => optT (asI lo) fun x => optT (asI hi) fun y => optT (asR v) fun q => boolT (!Nat.beq p q) (optT (lkO asInts p H) fun U => optT (lkO asInts q H) fun W => .need (0 ≤ x ∧ x ≤ y ∧ y ≤ U.length) (.need (U.length + W.length ≤ 8000) (.ret ⟨H.nx, up p (.ints (U.take x.toNat ++ (W ++ U.drop y.toNat))) H.σ⟩)))
theorem setSl_sound {K : HS → Prop} (S : Sat c own α ρ H s) {o lo hi v : SV} {vo vl vh vv : Value} (io : o.Is α vo) (il : lo.Is α vl) (ih : hi.Is α vh) (iv : v.Is α vv) (h : (setSl o lo hi v H).ok K) :
    wpAny (model prog c.w) A (setItem vo (.ref s.heap.objs.size) vv) (fun _ => PostU c own α ρ s K) E { s with heap := s.heap.push { cls := .type "slice", data := .fields #[vl, vh, .none] } } := by
  obtain ⟨m, lit, S⟩ := S
  refine asR_el h ?_
  clear h
  intro p e0 h
  refine asI_el h ?_
  clear h
  intro x e1 h
  refine asI_el h ?_
  clear h
  intro y e2 h
  refine asR_el h ?_
  clear h
  intro q e3 h
  rw [e0] at io
  rw [e1] at il
  rw [e2] at ih
  rw [e3] at iv
  refine boolT_el h ?_
  clear h
  intro ne h
  have ne : Nat.beq p q = false := by simpa using ne
  replace h := ints_ok h
  obtain ⟨op, U, ep, eU, h⟩ := h
  replace h := ints_ok h
  obtain ⟨oq, W, eq, eW, h⟩ := h
  obtain ⟨a, ha, rfl⟩ := io
  obtain ⟨t, rfl⟩ := il
  obtain ⟨t', rfl⟩ := ih
  obtain ⟨b, hb, rfl⟩ := iv
  obtain ⟨⟨h0, h1, h2⟩, h3, h⟩ := h
  obtain ⟨cs, pre, post, i1, i2, ie, i3⟩ := S.upd ep ha
  obtain ⟨vs, n, rfl, iU⟩ := asInts_is eU i1
  obtain ⟨ws, k, g1, iW⟩ := S.ints eq eW hb
  obtain ⟨a', b', ea, eb, hne⟩ := S.C.ne (apart_left' S.D) ep eq ne
  rw [ha] at ea
  rw [hb] at eb
  cases ea
  cases eb
  obtain ⟨U1, U2⟩ := i3 _ _ (.ints (U.take _ ++ (W ++ U.drop _))) rfl ⟨_, _, rfl, (iU.take _).append (iW.append (iU.drop _))⟩
  exact setslice_at S.F S.N g1 hne h0 h1 (by rw [iU.length]; exact h2) (by rw [iU.length, iW.length]; exact h3) rfl U1 fun h' F' N' => ⟨α, _, Ext.rfl', ⟨m, U2 _ F' N'⟩, Rest.rfl', h⟩
theorem ki_setL_set {v : Value} : ∀ {l : List Value} {k : Nat}, k < l.length → ki_setL l k v = some (l.set k v)
  | [], _, h => by simp at h
  | x :: r, 0, _ => rfl
  | x :: r, k + 1, h => by
    unfold ki_setL
    rw [ki_setL_set (l := r) (k := k) (by simpa using h)]
    rfl
theorem AreAll.set {α : Al} {sv : SV} {v : Value} (i : sv.Is α v) {l vs} (h : AreAll α l vs) : ∀ k : Nat, AreAll α (l.set k sv) (vs.set k v) := by
  induction h with
  | nil => intro k; simp; exact .nil
  | cons j h ih => intro k; cases k with
    | zero => exact .cons i h
    | succ k => exact .cons j (ih k)
noncomputable def putI (k : Int) (p : Nat) : List (Int × Nat) → List (Int × Nat)
  | [] => [(k, p)]
  | (j, q) :: r => match decide (j = k) with
    | true => (j, p) :: r
    | false => (j, q) :: putI k p r
noncomputable def nodupK : List (Int × Nat) → Bool
  | [] => true
  | (k, _) :: r => (r.all fun q => decide (q.1 ≠ k)) && nodupK r
theorem putI_rows {α : Al} {k : Int} {p : Nat} {a : Addr} (ha : α p = some a) {l kvs} (h : RowsAre α l kvs) (nd : nodupK l = true) : RowsAre α (putI k p l) (PySem.stored kvs k (.ref a)) := by
  have app : ∀ {l kvs}, RowsAre α l kvs → (∀ q ∈ l, q.1 ≠ k) → RowsAre α (putI k p l) (kvs ++ [(k, .ref a)]) ∧ kvs.any (fun kv => kv.1 = k) = false := by
    intro l kvs h
    induction h with
    | nil => intro _; exact ⟨.cons ha .nil, rfl⟩
    | @cons j q b l kvs h1 h2 ih =>
      intro g
      obtain ⟨i1, i2⟩ := ih fun q hq => g q (List.mem_cons_of_mem _ hq)
      have hj : ¬ j = k := g _ (.head _)
      refine ⟨?_, by simp [hj]; simpa using i2⟩
      unfold putI
      rw [decide_eq_false hj]
      exact .cons h1 i1
  have keep : ∀ {l kvs}, RowsAre α l kvs → (∀ q ∈ l, q.1 ≠ k) → kvs.map (fun kv => if kv.1 = k then (kv.1, Value.ref a) else kv) = kvs := by
    intro l kvs h
    induction h with
    | nil => intro _; rfl
    | @cons j q b l kvs h1 h2 ih =>
      intro g
      have hj : ¬ j = k := g _ (.head _)
      simp only [List.map_cons, if_neg hj, ih fun q hq => g q (List.mem_cons_of_mem _ hq)]
  induction h with
  | nil => exact .cons ha .nil
  | @cons j q b l kvs h1 h2 ih =>
    simp only [nodupK, Bool.and_eq_true, List.all_eq_true, decide_eq_true_eq] at nd
    by_cases hj : j = k
    · subst hj
      have e : PySem.stored ((j, Value.ref b) :: kvs) j (.ref a) = (j, .ref a) :: kvs := by
        unfold PySem.stored
        rw [if_pos (by simp)]
        simp only [List.map_cons, if_true]
        rw [keep h2 nd.1]
      rw [e]
      unfold putI
      rw [decide_eq_true rfl]
      exact .cons ha h2
    · have i := ih (by simpa using nd.2)
      have e : PySem.stored ((j, Value.ref b) :: kvs) k (.ref a) = (j, .ref b) :: PySem.stored kvs k (.ref a) := by
        unfold PySem.stored
        by_cases hk : kvs.any (fun kv => kv.1 = k) = true
        · rw [if_pos hk, if_pos (by simp [hj]; simpa using hk)]
          simp [hj]
        · rw [if_neg hk, if_neg (by simp [hj]; simpa using hk)]
          rfl
      rw [e]
      unfold putI
      rw [decide_eq_false hj]
      exact .cons h1 i
noncomputable def setO (p : Nat) (o : SO) (z : Int) (v : SV) (H : HS) : T HS := match o with
  | .rows l => optT (asR v) fun q => boolT (nodupK l && Nat.ble l.length 100) (.ret ⟨H.nx, up p (.rows (putI z q l)) H.σ⟩)
  | .list l => boolT (decide (0 ≤ z ∧ z < 1000 ∧ z < l.length)) (.ret ⟨H.nx, up p (.list (l.set z.toNat v)) H.σ⟩)
  | .ints U => optT (asI v) fun x => .need (0 ≤ z ∧ z < U.length ∧ U.length ≤ 4000) (.ret ⟨H.nx, up p (.ints (U.set z.toNat x)) H.σ⟩)
  | _ => .fail
noncomputable def setIt (o i v : SV) (H : HS) : T HS := optT (asR o) fun p => optT (asI i) fun z => optT (lk p H.σ) fun ob => setO p ob z v H
theorem IntsAre.setT {vs : List Value} {U : List Int} {x : Int} {t : Tok} (h : IntsAre vs U) : ∀ k : Nat, IntsAre (vs.set k (.int x t)) (U.set k x) := by
  induction h with
  | nil => intro k; simp; exact .nil
  | cons n t' h ih => intro k; cases k with
    | zero => exact .cons x t h
    | succ k => exact .cons n t' (ih k)
theorem updF_mid {d : Addr} {o : Obj} : ∀ {l1 l2 : List (Addr × Obj)}, Apart (adr (l1 ++ (d, o) :: l2)) → UpdF d o (l1 ++ (d, o) :: l2) (fun o' => l1 ++ (d, o') :: l2)
  | [], l2, D => .head fun p hp e => D.1 p.1 (mem_adr hp) e.symm
  | p :: l1, l2, D => .tail (D.1 d (by show d ∈ adr (l1 ++ (d, o) :: l2); rw [adr_append]; simp [adr])) (updF_mid D.2)
theorem setIt_sound {K : HS → Prop} (S : Sat c own α ρ H s) {o i v : SV} {vo vi vv : Value} (io : o.Is α vo) (ii : i.Is α vi) (iv : v.Is α vv) (h : (setIt o i v H).ok K) : wpAny (model Pg c.w) A (setItem vo vi vv) (fun _ => PostU c own α ρ s K) E s := by
  obtain ⟨m, lit, S⟩ := S
  refine asR_el h ?_
  clear h
  intro p e0 h
  refine asI_el h ?_
  clear h
  intro z e1 h
  rw [e0] at io
  rw [e1] at ii
  obtain ⟨a, ha, rfl⟩ := io
  obtain ⟨t, rfl⟩ := ii
  refine optT_el h ?_
  clear h
  intro ob ep h
  cases ob <;> try exact h.elim
  case rows l =>
    refine asR_el h ?_
    clear h
    intro q e2 h
    rw [e2] at iv
    refine boolT_el h ?_
    clear h
    intro hz h
    rw [Bool.and_eq_true] at hz
    obtain ⟨b, hb, rfl⟩ := iv
    obtain ⟨cs, pre, post, ⟨ro, kvs, rfl, lo, hd, hr⟩, i2, ie, i3⟩ := S.upd ep ha
    have hl : kvs.length = l.length := by simpa using congrArg List.length hr.keys
    have hz2 := Nat.le_of_ble_eq_true hz.2
    have N := S.N
    have D := S.D
    have e := ie ro rfl
    rw [e] at D
    refine kda_set (knd := PySem.intKind Pg c.w) (o := ro) (g := fun o' => pre ++ ((a, o') :: (post ++ own))) S.F N ?_ hd (intKind_is _ _ _ _) (by rw [sizeLine_eq]; omega) fun h' o' F' N' hd' => ?_
    · rw [e]; exact updF_mid D
    · obtain ⟨U1, U2⟩ := i3 ro o' (.rows (putI z q l)) rfl ⟨o', _, rfl, lo, hd', putI_rows hb hr hz.1⟩
      exact ⟨α, _, Ext.rfl', ⟨m, U2 _ F' N'⟩, Rest.rfl', h⟩
  case list l =>
    refine boolT_el h ?_
    clear h
    intro hz h
    obtain ⟨h0, h1, h2⟩ := of_decide_eq_true hz
    obtain ⟨cs, pre, post, ⟨vs, n, rfl, j⟩, i2, ie, i3⟩ := S.upd ep ha
    obtain ⟨U1, U2⟩ := i3 _ _ (.list _) rfl ⟨_, n, rfl, j.set iv _⟩
    have hl : vs.length = l.length := j.len
    have e : ki_setL vs.toArray.toList z.toNat vv = some (vs.set z.toNat vv) := ki_setL_set (l := vs) (by omega)
    exact ki_set S.F S.N h0 (by omega) e U1 fun h' F' N' => ⟨α, _, Ext.rfl', ⟨m, U2 _ F' N'⟩, Rest.rfl', h⟩
  case «ints» U =>
    refine asI_el h ?_
    clear h
    intro x e2 h
    rw [e2] at iv
    obtain ⟨⟨h0, h1, h2⟩, h⟩ := h
    obtain ⟨t2, rfl⟩ := iv
    obtain ⟨cs, pre, post, ⟨vs, n, rfl, j⟩, i2, ie, i3⟩ := S.upd ep ha
    obtain ⟨U1, U2⟩ := i3 _ _ (.ints _) rfl ⟨_, n, rfl, IntsAre.setT (t := t2) j _⟩
    have hl : vs.length = U.length := j.length
    exact ki_set S.F S.N h0 (by omega) (ki_setL_set (l := vs) (by omega)) U1 fun h' F' N' => ⟨α, _, Ext.rfl', ⟨m, U2 _ F' N'⟩, Rest.rfl', h⟩
end
end KR
end
section
open PySem PySem.W PyProof.Rows PySem.Calls PyProof.V PySem.Spec
set_option Elab.async false
set_option maxRecDepth 100000
set_option maxHeartbeats 1000000
namespace KR
section
variable {h₀ g h : Heap} {L L' x d C : Addr} {m m' : Str → Option Value}
end
section
variable {prog : Program} {w : World} {A : Around} {E : Value → Shared → Prop} {s : Shared} {env : Env} {h₀ : Heap} {x : Str} {body : List Stmt} {Q : Flow → Shared → Prop}
theorem unrPost_mono {L I : Addr} {it : Obj} {s₁ s₂ : Shared} {r r' : (Str → Option Value) → List (Addr × Obj) → Prop} {f : Flow} (hr : ∀ m n, r m n → r' m n) (h : UnrPost h₀ L s₁ I it r Q f s₂) : UnrPost h₀ L s₁ I it r' Q f s₂ := by
  have k : UnrEnd h₀ L s₁ I it r s₂ → UnrEnd h₀ L s₁ I it r' s₂ := fun ⟨h', tk, m', n', e, F, N, o, z⟩ => ⟨h', tk, m', n', e, F, N, o, hr _ _ z⟩
  cases f with
  | ret v => exact h
  | brk => exact h
  | next => exact k h
  | cont => exact k h
theorem unrPost_off {L I : Addr} {it : Obj} {s₁ s₂ : Shared} {r : (Str → Option Value) → List (Addr × Obj) → Prop} {f : Flow} (h : UnrPost h₀ L s₁ I it r Q f s₂) : UnrPost h₀ L s₁ I it (fun m n => r m n ∧ ∀ p ∈ n, p.1 ≠ I) Q f s₂ := by
  have k : UnrEnd h₀ L s₁ I it r s₂ → UnrEnd h₀ L s₁ I it (fun m n => r m n ∧ ∀ p ∈ n, p.1 ≠ I) s₂ := fun ⟨h', tk, m', n', e, F, N, o, z⟩ => ⟨h', tk, m', n', e, F, N, o, z, o⟩
  cases f with
  | ret v => exact h
  | brk => exact h
  | next => exact k h
  | cont => exact k h
theorem rangeRest_inv {I : Addr} {a : Int} {n : Nat} (J : Nat → (Str → Option Value) → List (Addr × Obj) → Prop)
    (turn : ∀ i m news t h tk, i < n → J i m news → (∀ p ∈ news, p.1 ≠ I) → Fr h₀ env.locals h (fun y => if y = x then some (.int (a + (i : Int)) t) else m y) → News h₀ env.locals h ((I, itR (a + ((i + 1 : Nat) : Int)) ((n : Int) - ((i + 1 : Nat) : Int))) :: news) →
      wpAny (model prog w) A (execs body env) (UnrPost h₀ env.locals { s with heap := h, toks := tk } I (itR (a + ((i + 1 : Nat) : Int)) ((n : Int) - ((i + 1 : Nat) : Int))) (J (i + 1)) Q) E { s with heap := h, toks := tk })
    (done : ∀ m news h tk, J n m news → Fr h₀ env.locals h m → News h₀ env.locals h news → Q .next { s with heap := h, toks := tk }) :
    ∀ k i m news, i + k = n → J i m news → (∀ p ∈ news, p.1 ≠ I) → RangeRest prog w A E h₀ env x body Q s I a n k i m news
  | 0, i, m, news, e, j, _ => fun h tk F N => done m news h tk (by rw [← e]; exact j) F N
  | k + 1, i, m, news, e, j, o => fun t h tk F N => wpAny_mono (turn i m news t h tk (by omega) j o F N) (fun _ _ p => unrPost_mono (fun m' n' z => rangeRest_inv J turn done k (i + 1) m' n' (by omega) z.1 z.2) (unrPost_off p)) fun _ _ e => e
theorem iter_rangeInv {r : Addr} {a₀ b₀ : Int} {t₀ u₀ v₀ : Tok} {n : Nat} {m₀ : Str → Option Value} {news : List (Addr × Obj)} (J : Nat → (Str → Option Value) → List (Addr × Obj) → Prop)
    (hh : A.handled = none) (hr : IsRange s.heap r a₀ b₀ 1 t₀ u₀ v₀) (hsmall : Builtin.Range.small a₀ b₀ 1 = true) (hn : Builtin.Range.rangeSize a₀ b₀ 1 = (n : Int)) (F : Fr h₀ env.locals s.heap m₀) (N : News h₀ env.locals s.heap news) (j : J 0 m₀ news)
    (turn : ∀ I i m news t h tk, i < n → J i m news → (∀ p ∈ news, p.1 ≠ I) → Fr h₀ env.locals h (fun y => if y = x then some (.int (a₀ + (i : Int)) t) else m y) → News h₀ env.locals h ((I, itR (a₀ + ((i + 1 : Nat) : Int)) ((n : Int) - ((i + 1 : Nat) : Int))) :: news) →
      wpAny (model prog w) A (execs body env) (UnrPost h₀ env.locals { s with heap := h, toks := tk } I (itR (a₀ + ((i + 1 : Nat) : Int)) ((n : Int) - ((i + 1 : Nat) : Int))) (J (i + 1)) Q) E { s with heap := h, toks := tk })
    (done : ∀ m news h tk, J n m news → Fr h₀ env.locals h m → News h₀ env.locals h news → Q .next { s with heap := h, toks := tk }) :
    wpAny (model prog w) A (pyIter (.ref r)) (fun it s₂ => LoopAtV prog w A h₀ env x body Q E it s₂) E s :=
  iter_rangeUnr hh hr hsmall hn F N fun I l => rangeRest_inv J (turn I) done n 0 m₀ news (Nat.zero_add _) j fun p hp => Nat.ne_of_lt (l p hp)
end
end KR
end
section
open PySem PySem.W PyProof.Rows PySem.Calls
set_option Elab.async false
set_option maxRecDepth 100000
set_option maxHeartbeats 4000000
set_option linter.constructorNameAsVariable false
set_option linter.unusedVariables false
set_option linter.unusedSimpArgs false
namespace KR
noncomputable abbrev R3 := Out × Loc × HS
noncomputable def exs (f : Stmt → Loc → HS → T R3) : List Stmt → Loc → HS → T R3
  | [], ρ, H => .ret (.next, ρ, H)
  | st :: r, ρ, H => (f st ρ H).bind fun x => match x.1 with
    | .next => exs f r x.2.1 x.2.2
    | .ret v => .ret (.ret v, x.2.1, x.2.2)
noncomputable def asTup : SO → Option (List SV)
  | .tup l => some l
  | _ => none
noncomputable def unpk (v : SV) (n : Nat) (H : HS) : T (List SV) := optT (asR v) fun p => optT (lkO asTup p H) fun l => boolT (Nat.beq l.length n) (.ret l)
noncomputable def idxOk : PySem.Expr → Bool
  | .Constant (.int _) _ _ => true
  | .Name .. => true
  | .Attribute .. => true
  | _ => false
noncomputable def forL (f : Loc → HS → T R3) (x : Str) : List SV → Loc → HS → T R3
  | [], ρ, H => .ret (.next, ρ, H)
  | v :: r, ρ, H => (f (putS x v ρ) H).bind fun y => match y.1 with
    | .next => forL f x r y.2.1 y.2.2
    | .ret w => .ret (.ret w, y.2.1, y.2.2)
noncomputable def forT (f : Loc → HS → T R3) (xs : List Str) : List SV → Loc → HS → T R3
  | [], ρ, H => .ret (.next, ρ, H)
  | v :: r, ρ, H => (unpk v xs.length H).bind fun l => (f (storeAll xs l ρ) H).bind fun y => match y.1 with
    | .next => forT f xs r y.2.1 y.2.2
    | .ret w => .ret (.ret w, y.2.1, y.2.2)
noncomputable def notSetE : PySem.Expr → Bool
  | .Set .. => false
  | _ => true
noncomputable def asCells : SO → Option Unit
  | .cell _ => some ()
  | _ => none
noncomputable def stName (k : NameKind) (x : Str) (v : SV) (ρ : Loc) (H : HS) : T R3 := match k with
  | .local => .ret (.next, putS x v ρ, H)
  | .cell => optT (lkS x ρ) fun u => optT (asCl u) fun p => optT (lkO asCells p H) fun _ => .ret (.next, ρ, ⟨H.nx, up p (.cell (some v)) H.σ⟩)
  | _ => .fail
noncomputable def exIdx (ev' : Ev) (o : SV) (i : PySem.Expr) (v : SV) (ρ : Loc) (H : HS) : T R3 := boolT (idxOk i) ((ev' i H).bind fun l => (setIt o l.1 v l.2).bind fun H' => .ret (.next, ρ, H'))
noncomputable def exSub (ev' : Ev) (o : SV) (i : PySem.Expr) (v : SV) (ρ : Loc) (H : HS) : T R3 := match i with
  | .Slice (some lo) (some hi) none _ => (ev' lo H).bind fun l => (ev' hi l.2).bind fun h => (setSl o l.1 h.1 v h.2).bind fun H' => .ret (.next, ρ, H')
  | i => exIdx ev' o i v ρ H
noncomputable def exTup (sc : List (Str × NameKind)) (ev' : Ev) (ts : List PySem.Expr) (e : PySem.Expr) (ρ : Loc) (H : HS) : T R3 := match e with
  | .Tuple vs k' p' => optT (swNames sc ts vs) fun xs => boolT (xs.all (isLoc sc)) ((ev' (.Tuple vs k' p') H).bind fun v => (unpk v.1 xs.length v.2).bind fun l => .ret (.next, storeAll xs.reverse l.reverse ρ, v.2))
  | .Call f es kw p' => optT (namesOf ts) fun xs => boolT (xs.all (isLoc sc)) ((ev' (.Call f es kw p') H).bind fun v => (unpk v.1 ts.length v.2).bind fun l => .ret (.next, storeAll xs l ρ, v.2))
  | _ => .fail
noncomputable def exA (sc : List (Str × NameKind)) (ev' : Ev) (t e : PySem.Expr) (ρ : Loc) (H : HS) : T R3 := match t with
  | .Name x _ => boolT (notComp e) ((ev' e H).bind fun v => optT (lkS x sc) fun k => stName k x v.1 ρ v.2)
  | .Attribute o a _ => boolT (notComp e) ((ev' e H).bind fun v => (ev' o v.2).bind fun ov => (setA ov.1 a v.1 ov.2).bind fun H' => .ret (.next, ρ, H'))
  | .Subscript o i _ => boolT (notComp e) ((ev' e H).bind fun v => (ev' o v.2).bind fun ov => exSub ev' ov.1 i v.1 ρ ov.2)
  | .Tuple ts _ _ => exTup sc ev' ts e ρ H
  | _ => .fail
noncomputable def exF (sc : List (Str × NameKind)) (ev' : Ev) (body : Loc → HS → T R3) (t it : PySem.Expr) (ρ : Loc) (H : HS) : T R3 := match t with
  | .Tuple ts _ _ => optT (namesOf ts) fun xs => boolT (notSetE it && xs.all (isLoc sc)) ((ev' it H).bind fun v => optT (asR v.1) fun p => optT (lkO asLst p v.2) fun l => (forT body xs l ρ ⟨v.2.nx, rm1 p v.2.σ⟩).bind fun y => .ret (y.1, y.2.1, ⟨y.2.2.nx, (p, .list l) :: y.2.2.σ⟩))
  | .Name x _ => boolT (notSetE it && isLoc sc x) ((ev' it H).bind fun v => optT (asR v.1) fun p => optT (lkO asLst p v.2) fun l => (forL body x l ρ ⟨v.2.nx, rm1 p v.2.σ⟩).bind fun y => .ret (y.1, y.2.1, ⟨y.2.2.nx, (p, .list l) :: y.2.2.σ⟩))
  | _ => .fail
noncomputable def ex (Γ : Tab) (sc : List (Str × NameKind)) : Nat → Stmt → Loc → HS → T R3
  | 0, _, _, _ => .fail
  | n + 1, st, ρ, H => match st with
    | .Expr e _ => boolT (notComp e) ((ev Γ (evName sc ρ) n e H).bind fun x => .ret (.next, ρ, x.2))
    | .Return none _ => .ret (.ret .n, ρ, H)
    | .Return (some e) _ => (ev Γ (evName sc ρ) n e H).bind fun x => .ret (.ret x.1, ρ, x.2)
    | .If t a b _ => (tru (ev Γ (evName sc ρ) n) 9 t H).bind fun x => match x.1 with
      | true => exs (ex Γ sc n) a ρ x.2
      | false => exs (ex Γ sc n) b ρ x.2
    | .Assign [t] e _ => exA sc (ev Γ (evName sc ρ) n) t e ρ H
    | .For t it body [] _ => exF sc (ev Γ (evName sc ρ) n) (exs (ex Γ sc n) body) t it ρ H
    | _ => .fail
section
variable {c : Cx} {d : Nat} {own : List (Addr × Obj)} {sc : List (Str × NameKind)} {Γ : Tab}
noncomputable def ExS (c : Cx) (f : Stmt → Loc → HS → T R3) : Prop := ∀ own st α ρ H s K E, PassesOwn (model Pg c.w) c.A c.env E → Sat c own α ρ H s → (f st ρ H).ok K → wpAny (model Pg c.w) c.A (exec st c.env) (PostS c own α s K) E s
theorem exs_sound {f : Stmt → Loc → HS → T R3} (I : ExS c f) : ∀ (l : List Stmt) {own α ρ H s K E}, PassesOwn (model Pg c.w) c.A c.env E → Sat c own α ρ H s → (exs f l ρ H).ok K → wpAny (model Pg c.w) c.A (execs l c.env) (PostS c own α s K) E s
  | [], own, α, ρ, H, s, K, E, PE, S, h => wpAny_execs_nil ⟨α, .next, ρ, H, Ext.rfl', S, Rest.rfl', rfl, h⟩
  | st :: r, own, α, ρ, H, s, K, E, PE, S, h => by
    refine wpAny_execs_cons ?_
    refine PostS.go (I own st α ρ H s _ E PE S (T.ok_bind h)) ?_
    rintro f s1 α1 o ρ1 H1 x1 S1 r1 i1 h1
    cases o with
    | next =>
      cases i1
      exact PostS.on x1 r1 (exs_sound I r PE S1 h1)
    | ret v =>
      obtain ⟨v', rfl, iv⟩ := i1
      exact ⟨α1, .ret v, ρ1, H1, x1, S1, r1, ⟨v', rfl, iv⟩, h1⟩
theorem unpk_ok {α : Al} {ρ : Loc} {H : HS} {s : Shared} {m lit} (S : SatX c own α ρ H s m lit) {v : SV} {vv : Value} (i : v.Is α vv) {n : Nat} {K : List SV → Prop} (h : (unpk v n H).ok K) : ∃ a l vs, vv = .ref a ∧ IsTup s.heap a vs.toArray ∧ AreAll α l vs ∧ n = vs.toArray.size ∧ K l := by
  refine asR_el h ?_
  clear h
  intro p e0 h
  rw [e0] at i
  refine optT_el h ?_
  clear h
  intro l e h
  obtain ⟨o, e1, e2⟩ := lkO_eq e
  cases o <;> cases e2
  refine boolT_el h ?_
  clear h
  intro hn h
  obtain ⟨a, ha, rfl⟩ := i
  obtain ⟨a', cs, h1, ⟨vs, rfl, h2⟩, h3⟩ := S.at e1
  rw [ha] at h1
  cases h1
  exact ⟨a, l, vs, rfl, ⟨_, (S.N _ (h3 _ (.head _))).1, rfl, _, rfl⟩, h2, by rw [List.size_toArray, h2.len]; exact (Nat.eq_of_beq_eq_true hn).symm, h⟩
theorem AreAll.reverse {α : Al} {l vs} (h : AreAll α l vs) : AreAll α l.reverse vs.reverse := by
  induction h with
  | nil => exact .nil
  | cons i _ ih => simp only [List.reverse_cons]; exact ih.append (.cons i .nil)
theorem interactive_no (O : c.Ok d) : interactive c.env = false := by
  show (c.csc.kind == .module && _) = false
  rw [O.hk]; rfl
theorem each_len {env : Env} : ∀ {ts : List PySem.Expr} {xs : List Str}, namesOf ts = some xs → (assignEach ts env).length = ts.length ∧ (assignEach ts env).findIdx? (·.1) = none
  | [], _, _ => ⟨rfl, rfl⟩
  | t :: ts, xs, h => by
    unfold namesOf at h
    split at h
    · rename_i e; cases e
    · rename_i x p r e1
      cases e1
      cases hr : namesOf ts with
      | none => rw [hr] at h; cases h
      | some ys =>
        obtain ⟨h1, h2⟩ := each_len (env := env) hr
        refine ⟨by simp [assignEach, h1], ?_⟩
        simp [assignEach, List.findIdx?_cons, h2]
    · cases h
theorem forL_sound {body : List Stmt} {f : Loc → HS → T R3} (I : ∀ {own α ρ H s K E}, PassesOwn (model Pg c.w) c.A c.env E → Sat c own α ρ H s → (f ρ H).ok K → wpAny (model Pg c.w) c.A (execs body c.env) (PostS c own α s K) E s) {x : Str} {K : Out × Loc × HS → Prop} {E : Value → Shared → Prop} (PE : PassesOwn (model Pg c.w) c.A c.env E) {Q : Flow → Shared → Prop} {lp : Addr × Obj} {J : Addr} {s0 : Shared} {α0 : Al} (hlp : lp ∈ own)
    (hQ : ∀ α o ρ H s fl, Ext α0 α → Sat c own α ρ H s → Rest s0 s → o.Is α fl → K (o, ρ, H) → Q fl s) :
    ∀ (l : List SV) (vs : List Value) (α : Al) (ρ : Loc) (H : HS) (m : Str → Option Value) (lit : List (Addr × Obj)), Ext α0 α → AreAll α l vs → (∀ q ∈ lit ++ own, q.1 ≠ J) → Apart (adr (lit ++ own)) → Cells c.w α H.σ lit → (∀ y sv, lkS y ρ = some sv → LocIs c m α y sv) → (∀ p, H.nx ≤ p → α p = none) →
      (forL f x l ρ H).ok K → ListRest Pg c.w c.A E c.h₀ c.env x body Q s0 J lp vs m (lit ++ own)
  | [], _, α, ρ, H, m, lit, e0, .nil, off, D, C, V, Z, h => ListRest.zero fun hh tk F N => hQ α .next ρ H _ .next e0 ⟨m, lit, F, N, D, C, V, Z⟩ Rest.rfl' rfl h
  | v :: r, _, α, ρ, H, m, lit, e0, .cons (v := u) (vs := vs) i j, off, D, C, V, Z, h => ListRest.succ fun it hh tk hc F N => by
    have p1 : ((J, it) :: (lit ++ own)).Perm (lit ++ ((J, it) :: own)) := List.perm_middle.symm
    have D1 : Apart (adr ((J, it) :: (lit ++ own))) := ⟨fun b hb => by
      obtain ⟨q, hq, rfl⟩ := of_mem_adr hb
      exact fun e => off q hq e.symm, D⟩
    have S1 : Sat c ((J, it) :: own) α (putS x v ρ) H ⟨hh, s0.gens, s0.drawn, tk, s0.os⟩ := ⟨_, lit, F, fun q hq => N q (p1.mem_iff.mpr hq), apart_perm' D1 p1, C, fun y sy hy => by
      rw [lkS_put] at hy
      cases e : eqS y x with
      | true => rw [e, if_pos rfl] at hy; cases hy; exact LocIs.of (if_pos (eqS_iff.mp e)) i
      | false => rw [e, if_neg (by simp)] at hy; exact (V y sy hy).at (if_neg (eqS_no.mp e)), Z⟩
    refine PostS.go (I PE S1 (T.ok_bind h)) ?_
    rintro fl s2 α2 o ρ2 H2 x2 ⟨m2, lit2, S2⟩ r2 i2 h2
    have p2 : (lit2 ++ ((J, it) :: own)).Perm ((J, it) :: (lit2 ++ own)) := List.perm_middle
    have D2 := apart_perm' S2.D p2
    have N2 : News c.h₀ c.env.locals s2.heap ((J, it) :: (lit2 ++ own)) := fun q hq => S2.N q (p2.mem_iff.mpr hq)
    have off2 : ∀ q ∈ lit2 ++ own, q.1 ≠ J := fun q hq e => D2.1 q.1 (mem_adr hq) e.symm
    obtain ⟨heap2, gens2, drawn2, toks2, os2⟩ := s2
    obtain ⟨rfl, rfl, rfl⟩ := r2
    cases o with
    | next =>
      cases i2
      exact ⟨heap2, toks2, m2, lit2 ++ own, rfl, S2.F, N2, off2, List.mem_append_right _ hlp, forL_sound I PE hlp hQ r vs α2 ρ2 H2 m2 lit2 (e0.trans x2) (j.mono x2) off2 D2.2 S2.C S2.V S2.Z h2⟩
    | ret w =>
      obtain ⟨w', rfl, iw⟩ := i2
      exact hQ α2 (.ret w) ρ2 H2 _ _ (e0.trans x2) ⟨m2, lit2, S2.F, fun q hq => N2 q (List.mem_cons_of_mem _ hq), D2.2, S2.C, S2.V, S2.Z⟩ ⟨rfl, rfl, rfl⟩ ⟨w', rfl, iw⟩ h2
theorem namesOf_len : ∀ {ts : List PySem.Expr} {xs : List Str}, namesOf ts = some xs → xs.length = ts.length
  | [], xs, h => by cases h; rfl
  | t :: ts, xs, h => by
    unfold namesOf at h
    split at h
    · rename_i e; cases e
    · rename_i x p r e1
      cases e1
      cases hr : namesOf ts with
      | none => rw [hr] at h; cases h
      | some ys => rw [hr] at h; cases h; simp [namesOf_len hr]
    · cases h
theorem forT_sound (O : c.Ok d) (hsc : c.csc.names = sc) {body : List Stmt} {f : Loc → HS → T R3} (I : ∀ {own α ρ H s K E}, PassesOwn (model Pg c.w) c.A c.env E → Sat c own α ρ H s → (f ρ H).ok K → wpAny (model Pg c.w) c.A (execs body c.env) (PostS c own α s K) E s) {ts : List PySem.Expr} {k : Nat} {tp : Pos} {xs : List Str} (hx : namesOf ts = some xs) (hl : xs.all (isLoc sc) = true) {K : Out × Loc × HS → Prop} {E : Value → Shared → Prop} (PE : PassesOwn (model Pg c.w) c.A c.env E) {Q : Flow → Shared → Prop} {lp : Addr × Obj} {J : Addr} {s0 : Shared} {α0 : Al} (hlp : lp ∈ own)
    (hQ : ∀ α o ρ H s fl, Ext α0 α → Sat c own α ρ H s → Rest s0 s → o.Is α fl → K (o, ρ, H) → Q fl s) :
    ∀ (l : List SV) (vs : List Value) (α : Al) (ρ : Loc) (H : HS) (m : Str → Option Value) (lit : List (Addr × Obj)), Ext α0 α → AreAll α l vs → (∀ q ∈ lit ++ own, q.1 ≠ J) → Apart (adr (lit ++ own)) → Cells c.w α H.σ lit → (∀ y sv, lkS y ρ = some sv → LocIs c m α y sv) → (∀ p, H.nx ≤ p → α p = none) →
      (forT f xs l ρ H).ok K → ItemsRest Pg c.w c.A E c.h₀ c.env (.Tuple ts k tp) body Q s0 [(J, "list_iterator")] [lp] (vs.map .val) m (lit ++ own)
  | [], _, α, ρ, H, m, lit, e0, .nil, off, D, C, V, Z, h => ItemsRest.zero fun hh tk F N => hQ α .next ρ H _ .next e0 ⟨m, lit, F, N, D, C, V, Z⟩ Rest.rfl' rfl h
  | v :: r, _, α, ρ, H, m, lit, e0, .cons (v := u) (vs := vs) i j, off, D, C, V, Z, h => ItemsRest.val fun hh tk F => AllObj.cons fun it hc => AllObj.nil fun N => by
    have p1 : ((J, it) :: (lit ++ own)).Perm (lit ++ ((J, it) :: own)) := List.perm_middle.symm
    have D1 : Apart (adr ((J, it) :: (lit ++ own))) := ⟨fun b hb => by
      obtain ⟨q, hq, rfl⟩ := of_mem_adr hb
      exact fun e => off q hq e.symm, D⟩
    have S1 : SatX c ((J, it) :: own) α ρ H ⟨hh, s0.gens, s0.drawn, tk, s0.os⟩ m lit := ⟨F, fun q hq => N q (p1.mem_iff.mpr hq), apart_perm' D1 p1, C, V, Z⟩
    obtain ⟨a, l, vs', rfl, ht, jj, hn, h2⟩ := unpk_ok S1 i (T.ok_bind h)
    obtain ⟨e1, e2⟩ := each_len (env := c.env) hx
    refine unpackN_ S1.F S1.N ht rfl (by rw [e1, ← namesOf_len hx, hn]) e2 fun h' F' N' => ?_
    have S2 : Sat c ((J, it) :: own) α ρ H { (⟨hh, s0.gens, s0.drawn, tk, s0.os⟩ : Shared) with heap := h' } := ⟨m, lit, F', N', S1.D, S1.C, S1.V, S1.Z⟩
    refine assignNames_sound O hsc hx S2 jj hl fun s' S' r' => ?_
    refine PostS.go (I PE S' (T.ok_bind h2)) ?_
    rintro fl s2 α2 o ρ2 H2 x2 ⟨m2, lit2, S2⟩ r2 i2 h2
    have p2 : (lit2 ++ ((J, it) :: own)).Perm ((J, it) :: (lit2 ++ own)) := List.perm_middle
    have D2 := apart_perm' S2.D p2
    have N2 : News c.h₀ c.env.locals s2.heap ((J, it) :: (lit2 ++ own)) := fun q hq => S2.N q (p2.mem_iff.mpr hq)
    have off2 : ∀ q ∈ lit2 ++ own, q.1 ≠ J := fun q hq e => D2.1 q.1 (mem_adr hq) e.symm
    have r3 : Rest s0 s2 := Rest.trans ⟨r'.1, r'.2.1, r'.2.2⟩ r2
    obtain ⟨heap2, gens2, drawn2, toks2, os2⟩ := s2
    obtain ⟨rfl, rfl, rfl⟩ := r3
    cases o with
    | next =>
      cases i2
      exact ⟨heap2, toks2, m2, lit2 ++ own, rfl, S2.F, N2, fun p hp q hq => by rw [List.mem_singleton.mp hq]; exact off2 p hp, ⟨List.mem_append_right _ hlp, trivial⟩, forT_sound O hsc I hx hl PE hlp hQ r vs α2 ρ2 H2 m2 lit2 (e0.trans x2) (j.mono x2) off2 D2.2 S2.C S2.V S2.Z h2⟩
    | ret w =>
      obtain ⟨w', rfl, iw⟩ := i2
      exact hQ α2 (.ret w) ρ2 H2 _ _ (e0.trans x2) ⟨m2, lit2, S2.F, fun q hq => N2 q (List.mem_cons_of_mem _ hq), D2.2, S2.C, S2.V, S2.Z⟩ ⟨rfl, rfl, rfl⟩ ⟨w', rfl, iw⟩ h2
theorem stName_sound (O : c.Ok d) (hsc : c.csc.names = sc) {own α ρ H s E K} {k : NameKind} {x : Str} {sv : SV} {v : Value} (S : Sat c own α ρ H s) (i : sv.Is α v) (hk : lkS x sc = some k) (h : (stName k x sv ρ H).ok K) : wpAny (model Pg c.w) c.A (storeName c.env x v) (fun _ s' => PostS c own α s K .next s') E s := by
  cases k <;> try exact h.elim
  case «local» => exact store_sound O hsc S i (by unfold isLoc; rw [hk]) fun s' S' r' => ⟨α, .next, _, H, Ext.rfl', S', r', rfl, h⟩
  case cell =>
    refine optT_el h ?_
    clear h
    intro u hu h
    refine optT_el h ?_
    clear h
    intro q hq h
    rw [asCl_eq hq] at hu
    refine optT_el h ?_
    clear h
    intro uu ho h
    obtain ⟨o, hl, e2⟩ := lkO_eq ho
    cases o <;> try cases e2
    rename_i o
    obtain ⟨m, lit, S⟩ := S
    obtain ⟨a, ha1, ha2⟩ := S.V _ _ hu
    obtain ⟨cs, pre, post, i2, i3, i4, i5⟩ := S.upd hl ha2
    have hob : ∃ ob v0, cs = [(a, ob)] ∧ ob.data = .cell v0 := by
      cases o with
      | none => obtain ⟨ob, e1, e2⟩ := i2; exact ⟨ob, _, e1, e2⟩
      | some _ => obtain ⟨ob, u, e1, e2, _⟩ := i2; exact ⟨ob, _, e1, e2⟩
    obtain ⟨ob, v0, rfl, hd⟩ := hob
    have e := i4 ob rfl
    have D := S.D
    rw [e] at D
    have U := updF_mid D
    rw [← e] at U
    have hx : c.env.kindOf x = some .cell := by subst hsc; exact (lkS_lookup (l := c.csc.names)).symm.trans hk
    refine storeX_C S.F S.N ha1 U hd (fun h' o' F' N' hd' => ?_) O.hk hx
    exact ⟨α, .next, ρ, ⟨H.nx, up q (.cell (some sv)) H.σ⟩, Ext.rfl', ⟨m, (i5 ob o' (.cell (some sv)) rfl ⟨o', v, rfl, hd', i⟩).2 _ F' N'⟩, Rest.rfl', rfl, h⟩
theorem exSub_sound {ρ own} {e' : Ev} (V : EvS0 c own ρ c.env e') {α H s E K} {o sv : SV} {vo v : Value} {i : PySem.Expr} (S : Sat c own α ρ H s) (io : o.Is α vo) (iv : sv.Is α v) (h : (exSub e' o i sv ρ H).ok K) :
    wpAny (model Pg c.w) c.A (eval i c.env) (fun vi s1 => wpAny (model Pg c.w) c.A (setItem vo vi v) (fun _ s' => PostS c own α s K .next s') E s1) E s := by
  have gen : (exIdx e' o i sv ρ H).ok K → wpAny (model Pg c.w) c.A (eval i c.env) (fun vi s1 => wpAny (model Pg c.w) c.A (setItem vo vi v) (fun _ s' => PostS c own α s K .next s') E s1) E s := fun h => by
    obtain ⟨_, h⟩ := boolT_ok h
    refine Post0.go (V i α H s _ E S (T.ok_bind h)) ?_
    rintro vl s3 α3 sl H3 x3 S3 r3 i3 h3
    refine wpAny_mono (setIt_sound S3 (io.mono x3) i3 (iv.mono x3) (T.ok_bind h3)) (fun _ s5 p => ?_) fun _ _ x => x
    obtain ⟨α5, H5, x5, S5, r5, h5⟩ := p
    exact ⟨α5, .next, ρ, H5, x3.trans x5, S5, r3.trans r5, rfl, h5⟩
  cases i
  case Slice lo hi st p =>
    cases lo <;> cases hi <;> cases st <;> try exact h.elim
    rename_i lo hi
    refine wpAny_Slice (evalPart_some_step ?_)
    refine Post0.go (V lo α H s _ E S (T.ok_bind h)) ?_
    rintro vl s3 α3 sl H3 x3 S3 r3 i3 h3
    refine evalPart_some_step ?_
    refine Post0.go (V hi α3 H3 s3 _ E S3 (T.ok_bind h3)) ?_
    rintro vh s4 α4 sh H4 x4 S4 r4 i4 h4
    refine evalPart_none_step ?_
    refine wpAny_mono (setSl_sound S4 (io.mono (x3.trans x4)) (i3.mono x4) i4 (iv.mono (x3.trans x4)) (T.ok_bind h4)) (fun _ s5 p => ?_) fun _ _ x => x
    obtain ⟨α5, H5, x5, S5, r5, h5⟩ := p
    exact ⟨α5, .next, ρ, H5, x3.trans (x4.trans x5), S5, r3.trans (r4.trans r5), rfl, h5⟩
  all_goals exact gen h
theorem exA_sound (O : c.Ok d) (hsc : c.csc.names = sc) {ρ own} {e' : Ev} (V : EvS0 c own ρ c.env e') {α H s E K} {t e : PySem.Expr} {pos : Pos} (S : Sat c own α ρ H s) (h : (exA sc e' t e ρ H).ok K) : wpAny (model Pg c.w) c.A (exec (.Assign [t] e pos) c.env) (PostS c own α s K) E s := by
  cases t <;> try exact h.elim
  case Name x p1 =>
    refine boolT_el h ?_
    clear h
    intro hc h
    refine wpAny_Assign_Name ?_ (swaps_no hc)
    refine Post0.go (V e α H s _ E S (T.ok_bind h)) ?_
    rintro v s1 α1 sv H1 x1 S1 r1 i1 h1
    refine optT_el h1 ?_
    clear h1
    intro k hk h1
    exact wpAny_mono (stName_sound O hsc S1 i1 hk h1) (fun _ s2 p => PostS.back x1 r1 p) fun _ _ x => x
  case Attribute o a p1 =>
    refine boolT_el h ?_
    clear h
    intro hc h
    refine plainObj_wpAny_Assign_Attribute ?_ (swaps_no hc)
    refine Post0.go (V e α H s _ E S (T.ok_bind h)) ?_
    rintro v s1 α1 sv H1 x1 S1 r1 i1 h1
    refine Post0.go (V o α1 H1 s1 _ E S1 (T.ok_bind h1)) ?_
    rintro ov s2 α2 so H2 x2 S2 r2 i2 h2
    refine wpAny_mono (setA_sound O S2 i2 (i1.mono x2) (T.ok_bind h2)) (fun _ s3 p => ?_) fun _ _ x => x
    obtain ⟨α3, H3, x3, S3, r3, h3⟩ := p
    exact ⟨α3, .next, ρ, H3, x1.trans (x2.trans x3), S3, r1.trans (r2.trans r3), rfl, h3⟩
  case Subscript o i p1 =>
    refine boolT_el h ?_
    clear h
    intro hc h
    refine wpAny_Assign_Subscript ?_ (swaps_no hc)
    refine Post0.go (V e α H s _ E S (T.ok_bind h)) ?_
    rintro v s1 α1 sv H1 x1 S1 r1 i1 h1
    refine Post0.go (V o α1 H1 s1 _ E S1 (T.ok_bind h1)) ?_
    rintro ov s2 α2 so H2 x2 S2 r2 i2 h2
    exact wpAny_mono (exSub_sound V S2 i2 (i1.mono x2) h2) (fun vi s3 q => wpAny_mono q (fun _ s4 p => PostS.back (x1.trans x2) (r1.trans r2) p) fun _ _ x => x) fun _ _ x => x
  case Tuple ts k p1 =>
    cases e <;> try exact h.elim
    case Call f es kw p' =>
      refine optT_el h ?_
      clear h
      intro xs hx h
      refine boolT_el h ?_
      clear h
      intro hl h
      refine Assign_Tuple ?_ rfl rfl
      refine Post0.go (V _ α H s _ E S (T.ok_bind h)) ?_
      rintro v s1 α1 sv H1 x1 ⟨m, lit, S1⟩ r1 i1 h1
      obtain ⟨a, l, vs', rfl, ht, j, hn, h2⟩ := unpk_ok S1 i1 (T.ok_bind h1)
      obtain ⟨e1, e2⟩ := each_len (env := c.env) hx
      refine unpackN_ S1.F S1.N ht rfl (by rw [e1, hn]) e2 fun h' F' N' => ?_
      have S2 : Sat c own α1 ρ H1 { s1 with heap := h' } := ⟨m, lit, F', N', S1.D, S1.C, S1.V, S1.Z⟩
      exact assignNames_sound O hsc hx S2 j hl fun s' S' r' => ⟨α1, .next, _, H1, x1, S', r1.trans r', rfl, h2⟩
    case Tuple vs k' p' =>
      refine optT_el h ?_
      clear h
      intro xs hx h
      refine boolT_el h ?_
      clear h
      intro hl h
      refine Assign_Tuple_swapped ?_ rfl (swapped_ok O hsc hx)
      refine Post0.go (V _ α H s _ E S (T.ok_bind h)) ?_
      rintro v s1 α1 sv H1 x1 ⟨m, lit, S1⟩ r1 i1 h1
      obtain ⟨a, l, vs', rfl, ht, j, hn, h2⟩ := unpk_ok S1 i1 (T.ok_bind h1)
      refine unpackItemsN_ S1.F S1.N ht rfl hn fun h' F' N' => ?_
      have S2 : Sat c own α1 ρ H1 { s1 with heap := h' } := ⟨m, lit, F', N', S1.D, S1.C, S1.V, S1.Z⟩
      exact storeAll_sound O hsc S2 j.reverse (by simpa using hl) fun s' S' r' => ⟨α1, .next, _, H1, x1, S', r1.trans r', rfl, h2⟩
theorem exF_sound (O : c.Ok d) (hsc : c.csc.names = sc) {ρ own} {e' : Ev} (V : EvS0 c own ρ c.env e') {body : List Stmt} {fb : Loc → HS → T R3} {E} (PE : PassesOwn (model Pg c.w) c.A c.env E) (I : ∀ {own α ρ H s K E}, PassesOwn (model Pg c.w) c.A c.env E → Sat c own α ρ H s → (fb ρ H).ok K → wpAny (model Pg c.w) c.A (execs body c.env) (PostS c own α s K) E s)
    {α H s K} {t it : PySem.Expr} {pos : Pos} (S : Sat c own α ρ H s) (h : (exF sc e' fb t it ρ H).ok K) : wpAny (model Pg c.w) c.A (exec (.For t it body [] pos) c.env) (PostS c own α s K) E s := by
  obtain ⟨m0, lit0, S0⟩ := id S
  have src : ∀ {α1 H1 s1 p2 l vv m lit} (S1 : SatX c own α1 ρ H1 s1 m lit) (i1 : (SV.r p2).Is α1 vv) (hl : lk p2 H1.σ = some (.list l)), ∃ a vs k r, vv = .ref a ∧ α1 p2 = some a ∧ AreAll α1 l vs ∧ Cells c.w α1 (rm1 p2 H1.σ) r ∧ (lit ++ own).Perm (r ++ ((a, listOf vs.toArray k) :: own)) := by
    intro α1 H1 s1 p2 l vv m lit S1 i1 hl
    obtain ⟨a, ha, rfl⟩ := i1
    obtain ⟨a', cs, r, h2, ⟨vs, k, rfl, j⟩, h4, h5⟩ := S1.C.without hl
    rw [ha] at h2
    cases h2
    refine ⟨a, vs, k, r, rfl, ha, j, h4, ?_⟩
    refine (List.Perm.append_right own (h5.trans List.perm_append_comm)).trans ?_
    rw [List.append_assoc]; exact .rfl
  have fin : ∀ {α1 s1 α2 o ρ2 H2 s2 fl p2 l a vs k}, Ext α α1 → Rest s s1 → α1 p2 = some a → AreAll α1 l vs → Ext α1 α2 → Sat c ((a, listOf vs.toArray k) :: own) α2 ρ2 H2 s2 → Rest s1 s2 → o.Is α2 fl → K (o, ρ2, ⟨H2.nx, (p2, .list l) :: H2.σ⟩) → PostS c own α s K fl s2 := by
    intro α1 s1 α2 o ρ2 H2 s2 fl p2 l a vs k x1 r1 ha j e2 S2 r2 i2 hK
    obtain ⟨m2, lit2, S2⟩ := S2
    have p4 : (lit2 ++ ((a, listOf vs.toArray k) :: own)).Perm (([(a, listOf vs.toArray k)] ++ lit2) ++ own) := List.perm_middle
    exact ⟨α2, o, ρ2, ⟨H2.nx, (p2, .list l) :: H2.σ⟩, x1.trans e2, ⟨m2, _, S2.F, S2.N.perm fun q hq => p4.mem_iff.mpr hq, apart_perm' S2.D p4, .cons (e2 _ _ ha) ⟨vs, k, rfl, j.mono e2⟩ S2.C, S2.V, S2.Z⟩, r1.trans r2, i2, hK⟩
  cases t <;> try exact h.elim
  case Name x p1 =>
    refine boolT_el h ?_
    clear h
    intro hc h
    rw [Bool.and_eq_true] at hc
    refine For_invVF (h₀ := c.h₀) S0.F (isLoc_ok hsc hc.2) (by show (c.csc.kind == .class || (c.csc.kind == .module && _)) = false; rw [O.hk]; rfl) ?_ (fun x => by cases it <;> first | rfl | cases hc.1) PE
    refine Post0.go (V it α H s _ E S (T.ok_bind h)) ?_
    rintro v s1 α1 sv H1 x1 ⟨m, lit, S1⟩ r1 i1 h1
    refine asR_el h1 ?_
    clear h1
    intro p2 e0 h1
    have e0 : sv = .r p2 := e0
    rw [e0] at i1
    refine lst_el h1 ?_
    clear h1
    intro l hl h1
    obtain ⟨a, vs, k, r, rfl, ha, j, h4, p3⟩ := src S1 i1 hl
    refine iter_listUnr rfl S1.F (S1.N.perm fun q hq => p3.mem_iff.mpr hq) (List.mem_append_right _ (.head _)) rfl rfl fun J hJ => ?_
    exact forL_sound (own := (a, listOf vs.toArray k) :: own) I (K := fun y => K (y.1, y.2.1, ⟨y.2.2.nx, (p2, .list l) :: y.2.2.σ⟩)) PE (.head _) (fun α2 o ρ2 H2 s2 fl e2 S2 r2 i2 hK => fin x1 r1 ha j e2 S2 r2 i2 hK) l vs α1 ρ ⟨H1.nx, rm1 p2 H1.σ⟩ m r Ext.rfl' j (fun q hq => Nat.ne_of_lt (hJ q hq)) (apart_perm' S1.D p3) h4 S1.V S1.Z (T.ok_bind h1)
  case Tuple ts k p1 =>
    refine optT_el h ?_
    clear h
    intro xs hx h
    refine boolT_el h ?_
    clear h
    intro hc h
    rw [Bool.and_eq_true] at hc
    refine For_turns (h₀ := c.h₀) S0.F ?_ (fun x => by cases it <;> first | rfl | cases hc.1) PE
    refine Post0.go (V it α H s _ E S (T.ok_bind h)) ?_
    rintro v s1 α1 sv H1 x1 ⟨m, lit, S1⟩ r1 i1 h1
    refine asR_el h1 ?_
    clear h1
    intro p2 e0 h1
    have e0 : sv = .r p2 := e0
    rw [e0] at i1
    refine lst_el h1 ?_
    clear h1
    intro l hl h1
    obtain ⟨a, vs, k, r, rfl, ha, j, h4, p3⟩ := src S1 i1 hl
    refine iter_listTurns rfl S1.F (S1.N.perm fun q hq => p3.mem_iff.mpr hq) (List.mem_append_right _ (.head _)) rfl rfl fun J hJ => ?_
    exact forT_sound O hsc (own := (a, listOf vs.toArray k) :: own) I hx hc.2 (K := fun y => K (y.1, y.2.1, ⟨y.2.2.nx, (p2, .list l) :: y.2.2.σ⟩)) PE (.head _) (fun α2 o ρ2 H2 s2 fl e2 S2 r2 i2 hK => fin x1 r1 ha j e2 S2 r2 i2 hK) l vs α1 ρ ⟨H1.nx, rm1 p2 H1.σ⟩ m r Ext.rfl' j (fun q hq => Nat.ne_of_lt (hJ q hq)) (apart_perm' S1.D p3) h4 S1.V S1.Z (T.ok_bind h1)
theorem ex_sound (G : TabSound d Γ) (O : c.Ok d) (hsc : c.csc.names = sc) : ∀ n, ExS c (ex Γ sc n)
  | 0 => fun _ _ _ _ _ _ _ _ _ _ h => h.elim
  | n + 1 => by
    have I := ex_sound G O hsc n
    intro own st α ρ H s K E PE S h
    have V' : EvS c own ρ c.env (ev Γ (evName sc ρ) n) := ev_sound G O (fun x pos α H m s K E S h => evName_sound O hsc S h) n
    cases st <;> try exact h.elim
    case Return r pos =>
      cases r with
      | none => exact wpAny_Return_none ⟨α, .ret .n, ρ, H, Ext.rfl', S, Rest.rfl', ⟨_, rfl, rfl⟩, h⟩
      | some e =>
        refine wpAny_Return_some ?_
        refine Post0.go (V'.zero e α H s _ E S (T.ok_bind h)) ?_
        rintro v s1 α1 sv H1 x1 S1 r1 i1 h1
        exact ⟨α1, .ret sv, ρ, H1, x1, S1, r1, ⟨v, rfl, i1⟩, h1⟩
    case Assign ts e pos =>
      obtain _ | ⟨t, _ | _⟩ := ts <;> try exact h.elim
      exact exA_sound O hsc V'.zero S h
    case For t it body orelse pos =>
      cases orelse <;> try exact h.elim
      exact exF_sound O hsc V'.zero PE (fun PE S h => exs_sound I body PE S h) S h
    case If t a b pos =>
      refine wpAny_If ?_
      refine Post0.go (tru_sound0 O.room V' 9 t S (T.ok_bind h)) ?_
      rintro v s1 α1 t H1 x1 S1 r1 i1 h1
      subst i1
      cases v with
      | true => exact PostS.on x1 r1 (exs_sound I a PE S1 h1)
      | false => exact PostS.on x1 r1 (exs_sound I b PE S1 h1)
    case Expr e pos =>
      refine boolT_el h ?_
      clear h
      intro hc h
      refine wpAny_Expr_any ?_ (interactive_no O) (swaps_no hc)
      refine Post0.go (V'.zero e α H s _ E S (T.ok_bind h)) ?_
      rintro v s1 α1 sv H1 x1 S1 r1 i1 h1
      exact ⟨α1, .next, ρ, H1, x1, S1, r1, rfl, h1⟩
end
end KR
end
section
open PySem PySem.W PyProof.Rows PySem.Calls
set_option Elab.async false
set_option maxRecDepth 100000
set_option maxHeartbeats 4000000
set_option linter.constructorNameAsVariable false
set_option linter.unusedVariables false
set_option linter.unusedSimpArgs false
namespace KR
inductive Pair (α : Al) : List (Str × SV) → List (Str × Value) → Prop
  | nil : Pair α [] []
  | cons {x s v l vs} : s.Is α v → Pair α l vs → Pair α ((x, s) :: l) ((x, v) :: vs)
structure FnRec (f : Nat) (ps : List Str) (dv : List (Str × SV)) (body : List Stmt) (scope : Scope) : Prop where
  look : ∀ P : Params, ∃ (name qual : Str) (params : Arguments) (dV kV doc pm cdv ct oc : Value) (an od : Option Addr) (osl : Array (Option Value)) (dvv : List (Str × Value)),
    (hp P).lookup f = some ⟨oc, od, .func (fnOf name qual params body scope dV kV doc pm an cdv ct), osl⟩ ∧ codeIn (hp P) cdv qual = true ∧
    (∀ (s : Shared) (vs : List Value), (hp P).In s.heap → vs.length = ps.length → BindsTo s (fnOf name qual params body scope dV kV doc pm an cdv ct) ⟨vs, []⟩ (ps.zip vs ++ dvv)) ∧ ∀ α, Pair α dv dvv
  loc : (ps ++ dv.map (·.1)).all (isLoc scope.names) = true
  kind : scope.kind = .function
  gen : scope.isGenerator = false
  co : scope.isCoroutine = false
  cell : (scope.names.all fun x => match x.2 with | .cell => false | _ => true) = true
noncomputable def inL (p : Nat) : List Nat → Bool
  | [] => false
  | q :: r => match Nat.beq p q with
    | true => true
    | false => inL p r
noncomputable def refV : SV → List Nat → List Nat
  | .r p, a => p :: a
  | .cl p, a => p :: a
  | _, a => a
noncomputable def refL : List SV → List Nat → List Nat
  | [], a => a
  | v :: r, a => refV v (refL r a)
noncomputable def refF : List (Str × SV) → List Nat → List Nat
  | [], a => a
  | v :: r, a => refV v.2 (refF r a)
noncomputable def refR : List (Int × Nat) → List Nat → List Nat
  | [], a => a
  | v :: r, a => v.2 :: refR r a
noncomputable def refO : SO → List Nat → List Nat
  | .obj _ fs, a => refF fs a
  | .list l, a => refL l a
  | .tup l, a => refL l a
  | .rows l, a => refR l a
  | .cell (some v), a => refV v a
  | _, a => a
noncomputable def mark (σ : List (Nat × SO)) : Nat → List Nat → List Nat → List Nat
  | 0, _, seen => seen
  | _ + 1, [], seen => seen
  | n + 1, p :: r, seen => match inL p seen with
    | true => mark σ n r seen
    | false => match lk p σ with
      | some o => mark σ n (refO o r) (p :: seen)
      | none => mark σ n r seen
noncomputable def olds (n : Nat) : List (Nat × SO) → List Nat → List Nat
  | [], a => a
  | q :: r, a => match Nat.blt q.1 n with
    | true => q.1 :: olds n r a
    | false => olds n r a
noncomputable def keepσ (l : List Nat) : List (Nat × SO) → List (Nat × SO)
  | [] => []
  | q :: r => match inL q.1 l with
    | true => q :: keepσ l r
    | false => keepσ l r
noncomputable def gc (n : Nat) (v : SV) (H : HS) : HS := ⟨H.nx, keepσ (mark H.σ 300 (refV v (olds n H.σ [])) []) H.σ⟩
theorem Cells.keepσ {w : World} {α : Al} (l : List Nat) {σ lit} (h : Cells w α σ lit) : ∃ lit' r, Cells w α (keepσ l σ) lit' ∧ lit.Perm (lit' ++ r) := by
  induction h with
  | nil => exact ⟨[], [], .nil, .rfl⟩
  | @cons p o a cs σ lit h1 h2 h3 ih =>
    obtain ⟨lit', r, i1, i2⟩ := ih
    unfold KR.keepσ
    cases inL p l with
    | true => exact ⟨cs ++ lit', r, .cons h1 h2 i1, by rw [List.append_assoc]; exact List.Perm.append_left cs i2⟩
    | false => exact ⟨lit', cs ++ r, i1, (List.Perm.append_left cs i2).trans (by
        rw [← List.append_assoc, ← List.append_assoc]
        exact List.Perm.append_right r List.perm_append_comm)⟩
theorem SatX.gc {c : Cx} {own : List (Addr × Obj)} {α : Al} {ρ : Loc} {H : HS} {s : Shared} {m : Str → Option Value} {lit : List (Addr × Obj)} (S : SatX c own α ρ H s m lit) (n : Nat) (v : SV) : ∃ lit', SatX c own α ρ (gc n v H) s m lit' := by
  obtain ⟨lit', r, h1, h2⟩ := S.C.keepσ (mark H.σ 300 (refV v (olds n H.σ [])) [])
  have p : (lit ++ own).Perm (r ++ (lit' ++ own)) := (List.Perm.append_right own (h2.trans List.perm_append_comm)).trans (by rw [List.append_assoc])
  have D := apart_perm' S.D p
  have off : ∀ {r : List (Addr × Obj)}, Apart (adr (r ++ (lit' ++ own))) → Apart (adr (lit' ++ own)) := by
    intro r
    induction r with
    | nil => exact id
    | cons _ _ ih => exact fun D => ih D.2
  exact ⟨lit', S.F, fun q hq => S.N q (p.mem_iff.mpr (List.mem_append_right _ hq)), off D, h1, S.V, S.Z⟩
noncomputable def Out.val : Out → SV
  | .next => .n
  | .ret v => v
noncomputable def runF (Γ : Tab) (ps : List Str) (dv : List (Str × SV)) (body : List Stmt) (scope : Scope) : Fsp := fun args H => match Nat.beq args.length ps.length with
  | true => (exs (ex Γ scope.names 40) body (ps.zip args ++ dv).reverse H).bind fun x => .ret (x.1.val, gc H.nx x.1.val x.2.2)
  | false => .fail
theorem Pair.append {α : Al} {l vs l' vs'} (h : Pair α l vs) (g : Pair α l' vs') : Pair α (l ++ l') (vs ++ vs') := by
  induction h with
  | nil => exact g
  | cons h _ ih => exact .cons h ih
theorem Pair.reverse {α : Al} {l vs} (h : Pair α l vs) : Pair α l.reverse vs.reverse := by
  induction h with
  | nil => exact .nil
  | cons i _ ih => simp only [List.reverse_cons]; exact ih.append (.cons i .nil)
theorem Pair.zip {α : Al} : ∀ {ps : List Str} {l vs}, AreAll α l vs → Pair α (ps.zip l) (ps.zip vs)
  | [], _, _, _ => .nil
  | p :: ps, _, _, .nil => .nil
  | p :: ps, _, _, .cons i j => .cons i (Pair.zip j)
theorem Pair.keys {α : Al} {l vs} (h : Pair α l vs) : vs.map (·.1) = l.map (·.1) := by
  induction h with
  | nil => rfl
  | cons _ _ ih => simp [ih]
theorem Pair.look {α : Al} {x : Str} {sv : SV} {l vs} (h : Pair α l vs) (g : lkS x l = some sv) : ∃ v, List.lookup x vs = some v ∧ sv.Is α v := by
  rw [show List.lookup x vs = lkS x vs from lkS_lookup.symm]
  induction h with
  | nil => cases g
  | @cons y s v l vs i h ih =>
    simp only [lkS] at g ⊢
    cases e : eqS x y with
    | true => rw [e] at g; cases g; exact ⟨v, rfl, i⟩
    | false => rw [e] at g; exact ih g
noncomputable def CodeSound (d : Nat) (f : Nat) (sp : Fsp) : Prop := ∀ (c : Cx), c.Ok d → ∀ own α H s m lit args vs K (R : Result → Shared → Prop) (A : Around), A.handled = none → A.frames = some (c.env :: c.outer) → A.depth + 20 * d ≤ 900 → A.units + 200 * d ≤ 5000 →
  SatX c own α [] H s m lit → AreAll α args vs → (sp args H).ok K → (∀ v s', PostM c own α m s K v s' → R (.ok (.ret v)) s') → codeAny (model Pg c.w) A (.call (.ref f) ⟨vs, []⟩) R s
theorem CodeSound.fn {d f : Nat} {sp : Fsp} (h : CodeSound d f sp) : FnSound d f sp := fun c O own α H s m lit args vs K E S j hk =>
  wpAny_call (h c O own α H s m lit args vs K _ c.A rfl rfl O.hdp O.hun S j hk fun v s' p => p)
theorem fn_core {d f : Nat} {ps : List Str} {dv : List (Str × SV)} {body : List Stmt} {scope : Scope} (FR : FnRec f ps dv body scope) {c : Cx} (O : c.Ok (d + 1)) {own α H s m lit args vs} {R : Result → Shared → Prop} {A : Around} (hA : A.handled = none) (hfr : A.frames = some (c.env :: c.outer)) (hdp : A.depth + 20 * (d + 1) ≤ 900) (hun : A.units + 200 * (d + 1) ≤ 5000)
    (S : SatX c own α [] H s m lit) (j : AreAll α args vs) (hlen : args.length = ps.length) {K : Out × Loc × HS → Prop}
    (hB : ∀ c' : Cx, c'.Ok d → c'.csc = scope → c'.clo = [] → (∀ b o, c.h₀.get? b = some o → c'.h₀.get? b = some o) → ∀ s1 E, PassesOwn (model Pg c'.w) c'.A c'.env E → Sat c' own α (ps.zip args ++ dv).reverse H s1 → wpAny (model Pg c'.w) c'.A (execs body c'.env) (PostS c' own α s1 K) E s1)
    (ret : ∀ v s', PostM c own α m s (fun q => ∃ o ρ H1, q = (o.val, gc H.nx o.val H1) ∧ K (o, ρ, H1)) v s' → R (.ok (.ret v)) s') : codeAny (model Pg c.w) A (.call (.ref f) ⟨vs, []⟩) R s := by
  obtain ⟨name, qual, params, dV, kV, doc, pm, cdv, ct, oc, an, od, osl, dvv, hl, hcd, hb, hdv⟩ := FR.look c.w.params
  have hloc : ∀ y ∈ ps.zip vs ++ dvv, scope.names.lookup y.1 = some .local := by
    have hall := FR.loc
    rw [List.all_eq_true] at hall
    intro y hy
    have : isLoc scope.names y.1 = true := by
      rcases List.mem_append.mp hy with hy | hy
      · exact hall _ (List.mem_append_left _ (List.of_mem_zip hy).1)
      · exact hall _ (List.mem_append_right _ ((hdv α).keys ▸ List.mem_map_of_mem hy))
    unfold isLoc at this
    split at this <;> try cases this
    rename_i e
    rw [← lkS_lookup]; exact e
  refine code_def (K := hp c.w.params) O.B S.F O.X S.N O.T hfr rfl O.hk hl hcd (by simp only [recursionLimit]; lia) (hb s vs (O.X.keeps S.F.keep) (by rw [j.len]; exact hlen)) hloc (fun g L' h₁ FG F' N' B' X' T' => ?_) FR.co FR.gen FR.kind (fun x hx e => by
    have := List.all_eq_true.mp FR.cell x hx
    rw [e] at this; cases this)
  let c' : Cx := ⟨c.w, c.q, c.loose, c.mean, c.mg, c.mb, A.depth + 1, A.units + 3, A.guards, qual, scope, f, cdv, c.env :: c.outer, A, c.base, g, L', []⟩
  have O' : c'.Ok d := ⟨B', X', T', FR.kind, by show A.depth + 1 + 20 * d ≤ 900; lia, by show A.units + 3 + 200 * d ≤ 5000; lia⟩
  have hA' : A.deeper (envOf qual scope L' f cdv) = c'.A := by
    cases A
    cases hA
    cases hfr
    rfl
  have S' : Sat c' own α (ps.zip args ++ dv).reverse H { s with heap := h₁, toks := s.toks + (ps.zip vs ++ dvv).length } :=
    ⟨_, lit, F', N', S.D, S.C, fun x sv hx => by
      obtain ⟨v, h1, h2⟩ := (((Pair.zip j).append (hdv α)).reverse).look hx
      exact LocIs.of h1 h2, S.Z⟩
  rw [hA']
  refine wpAny_mono (hB c' O' rfl rfl FG.keep _ _ PassesOwn.leaving S') (fun fl s' p => ?_) fun _ _ x => x
  obtain ⟨α1, o, ρ1, H1, x1, ⟨m1, lit1, S1⟩, r1, i1, h1⟩ := p
  refine leaveK_ S1.F S1.N fun F N => ?_
  obtain ⟨lit2, S2⟩ := SatX.gc (⟨F, N, S1.D, S1.C, (fun _ _ h => nomatch h), S1.Z⟩ : SatX c own α1 [] H1 s' m lit1) H.nx o.val
  have key : ∀ v, o.val.Is α1 v → R (.ok (.ret v)) s' := fun v iv => ret v s' ⟨α1, o.val, _, lit2, x1, S2, r1, iv, o, ρ1, H1, rfl, h1⟩
  cases o with
  | next => cases i1; exact key .none rfl
  | ret sv => obtain ⟨v, rfl, iv⟩ := i1; exact key v iv
theorem fn_sound {d f : Nat} {Γ : Tab} {ps : List Str} {dv : List (Str × SV)} {body : List Stmt} {scope : Scope} (FR : FnRec f ps dv body scope) (G : TabSound d Γ) : CodeSound (d + 1) f (runF Γ ps dv body scope) := by
  intro c O own α H s m lit args vs K R A hA hfr hdp hun S j h ret
  unfold runF at h
  split at h <;> try exact h.elim
  rename_i hlen
  refine fn_core FR O hA hfr hdp hun S j (Nat.eq_of_beq_eq_true hlen) (fun c' O' hsc _ _ s1 E PE S' => exs_sound (ex_sound G O' (by rw [hsc]) 40) body PE S' (T.ok_bind h)) fun v s' p => ret v s' ?_
  obtain ⟨α', sv, H', lit', h1, h2, h3, h4, o, ρ, H1, e, h5⟩ := p
  cases e
  exact ⟨α', _, _, lit', h1, h2, h3, h4, h5⟩
structure FnRecC (f : Nat) (ps : List Str) (cx : Str) (body : List Stmt) (scope : Scope) : Prop where
  look : ∀ P : Params, ∃ (name qual : Str) (params : Arguments) (dV kV doc pm cdv ct oc : Value) (an od : Option Addr) (osl : Array (Option Value)),
    (hp P).lookup f = some ⟨oc, od, .func (fnOf name qual params body scope dV kV doc pm an cdv ct), osl⟩ ∧ codeIn (hp P) cdv qual = true ∧
    (∀ (s : Shared) (vs : List Value), vs.length = ps.length → BindsTo s (fnOf name qual params body scope dV kV doc pm an cdv ct) ⟨vs, []⟩ (ps.zip vs))
  loc : (ps.all fun x => isLoc scope.names x || eqS x cx) = true
  cell : scope.names.lookup cx = some .cell
  cells : ∀ n, cellsFrom n scope.names [] = [(cx, n)]
  kind : scope.kind = .function
  gen : scope.isGenerator = false
  co : scope.isCoroutine = false
noncomputable def runFB (ps : List Str) (cx : Str) (bs : Loc → HS → T R3) : Fsp := fun args H => match Nat.beq args.length ps.length with
  | true => (bs ((cx, .cl H.nx) :: (ps.zip args).reverse) (H.new (.cell (lkS cx (ps.zip args).reverse)))).bind fun x => .ret (x.1.val, gc H.nx x.1.val x.2.2)
  | false => .fail
noncomputable def runFC (Γ : Tab) (ps : List Str) (cx : Str) (body : List Stmt) (scope : Scope) : Fsp := runFB ps cx (exs (ex Γ scope.names 40) body)
noncomputable def BodyS (d : Nat) (scope : Scope) (body : List Stmt) (bs : Loc → HS → T R3) : Prop := ∀ c : Cx, c.Ok d → c.csc = scope → (∃ n, c.clo = cellsFrom n scope.names []) → ∀ own α ρ H s K E, PassesOwn (model Pg c.w) c.A c.env E → Sat c own α ρ H s → (bs ρ H).ok K → wpAny (model Pg c.w) c.A (execs body c.env) (PostS c own α s K) E s
theorem bindL_look {k : Str → Option NameKind} {y : Str} (hy : k y = some .local) : ∀ (b : List (Str × Value)) (m : Str → Option Value), bindL k b m y = (b.reverse.lookup y).or (m y)
  | [], m => by simp [bindL]
  | (n, v) :: r, m => by
    unfold bindL
    rw [bindL_look hy r, List.reverse_cons, List.lookup_append]
    by_cases h : y = n
    · subst h
      rw [hy, if_pos rfl]
      cases r.reverse.lookup y <;> simp
    · have h' : (y == n) = false := by simpa using h
      by_cases hk : k n = some .local
      · rw [if_pos hk]; cases r.reverse.lookup y <;> simp [h, h', List.lookup_cons]
      · rw [if_neg hk]; cases r.reverse.lookup y <;> simp [h, h', List.lookup_cons]
theorem bindC_look {k : Str → Option NameKind} {y : Str} (hy : k y ≠ some .local) : ∀ (b : List (Str × Value)) (m : Str → Option Value), bindC k b m y = (b.reverse.lookup y).or (m y)
  | [], m => by simp [bindC]
  | (n, v) :: r, m => by
    unfold bindC
    rw [bindC_look hy r, List.reverse_cons, List.lookup_append]
    by_cases h : y = n
    · subst h
      rw [if_neg hy]
      cases r.reverse.lookup y <;> simp
    · have h' : (y == n) = false := by simpa using h
      by_cases hk : k n = some .local
      · rw [if_pos hk]; cases r.reverse.lookup y <;> simp [h, h', List.lookup_cons]
      · rw [if_neg hk]; cases r.reverse.lookup y <;> simp [h, h', List.lookup_cons]
theorem Pair.none {α : Al} {x : Str} {l vs} (h : Pair α l vs) (g : lkS x l = none) : List.lookup x vs = none := by
  rw [show List.lookup x vs = lkS x vs from lkS_lookup.symm]
  induction h with
  | nil => rfl
  | @cons y s v l vs i h ih =>
    simp only [lkS] at g ⊢
    cases e : eqS x y with
    | true => rw [e] at g; cases g
    | false => rw [e] at g; exact ih g
theorem fn_soundB {d f : Nat} {ps : List Str} {cx : Str} {body : List Stmt} {scope : Scope} {bs : Loc → HS → T R3} (FR : FnRecC f ps cx body scope) (hB : BodyS d scope body bs) : CodeSound (d + 1) f (runFB ps cx bs) := by
  intro c O own α H s m lit args vs K R A hA hfr hdp hun S j h ret
  obtain ⟨name, qual, params, dV, kV, doc, pm, cdv, ct, oc, an, od, osl, hl, hcd, hb⟩ := FR.look c.w.params
  unfold runFB at h
  split at h <;> try exact h.elim
  rename_i hlen
  have hlen := Nat.eq_of_beq_eq_true hlen
  have hloc : ∀ y ∈ ps.zip vs, isLoc scope.names y.1 = true ∨ y.1 = cx := by
    have hall := FR.loc
    rw [List.all_eq_true] at hall
    intro y hy
    have := hall _ (List.of_mem_zip hy).1
    rw [Bool.or_eq_true, eqS_iff] at this
    exact this
  have isL : ∀ x, isLoc scope.names x = true → scope.names.lookup x = some .local := by
    intro x hx
    unfold isLoc at hx
    split at hx <;> try cases hx
    rename_i e
    rw [← lkS_lookup]; exact e
  refine codeFC (K := hp c.w.params) (ex := lit ++ own) (own := []) O.B S.F O.X S.N ⟨fun p => by simp, fun D => by simpa using D⟩ S.D O.T hfr rfl O.hk hl hcd (by simp only [recursionLimit]; lia) (hb s vs (by rw [j.len]; exact hlen)) ?_ ?_ (fun g L' h₁ tk cells FG F' N' Y B' X' T' lt _ => ?_) FR.co FR.gen FR.kind
  · rw [List.all_eq_true]
    intro y hy
    rcases hloc y hy with h | h
    · rw [isL _ h]; rfl
    · rw [h, FR.cell]; rfl
  · rw [FR.cells]; simp
  · rw [FR.cells] at Y
    obtain ⟨o, rfl, hd⟩ := Y.one
    have kc : (envOfC qual scope L' f cdv).kindOf cx = some .cell := FR.cell
    rw [bindC_look (by rw [kc]; simp)] at hd
    have hd : o.data = .cell ((ps.zip vs).reverse.lookup cx) := by rw [hd]; cases (ps.zip vs).reverse.lookup cx <;> rfl
    let c' : Cx := ⟨c.w, c.q, c.loose, c.mean, c.mg, c.mb, A.depth + 1, A.units + 3, A.guards, qual, scope, f, cdv, c.env :: c.outer, A, c.base, g, L', cellsFrom (L' + 1) scope.names []⟩
    have O' : c'.Ok d := ⟨B', X', T', FR.kind, by show A.depth + 1 + 20 * d ≤ 900; lia, by show A.units + 3 + 200 * d ≤ 5000; lia⟩
    have hA' : A.deeper (envOfC qual scope L' f cdv) = c'.A := by
      cases A
      cases hA
      cases hfr
      rfl
    have Pz := (Pair.zip (ps := ps) j).reverse
    have e0 := setα_ext (a := L' + 1) (S.Z _ (Nat.le_refl _))
    have Ci : (SO.cell (lkS cx (ps.zip args).reverse)).Is c.w (setα α H.nx (L' + 1)) (L' + 1) [(L' + 1, o)] := by
      cases e : lkS cx (ps.zip args).reverse with
      | none => exact ⟨o, rfl, by rw [hd, Pz.none e]⟩
      | some sv =>
        obtain ⟨v, h1, h2⟩ := Pz.look e
        exact ⟨o, v, rfl, by rw [hd, h1], h2.mono e0⟩
    have S' : Sat c' own (setα α H.nx (L' + 1)) ((cx, .cl H.nx) :: (ps.zip args).reverse) (H.new (.cell (lkS cx (ps.zip args).reverse))) { s with heap := h₁, toks := tk } := by
      refine ⟨_, [(L' + 1, o)] ++ lit, F', by rw [List.append_assoc]; exact N', ?_, .cons setα_same Ci (S.C.mono e0), fun x sv hx => ?_, fun p hp => ?_⟩
      · rw [List.append_assoc]
        refine ⟨fun b hb => ?_, S.D⟩
        obtain ⟨q, hq, rfl⟩ := of_mem_adr hb
        exact Nat.ne_of_gt (Nat.lt_succ_of_lt (lt q hq))
      · simp only [lkS] at hx
        cases e : eqS x cx with
        | true =>
          rw [e] at hx
          cases hx
          rw [eqS_iff.mp e]
          refine ⟨L' + 1, ?_, setα_same⟩
          show (cellsFrom (L' + 1) scope.names []).lookup cx = some (L' + 1)
          rw [FR.cells]; simp
        | false =>
          rw [e] at hx
          obtain ⟨v, h1, h2⟩ := Pz.look hx
          refine LocIs.of ?_ (h2.mono e0)
          have hk : (envOfC qual scope L' f cdv).kindOf x = some .local := by
            have hm : (x, v) ∈ (ps.zip vs).reverse := lkS_mem (by rw [lkS_lookup]; exact h1)
            rcases hloc _ (List.mem_reverse.mp hm) with h | h
            · exact isL _ h
            · exact absurd h (eqS_no.mp e)
          rw [bindL_look hk, h1]; rfl
      · have hp' : H.nx + 1 ≤ p := hp
        have : Nat.beq p H.nx = false := by
          cases e : Nat.beq p H.nx with
          | false => rfl
          | true => have := Nat.eq_of_beq_eq_true e; lia
        simp only [setα, this]
        exact S.Z p (by lia)
    rw [hA']
    refine wpAny_mono (hB c' O' rfl ⟨_, rfl⟩ _ _ _ _ _ _ _ PassesOwn.leaving S' (T.ok_bind h)) (fun fl s' p => ?_) fun _ _ x => x
    obtain ⟨α1, o, ρ1, H1, x1, ⟨m1, lit1, S1⟩, r1, i1, h1⟩ := p
    refine leaveK_ S1.F S1.N fun F N => ?_
    obtain ⟨lit2, S2⟩ := SatX.gc (⟨F, N, S1.D, S1.C, (fun _ _ h => nomatch h), S1.Z⟩ : SatX c own α1 [] H1 s' m lit1) H.nx o.val
    have key : ∀ v, o.val.Is α1 v → R (.ok (.ret v)) s' := fun v iv => ret v s' ⟨α1, o.val, _, lit2, e0.trans x1, S2, r1, iv, h1⟩
    cases o with
    | next => cases i1; exact key .none rfl
    | ret sv => obtain ⟨v, rfl, iv⟩ := i1; exact key v iv
theorem fn_soundC {d f : Nat} {Γ : Tab} {ps : List Str} {cx : Str} {body : List Stmt} {scope : Scope} (FR : FnRecC f ps cx body scope) (G : TabSound d Γ) : CodeSound (d + 1) f (runFC Γ ps cx body scope) :=
  fn_soundB FR fun c O e _ own α ρ H s K E PE S h => by
    subst e
    exact exs_sound (ex_sound G O rfl 40) body PE S h
noncomputable def runC (C : Nat) (sp : Fsp) : Fsp := fun args H => (sp (.r H.nx :: args) (H.new (.obj C []))).bind fun x => match x.1 with
  | .n => .ret (.r H.nx, x.2)
  | _ => .fail
theorem cls_sound {d C f : Nat} {sp : Fsp} (hC : ∀ P, makesIn (hp P) C = true ∧ findIn (hp P) (.ref C) (Str.ofString "__init__") = some (some (.ref f)) ∧ isFn (hp P) (.ref f) = true) (G : CodeSound d f sp) : FnSound (d + 1) C (runC C sp) := by
  intro c O own α H s m lit args vs K E S j h
  obtain ⟨q1, q2, q3⟩ := hC c.w.params
  refine call_cls (K := hp c.w.params) S.F O.X S.N q1 q2 q3 fun x dx h' F' N' l1 l2 => ?_
  have O' : c.Ok d := ⟨O.B, O.X, O.T, O.hk, by have := O.hdp; lia, by have := O.hun; lia⟩
  have S' : SatX c own (setα α H.nx x) [] (H.new (.obj C [])) { s with heap := h' } m _ :=
    S.alloc (cs := [(x, instObj C dx), (dx, dictOf [] 0)]) F' N' ⟨fun b hb => by
      rcases List.mem_cons.mp hb with rfl | hb
      · exact Nat.ne_of_gt l2
      · obtain ⟨q, hq, rfl⟩ := of_mem_adr hb
        exact Nat.ne_of_gt (Nat.lt_trans (l1 q hq) l2), fun b hb => by
        obtain ⟨q, hq, rfl⟩ := of_mem_adr hb
        exact Nat.ne_of_gt (l1 q hq), S.D⟩ ⟨dx, [], rfl, .nil⟩
  have e0 := setα_ext (a := x) (S.Z _ (Nat.le_refl _))
  refine G c O' own _ _ _ m _ (.r H.nx :: args) (.ref x :: vs) _ _ _ rfl rfl ?_ ?_ S' (.cons ⟨x, setα_same, rfl⟩ (AreAll.mono e0 j)) (T.ok_bind h) fun v s' p => ?_
  · have := O.hdp
    show c.dp + 1 + 20 * d ≤ 900
    lia
  · have := O.hun
    first | (show c.un + 1 + 200 * d ≤ 5000; lia) | (show c.un + 4 + 200 * d ≤ 5000; lia)
  · obtain ⟨α1, sv, H1, lit1, x1, S1, r1, i1, h1⟩ := p
    cases sv <;> try exact h1.elim
    cases i1
    exact ⟨rfl, α1, .r H.nx, H1, lit1, e0.trans x1, S1, r1, ⟨x, x1 _ _ setα_same, rfl⟩, h1⟩
end KR
end
section
open PySem PySem.W PyProof.Rows PySem.Calls
set_option Elab.async false
set_option maxRecDepth 100000
set_option maxHeartbeats 4000000
set_option linter.unusedVariables false
namespace KR
theorem len1 {α : Type} {l : List α} (h : l.length = 1) : ∃ a, l = [a] := by
  match l, h with
  | [a], _ => exact ⟨a, rfl⟩
theorem len2 {α : Type} {l : List α} (h : l.length = 2) : ∃ a b, l = [a, b] := by
  match l, h with
  | [a, b], _ => exact ⟨a, b, rfl⟩
theorem len3 {α : Type} {l : List α} (h : l.length = 3) : ∃ a b c, l = [a, b, c] := by
  match l, h with
  | [a, b, c], _ => exact ⟨a, b, c, rfl⟩
theorem len4 {α : Type} {l : List α} (h : l.length = 4) : ∃ a b c d, l = [a, b, c, d] := by
  match l, h with
  | [a, b, c, d], _ => exact ⟨a, b, c, d, rfl⟩
theorem len5 {α : Type} {l : List α} (h : l.length = 5) : ∃ a b c d e, l = [a, b, c, d, e] := by
  match l, h with
  | [a, b, c, d, e], _ => exact ⟨a, b, c, d, e, rfl⟩
theorem len6 {α : Type} {l : List α} (h : l.length = 6) : ∃ a b c d e f, l = [a, b, c, d, e, f] := by
  match l, h with
  | [a, b, c, d, e, f], _ => exact ⟨a, b, c, d, e, f, rfl⟩
theorem fr48 : FnRec 48 ["buffer"] [] bS48.1 fS48.1 where
  look := fun P => ⟨_, _, _, _, _, _, _, _, _, _, _, _, _, _, rfl, rfl, ⟨fun s vs X h => by
    obtain ⟨v0, rfl⟩ := len1 h
    first | exact BindsTo.of_eq rfl | exact binds_K X rfl rfl rfl rfl rfl, fun α => .nil⟩⟩
  loc := by rfl
  kind := rfl
  gen := rfl
  co := rfl
  cell := by rfl
theorem fr55 : FnRec 55 ["buffer", "growth"] [] bS55.1 fS55.1 where
  look := fun P => ⟨_, _, _, _, _, _, _, _, _, _, _, _, _, _, rfl, rfl, ⟨fun s vs X h => by
    obtain ⟨v0, v1, rfl⟩ := len2 h
    first | exact BindsTo.of_eq rfl | exact binds_K X rfl rfl rfl rfl rfl, fun α => .nil⟩⟩
  loc := by rfl
  kind := rfl
  gen := rfl
  co := rfl
  cell := by rfl
theorem fr62 : FnRec 62 ["buffer", "start", "end"] [] bS62.1 fS62.1 where
  look := fun P => ⟨_, _, _, _, _, _, _, _, _, _, _, _, _, _, rfl, rfl, ⟨fun s vs X h => by
    obtain ⟨v0, v1, v2, rfl⟩ := len3 h
    first | exact BindsTo.of_eq rfl | exact binds_K X rfl rfl rfl rfl rfl, fun α => .nil⟩⟩
  loc := by rfl
  kind := rfl
  gen := rfl
  co := rfl
  cell := by rfl
theorem fr69 : FnRec 69 ["buffer", "start", "end"] [] bS69.1 fS69.1 where
  look := fun P => ⟨_, _, _, _, _, _, _, _, _, _, _, _, _, _, rfl, rfl, ⟨fun s vs X h => by
    obtain ⟨v0, v1, v2, rfl⟩ := len3 h
    first | exact BindsTo.of_eq rfl | exact binds_K X rfl rfl rfl rfl rfl, fun α => .nil⟩⟩
  loc := by rfl
  kind := rfl
  gen := rfl
  co := rfl
  cell := by rfl
theorem fr76 : FnRec 76 ["buffer", "start", "end", "old_length"] [] bS76.1 fS76.1 where
  look := fun P => ⟨_, _, _, _, _, _, _, _, _, _, _, _, _, _, rfl, rfl, ⟨fun s vs X h => by
    obtain ⟨v0, v1, v2, v3, rfl⟩ := len4 h
    first | exact BindsTo.of_eq rfl | exact binds_K X rfl rfl rfl rfl rfl, fun α => .nil⟩⟩
  loc := by rfl
  kind := rfl
  gen := rfl
  co := rfl
  cell := by rfl
theorem fr83 : FnRec 83 ["buffer", "start", "end"] [] bS83.1 fS83.1 where
  look := fun P => ⟨_, _, _, _, _, _, _, _, _, _, _, _, _, _, rfl, rfl, ⟨fun s vs X h => by
    obtain ⟨v0, v1, v2, rfl⟩ := len3 h
    first | exact BindsTo.of_eq rfl | exact binds_K X rfl rfl rfl rfl rfl, fun α => .nil⟩⟩
  loc := by rfl
  kind := rfl
  gen := rfl
  co := rfl
  cell := by rfl
theorem fr90 : FnRec 90 ["buffer", "place", "codes"] [] bS90.1 fS90.1 where
  look := fun P => ⟨_, _, _, _, _, _, _, _, _, _, _, _, _, _, rfl, rfl, ⟨fun s vs X h => by
    obtain ⟨v0, v1, v2, rfl⟩ := len3 h
    first | exact BindsTo.of_eq rfl | exact binds_K X rfl rfl rfl rfl rfl, fun α => .nil⟩⟩
  loc := by rfl
  kind := rfl
  gen := rfl
  co := rfl
  cell := by rfl
theorem fr97 : FnRec 97 ["buffer", "start", "end"] [] bS97.1 fS97.1 where
  look := fun P => ⟨_, _, _, _, _, _, _, _, _, _, _, _, _, _, rfl, rfl, ⟨fun s vs X h => by
    obtain ⟨v0, v1, v2, rfl⟩ := len3 h
    first | exact BindsTo.of_eq rfl | exact binds_K X rfl rfl rfl rfl rfl, fun α => .nil⟩⟩
  loc := by rfl
  kind := rfl
  gen := rfl
  co := rfl
  cell := by rfl
theorem fr104 : FnRec 104 ["buffer", "place", "many", "before_markers"] [] bS104.1 fS104.1 where
  look := fun P => ⟨_, _, _, _, _, _, _, _, _, _, _, _, _, _, rfl, rfl, ⟨fun s vs X h => by
    obtain ⟨v0, v1, v2, v3, rfl⟩ := len4 h
    first | exact BindsTo.of_eq rfl | exact binds_K X rfl rfl rfl rfl rfl, fun α => .nil⟩⟩
  loc := by rfl
  kind := rfl
  gen := rfl
  co := rfl
  cell := by rfl
theorem fr111 : FnRec 111 ["buffer", "place", "codes", "before_markers", "is_point_behind"] [] bS111.1 fS111.1 where
  look := fun P => ⟨_, _, _, _, _, _, _, _, _, _, _, _, _, _, rfl, rfl, ⟨fun s vs X h => by
    obtain ⟨v0, v1, v2, v3, v4, rfl⟩ := len5 h
    first | exact BindsTo.of_eq rfl | exact binds_K X rfl rfl rfl rfl rfl, fun α => .nil⟩⟩
  loc := by rfl
  kind := rfl
  gen := rfl
  co := rfl
  cell := by rfl
theorem fr119 : FnRec 119 ["buffer", "codes"] [("before_markers", .b false)] bS119.1 fS119.1 where
  look := fun P => ⟨_, _, _, _, _, _, _, _, _, _, _, _, _, _, rfl, rfl, ⟨fun s vs X h => by
    obtain ⟨v0, v1, rfl⟩ := len2 h
    first | exact BindsTo.of_eq rfl | exact binds_K X rfl rfl rfl rfl rfl, fun α => .cons rfl (.nil)⟩⟩
  loc := by rfl
  kind := rfl
  gen := rfl
  co := rfl
  cell := by rfl
theorem fr126 : FnRec 126 ["buffer", "start", "end"] [] bS126.1 fS126.1 where
  look := fun P => ⟨_, _, _, _, _, _, _, _, _, _, _, _, _, _, rfl, rfl, ⟨fun s vs X h => by
    obtain ⟨v0, v1, v2, rfl⟩ := len3 h
    first | exact BindsTo.of_eq rfl | exact binds_K X rfl rfl rfl rfl rfl, fun α => .nil⟩⟩
  loc := by rfl
  kind := rfl
  gen := rfl
  co := rfl
  cell := by rfl
theorem fr168 : FnRec 168 ["self", "codes", "runs"] [] bS168.1 fS168.1 where
  look := fun P => ⟨_, _, _, _, _, _, _, _, _, _, _, _, _, _, rfl, rfl, ⟨fun s vs X h => by
    obtain ⟨v0, v1, v2, rfl⟩ := len3 h
    first | exact BindsTo.of_eq rfl | exact binds_K X rfl rfl rfl rfl rfl, fun α => .nil⟩⟩
  loc := by rfl
  kind := rfl
  gen := rfl
  co := rfl
  cell := by rfl
theorem fr182 : FnRec 182 ["runs"] [] bS182.1 fS182.1 where
  look := fun P => ⟨_, _, _, _, _, _, _, _, _, _, _, _, _, _, rfl, rfl, ⟨fun s vs X h => by
    obtain ⟨v0, rfl⟩ := len1 h
    first | exact BindsTo.of_eq rfl | exact binds_K X rfl rfl rfl rfl rfl, fun α => .nil⟩⟩
  loc := by rfl
  kind := rfl
  gen := rfl
  co := rfl
  cell := by rfl
theorem fr194 : FnRec 194 ["one", "other"] [] bS194.1 fS194.1 where
  look := fun P => ⟨_, _, _, _, _, _, _, _, _, _, _, _, _, _, rfl, rfl, ⟨fun s vs X h => by
    obtain ⟨v0, v1, rfl⟩ := len2 h
    first | exact BindsTo.of_eq rfl | exact binds_K X rfl rfl rfl rfl rfl, fun α => .nil⟩⟩
  loc := by rfl
  kind := rfl
  gen := rfl
  co := rfl
  cell := by rfl
theorem fr213 : FnRec 213 ["self", "most"] [] bS213.1 fS213.1 where
  look := fun P => ⟨_, _, _, _, _, _, _, _, _, _, _, _, _, _, rfl, rfl, ⟨fun s vs X h => by
    obtain ⟨v0, v1, rfl⟩ := len2 h
    first | exact BindsTo.of_eq rfl | exact binds_K X rfl rfl rfl rfl rfl, fun α => .nil⟩⟩
  loc := by rfl
  kind := rfl
  gen := rfl
  co := rfl
  cell := by rfl
theorem fr227 : FnRec 227 ["ring", "piece", "is_replacing"] [] bS227.1 fS227.1 where
  look := fun P => ⟨_, _, _, _, _, _, _, _, _, _, _, _, _, _, rfl, rfl, ⟨fun s vs X h => by
    obtain ⟨v0, v1, v2, rfl⟩ := len3 h
    first | exact BindsTo.of_eq rfl | exact binds_K X rfl rfl rfl rfl rfl, fun α => .nil⟩⟩
  loc := by rfl
  kind := rfl
  gen := rfl
  co := rfl
  cell := by rfl
theorem fr234 : FnRec 234 ["ring", "piece", "is_ahead"] [] bS234.1 fS234.1 where
  look := fun P => ⟨_, _, _, _, _, _, _, _, _, _, _, _, _, _, rfl, rfl, ⟨fun s vs X h => by
    obtain ⟨v0, v1, v2, rfl⟩ := len3 h
    first | exact BindsTo.of_eq rfl | exact binds_K X rfl rfl rfl rfl rfl, fun α => .nil⟩⟩
  loc := by rfl
  kind := rfl
  gen := rfl
  co := rfl
  cell := by rfl
theorem fr241 : FnRec 241 ["ring", "by", "keeps_pointer"] [] bS241.1 fS241.1 where
  look := fun P => ⟨_, _, _, _, _, _, _, _, _, _, _, _, _, _, rfl, rfl, ⟨fun s vs X h => by
    obtain ⟨v0, v1, v2, rfl⟩ := len3 h
    first | exact BindsTo.of_eq rfl | exact binds_K X rfl rfl rfl rfl rfl, fun α => .nil⟩⟩
  loc := by rfl
  kind := rfl
  gen := rfl
  co := rfl
  cell := by rfl
theorem fr290 : FnRec 290 ["self", "number", "advances"] [] bS290.1 fS290.1 where
  look := fun P => ⟨_, _, _, _, _, _, _, _, _, _, _, _, _, _, rfl, rfl, ⟨fun s vs X h => by
    obtain ⟨v0, v1, v2, rfl⟩ := len3 h
    first | exact BindsTo.of_eq rfl | exact binds_K X rfl rfl rfl rfl rfl, fun α => .nil⟩⟩
  loc := by rfl
  kind := rfl
  gen := rfl
  co := rfl
  cell := by rfl
theorem fr330 : FnRec 330 ["self"] [] bS330.1 fS330.1 where
  look := fun P => ⟨_, _, _, _, _, _, _, _, _, _, _, _, _, _, rfl, rfl, ⟨fun s vs X h => by
    obtain ⟨v0, rfl⟩ := len1 h
    first | exact BindsTo.of_eq rfl | exact binds_K X rfl rfl rfl rfl rfl, fun α => .nil⟩⟩
  loc := by rfl
  kind := rfl
  gen := rfl
  co := rfl
  cell := by rfl
theorem fr337 : FnRec 337 ["self"] [] bS337.1 fS337.1 where
  look := fun P => ⟨_, _, _, _, _, _, _, _, _, _, _, _, _, _, rfl, rfl, ⟨fun s vs X h => by
    obtain ⟨v0, rfl⟩ := len1 h
    first | exact BindsTo.of_eq rfl | exact binds_K X rfl rfl rfl rfl rfl, fun α => .nil⟩⟩
  loc := by rfl
  kind := rfl
  gen := rfl
  co := rfl
  cell := by rfl
theorem fr344 : FnRec 344 ["self", "marker", "position"] [] bS344.1 fS344.1 where
  look := fun P => ⟨_, _, _, _, _, _, _, _, _, _, _, _, _, _, rfl, rfl, ⟨fun s vs X h => by
    obtain ⟨v0, v1, v2, rfl⟩ := len3 h
    first | exact BindsTo.of_eq rfl | exact binds_K X rfl rfl rfl rfl rfl, fun α => .nil⟩⟩
  loc := by rfl
  kind := rfl
  gen := rfl
  co := rfl
  cell := by rfl
theorem fr365 : FnRec 365 ["self", "start", "end", "is_before"] [] bS365.1 fS365.1 where
  look := fun P => ⟨_, _, _, _, _, _, _, _, _, _, _, _, _, _, rfl, rfl, ⟨fun s vs X h => by
    obtain ⟨v0, v1, v2, v3, rfl⟩ := len4 h
    first | exact BindsTo.of_eq rfl | exact binds_K X rfl rfl rfl rfl rfl, fun α => .nil⟩⟩
  loc := by rfl
  kind := rfl
  gen := rfl
  co := rfl
  cell := by rfl
theorem fr372 : FnRec 372 ["self", "start", "end"] [] bS372.1 fS372.1 where
  look := fun P => ⟨_, _, _, _, _, _, _, _, _, _, _, _, _, _, rfl, rfl, ⟨fun s vs X h => by
    obtain ⟨v0, v1, v2, rfl⟩ := len3 h
    first | exact BindsTo.of_eq rfl | exact binds_K X rfl rfl rfl rfl rfl, fun α => .nil⟩⟩
  loc := by rfl
  kind := rfl
  gen := rfl
  co := rfl
  cell := by rfl
theorem fr393 : FnRec 393 ["marker", "buffer", "place"] [] bS393.1 fS393.1 where
  look := fun P => ⟨_, _, _, _, _, _, _, _, _, _, _, _, _, _, rfl, rfl, ⟨fun s vs X h => by
    obtain ⟨v0, v1, v2, rfl⟩ := len3 h
    first | exact BindsTo.of_eq rfl | exact binds_K X rfl rfl rfl rfl rfl, fun α => .nil⟩⟩
  loc := by rfl
  kind := rfl
  gen := rfl
  co := rfl
  cell := by rfl
theorem fr407 : FnRec 407 ["self", "most"] [] bS407.1 fS407.1 where
  look := fun P => ⟨_, _, _, _, _, _, _, _, _, _, _, _, _, _, rfl, rfl, ⟨fun s vs X h => by
    obtain ⟨v0, v1, rfl⟩ := len2 h
    first | exact BindsTo.of_eq rfl | exact binds_K X rfl rfl rfl rfl rfl, fun α => .nil⟩⟩
  loc := by rfl
  kind := rfl
  gen := rfl
  co := rfl
  cell := by rfl
theorem fr421 : FnRec 421 ["buffer", "place"] [] bS421.1 fS421.1 where
  look := fun P => ⟨_, _, _, _, _, _, _, _, _, _, _, _, _, _, rfl, rfl, ⟨fun s vs X h => by
    obtain ⟨v0, v1, rfl⟩ := len2 h
    first | exact BindsTo.of_eq rfl | exact binds_K X rfl rfl rfl rfl rfl, fun α => .nil⟩⟩
  loc := by rfl
  kind := rfl
  gen := rfl
  co := rfl
  cell := by rfl
theorem fr428 : FnRec 428 ["buffer"] [] bS428.1 fS428.1 where
  look := fun P => ⟨_, _, _, _, _, _, _, _, _, _, _, _, _, _, rfl, rfl, ⟨fun s vs X h => by
    obtain ⟨v0, rfl⟩ := len1 h
    first | exact BindsTo.of_eq rfl | exact binds_K X rfl rfl rfl rfl rfl, fun α => .nil⟩⟩
  loc := by rfl
  kind := rfl
  gen := rfl
  co := rfl
  cell := by rfl
theorem fr435 : FnRec 435 ["buffer"] [] bS435.1 fS435.1 where
  look := fun P => ⟨_, _, _, _, _, _, _, _, _, _, _, _, _, _, rfl, rfl, ⟨fun s vs X h => by
    obtain ⟨v0, rfl⟩ := len1 h
    first | exact BindsTo.of_eq rfl | exact binds_K X rfl rfl rfl rfl rfl, fun α => .nil⟩⟩
  loc := by rfl
  kind := rfl
  gen := rfl
  co := rfl
  cell := by rfl
theorem fr442 : FnRec 442 ["ring", "buffer", "place"] [] bS442.1 fS442.1 where
  look := fun P => ⟨_, _, _, _, _, _, _, _, _, _, _, _, _, _, rfl, rfl, ⟨fun s vs X h => by
    obtain ⟨v0, v1, v2, rfl⟩ := len3 h
    first | exact BindsTo.of_eq rfl | exact binds_K X rfl rfl rfl rfl rfl, fun α => .nil⟩⟩
  loc := by rfl
  kind := rfl
  gen := rfl
  co := rfl
  cell := by rfl
theorem fr449 : FnRec 449 ["ring", "buffer", "place"] [] bS449.1 fS449.1 where
  look := fun P => ⟨_, _, _, _, _, _, _, _, _, _, _, _, _, _, rfl, rfl, ⟨fun s vs X h => by
    obtain ⟨v0, v1, v2, rfl⟩ := len3 h
    first | exact BindsTo.of_eq rfl | exact binds_K X rfl rfl rfl rfl rfl, fun α => .nil⟩⟩
  loc := by rfl
  kind := rfl
  gen := rfl
  co := rfl
  cell := by rfl
theorem fr454 : FnRec 454 ["buffer", "start", "end"] [] bS454.1 fS454.1 where
  look := fun P => ⟨_, _, _, _, _, _, _, _, _, _, _, _, _, _, rfl, rfl, ⟨fun s vs X h => by
    obtain ⟨v0, v1, v2, rfl⟩ := len3 h
    first | exact BindsTo.of_eq rfl | exact binds_K X rfl rfl rfl rfl rfl, fun α => .nil⟩⟩
  loc := by rfl
  kind := rfl
  gen := rfl
  co := rfl
  cell := by rfl
theorem fr471 : FnRec 471 ["ring", "piece", "goes_on", "is_ahead"] [] bS471.1 fS471.1 where
  look := fun P => ⟨_, _, _, _, _, _, _, _, _, _, _, _, _, _, rfl, rfl, ⟨fun s vs X h => by
    obtain ⟨v0, v1, v2, v3, rfl⟩ := len4 h
    first | exact BindsTo.of_eq rfl | exact binds_K X rfl rfl rfl rfl rfl, fun α => .nil⟩⟩
  loc := by rfl
  kind := rfl
  gen := rfl
  co := rfl
  cell := by rfl
theorem fr478 : FnRec 478 ["buffer", "ring", "start", "end", "goes_on"] [] bS478.1 fS478.1 where
  look := fun P => ⟨_, _, _, _, _, _, _, _, _, _, _, _, _, _, rfl, rfl, ⟨fun s vs X h => by
    obtain ⟨v0, v1, v2, v3, v4, rfl⟩ := len5 h
    first | exact BindsTo.of_eq rfl | exact binds_K X rfl rfl rfl rfl rfl, fun α => .nil⟩⟩
  loc := by rfl
  kind := rfl
  gen := rfl
  co := rfl
  cell := by rfl
theorem fr492 : FnRec 492 ["buffer", "ring", "marks", "count", "is_swapped", "excluded"] [] bS492.1 fS492.1 where
  look := fun P => ⟨_, _, _, _, _, _, _, _, _, _, _, _, _, _, rfl, rfl, ⟨fun s vs X h => by
    obtain ⟨v0, v1, v2, v3, v4, v5, rfl⟩ := len6 h
    first | exact BindsTo.of_eq rfl | exact binds_K X rfl rfl rfl rfl rfl, fun α => .nil⟩⟩
  loc := by rfl
  kind := rfl
  gen := rfl
  co := rfl
  cell := by rfl
theorem fr506 : FnRec 506 ["self", "codes", "room"] [] bS506.1 fS506.1 where
  look := fun P => ⟨_, _, _, _, _, _, _, _, _, _, _, _, _, _, rfl, rfl, ⟨fun s vs X h => by
    obtain ⟨v0, v1, v2, rfl⟩ := len3 h
    first | exact BindsTo.of_eq rfl | exact binds_K X rfl rfl rfl rfl rfl, fun α => .nil⟩⟩
  loc := by rfl
  kind := rfl
  gen := rfl
  co := rfl
  cell := by rfl
theorem fr513 : FnRec 513 ["self"] [] bS513.1 fS513.1 where
  look := fun P => ⟨_, _, _, _, _, _, _, _, _, _, _, _, _, _, rfl, rfl, ⟨fun s vs X h => by
    obtain ⟨v0, rfl⟩ := len1 h
    first | exact BindsTo.of_eq rfl | exact binds_K X rfl rfl rfl rfl rfl, fun α => .nil⟩⟩
  loc := by rfl
  kind := rfl
  gen := rfl
  co := rfl
  cell := by rfl
theorem fr527 : FnRec 527 ["self", "start", "end"] [] bS527.1 fS527.1 where
  look := fun P => ⟨_, _, _, _, _, _, _, _, _, _, _, _, _, _, rfl, rfl, ⟨fun s vs X h => by
    obtain ⟨v0, v1, v2, rfl⟩ := len3 h
    first | exact BindsTo.of_eq rfl | exact binds_K X rfl rfl rfl rfl rfl, fun α => .nil⟩⟩
  loc := by rfl
  kind := rfl
  gen := rfl
  co := rfl
  cell := by rfl
theorem fr534 : FnRec 534 ["self", "at"] [] bS534.1 fS534.1 where
  look := fun P => ⟨_, _, _, _, _, _, _, _, _, _, _, _, _, _, rfl, rfl, ⟨fun s vs X h => by
    obtain ⟨v0, v1, rfl⟩ := len2 h
    first | exact BindsTo.of_eq rfl | exact binds_K X rfl rfl rfl rfl rfl, fun α => .nil⟩⟩
  loc := by rfl
  kind := rfl
  gen := rfl
  co := rfl
  cell := by rfl
theorem fr541 : FnRec 541 ["self", "wanted"] [] bS541.1 fS541.1 where
  look := fun P => ⟨_, _, _, _, _, _, _, _, _, _, _, _, _, _, rfl, rfl, ⟨fun s vs X h => by
    obtain ⟨v0, v1, rfl⟩ := len2 h
    first | exact BindsTo.of_eq rfl | exact binds_K X rfl rfl rfl rfl rfl, fun α => .nil⟩⟩
  loc := by rfl
  kind := rfl
  gen := rfl
  co := rfl
  cell := by rfl
theorem fr548 : FnRec 548 ["self", "at", "codes"] [] bS548.1 fS548.1 where
  look := fun P => ⟨_, _, _, _, _, _, _, _, _, _, _, _, _, _, rfl, rfl, ⟨fun s vs X h => by
    obtain ⟨v0, v1, v2, rfl⟩ := len3 h
    first | exact BindsTo.of_eq rfl | exact binds_K X rfl rfl rfl rfl rfl, fun α => .nil⟩⟩
  loc := by rfl
  kind := rfl
  gen := rfl
  co := rfl
  cell := by rfl
theorem fr555 : FnRec 555 ["self", "start", "end"] [] bS555.1 fS555.1 where
  look := fun P => ⟨_, _, _, _, _, _, _, _, _, _, _, _, _, _, rfl, rfl, ⟨fun s vs X h => by
    obtain ⟨v0, v1, v2, rfl⟩ := len3 h
    first | exact BindsTo.of_eq rfl | exact binds_K X rfl rfl rfl rfl rfl, fun α => .nil⟩⟩
  loc := by rfl
  kind := rfl
  gen := rfl
  co := rfl
  cell := by rfl
theorem fr598 : FnRec 598 ["self", "number", "name"] [("room", .i 8)] bS598.1 fS598.1 where
  look := fun P => ⟨_, _, _, _, _, _, _, _, _, _, _, _, _, _, rfl, rfl, ⟨fun s vs X h => by
    obtain ⟨v0, v1, v2, rfl⟩ := len3 h
    first | exact BindsTo.of_eq rfl | exact binds_K X rfl rfl rfl rfl rfl, fun α => .cons ⟨_, rfl⟩ (.nil)⟩⟩
  loc := by rfl
  kind := rfl
  gen := rfl
  co := rfl
  cell := by rfl
theorem fr633 : FnRec 633 ["self"] [] bS633.1 fS633.1 where
  look := fun P => ⟨_, _, _, _, _, _, _, _, _, _, _, _, _, _, rfl, rfl, ⟨fun s vs X h => by
    obtain ⟨v0, rfl⟩ := len1 h
    first | exact BindsTo.of_eq rfl | exact binds_K X rfl rfl rfl rfl rfl, fun α => .nil⟩⟩
  loc := by rfl
  kind := rfl
  gen := rfl
  co := rfl
  cell := by rfl
theorem fr647 : FnRec 647 ["self", "start", "end"] [] bS647.1 fS647.1 where
  look := fun P => ⟨_, _, _, _, _, _, _, _, _, _, _, _, _, _, rfl, rfl, ⟨fun s vs X h => by
    obtain ⟨v0, v1, v2, rfl⟩ := len3 h
    first | exact BindsTo.of_eq rfl | exact binds_K X rfl rfl rfl rfl rfl, fun α => .nil⟩⟩
  loc := by rfl
  kind := rfl
  gen := rfl
  co := rfl
  cell := by rfl
theorem fr654 : FnRec 654 ["self", "place"] [] bS654.1 fS654.1 where
  look := fun P => ⟨_, _, _, _, _, _, _, _, _, _, _, _, _, _, rfl, rfl, ⟨fun s vs X h => by
    obtain ⟨v0, v1, rfl⟩ := len2 h
    first | exact BindsTo.of_eq rfl | exact binds_K X rfl rfl rfl rfl rfl, fun α => .nil⟩⟩
  loc := by rfl
  kind := rfl
  gen := rfl
  co := rfl
  cell := by rfl
theorem fr682 : FnRec 682 ["self", "are_codes"] [] bS682.1 fS682.1 where
  look := fun P => ⟨_, _, _, _, _, _, _, _, _, _, _, _, _, _, rfl, rfl, ⟨fun s vs X h => by
    obtain ⟨v0, v1, rfl⟩ := len2 h
    first | exact BindsTo.of_eq rfl | exact binds_K X rfl rfl rfl rfl rfl, fun α => .nil⟩⟩
  loc := by rfl
  kind := rfl
  gen := rfl
  co := rfl
  cell := by rfl
theorem fr692 : FnRec 692 ["script"] [] bS692.1 fS692.1 where
  look := fun P => ⟨_, _, _, _, _, _, _, _, _, _, _, _, _, _, rfl, rfl, ⟨fun s vs X h => by
    obtain ⟨v0, rfl⟩ := len1 h
    first | exact BindsTo.of_eq rfl | exact binds_K X rfl rfl rfl rfl rfl, fun α => .nil⟩⟩
  loc := by rfl
  kind := rfl
  gen := rfl
  co := rfl
  cell := by rfl
theorem fr699 : FnRec 699 ["deck", "many"] [] bS699.1 fS699.1 where
  look := fun P => ⟨_, _, _, _, _, _, _, _, _, _, _, _, _, _, rfl, rfl, ⟨fun s vs X h => by
    obtain ⟨v0, v1, rfl⟩ := len2 h
    first | exact BindsTo.of_eq rfl | exact binds_K X rfl rfl rfl rfl rfl, fun α => .nil⟩⟩
  loc := by rfl
  kind := rfl
  gen := rfl
  co := rfl
  cell := by rfl
theorem fr706 : FnRec 706 ["codes", "place"] [] bS706.1 fS706.1 where
  look := fun P => ⟨_, _, _, _, _, _, _, _, _, _, _, _, _, _, rfl, rfl, ⟨fun s vs X h => by
    obtain ⟨v0, v1, rfl⟩ := len2 h
    first | exact BindsTo.of_eq rfl | exact binds_K X rfl rfl rfl rfl rfl, fun α => .nil⟩⟩
  loc := by rfl
  kind := rfl
  gen := rfl
  co := rfl
  cell := by rfl
theorem fr187 : FnRecC 187 ["runs", "by"] "by" bS187.1 fS187.1 where
  look := fun P => ⟨_, _, _, _, _, _, _, _, _, _, _, _, _, rfl, rfl, fun s vs h => by
    obtain ⟨v0, v1, rfl⟩ := len2 h
    exact BindsTo.of_eq rfl⟩
  loc := by rfl
  cell := by rfl
  cells := fun n => by rfl
  kind := rfl
  gen := rfl
  co := rfl
theorem fr199 : FnRecC 199 ["piece", "numbers"] "numbers" bS199.1 fS199.1 where
  look := fun P => ⟨_, _, _, _, _, _, _, _, _, _, _, _, _, rfl, rfl, fun s vs h => by
    obtain ⟨v0, v1, rfl⟩ := len2 h
    exact BindsTo.of_eq rfl⟩
  loc := by rfl
  cell := by rfl
  cells := fun n => by rfl
  kind := rfl
  gen := rfl
  co := rfl
theorem fr459 : FnRecC 459 ["buffer", "start", "end"] "start" bS459.1 fS459.1 where
  look := fun P => ⟨_, _, _, _, _, _, _, _, _, _, _, _, _, rfl, rfl, fun s vs h => by
    obtain ⟨v0, v1, v2, rfl⟩ := len3 h
    exact BindsTo.of_eq rfl⟩
  loc := by rfl
  cell := by rfl
  cells := fun n => by rfl
  kind := rfl
  gen := rfl
  co := rfl
theorem fr464 : FnRecC 464 ["buffer", "piece"] "start" bS464.1 fS464.1 where
  look := fun P => ⟨_, _, _, _, _, _, _, _, _, _, _, _, _, rfl, rfl, fun s vs h => by
    obtain ⟨v0, v1, rfl⟩ := len2 h
    exact BindsTo.of_eq rfl⟩
  loc := by rfl
  cell := by rfl
  cells := fun n => by rfl
  kind := rfl
  gen := rfl
  co := rfl
end KR
end
section
open PySem PySem.W PyProof.Rows PySem.Calls
set_option Elab.async false
set_option maxRecDepth 100000
set_option maxHeartbeats 4000000
set_option linter.constructorNameAsVariable false
set_option linter.unusedVariables false
namespace KR
noncomputable def rm (p : Nat) : List (Nat × SO) → List (Nat × SO)
  | [] => []
  | (q, o) :: r => match Nat.beq p q with
    | true => r
    | false => (q, o) :: rm p r
theorem Cells.take {w : World} {α : Al} {p : Nat} {o : SO} : ∀ {σ lit}, Cells w α σ lit → lk p σ = some o → ∃ a cs r, α p = some a ∧ o.Is w α a cs ∧ Cells w α (rm p σ) r ∧ lit.Perm (cs ++ r) := by
  intro σ lit C
  induction C with
  | nil => intro h; cases h
  | @cons q oq a cs σ lit h1 h2 h3 ih =>
    intro h
    simp only [lk] at h
    cases e : Nat.beq p q with
    | true =>
      rw [e] at h
      cases h
      have := Nat.eq_of_beq_eq_true e
      subst this
      refine ⟨a, cs, lit, h1, h2, ?_, .rfl⟩
      simpa only [rm, e] using h3
    | false =>
      rw [e] at h
      obtain ⟨b, cb, r, i1, i2, i3, i4⟩ := ih h
      refine ⟨b, cb, cs ++ r, i1, i2, ?_, ?_⟩
      · simp only [rm, e]
        exact .cons h1 h2 i3
      · refine (List.Perm.append_left cs i4).trans ?_
        rw [← List.append_assoc, ← List.append_assoc]
        exact List.Perm.append_right r List.perm_append_comm
noncomputable def rmAll : List (Nat × SO) → List (Nat × SO) → List (Nat × SO)
  | [], σ => σ
  | (p, _) :: q, σ => rmAll q (rm p σ)
noncomputable def stands : List (Nat × SO) → List (Nat × SO) → Prop
  | [], _ => True
  | (p, o) :: q, σ => lk p σ = some o ∧ stands q (rm p σ)
theorem Cells.carve {w : World} {α : Al} : ∀ {q σ lit}, Cells w α σ lit → stands q σ → ∃ l r, Cells w α q l ∧ Cells w α (rmAll q σ) r ∧ lit.Perm (l ++ r)
  | [], _, lit, C, _ => ⟨[], lit, .nil, C, .rfl⟩
  | (p, o) :: q, σ, lit, C, h => by
    obtain ⟨a, cs, r, h1, h2, h3, h4⟩ := C.take h.1
    obtain ⟨l, r', g1, g2, g3⟩ := Cells.carve h3 h.2
    exact ⟨cs ++ l, r', .cons h1 h2 g1, g2, h4.trans (by rw [List.append_assoc]; exact List.Perm.append_left cs g3)⟩
theorem apart_perm {a b : List (Addr × Obj)} (D : Apart (adr a)) (p : a.Perm b) : Apart (adr b) := by
  rw [adr_eq] at D ⊢
  rw [apart_iff] at D ⊢
  exact (List.Perm.pairwise_iff (fun h e => h e.symm) (p.map _)).mp D
theorem apart_right {a b : List (Addr × Obj)} (D : Apart (adr (a ++ b))) : Apart (adr b) := apart_left' (apart_perm D List.perm_append_comm)
section
variable {c : Cx} {own own' : List (Addr × Obj)} {α β : Al} {H H' : HS} {s : Shared} {m : Str → Option Value} {lit lit' : List (Addr × Obj)}
theorem SatX.see (S : SatX c own α [] H s m lit) (p : (lit ++ own).Perm (lit' ++ own')) (C : Cells c.w β H'.σ lit') (Z : ∀ p, H'.nx ≤ p → β p = none) : SatX c own' β [] H' s m lit' :=
  ⟨S.F, S.N.perm fun q hq => p.mem_iff.mpr hq, apart_perm S.D p, C, fun _ _ h => (nomatch h), Z⟩
end
noncomputable def only (ns : List Nat) (α : Al) : Al := fun p => match inL p ns with
  | true => α p
  | false => none
theorem only_in {ns : List Nat} {α : Al} {p : Nat} (h : inL p ns = true) : only ns α p = α p := by simp [only, h]
theorem only_out {ns : List Nat} {α : Al} {p : Nat} (h : inL p ns = false) : only ns α p = none := by simp [only, h]
theorem only_ext {ns : List Nat} {α β : Al} (h : ∀ p a, inL p ns = true → α p = some a → β p = some a) : Ext (only ns α) β := by
  intro p a e
  cases g : inL p ns with
  | true => rw [only_in g] at e; exact h p a g e
  | false => rw [only_out g] at e; cases e
noncomputable def svIn (ns : List Nat) : SV → Bool
  | .r p => inL p ns
  | _ => true
noncomputable def soIn (ns : List Nat) : SO → Bool
  | .obj _ fs => fs.all fun q => svIn ns q.2
  | .list l => l.all (svIn ns)
  | .tup l => l.all (svIn ns)
  | .rows l => l.all fun q => inL q.2 ns
  | .cell (some v) => svIn ns v
  | _ => true
theorem SV.Is.only {α : Al} {ns : List Nat} : ∀ {s : SV} {v : Value}, svIn ns s = true → s.Is α v → s.Is (only ns α) v
  | .i _, _, _, h | .n, _, _, h | .b _, _, _, h | .c _, _, _, h | .u, _, _, h | .x, _, _, h | .g _, _, _, h | .f _, _, _, h | .cl _, _, _, h | .j _, _, _, h => h
  | .r p, _, l, ⟨a, h1, h2⟩ => ⟨a, by rw [only_in l]; exact h1, h2⟩
theorem AreAll.only {α : Al} {ns : List Nat} {l vs} (h : AreAll α l vs) (g : l.all (svIn ns) = true) : AreAll (only ns α) l vs := by
  induction h with
  | nil => exact .nil
  | cons i _ ih => simp only [List.all_cons, Bool.and_eq_true] at g; exact .cons (i.only g.1) (ih g.2)
theorem FsAre.only {P : Params} {α : Al} {ns : List Nat} {fs es} (h : FsAre P α fs es) (g : (fs.all fun q => svIn ns q.2) = true) : FsAre P (only ns α) fs es := by
  induction h with
  | nil => exact .nil
  | cons i _ ih => simp only [List.all_cons, Bool.and_eq_true] at g; exact .cons (i.only g.1) (ih g.2)
theorem RowsAre.only {α : Al} {ns : List Nat} {l kvs} (h : RowsAre α l kvs) (g : (l.all fun q => inL q.2 ns) = true) : RowsAre (only ns α) l kvs := by
  induction h with
  | nil => exact .nil
  | cons i _ ih => simp only [List.all_cons, Bool.and_eq_true] at g; exact .cons (by rw [only_in g.1]; exact i) (ih g.2)
theorem SO.Is.only {w : World} {α : Al} {ns : List Nat} : ∀ {o : SO} {a cs}, soIn ns o = true → o.Is w α a cs → o.Is w (only ns α) a cs
  | .obj _ _, _, _, g, ⟨d, es, h1, h2⟩ => ⟨d, es, h1, h2.only g⟩
  | .list _, _, _, g, ⟨vs, n, h1, h2⟩ => ⟨vs, n, h1, h2.only g⟩
  | .ints _, _, _, _, h => h
  | .tup _, _, _, g, ⟨vs, h1, h2⟩ => ⟨vs, h1, h2.only g⟩
  | .gap _ _, _, _, _, h => h
  | .rows _, _, _, g, ⟨ro, kvs, h1, h2, h3, h4⟩ => ⟨ro, kvs, h1, h2, h3, h4.only g⟩
  | .cell (some _), _, _, g, ⟨ob, u, h1, h2, h3⟩ => ⟨ob, u, h1, h2, h3.only g⟩
  | .cell none, _, _, _, h => h
  | .deck, _, _, _, h => h
noncomputable def cellsIn (ns : List Nat) (σ : List (Nat × SO)) : Bool := σ.all fun q => inL q.1 ns && soIn ns q.2
theorem Cells.only {w : World} {α : Al} {ns : List Nat} {σ lit} (h : Cells w α σ lit) (g : cellsIn ns σ = true) : Cells w (only ns α) σ lit := by
  induction h with
  | nil => exact .nil
  | cons h1 h2 _ ih =>
    simp only [cellsIn, List.all_cons, Bool.and_eq_true] at g
    exact .cons (by rw [only_in g.1.1]; exact h1) (h2.only g.1.2) (ih g.2)
noncomputable def nms (q : List (Nat × SO)) : List Nat := q.map (·.1)
theorem Cells.named {w : World} {α : Al} {q l} (h : Cells w α q l) : ∀ p, inL p (nms q) = true → ∃ a, α p = some a := by
  induction h with
  | nil => intro p e; cases e
  | @cons q0 o a cs σ lit h1 h2 h3 ih =>
    intro p e
    unfold nms inL at e
    simp only [List.map_cons] at e
    split at e
    · rename_i g
      rw [Nat.eq_of_beq_eq_true g]
      exact ⟨a, h1⟩
    · exact ih p e
section
variable {c : Cx} {d f : Nat} {own : List (Addr × Obj)} {α : Al} {H : HS} {s : Shared} {m : Str → Option Value} {lit : List (Addr × Obj)} {E : Value → Shared → Prop}
theorem run_in {run : Fsp} (G : FnSound d f run) (O : c.Ok d) (S : SatX c own α [] H s m lit) {args : List SV} {vs : List Value} (j : AreAll α args vs) (q : List (Nat × SO)) (n : Nat) {K : SV × HS → Prop} {Q : Value → Shared → Prop} (hq : stands q H.σ)
    (hn : cellsIn (nms q) q = true) (hm : (q.all fun x => Nat.ble (x.1 + 1) n) = true) (ha : args.all (svIn (nms q)) = true) (hk : (run args ⟨n, q⟩).ok K)
    (h : ∀ v s' α1 sv H1 lit1 r, (∀ p a, inL p (nms q) = true → (α1 p = some a ↔ α p = some a)) → SatX c (r ++ own) α1 [] H1 s' m lit1 → Cells c.w α (rmAll q H.σ) r → Rest s s' → sv.Is α1 v → K (sv, H1) → Q v s') :
    wpAny (model Pg c.w) c.A (call (.ref f) vs) Q E s := by
  obtain ⟨l, r, C1, C2, p⟩ := S.C.carve hq
  have p' : (lit ++ own).Perm (l ++ (r ++ own)) := by
    rw [← List.append_assoc]
    exact List.Perm.append_right own p
  have Z0 : ∀ x, n ≤ x → only (nms q) α x = none := fun x hx => only_out (by
    have key : ∀ q : List (Nat × SO), (q.all fun x => Nat.ble (x.1 + 1) n) = true → inL x (nms q) = false := by
      intro q
      induction q with
      | nil => intro _; rfl
      | cons y r ih =>
        intro g
        simp only [List.all_cons, Bool.and_eq_true] at g
        have h1 := Nat.le_of_ble_eq_true g.1
        have : Nat.beq x y.1 = false := by
          cases e : Nat.beq x y.1 with
          | false => rfl
          | true => have := Nat.eq_of_beq_eq_true e; lia
        show (match Nat.beq x y.1 with | true => true | false => inL x (nms r)) = false
        rw [this]
        exact ih g.2
    exact key q hm)
  have S0 : SatX c (r ++ own) (only (nms q) α) [] ⟨n, q⟩ s m l := S.see p' (C1.only hn) Z0
  refine wpAny_mono (G c O _ _ _ s m l args vs K E S0 (j.only ha) hk) (fun v s' x => ?_) fun _ _ x => x
  obtain ⟨α1, sv, H1, lit1, x1, S1, r1, i1, h1⟩ := x
  refine h v s' α1 sv H1 lit1 r (fun p a hp => ?_) S1 C2 r1 i1 h1
  obtain ⟨b, hb⟩ := C1.named p hp
  have := x1 p b (by rw [only_in hp]; exact hb)
  rw [this, hb]
theorem close {α1 : Al} {H1 : HS} {s' : Shared} {lit1 r : List (Addr × Obj)} {ns : List Nat} {σr : List (Nat × SO)} {n : Nat} (S1 : SatX c (r ++ own) α1 [] H1 s' m lit1) (x : ∀ p a, inL p ns = true → (α1 p = some a ↔ α p = some a)) (Cr : Cells c.w α σr r) (Z : ∀ p, n ≤ p → α p = none)
    (q' : List (Nat × SO)) (hq : stands q' H1.σ) (hn : cellsIn ns q' = true) : ∃ lit', SatX c own α [] ⟨n, q' ++ σr⟩ s' m lit' := by
  obtain ⟨l, r', C1, C2, p⟩ := S1.C.carve hq
  have C3 : Cells c.w α q' l := (C1.only hn).mono (only_ext fun p a hp => (x p a hp).mp)
  have cat : ∀ {q l}, Cells c.w α q l → Cells c.w α (q ++ σr) (l ++ r) := by
    intro q l h
    induction h with
    | nil => exact Cr
    | cons h1 h2 _ ih => rw [List.append_assoc]; exact .cons h1 h2 ih
  have p' : (lit1 ++ (r ++ own)).Perm (r' ++ ((l ++ r) ++ own)) := by
    rw [List.append_assoc, ← List.append_assoc r' l]
    exact List.Perm.append_right _ (p.trans List.perm_append_comm)
  have N := S1.N.perm fun q hq => p'.mem_iff.mpr hq
  exact ⟨l ++ r, S1.F, fun q hq => N q (List.mem_append_right _ hq), apart_right (apart_perm S1.D p'), cat C3, fun _ _ h => (nomatch h), Z⟩
theorem closeN {α1 : Al} {H1 : HS} {s' : Shared} {lit1 r : List (Addr × Obj)} {ns : List Nat} {σr : List (Nat × SO)} {n k : Nat} {o : SO} (S1 : SatX c (r ++ own) α1 [] H1 s' m lit1) (x : ∀ p a, inL p ns = true → (α1 p = some a ↔ α p = some a)) (Cr : Cells c.w α σr r) (Z : ∀ p, n ≤ p → α p = none)
    (q' : List (Nat × SO)) (hq : stands ((k, o) :: q') H1.σ) (hn : cellsIn ns q' = true) (ho : soIn [] o = true) : ∃ a lit', α1 k = some a ∧ SatX c own (setα α n a) [] ⟨n + 1, (n, o) :: (q' ++ σr)⟩ s' m lit' := by
  obtain ⟨l, r', C1, C2, p⟩ := S1.C.carve hq
  cases C1 with
  | @cons _ _ a cs _ l h1 h2 C1 =>
    have e := setα_ext (a := a) (Z n (Nat.le_refl _))
    have C3 : Cells c.w α q' l := (C1.only hn).mono (only_ext fun p a hp => (x p a hp).mp)
    have cat : ∀ {q l}, Cells c.w α q l → Cells c.w α (q ++ σr) (l ++ r) := by
      intro q l h
      induction h with
      | nil => exact Cr
      | cons h1 h2 _ ih => rw [List.append_assoc]; exact .cons h1 h2 ih
    have p' : (lit1 ++ (r ++ own)).Perm (r' ++ ((cs ++ (l ++ r)) ++ own)) := by
      have : ((cs ++ l ++ r') ++ (r ++ own)).Perm (r' ++ ((cs ++ (l ++ r)) ++ own)) := by
        rw [show cs ++ (l ++ r) ++ own = (cs ++ l) ++ (r ++ own) by simp, ← List.append_assoc r']
        exact List.Perm.append_right _ List.perm_append_comm
      exact (List.Perm.append_right _ p).trans this
    have N := S1.N.perm fun q hq => p'.mem_iff.mpr hq
    refine ⟨a, cs ++ (l ++ r), h1, S1.F, fun q hq => N q (List.mem_append_right _ hq), apart_right (apart_perm S1.D p'), .cons setα_same ((h2.only ho).mono (only_ext fun p a hp => by cases hp)) ((cat C3).mono e), fun _ _ h => (nomatch h), fun p hp => ?_⟩
    have hp' : n + 1 ≤ p := hp
    have : Nat.beq p n = false := by
      cases e : Nat.beq p n with
      | false => rfl
      | true => have := Nat.eq_of_beq_eq_true e; lia
    simp only [setα, this]
    exact Z p (by lia)
end
noncomputable def noT : Tab := fun _ => none
noncomputable def addT (f : Nat) (sp : Fsp) (Γ : Tab) : Tab := fun a => match Nat.beq a f with
  | true => some sp
  | false => Γ a
theorem Cx.Ok.le {c : Cx} {d d' : Nat} (h : c.Ok d') (e : d ≤ d') : c.Ok d := ⟨h.B, h.X, h.T, h.hk, by have := h.hdp; lia, by have := h.hun; lia⟩
theorem FnSound.up {d d' f : Nat} {sp : Fsp} (h : FnSound d f sp) (e : d ≤ d') : FnSound d' f sp := fun c O => h c (O.le e)
theorem noT_sound {d : Nat} : TabSound d noT := fun _ _ h => nomatch h
theorem addT_sound {d d' f : Nat} {sp : Fsp} {Γ : Tab} (h : FnSound d f sp) (e : d ≤ d') (G : TabSound d' Γ) : TabSound d' (addT f sp Γ) := by
  intro a sp' g
  unfold addT at g
  split at g
  · rename_i q
    cases g
    rw [Nat.eq_of_beq_eq_true q]
    exact h.up e
  · exact G a sp' g
end KR
end
section
open PySem PySem.W PyProof.Rows PySem.Calls
set_option Elab.async false
set_option maxRecDepth 100000
set_option maxHeartbeats 4000000
set_option linter.constructorNameAsVariable false
set_option linter.unusedVariables false
namespace KR
noncomputable section
noncomputable def gapO (gs ge : Int) (C : List Int) : List (Nat × SO) := [(0, .obj 579 (gapF gs ge)), (1, .ints C)]
noncomputable def fldI (x : Str) (l : List (Str × SV)) : Option (Int × List (Str × SV)) := match l with
  | q :: r => optB (eqS q.1 x) ((asI q.2).bind fun z => some (z, r))
  | [] => none
noncomputable def fldR (x : Str) (l : List (Str × SV)) : Option (Nat × List (Str × SV)) := match l with
  | q :: r => optB (eqS q.1 x) ((asR q.2).bind fun z => some (z, r))
  | [] => none
theorem fldI_ok {x : Str} {l : List (Str × SV)} {q : Int × List (Str × SV)} (h : fldI x l = some q) : l = (x, .i q.1) :: q.2 := by
  cases l with
  | nil => cases h
  | cons y r =>
    obtain ⟨e1, h1⟩ := optB_eq h
    obtain ⟨z, e2, h2⟩ := Option.bind_eq_some_iff.mp h1
    cases h2
    obtain ⟨k, v⟩ := y
    rw [show k = x from eqS_iff.mp e1, show v = .i z from asI_eq e2]
theorem fldR_ok {x : Str} {l : List (Str × SV)} {q : Nat × List (Str × SV)} (h : fldR x l = some q) : l = (x, .r q.1) :: q.2 := by
  cases l with
  | nil => cases h
  | cons y r =>
    obtain ⟨e1, h1⟩ := optB_eq h
    obtain ⟨z, e2, h2⟩ := Option.bind_eq_some_iff.mp h1
    cases h2
    obtain ⟨k, v⟩ := y
    rw [show k = x from eqS_iff.mp e1, show v = .r z from asR_eq e2]
noncomputable def isGapF (fs : List (Str × SV)) : Option (Int × Int) := (fldI "room" fs).bind fun a => optB (decide (a.1 = 8)) ((fldR "cells" a.2).bind fun b => optB (Nat.beq b.1 1) ((fldI "gap_start" b.2).bind fun c => (fldI "gap_end" c.2).bind fun d => optB (!nonE d.2) (some (c.1, d.1))))
theorem isGapF_ok {fs : List (Str × SV)} {g : Int × Int} (h : isGapF fs = some g) : fs = gapF g.1 g.2 := by
  obtain ⟨⟨a1, a2⟩, e1, h1⟩ := Option.bind_eq_some_iff.mp h
  obtain ⟨g1, h2⟩ := optB_eq h1
  obtain ⟨⟨b1, b2⟩, e2, h3⟩ := Option.bind_eq_some_iff.mp h2
  obtain ⟨g2, h4⟩ := optB_eq h3
  obtain ⟨⟨c1, c2⟩, e3, h5⟩ := Option.bind_eq_some_iff.mp h4
  obtain ⟨⟨d1, d2⟩, e4, h6⟩ := Option.bind_eq_some_iff.mp h5
  obtain ⟨g3, h7⟩ := optB_eq h6
  clear h h1 h2 h3 h4 h5 h6
  cases h7
  have q1 : a1 = 8 := of_decide_eq_true g1
  have q2 : b1 = 1 := Nat.eq_of_beq_eq_true g2
  have q3 : d2 = [] := by
    cases d2
    · rfl
    · cases g3
  rw [fldI_ok e1, fldR_ok e2, fldI_ok e3, fldI_ok e4, q1, q2, q3]
  rfl
noncomputable def gapLook (σ : List (Nat × SO)) : Option (Int × Int × List Int) := ((lk 0 σ).bind asObj).bind fun q => optB (Nat.beq q.1 579) ((isGapF q.2).bind fun g => ((lk 1 (rm 0 σ)).bind asIn).bind fun C => some (g.1, g.2, C))
theorem gapLook_ok {σ : List (Nat × SO)} {gs ge : Int} {C : List Int} (h : gapLook σ = some (gs, ge, C)) : stands (gapO gs ge C) σ := by
  obtain ⟨⟨k, fs⟩, e1, h1⟩ := Option.bind_eq_some_iff.mp h
  obtain ⟨g1, h2⟩ := optB_eq h1
  obtain ⟨⟨x, y⟩, e2, h3⟩ := Option.bind_eq_some_iff.mp h2
  obtain ⟨C', e3, h4⟩ := Option.bind_eq_some_iff.mp h3
  clear h h1 h2 h3
  cases h4
  obtain ⟨o1, f1, f2⟩ := Option.bind_eq_some_iff.mp e1
  obtain ⟨o2, f3, f4⟩ := Option.bind_eq_some_iff.mp e3
  have z1 : o1 = .obj 579 (gapF x y) := by
    cases o1 <;> cases f2
    rw [show k = 579 from Nat.eq_of_beq_eq_true g1, show fs = gapF x y from isGapF_ok e2]
  have z2 : o2 = .ints C := by cases o2 <;> cases f4; rfl
  rw [z1] at f1
  rw [z2] at f3
  exact ⟨f1, f3, trivial⟩
noncomputable def argRI : List SV → Option (Nat × Int)
  | [v, u] => (asR v).bind fun p => (asI u).bind fun z => some (p, z)
  | _ => none
theorem argRI_ok {l : List SV} {p : Nat} {z : Int} (h : argRI l = some (p, z)) : l = [.r p, .i z] := by
  match l, h with
  | [v, u], h =>
    obtain ⟨p, e1, h1⟩ := Option.bind_eq_some_iff.mp h
    obtain ⟨z, e2, h2⟩ := Option.bind_eq_some_iff.mp h1
    cases h2
    rw [asR_eq e1, asI_eq e2]
noncomputable def argRII : List SV → Option (Nat × Int × Int)
  | [v, u, x] => (asR v).bind fun p => (asI u).bind fun z => (asI x).bind fun y => some (p, z, y)
  | _ => none
theorem argRII_ok {l : List SV} {p : Nat} {z y : Int} (h : argRII l = some (p, z, y)) : l = [.r p, .i z, .i y] := by
  match l, h with
  | [v, u, x], h =>
    obtain ⟨p, e1, h1⟩ := Option.bind_eq_some_iff.mp h
    obtain ⟨z, e2, h2⟩ := Option.bind_eq_some_iff.mp h1
    obtain ⟨y, e3, h3⟩ := Option.bind_eq_some_iff.mp h2
    cases h3
    rw [asR_eq e1, asI_eq e2, asI_eq e3]
noncomputable def sMove : Fsp := runF noT ["self", "at"] [] bS534.1 fS534.1
noncomputable def sWiden : Fsp := runF noT ["self", "wanted"] [] bS541.1 fS541.1
noncomputable def sCodes : Fsp := runF noT ["self", "start", "end"] [] bS527.1 fS527.1
noncomputable def sSize : Fsp := runF noT ["self"] [] bS513.1 fS513.1
noncomputable def txt (gs ge : Int) (C : List Int) : List Int := C.take gs.toNat ++ C.drop ge.toNat
noncomputable def mvC (gs ge i : Int) (C : List Int) : List Int := (txt gs ge C).take i.toNat ++ ((C.drop i.toNat).take (ge - gs).toNat ++ (txt gs ge C).drop i.toNat)
noncomputable def wdC (gs ge x : Int) (C : List Int) : List Int := C.take ge.toNat ++ (List.replicate (x - (ge - gs) + 8).toNat 0 ++ C.drop ge.toNat)
noncomputable def gapOk (gs ge : Int) (C : List Int) : Prop := 0 ≤ gs ∧ gs ≤ ge ∧ ge ≤ C.length ∧ C.length ≤ 2000
noncomputable def oMove : Fsp := fun args H => optT (argRI args) fun a => boolT (Nat.beq a.1 0) (optT (gapLook H.σ) fun g => .need (gapOk g.1 g.2.1 g.2.2 ∧ 0 ≤ a.2 ∧ a.2 + (g.2.1 - g.1) ≤ g.2.2.length) (.ret (.n, ⟨H.nx, gapO a.2 (a.2 + (g.2.1 - g.1)) (mvC g.1 g.2.1 a.2 g.2.2) ++ rmAll (gapO g.1 g.2.1 g.2.2) H.σ⟩)))
noncomputable def oWiden : Fsp := fun args H => optT (argRI args) fun a => boolT (Nat.beq a.1 0) (optT (gapLook H.σ) fun g => .need (gapOk g.1 g.2.1 g.2.2 ∧ 0 ≤ a.2 ∧ a.2 ≤ 100) (.br (g.2.1 - g.1 < a.2)
        (.ret (.n, ⟨H.nx, gapO g.1 (g.1 + (a.2 + 8)) (wdC g.1 g.2.1 a.2 g.2.2) ++ rmAll (gapO g.1 g.2.1 g.2.2) H.σ⟩))
        (.ret (.n, ⟨H.nx, gapO g.1 g.2.1 g.2.2 ++ rmAll (gapO g.1 g.2.1 g.2.2) H.σ⟩))))
noncomputable def oCodes : Fsp := fun args H => optT (argRII args) fun a => boolT (Nat.beq a.1 0) (optT (gapLook H.σ) fun g => .need (gapOk g.1 g.2.1 g.2.2 ∧ 0 ≤ a.2.1 ∧ a.2.1 ≤ a.2.2 ∧ a.2.2 + (g.2.1 - g.1) ≤ g.2.2.length) (.ret (.r H.nx, ⟨H.nx + 1, (H.nx, .ints (((txt g.1 g.2.1 g.2.2).take a.2.2.toNat).drop a.2.1.toNat)) :: (gapO g.1 g.2.1 g.2.2 ++ rmAll (gapO g.1 g.2.1 g.2.2) H.σ)⟩)))
noncomputable def TG : Tab := addT 534 oMove (addT 541 oWiden (addT 527 oCodes noT))
noncomputable def sIns : Fsp := runF TG ["self", "at", "codes"] [] bS548.1 fS548.1
noncomputable def sDel : Fsp := runF TG ["self", "start", "end"] [] bS555.1 fS555.1
end
end KR
end
section
open PySem PySem.W PyProof.Rows PySem.Calls
set_option Elab.async false
set_option maxRecDepth 100000
set_option maxHeartbeats 4000000
set_option linter.constructorNameAsVariable false
set_option linter.unusedVariables false
namespace KR
theorem cut3 {C : List Int} {a b : Nat} (h1 : a ≤ b) (h2 : b ≤ C.length) : ∃ A G Z : List Int, C = A ++ (G ++ Z) ∧ A.length = a ∧ G.length = b - a ∧ Z.length = C.length - b :=
  ⟨C.take a, (C.take b).drop a, C.drop b, by
    have : (C.take b).drop a ++ C.drop b = C.drop a := by
      rw [List.drop_take]
      have e : C.drop b = (C.drop a).drop (b - a) := by rw [List.drop_drop]; congr 1; lia
      rw [e, List.take_append_drop]
    rw [this, List.take_append_drop], by rw [List.length_take]; lia, by rw [List.length_drop, List.length_take]; lia, by rw [List.length_drop]⟩
theorem take_a {A B : List Int} {n : Nat} (h : n = A.length) : (A ++ B).take n = A := by subst h; exact List.take_left
theorem drop_a {A B : List Int} {n : Nat} (h : n = A.length) : (A ++ B).drop n = B := by subst h; exact List.drop_left
theorem txt_parts {A G Z : List Int} {gs ge : Int} (h1 : gs = A.length) (h2 : ge = A.length + G.length) : txt gs ge (A ++ (G ++ Z)) = A ++ Z := by
  subst h1 h2
  unfold txt
  rw [take_a (by lia), ← List.append_assoc, drop_a (by rw [List.length_append]; lia)]
theorem mvC_parts {T X : List Int} {i : Int} (h0 : 0 ≤ i) (h1 : i ≤ T.length) : ∃ A Z, T = A ++ Z ∧ i = (A.length : Int) ∧ T.take i.toNat ++ (X ++ T.drop i.toNat) = A ++ (X ++ Z) :=
  ⟨T.take i.toNat, T.drop i.toNat, (List.take_append_drop ..).symm, by rw [List.length_take]; lia, rfl⟩
theorem gapOk.parts {gs ge : Int} {C : List Int} (h : gapOk gs ge C) : ∃ A G Z : List Int, C = A ++ (G ++ Z) ∧ gs = (A.length : Int) ∧ ge = (A.length : Int) + (G.length : Int) ∧ A.length + (G.length + Z.length) ≤ 2000 := by
  obtain ⟨h0, h1, h2, h3⟩ := h
  obtain ⟨A, G, Z, e, e1, e2, e3⟩ := cut3 (C := C) (a := gs.toNat) (b := ge.toNat) (by lia) (by lia)
  exact ⟨A, G, Z, e, by lia, by lia, by lia⟩
theorem mid_len {A G Z : List Int} {i : Int} (h0 : 0 ≤ i) (h1 : i + (G.length : Int) ≤ ((A ++ (G ++ Z)).length : Int)) : (((A ++ (G ++ Z)).drop i.toNat).take G.length).length = G.length := by
  rw [List.length_take, List.length_drop]; lia
theorem mv_parts {gs ge i : Int} {C : List Int} (h : gapOk gs ge C) (h0 : 0 ≤ i) (h1 : i + (ge - gs) ≤ C.length) : ∃ A X Z : List Int, mvC gs ge i C = A ++ (X ++ Z) ∧ txt gs ge C = A ++ Z ∧ i = (A.length : Int) ∧ ge - gs = (X.length : Int) ∧ A.length + (X.length + Z.length) = C.length := by
  obtain ⟨A, G, Z, rfl, rfl, rfl, hb⟩ := h.parts
  have hl : (A ++ (G ++ Z)).length = A.length + (G.length + Z.length) := by simp only [List.length_append]
  have hx := mid_len (A := A) (G := G) (Z := Z) h0 (by lia)
  unfold mvC
  rw [txt_parts rfl rfl, show ((A.length : Int) + (G.length : Int) - (A.length : Int)).toNat = G.length by lia]
  obtain ⟨A', Z', e1, e2, e3⟩ := mvC_parts (T := A ++ Z) (X := ((A ++ (G ++ Z)).drop i.toNat).take G.length) (i := i) h0 (by rw [List.length_append]; lia)
  have e1' := congrArg List.length e1
  simp only [List.length_append] at e1'
  exact ⟨A', _, Z', e3, e1, e2, by rw [hx]; lia, by rw [hx]; lia⟩
theorem gapOk.of {A X Z : List Int} {i j : Int} (h1 : i = (A.length : Int)) (h2 : j = i + (X.length : Int)) (h3 : A.length + (X.length + Z.length) ≤ 2000) : gapOk i j (A ++ (X ++ Z)) := by
  have hl : (A ++ (X ++ Z)).length = A.length + (X.length + Z.length) := by simp only [List.length_append]
  unfold gapOk
  lia
theorem mv_ok {gs ge i : Int} {C : List Int} (h : gapOk gs ge C) (h0 : 0 ≤ i) (h1 : i + (ge - gs) ≤ C.length) : gapOk i (i + (ge - gs)) (mvC gs ge i C) ∧ (mvC gs ge i C).length = C.length ∧ txt i (i + (ge - gs)) (mvC gs ge i C) = txt gs ge C := by
  obtain ⟨A, X, Z, e1, e2, e3, e4, e5⟩ := mv_parts h h0 h1
  have := h.2.2.2
  refine ⟨?_, ?_, ?_⟩
  · rw [e1]; exact gapOk.of e3 (by lia) (by lia)
  · rw [e1]; simp only [List.length_append]; lia
  · rw [e1, e2]; exact txt_parts e3 (by lia)
theorem move_run (gs ge i : Int) (C : List Int) : sMove [.r 0, .i i] ⟨2, gapO gs ge C⟩ = (T.br (i < gs) (T.need ((0 : Int) ≤ i) (T.need ((0 : Int) ≤ gs) (T.need (C.length ≤ (4000 : Nat)) (T.need ((List.drop i.toNat (List.take gs.toNat C)).length ≤ (4000 : Nat)) (T.need ((0 : Int) ≤ ge - ↑(List.drop i.toNat (List.take gs.toNat C)).length ∧ ge - ↑(List.drop i.toNat (List.take gs.toNat C)).length ≤ ge ∧ ge ≤ ↑C.length) (T.need (C.length + (List.drop i.toNat (List.take gs.toNat C)).length ≤ (8000 : Nat)) (T.need ((List.drop i.toNat (List.take gs.toNat C)).length ≤ (4000 : Nat)) (T.ret (SV.n, { nx := (3 : Nat), σ := [((0 : Nat), SO.obj (579 : Nat) [(Str.ofString "room", SV.i (8 : Int)), (Str.ofString "cells", SV.r (1 : Nat)), (Str.ofString "gap_start", SV.i i), (Str.ofString "gap_end", SV.i (ge - ↑(List.drop i.toNat (List.take gs.toNat C)).length))]), ((1 : Nat), SO.ints (List.take (ge - ↑(List.drop i.toNat (List.take gs.toNat C)).length).toNat C ++ (List.drop i.toNat (List.take gs.toNat C) ++ List.drop ge.toNat C)))] }))))))))) (T.need ((0 : Int) ≤ ge) (T.need ((0 : Int) ≤ ge + i - gs) (T.need (C.length ≤ (4000 : Nat)) (T.need ((List.drop ge.toNat (List.take (ge + i - gs).toNat C)).length ≤ (4000 : Nat)) (T.need ((0 : Int) ≤ gs ∧ gs ≤ gs + ↑(List.drop ge.toNat (List.take (ge + i - gs).toNat C)).length ∧ gs + ↑(List.drop ge.toNat (List.take (ge + i - gs).toNat C)).length ≤ ↑C.length) (T.need (C.length + (List.drop ge.toNat (List.take (ge + i - gs).toNat C)).length ≤ (8000 : Nat)) (T.need ((List.drop ge.toNat (List.take (ge + i - gs).toNat C)).length ≤ (4000 : Nat)) (T.ret (SV.n, { nx := (3 : Nat), σ := [((0 : Nat), SO.obj (579 : Nat) [(Str.ofString "room", SV.i (8 : Int)), (Str.ofString "cells", SV.r (1 : Nat)), (Str.ofString "gap_start", SV.i i), (Str.ofString "gap_end", SV.i (ge + ↑(List.drop ge.toNat (List.take (ge + i - gs).toNat C)).length))]), ((1 : Nat), SO.ints (List.take gs.toNat C ++ (List.drop ge.toNat (List.take (ge + i - gs).toNat C) ++ List.drop (gs + ↑(List.drop ge.toNat (List.take (ge + i - gs).toNat C)).length).toNat C)))] }))))))))) : T (SV × HS)) := by kernel_rfl
theorem widen_run (gs ge x : Int) (C : List Int) : sWiden [.r 0, .i x] ⟨2, gapO gs ge C⟩ = (T.br ((0 : Int) < x - (ge - gs)) (T.need ((-4000 : Int) ≤ x - (ge - gs) + (8 : Int) ∧ x - (ge - gs) + (8 : Int) ≤ (4000 : Int)) (T.need ((0 : Int) ≤ ge ∧ ge ≤ ge ∧ ge ≤ ↑C.length) (T.need (C.length + (List.replicate (x - (ge - gs) + (8 : Int)).toNat (0 : Int)).length ≤ (8000 : Nat)) (T.ret (SV.n, { nx := (4 : Nat), σ := [((0 : Nat), SO.obj (579 : Nat) [(Str.ofString "room", SV.i (8 : Int)), (Str.ofString "cells", SV.r (1 : Nat)), (Str.ofString "gap_start", SV.i gs), (Str.ofString "gap_end", SV.i (ge + (x - (ge - gs)) + (8 : Int)))]), ((1 : Nat), SO.ints (List.take ge.toNat C ++ (List.replicate (x - (ge - gs) + (8 : Int)).toNat (0 : Int) ++ List.drop ge.toNat C)))] }))))) (T.ret (SV.n, { nx := (2 : Nat), σ := [((0 : Nat), SO.obj (579 : Nat) [(Str.ofString "room", SV.i (8 : Int)), (Str.ofString "cells", SV.r (1 : Nat)), (Str.ofString "gap_start", SV.i gs), (Str.ofString "gap_end", SV.i ge)]), ((1 : Nat), SO.ints C)] })) : T (SV × HS)) := by kernel_rfl
theorem codes_run (gs ge i j : Int) (C : List Int) : sCodes [.r 0, .i i, .i j] ⟨2, gapO gs ge C⟩ = (T.br (j ≤ gs) (T.need ((0 : Int) ≤ i) (T.need ((0 : Int) ≤ j) (T.need (C.length ≤ (4000 : Nat)) (T.ret (SV.r (2 : Nat), { nx := (3 : Nat), σ := [((2 : Nat), SO.ints (List.drop i.toNat (List.take j.toNat C))), ((0 : Nat), SO.obj (579 : Nat) [(Str.ofString "room", SV.i (8 : Int)), (Str.ofString "cells", SV.r (1 : Nat)), (Str.ofString "gap_start", SV.i gs), (Str.ofString "gap_end", SV.i ge)]), ((1 : Nat), SO.ints C)] }))))) (T.br (gs ≤ i) (T.need ((0 : Int) ≤ i + (ge - gs)) (T.need ((0 : Int) ≤ j + (ge - gs)) (T.need (C.length ≤ (4000 : Nat)) (T.ret (SV.r (2 : Nat), { nx := (3 : Nat), σ := [((2 : Nat), SO.ints (List.drop (i + (ge - gs)).toNat (List.take (j + (ge - gs)).toNat C))), ((0 : Nat), SO.obj (579 : Nat) [(Str.ofString "room", SV.i (8 : Int)), (Str.ofString "cells", SV.r (1 : Nat)), (Str.ofString "gap_start", SV.i gs), (Str.ofString "gap_end", SV.i ge)]), ((1 : Nat), SO.ints C)] }))))) (T.need ((0 : Int) ≤ i) (T.need ((0 : Int) ≤ gs) (T.need (C.length ≤ (4000 : Nat)) (T.need ((0 : Int) ≤ ge) (T.need ((0 : Int) ≤ j + (ge - gs)) (T.need (C.length ≤ (4000 : Nat)) (T.need ((List.drop i.toNat (List.take gs.toNat C)).length + (List.drop ge.toNat (List.take (j + (ge - gs)).toNat C)).length ≤ (4000 : Nat)) (T.ret (SV.r (4 : Nat), { nx := (5 : Nat), σ := [((4 : Nat), SO.ints (List.drop i.toNat (List.take gs.toNat C) ++ List.drop ge.toNat (List.take (j + (ge - gs)).toNat C))), ((0 : Nat), SO.obj (579 : Nat) [(Str.ofString "room", SV.i (8 : Int)), (Str.ofString "cells", SV.r (1 : Nat)), (Str.ofString "gap_start", SV.i gs), (Str.ofString "gap_end", SV.i ge)]), ((1 : Nat), SO.ints C)] })))))))))) : T (SV × HS)) := by kernel_rfl
theorem size_run (gs ge : Int) (C : List Int) : sSize [.r 0] ⟨2, gapO gs ge C⟩ = (T.need (C.length ≤ (4000 : Nat)) (T.ret (SV.i (↑C.length - ge + gs), { nx := (2 : Nat), σ := [((0 : Nat), SO.obj (579 : Nat) [(Str.ofString "room", SV.i (8 : Int)), (Str.ofString "cells", SV.r (1 : Nat)), (Str.ofString "gap_start", SV.i gs), (Str.ofString "gap_end", SV.i ge)]), ((1 : Nat), SO.ints C)] })) : T (SV × HS)) := by kernel_rfl
end KR
end
section
open PySem PySem.W PyProof.Rows PySem.Calls
set_option Elab.async false
set_option maxRecDepth 100000
set_option maxHeartbeats 4000000
set_option linter.constructorNameAsVariable false
set_option linter.unusedVariables false
namespace KR
theorem split2 {A : List Int} {i : Nat} (h : i ≤ A.length) : ∃ A1 A2, A = A1 ++ A2 ∧ A1.length = i ∧ A2.length = A.length - i :=
  ⟨A.take i, A.drop i, (List.take_append_drop ..).symm, by rw [List.length_take]; lia, by rw [List.length_drop]⟩
theorem mv_lo {gs ge i : Int} {C : List Int} (h : gapOk gs ge C) (h0 : 0 ≤ i) (h1 : i < gs) : ((C.take gs.toNat).drop i.toNat).length = (gs - i).toNat ∧
    C.take (ge - ((C.take gs.toNat).drop i.toNat).length).toNat ++ ((C.take gs.toNat).drop i.toNat ++ C.drop ge.toNat) = mvC gs ge i C := by
  obtain ⟨A, G, Z, rfl, rfl, rfl, hb⟩ := h.parts
  obtain ⟨A1, A2, rfl, e1, e2⟩ := split2 (A := A) (i := i.toNat) (by lia)
  rw [List.length_append] at *
  have a1 : ((A1 ++ A2 ++ (G ++ Z)).take (((A1.length + A2.length : Nat) : Int)).toNat) = A1 ++ A2 := take_a (by rw [List.length_append]; lia)
  have a2 : (A1 ++ A2).drop i.toNat = A2 := drop_a (by lia)
  have a3 : (A1 ++ A2 ++ (G ++ Z)).drop ((((A1.length + A2.length : Nat) : Int)) + (G.length : Int)).toNat = Z := by
    rw [← List.append_assoc]; exact drop_a (by simp only [List.length_append]; lia)
  rw [a1, a2, a3]
  refine ⟨by lia, ?_⟩
  unfold mvC
  rw [txt_parts (by rw [List.length_append]) (by rw [List.length_append]), List.append_assoc A1 A2 Z, take_a (A := A1) (B := A2 ++ Z) (by lia), drop_a (A := A1) (B := A2 ++ Z) (by lia)]
  have a4 : (A1 ++ A2 ++ (G ++ Z)).drop i.toNat = A2 ++ (G ++ Z) := by rw [List.append_assoc]; exact drop_a (by lia)
  rw [a4, show (((A1.length + A2.length : Nat) : Int) + (G.length : Int) - (A2.length : Int)).toNat = A1.length + G.length by lia, show (((A1.length + A2.length : Nat) : Int) + (G.length : Int) - ((A1.length + A2.length : Nat) : Int)).toNat = G.length by lia,
    List.append_assoc A1 A2, List.take_length_add_append, List.append_assoc]
theorem mv_hi {gs ge i : Int} {C : List Int} (h : gapOk gs ge C) (h1 : gs ≤ i) (h2 : i + (ge - gs) ≤ C.length) : ((C.take (ge + i - gs).toNat).drop ge.toNat).length = (i - gs).toNat ∧
    C.take gs.toNat ++ ((C.take (ge + i - gs).toNat).drop ge.toNat ++ C.drop (gs + ((C.take (ge + i - gs).toNat).drop ge.toNat).length).toNat) = mvC gs ge i C := by
  obtain ⟨A, G, Z, rfl, rfl, rfl, hb⟩ := h.parts
  have hl : (A ++ (G ++ Z)).length = A.length + (G.length + Z.length) := by simp only [List.length_append]
  rw [hl] at h2
  obtain ⟨Z1, Z2, rfl, e1, e2⟩ := split2 (A := Z) (i := (i - A.length).toNat) (by lia)
  rw [List.length_append] at *
  have b1 : (A ++ (G ++ (Z1 ++ Z2))).take ((A.length : Int) + (G.length : Int) + i - (A.length : Int)).toNat = A ++ (G ++ Z1) := by
    rw [show A ++ (G ++ (Z1 ++ Z2)) = (A ++ (G ++ Z1)) ++ Z2 by simp]
    exact take_a (by simp only [List.length_append]; lia)
  have b2 : (A ++ (G ++ Z1)).drop ((A.length : Int) + (G.length : Int)).toNat = Z1 := by
    rw [← List.append_assoc]; exact drop_a (by simp only [List.length_append]; lia)
  have b3 : (A ++ (G ++ (Z1 ++ Z2))).take (A.length : Int).toNat = A := take_a (by lia)
  rw [b1, b2, b3]
  refine ⟨by lia, ?_⟩
  have hi : i.toNat = A.length + Z1.length := by lia
  unfold mvC
  rw [txt_parts rfl rfl, show ((A.length : Int) + (Z1.length : Int)).toNat = i.toNat by lia, show ((A.length : Int) + (G.length : Int) - (A.length : Int)).toNat = G.length by lia]
  have c1 : (A ++ (Z1 ++ Z2)).take i.toNat = A ++ Z1 := by rw [← List.append_assoc]; exact take_a (by rw [List.length_append]; lia)
  have c2 : (A ++ (Z1 ++ Z2)).drop i.toNat = Z2 := by rw [← List.append_assoc]; exact drop_a (by rw [List.length_append]; lia)
  have c3 : (A ++ (G ++ (Z1 ++ Z2))).drop i.toNat = ((A ++ (G ++ (Z1 ++ Z2))).drop i.toNat).take G.length ++ Z2 := by
    have : ((A ++ (G ++ (Z1 ++ Z2))).drop i.toNat).drop G.length = Z2 := by
      rw [List.drop_drop, show A ++ (G ++ (Z1 ++ Z2)) = (A ++ (G ++ Z1)) ++ Z2 by simp]
      exact drop_a (by simp only [List.length_append]; lia)
    exact (List.take_append_drop G.length _).symm.trans (congrArg _ this)
  rw [c1, c2, ← c3, List.append_assoc]
theorem oMove_sound : FnSound 1 534 oMove := by
  intro c O own α H s m lit args vs K E S j h
  refine optT_el h ?_
  clear h
  rintro ⟨p, i⟩ ea h
  replace ea := argRI_ok ea
  subst ea
  refine boolT_el h ?_
  clear h
  intro e0 h
  refine optT_el h ?_
  clear h
  rintro ⟨gs, ge, C⟩ e1 h
  dsimp only at h
  obtain ⟨⟨hg, h0, h1⟩, h⟩ := h
  have e0 : p = 0 := Nat.eq_of_beq_eq_true e0
  subst e0
  have hg' := hg
  obtain ⟨g0, g1, g2, g3⟩ := hg'
  refine run_in (fn_sound fr534 noT_sound).fn O S j (gapO gs ge C) 2 (K := fun q => q.1 = .n ∧ stands (gapO i (i + (ge - gs)) (mvC gs ge i C)) q.2.σ) (gapLook_ok e1) rfl rfl rfl ?_ ?_
  · show (sMove _ _).ok _
    rw [move_run]
    refine ⟨fun hlt => ?_, fun hge => ?_⟩
    · obtain ⟨l1, l2⟩ := mv_lo hg h0 hlt
      refine ⟨h0, g0, by lia, by lia, by lia, by lia, by lia, rfl, congrArg (fun z => some (SO.obj 579 (gapF i z))) (by lia), congrArg (fun z => some (SO.ints z)) l2, trivial⟩
    · obtain ⟨l1, l2⟩ := mv_hi hg (by lia) h1
      refine ⟨by lia, by lia, by lia, by lia, by lia, by lia, by lia, rfl, congrArg (fun z => some (SO.obj 579 (gapF i z))) (by lia), congrArg (fun z => some (SO.ints z)) l2, trivial⟩
  · intro v s' α1 sv H1 lit1 r x S1 Cr R1 i1 hk
    obtain ⟨rfl, hst⟩ := hk
    obtain ⟨lit', S2⟩ := close S1 x Cr S.Z _ hst rfl
    exact ⟨α, .n, _, lit', Ext.rfl', S2, R1, i1, h⟩
theorem oWiden_sound : FnSound 1 541 oWiden := by
  intro c O own α H s m lit args vs K E S j h
  refine optT_el h ?_
  clear h
  rintro ⟨p, x⟩ ea h
  replace ea := argRI_ok ea
  subst ea
  refine boolT_el h ?_
  clear h
  intro e0 h
  refine optT_el h ?_
  clear h
  rintro ⟨gs, ge, C⟩ e1 h
  dsimp only at h
  obtain ⟨⟨hg, h0, h1⟩, h⟩ := h
  have e0 : p = 0 := Nat.eq_of_beq_eq_true e0
  subst e0
  have hg' := hg
  obtain ⟨g0, g1, g2, g3⟩ := hg'
  refine run_in (fn_sound fr541 noT_sound).fn O S j (gapO gs ge C) 2 (K := fun q => q.1 = .n ∧ ((ge - gs < x ∧ stands (gapO gs (gs + (x + 8)) (wdC gs ge x C)) q.2.σ) ∨ (¬ ge - gs < x ∧ stands (gapO gs ge C) q.2.σ))) (gapLook_ok e1) rfl rfl rfl ?_ ?_
  · show (sWiden _ _).ok _
    rw [widen_run]
    refine ⟨fun hlt => ?_, fun hge => ?_⟩
    · refine ⟨by lia, by lia, by rw [List.length_replicate]; lia, rfl, Or.inl ⟨by lia, congrArg (fun z => some (SO.obj 579 (gapF gs z))) (by lia), rfl, trivial⟩⟩
    · exact ⟨rfl, Or.inr ⟨by lia, rfl, rfl, trivial⟩⟩
  · intro v s' α1 sv H1 lit1 r xx S1 Cr R1 i1 hk
    obtain ⟨rfl, ⟨hlt, hst⟩ | ⟨hge, hst⟩⟩ := hk
    · obtain ⟨lit', S2⟩ := close S1 xx Cr S.Z _ hst rfl
      exact ⟨α, .n, _, lit', Ext.rfl', S2, R1, i1, h.1 hlt⟩
    · obtain ⟨lit', S2⟩ := close S1 xx Cr S.Z _ hst rfl
      exact ⟨α, .n, _, lit', Ext.rfl', S2, R1, i1, h.2 hge⟩
theorem codes_hi {A G Z : List Int} {i j a b : Nat} (h : A.length ≤ i) (ha : a = i + G.length) (hb : b = j + G.length) : ((A ++ (G ++ Z)).take b).drop a = ((A ++ Z).take j).drop i := by
  rw [List.drop_take, List.drop_take, seg_drop_hi (by lia), seg_drop_hi (by lia), seg_drop_hi h, show a - A.length - G.length = i - A.length by lia, show b - a = j - i by lia]
theorem codes_mid {A G Z : List Int} {i j a b c : Nat} (h1 : i ≤ A.length) (h2 : A.length ≤ j) (hc : c = A.length) (ha : a = A.length + G.length) (hb : b = j + G.length) : ((A ++ (G ++ Z)).take c).drop i ++ ((A ++ (G ++ Z)).take b).drop a = ((A ++ Z).take j).drop i := by
  rw [take_a hc, seg_take_hi h2, seg_drop_lo h1, List.drop_take, seg_drop_hi (by lia), seg_drop_hi (by lia), show a - A.length - G.length = 0 by lia, List.drop_zero, show b - a = j - A.length by lia]
theorem oCodes_sound : FnSound 1 527 oCodes := by
  intro c O own α H s m lit args vs K E S j h
  refine optT_el h ?_
  clear h
  rintro ⟨p, i, jj⟩ ea h
  replace ea := argRII_ok ea
  subst ea
  refine boolT_el h ?_
  clear h
  intro e0 h
  refine optT_el h ?_
  clear h
  rintro ⟨gs, ge, C⟩ e1 h
  dsimp only at h
  obtain ⟨⟨hg, h0, h1, h2⟩, h⟩ := h
  have e0 : p = 0 := Nat.eq_of_beq_eq_true e0
  subst e0
  have hg' := hg
  obtain ⟨g0, g1, g2, g3⟩ := hg'
  refine run_in (fn_sound fr527 noT_sound).fn O S j (gapO gs ge C) 2 (K := fun q => ∃ k, q.1 = .r k ∧ stands ((k, .ints (((txt gs ge C).take jj.toNat).drop i.toNat)) :: gapO gs ge C) q.2.σ) (gapLook_ok e1) rfl rfl rfl ?_ ?_
  · show (sCodes _ _).ok _
    rw [codes_run]
    obtain ⟨A, G, Z, rfl, rfl, rfl, hb⟩ := hg.parts
    have hl : (A ++ (G ++ Z)).length = A.length + (G.length + Z.length) := by simp only [List.length_append]
    rw [txt_parts rfl rfl]
    refine ⟨fun hlo => ?_, fun hhi => ⟨fun hlo => ?_, fun hmid => ?_⟩⟩
    · refine ⟨h0, by lia, by lia, 2, rfl, congrArg (fun z => some (SO.ints z)) ?_, rfl, rfl, trivial⟩
      rw [seg_take_lo (by lia), seg_take_lo (by lia)]
    · refine ⟨by lia, by lia, by lia, 2, rfl, congrArg (fun z => some (SO.ints z)) ?_, rfl, rfl, trivial⟩
      exact codes_hi (by lia) (by lia) (by lia)
    · have l1 : (List.drop i.toNat (List.take (A.length : Int).toNat (A ++ (G ++ Z)))).length ≤ A.length := by rw [List.length_drop, List.length_take]; lia
      have l2 : (List.drop ((A.length : Int) + (G.length : Int)).toNat (List.take (jj + ((A.length : Int) + (G.length : Int) - (A.length : Int))).toNat (A ++ (G ++ Z)))).length ≤ 2000 := by rw [List.length_drop, List.length_take]; lia
      refine ⟨h0, by lia, by lia, by lia, by lia, by lia, by lia, 4, rfl, congrArg (fun z => some (SO.ints z)) ?_, rfl, rfl, trivial⟩
      exact codes_mid (by lia) (by lia) rfl (by lia) (by lia)
  · intro v s' α1 sv H1 lit1 r x S1 Cr R1 i1 hk
    obtain ⟨k, rfl, hst⟩ := hk
    obtain ⟨a, lit', ha, S2⟩ := closeN S1 x Cr S.Z _ hst rfl rfl
    obtain ⟨b, hb, rfl⟩ := i1
    rw [ha] at hb
    cases hb
    exact ⟨_, .r H.nx, _, lit', setα_ext (S.Z _ (Nat.le_refl _)), S2, R1, ⟨_, setα_same, rfl⟩, h⟩
end KR
end
section
open PySem PySem.W PyProof.Rows PySem.Calls
set_option Elab.async false
set_option maxRecDepth 100000
set_option maxHeartbeats 4000000
set_option linter.constructorNameAsVariable false
set_option linter.unusedVariables false
namespace KR
theorem TG_sound : TabSound 1 TG := addT_sound oMove_sound (Nat.le_refl _) (addT_sound oWiden_sound (Nat.le_refl _) (addT_sound oCodes_sound (Nat.le_refl _) noT_sound))
noncomputable def gap3 (a c b : Addr) : Al := fun p => match p with
  | 0 => some a
  | 1 => some c
  | 2 => some b
  | _ => none
section
variable {c : Cx} {own : List (Addr × Obj)} {α : Al} {H : HS} {s : Shared} {m : Str → Option Value} {lit r l : List (Addr × Obj)} {T : List Int} {bd g : Nat} {σr : List (Nat × SO)} {a : Addr} {cs : List (Addr × Obj)}
theorem gap_is (i : (SO.gap T bd).Is c.w α a cs) (hb : bd ≤ 2000) : ∃ cc C gs ge, Cells c.w (gapα a cc) (gapO gs ge C) cs ∧ gapOk gs ge C ∧ T = txt gs ge C ∧ C.length ≤ bd := by
  obtain ⟨gd, es, cc, vs, n, C, gs, ge, rfl, h1, h2, h3, h4, h5, h6⟩ := i
  refine ⟨cc, C, gs, ge, .cons (cs := [(a, instObj 579 gd), (gd, dictOf es 4)]) rfl ⟨gd, es, rfl, h1⟩ (.cons (cs := [(cc, listOf vs.toArray n)]) rfl ⟨vs, n, rfl, h2⟩ .nil), ⟨by lia, by lia, by lia, by lia⟩, ?_, h5⟩
  unfold txt
  rw [h6, Int.toNat_natCast, Int.toNat_natCast]
theorem is_gap {β : Al} {gs ge : Int} {C : List Int} {cc : Addr} (h : Cells c.w β (gapO gs ge C) l) (h0 : β 0 = some a) (h1 : β 1 = some cc) (ok : gapOk gs ge C) (hb : C.length ≤ bd) : (SO.gap (txt gs ge C) bd).Is c.w α a l := by
  cases h with
  | @cons _ _ a1 cs1 _ l1 e1 i1 h =>
    cases h with
    | @cons _ _ c1 cs2 _ l2 e2 i2 h =>
      cases h
      rw [h0] at e1
      cases e1
      rw [h1] at e2
      cases e2
      obtain ⟨gd, es, rfl, hfs⟩ := i1
      obtain ⟨vs, n, rfl, hC⟩ := i2
      obtain ⟨g0, g1, g2, g3⟩ := ok
      refine ⟨gd, es, cc, vs, n, C, gs.toNat, ge.toNat, rfl, ?_, hC, by lia, by lia, hb, rfl⟩
      have := (hfs.only (ns := [0, 1]) rfl).mono (β := gapα a cc) (only_ext fun p x hp e => by
        unfold inL at hp
        split at hp
        · rename_i q; rw [Nat.eq_of_beq_eq_true q] at e ⊢; rw [h0] at e; exact e
        · unfold inL at hp
          split at hp
          · rename_i q; rw [Nat.eq_of_beq_eq_true q] at e ⊢; rw [h1] at e; exact e
          · cases hp)
      rw [show gapF ((gs.toNat : Nat) : Int) ((ge.toNat : Nat) : Int) = gapF gs ge by rw [Int.toNat_of_nonneg g0, Int.toNat_of_nonneg (by lia)]]
      exact this
end
theorem cat_cells {w : World} {α : Al} {σr : List (Nat × SO)} {r : List (Addr × Obj)} (Cr : Cells w α σr r) : ∀ {q l}, Cells w α q l → Cells w α (q ++ σr) (l ++ r) := by
  intro q l h
  induction h with
  | nil => exact Cr
  | cons h1 h2 _ ih => rw [List.append_assoc]; exact .cons h1 h2 ih
noncomputable def asGap : SO → Option (List Int × Nat)
  | .gap U bd => some (U, bd)
  | _ => none
theorem gap_eq {p : Nat} {H : HS} {U : List Int} {bd : Nat} (h : lkO asGap p H = some (U, bd)) : lk p H.σ = some (.gap U bd) := by
  obtain ⟨o, e1, e2⟩ := lkO_eq h
  cases o <;> cases e2
  exact e1
theorem arg1_ok {l : List SV} {p : Nat} (h : arg1 l = some p) : l = [.r p] := by
  match l, h with
  | [v], h => rw [asR_eq h]
noncomputable def argRIR : List SV → Option (Nat × Int × Nat)
  | [v, u, x] => (asR v).bind fun p => (asI u).bind fun z => (asR x).bind fun y => some (p, z, y)
  | _ => none
theorem argRIR_ok {l : List SV} {p y : Nat} {z : Int} (h : argRIR l = some (p, z, y)) : l = [.r p, .i z, .r y] := by
  match l, h with
  | [v, u, x], h =>
    obtain ⟨p, e1, h1⟩ := Option.bind_eq_some_iff.mp h
    obtain ⟨z, e2, h2⟩ := Option.bind_eq_some_iff.mp h1
    obtain ⟨y, e3, h3⟩ := Option.bind_eq_some_iff.mp h2
    cases h3
    rw [asR_eq e1, asI_eq e2, asR_eq e3]
noncomputable def cSize : Fsp := fun args H => optT (arg1 args) fun g => optT (lkO asGap g H) fun u => .need (u.2 ≤ 1000) (.ret (.i u.1.length, ⟨H.nx, (g, .gap u.1 u.2) :: rm g H.σ⟩))
noncomputable def cCodes : Fsp := fun args H => optT (argRII args) fun a => optT (lkO asGap a.1 H) fun u => .need (u.2 ≤ 1000 ∧ 0 ≤ a.2.1 ∧ a.2.1 ≤ a.2.2 ∧ a.2.2 ≤ u.1.length) (.ret (.r H.nx, ⟨H.nx + 1, (H.nx, .ints ((u.1.take a.2.2.toNat).drop a.2.1.toNat)) :: (a.1, .gap u.1 u.2) :: rm a.1 H.σ⟩))
noncomputable def cDel : Fsp := fun args H => optT (argRII args) fun a => optT (lkO asGap a.1 H) fun u => .need (u.2 ≤ 1000 ∧ 0 ≤ a.2.1 ∧ a.2.1 ≤ a.2.2 ∧ a.2.2 ≤ u.1.length) (.ret (.r H.nx, ⟨H.nx + 1, (H.nx, .ints ((u.1.take a.2.2.toNat).drop a.2.1.toNat)) :: (a.1, .gap (u.1.take a.2.1.toNat ++ u.1.drop a.2.2.toNat) u.2) :: rm a.1 H.σ⟩))
noncomputable def cIns : Fsp := fun args H => optT (argRIR args) fun a => optT (lkO asGap a.1 H) fun u => optT (lk a.2.2 (rm a.1 H.σ)) fun o => optT (asInts o) fun W => .need (u.2 ≤ 1000 ∧ 0 ≤ a.2.1 ∧ a.2.1 ≤ u.1.length ∧ W.length ≤ 50) (.ret (.n, ⟨H.nx, (a.1, .gap (u.1.take a.2.1.toNat ++ (W ++ u.1.drop a.2.1.toNat)) (u.2 + 100)) :: (a.2.2, .ints W) :: rm a.2.2 (rm a.1 H.σ)⟩))
theorem ins_run (gs ge i : Int) (C W : List Int) : sIns [.r 0, .i i, .r 2] ⟨3, [(0, .obj 579 (gapF gs ge)), (1, .ints C), (2, .ints W)]⟩ = (T.need (W.length ≤ (4000 : Nat)) (T.need (gapOk gs ge C ∧ (0 : Int) ≤ ↑W.length ∧ ↑W.length ≤ (100 : Int)) (T.br (ge - gs < ↑W.length) (T.need (gapOk gs (gs + (↑W.length + (8 : Int))) (wdC gs ge (↑W.length) C) ∧ (0 : Int) ≤ i ∧ i + (gs + (↑W.length + (8 : Int)) - gs) ≤ ↑(wdC gs ge (↑W.length) C).length) (T.need (W.length ≤ (4000 : Nat)) (T.need ((0 : Int) ≤ i ∧ i ≤ i + ↑W.length ∧ i + ↑W.length ≤ ↑(mvC gs (gs + (↑W.length + (8 : Int))) i (wdC gs ge (↑W.length) C)).length) (T.need ((mvC gs (gs + (↑W.length + (8 : Int))) i (wdC gs ge (↑W.length) C)).length + W.length ≤ (8000 : Nat)) (T.need (W.length ≤ (4000 : Nat)) (T.ret (SV.n, { nx := (3 : Nat), σ := [((0 : Nat), SO.obj (579 : Nat) [(Str.ofString "room", SV.i (8 : Int)), (Str.ofString "cells", SV.r (1 : Nat)), (Str.ofString "gap_start", SV.i (i + ↑W.length)), (Str.ofString "gap_end", SV.i (i + (gs + (↑W.length + (8 : Int)) - gs)))]), ((1 : Nat), SO.ints (List.take i.toNat (mvC gs (gs + (↑W.length + (8 : Int))) i (wdC gs ge (↑W.length) C)) ++ (W ++ List.drop (i + ↑W.length).toNat (mvC gs (gs + (↑W.length + (8 : Int))) i (wdC gs ge (↑W.length) C))))), ((2 : Nat), SO.ints W)] }))))))) (T.need (gapOk gs ge C ∧ (0 : Int) ≤ i ∧ i + (ge - gs) ≤ ↑C.length) (T.need (W.length ≤ (4000 : Nat)) (T.need ((0 : Int) ≤ i ∧ i ≤ i + ↑W.length ∧ i + ↑W.length ≤ ↑(mvC gs ge i C).length) (T.need ((mvC gs ge i C).length + W.length ≤ (8000 : Nat)) (T.need (W.length ≤ (4000 : Nat)) (T.ret (SV.n, { nx := (3 : Nat), σ := [((0 : Nat), SO.obj (579 : Nat) [(Str.ofString "room", SV.i (8 : Int)), (Str.ofString "cells", SV.r (1 : Nat)), (Str.ofString "gap_start", SV.i (i + ↑W.length)), (Str.ofString "gap_end", SV.i (i + (ge - gs)))]), ((1 : Nat), SO.ints (List.take i.toNat (mvC gs ge i C) ++ (W ++ List.drop (i + ↑W.length).toNat (mvC gs ge i C)))), ((2 : Nat), SO.ints W)] }))))))))) : T (SV × HS)) := by kernel_rfl
theorem del_run (gs ge i j : Int) (C : List Int) : sDel [.r 0, .i i, .i j] ⟨2, gapO gs ge C⟩ = (T.need (gapOk gs ge C ∧ (0 : Int) ≤ i ∧ i ≤ j ∧ j + (ge - gs) ≤ ↑C.length) (T.br (j < gs) (T.need (gapOk gs ge C ∧ (0 : Int) ≤ j ∧ j + (ge - gs) ≤ ↑C.length) (T.br (j < i) (T.need (gapOk j (j + (ge - gs)) (mvC gs ge j C) ∧ (0 : Int) ≤ i ∧ i + (j + (ge - gs) - j) ≤ ↑(mvC gs ge j C).length) (T.ret (SV.r (2 : Nat), { nx := (3 : Nat), σ := [((0 : Nat), SO.obj (579 : Nat) [(Str.ofString "room", SV.i (8 : Int)), (Str.ofString "cells", SV.r (1 : Nat)), (Str.ofString "gap_start", SV.i i), (Str.ofString "gap_end", SV.i (i + (j + (ge - gs) - j) + j - i))]), ((1 : Nat), SO.ints (mvC j (j + (ge - gs)) i (mvC gs ge j C))), ((2 : Nat), SO.ints (List.drop i.toNat (List.take j.toNat (txt gs ge C))))] }))) (T.ret (SV.r (2 : Nat), { nx := (3 : Nat), σ := [((0 : Nat), SO.obj (579 : Nat) [(Str.ofString "room", SV.i (8 : Int)), (Str.ofString "cells", SV.r (1 : Nat)), (Str.ofString "gap_start", SV.i i), (Str.ofString "gap_end", SV.i (j + (ge - gs) + j - j))]), ((1 : Nat), SO.ints (mvC gs ge j C)), ((2 : Nat), SO.ints (List.drop i.toNat (List.take j.toNat (txt gs ge C))))] })))) (T.br (gs < i) (T.need (gapOk gs ge C ∧ (0 : Int) ≤ i ∧ i + (ge - gs) ≤ ↑C.length) (T.ret (SV.r (2 : Nat), { nx := (3 : Nat), σ := [((0 : Nat), SO.obj (579 : Nat) [(Str.ofString "room", SV.i (8 : Int)), (Str.ofString "cells", SV.r (1 : Nat)), (Str.ofString "gap_start", SV.i i), (Str.ofString "gap_end", SV.i (i + (ge - gs) + j - i))]), ((1 : Nat), SO.ints (mvC gs ge i C)), ((2 : Nat), SO.ints (List.drop i.toNat (List.take j.toNat (txt gs ge C))))] }))) (T.ret (SV.r (2 : Nat), { nx := (3 : Nat), σ := [((2 : Nat), SO.ints (List.drop i.toNat (List.take j.toNat (txt gs ge C)))), ((0 : Nat), SO.obj (579 : Nat) [(Str.ofString "room", SV.i (8 : Int)), (Str.ofString "cells", SV.r (1 : Nat)), (Str.ofString "gap_start", SV.i i), (Str.ofString "gap_end", SV.i (ge + j - gs))]), ((1 : Nat), SO.ints C)] })))) : T (SV × HS)) := by kernel_rfl
section
variable {d f : Nat} {run : Fsp} {c : Cx} {own : List (Addr × Obj)} {α : Al} {H : HS} {s : Shared} {m : Str → Option Value} {lit : List (Addr × Obj)} {g : Nat} {U : List Int} {bd : Nat} {E : Value → Shared → Prop}
theorem gap_call (G : FnSound d f run) (O : c.Ok d) (S : SatX c own α [] H s m lit) (hl : lk g H.σ = some (.gap U bd)) (hb : bd ≤ 2000) {args args0 : List SV} {vs : List Value} (j : AreAll α args vs) (ha : args = .r g :: args0) (hs : (args0.all (svIn [])) = true) {K : SV × HS → Prop}
    (hk : ∀ gs ge C, gapOk gs ge C → U = txt gs ge C → C.length ≤ bd → (run (.r 0 :: args0) ⟨2, gapO gs ge C⟩).ok fun q =>
      (∃ gs' ge' C' U' bd', svIn [] q.1 = true ∧ stands (gapO gs' ge' C') q.2.σ ∧ gapOk gs' ge' C' ∧ txt gs' ge' C' = U' ∧ C'.length ≤ bd' ∧ K (q.1, ⟨H.nx, (g, .gap U' bd') :: rm g H.σ⟩)) ∨
      (∃ k W gs' ge' C' U' bd', q.1 = .r k ∧ stands ((k, .ints W) :: gapO gs' ge' C') q.2.σ ∧ gapOk gs' ge' C' ∧ txt gs' ge' C' = U' ∧ C'.length ≤ bd' ∧ K (.r H.nx, ⟨H.nx + 1, (H.nx, .ints W) :: (g, .gap U' bd') :: rm g H.σ⟩))) :
    wpAny (model Pg c.w) c.A (call (.ref f) vs) (PostM c own α m s K) E s := by
  obtain ⟨a, cs, r, h1, h2, h3, h4⟩ := S.C.take hl
  obtain ⟨cc, C, gs, ge, hC, ok, hU, hlen⟩ := gap_is h2 hb
  have p' : (lit ++ own).Perm (cs ++ (r ++ own)) := by
    rw [← List.append_assoc]; exact List.Perm.append_right own h4
  have S0 : SatX c (r ++ own) (gapα a cc) [] ⟨2, gapO gs ge C⟩ s m cs := S.see p' hC fun p hp => by
    match p, hp with
    | p + 2, _ => rfl
  subst ha
  cases j with
  | @cons _ v0 _ vs i j =>
    obtain ⟨a', ha', rfl⟩ := i
    rw [h1] at ha'
    cases ha'
    have j0 : AreAll (gapα a cc) (.r 0 :: args0) (.ref a :: vs) := .cons ⟨a, rfl, rfl⟩ ((j.only hs).mono (only_ext fun p x hp => by cases hp))
    refine wpAny_mono (G c O _ _ _ s m cs _ _ _ E S0 j0 (hk gs ge C ok hU hlen)) (fun v s' x => ?_) fun _ _ x => x
    obtain ⟨α1, sv, H1, lit1, x1, S1, r1, i1, k1 | k1⟩ := x
    · obtain ⟨gs', ge', C', U', bd', hsv, hst, ok', hU', hlen', hK⟩ := k1
      obtain ⟨l, r', C1, C2, p⟩ := S1.C.carve hst
      subst hU'
      have is := is_gap (α := α) (bd := bd') C1 (x1 0 a rfl) (x1 1 cc rfl) ok' hlen'
      have q1 : (lit1 ++ (r ++ own)).Perm (r' ++ ((l ++ r) ++ own)) := by
        rw [List.append_assoc l r own, ← List.append_assoc r' l]
        exact List.Perm.append_right _ (p.trans List.perm_append_comm)
      have N := S1.N.perm fun q hq => q1.mem_iff.mpr hq
      refine ⟨α, sv, ⟨H.nx, (g, .gap (txt gs' ge' C') bd') :: rm g H.σ⟩, l ++ r, Ext.rfl', ⟨S1.F, fun q hq => N q (List.mem_append_right _ hq), apart_right (apart_perm S1.D q1), .cons h1 is h3, fun _ _ h => (nomatch h), S.Z⟩, r1, ?_, hK⟩
      exact (i1.only hsv).mono (only_ext fun p x hp => by cases hp)
    · obtain ⟨k, W, gs', ge', C', U', bd', hsv, hst, ok', hU', hlen', hK⟩ := k1
      obtain ⟨l, r', C1, C2, p⟩ := S1.C.carve hst
      subst hU'
      subst hsv
      cases C1 with
      | @cons _ _ b cb _ l e1 i2 C1 =>
        have is := is_gap (α := setα α H.nx b) (bd := bd') C1 (x1 0 a rfl) (x1 1 cc rfl) ok' hlen'
        have q1 : (lit1 ++ (r ++ own)).Perm (r' ++ ((cb ++ (l ++ r)) ++ own)) := by
          have : ((cb ++ l ++ r') ++ (r ++ own)).Perm (r' ++ ((cb ++ (l ++ r)) ++ own)) := by
            rw [show cb ++ (l ++ r) ++ own = (cb ++ l) ++ (r ++ own) by simp, ← List.append_assoc r']
            exact List.Perm.append_right _ List.perm_append_comm
          exact (List.Perm.append_right _ p).trans this
        have N := S1.N.perm fun q hq => q1.mem_iff.mpr hq
        have e := setα_ext (a := b) (S.Z H.nx (Nat.le_refl _))
        obtain ⟨b', hb', rfl⟩ := i1
        rw [e1] at hb'
        cases hb'
        refine ⟨setα α H.nx b, .r H.nx, ⟨H.nx + 1, (H.nx, .ints W) :: (g, .gap (txt gs' ge' C') bd') :: rm g H.σ⟩, cb ++ (l ++ r), e, ⟨S1.F, fun q hq => N q (List.mem_append_right _ hq), apart_right (apart_perm S1.D q1), .cons setα_same ((i2.only (ns := []) rfl).mono (only_ext fun p x hp => by cases hp)) (.cons (e _ _ h1) is (h3.mono e)), fun _ _ h => (nomatch h), fun p hp => ?_⟩, r1, ⟨b, setα_same, rfl⟩, hK⟩
        have hp' : H.nx + 1 ≤ p := hp
        have : Nat.beq p H.nx = false := by
          cases e : Nat.beq p H.nx with
          | false => rfl
          | true => have := Nat.eq_of_beq_eq_true e; lia
        simp only [setα, this]
        exact S.Z p (by lia)
end
theorem txt_len {gs ge : Int} {C : List Int} (h : gapOk gs ge C) : ((txt gs ge C).length : Int) = C.length - (ge - gs) := by
  obtain ⟨h0, h1, h2, h3⟩ := h
  unfold txt
  rw [List.length_append, List.length_take, List.length_drop]
  lia
theorem cSize_sound : FnSound 1 513 cSize := by
  intro c O own α H s m lit args vs K E S j h
  refine optT_el h ?_
  clear h
  intro g ea h
  replace ea := arg1_ok ea
  subst ea
  refine optT_el h ?_
  clear h
  rintro ⟨U, bd⟩ hl h
  replace hl := gap_eq hl
  dsimp only at h
  obtain ⟨hb, h⟩ := h
  refine gap_call (fn_sound fr513 noT_sound).fn O S hl (by lia) j rfl rfl fun gs ge C ok hU hlen => ?_
  show (sSize _ _).ok _
  rw [size_run]
  have e : (C.length : Int) - ge + gs = (U.length : Int) := by rw [hU, txt_len ok]; lia
  refine ⟨by lia, Or.inl ⟨gs, ge, C, U, bd, rfl, ⟨rfl, rfl, trivial⟩, ok, hU.symm, hlen, ?_⟩⟩
  show K (SV.i _, _)
  rw [e]
  exact h
theorem cCodes_sound : FnSound 1 527 cCodes := by
  intro c O own α H s m lit args vs K E S j h
  refine optT_el h ?_
  clear h
  rintro ⟨g, i, jj⟩ ea h
  replace ea := argRII_ok ea
  subst ea
  refine optT_el h ?_
  clear h
  rintro ⟨U, bd⟩ hl h
  replace hl := gap_eq hl
  dsimp only at h
  obtain ⟨⟨hb, h0, h1, h2⟩, h⟩ := h
  refine gap_call oCodes_sound O S hl (by lia) j rfl rfl fun gs ge C ok hU hlen => ?_
  have e := txt_len ok
  rw [← hU] at e
  refine ⟨⟨ok, h0, h1, (by lia : jj + (ge - gs) ≤ C.length)⟩, Or.inr ⟨2, _, gs, ge, C, U, bd, rfl, ⟨rfl, rfl, rfl, trivial⟩, ok, hU.symm, hlen, ?_⟩⟩
  rw [← hU]
  exact h
theorem cut_txt {gs ge i j : Int} {C : List Int} (h : gapOk gs ge C) (h0 : 0 ≤ i) (h1 : i ≤ gs) (h2 : gs ≤ j) (h3 : j + (ge - gs) ≤ C.length) : gapOk i (ge + j - gs) C ∧ txt i (ge + j - gs) C = (txt gs ge C).take i.toNat ++ (txt gs ge C).drop j.toNat := by
  obtain ⟨A, G, Z, rfl, rfl, rfl, hb⟩ := h.parts
  have hl : (A ++ (G ++ Z)).length = A.length + (G.length + Z.length) := by simp only [List.length_append]
  refine ⟨⟨h0, by lia, by lia, by lia⟩, ?_⟩
  rw [txt_parts rfl rfl]
  unfold txt
  rw [seg_take_lo (by lia), seg_take_lo (by lia), seg_drop_hi (by lia), seg_drop_hi (by lia), seg_drop_hi (Ap := A) (by lia)]
  congr 2
  lia
theorem cDel_sound : FnSound 2 555 cDel := by
  intro c O own α H s m lit args vs K E S j h
  refine optT_el h ?_
  clear h
  rintro ⟨g, i, jj⟩ ea h
  replace ea := argRII_ok ea
  subst ea
  refine optT_el h ?_
  clear h
  rintro ⟨U, bd⟩ hl h
  replace hl := gap_eq hl
  dsimp only at h
  obtain ⟨⟨hb, h0, h1, h2⟩, h⟩ := h
  refine gap_call (fn_sound fr555 TG_sound).fn O S hl (by lia) j rfl rfl fun gs ge C ok hU hlen => ?_
  show (sDel _ _).ok _
  rw [del_run]
  have e := txt_len ok
  rw [← hU] at e
  refine ⟨⟨ok, h0, h1, by lia⟩, fun lo => ⟨⟨ok, by lia, by lia⟩, fun q => absurd h1 (by lia), fun _ => ?_⟩, fun lo => ⟨fun hi => ⟨⟨ok, h0, by lia⟩, ?_⟩, fun hi => ?_⟩⟩
  · obtain ⟨m1, m2, m3⟩ := mv_ok ok (i := jj) (by lia) (by lia)
    obtain ⟨n1, n2⟩ := cut_txt m1 h0 h1 (Int.le_refl _) (by lia)
    exact Or.inr ⟨2, _, i, jj + (ge - gs) + jj - jj, mvC gs ge jj C, _, bd, rfl, ⟨rfl, rfl, rfl, trivial⟩, n1, by rw [n2, m3, ← hU], by lia, by rw [← hU]; exact h⟩
  · obtain ⟨m1, m2, m3⟩ := mv_ok ok (i := i) (by lia) (by lia)
    obtain ⟨n1, n2⟩ := cut_txt m1 h0 (Int.le_refl _) h1 (by lia)
    exact Or.inr ⟨2, _, i, i + (ge - gs) + jj - i, mvC gs ge i C, _, bd, rfl, ⟨rfl, rfl, rfl, trivial⟩, n1, by rw [n2, m3, ← hU], by lia, by rw [← hU]; exact h⟩
  · obtain ⟨n1, n2⟩ := cut_txt ok h0 (i := i) (j := jj) (by lia) (by lia) (by lia)
    exact Or.inr ⟨2, _, i, ge + jj - gs, C, _, bd, rfl, ⟨rfl, rfl, rfl, trivial⟩, n1, by rw [n2, ← hU], by lia, by rw [← hU]; exact h⟩
theorem wd_ok {gs ge x : Int} {C : List Int} (h : gapOk gs ge C) (hx : ge - gs < x) (h0 : x ≤ 100) (hb : C.length ≤ 1000) : gapOk gs (gs + (x + 8)) (wdC gs ge x C) ∧ txt gs (gs + (x + 8)) (wdC gs ge x C) = txt gs ge C ∧ (wdC gs ge x C).length + (ge - gs) = C.length + x + 8 := by
  obtain ⟨A, G, Z, rfl, rfl, rfl, hl0⟩ := h.parts
  have hl : (A ++ (G ++ Z)).length = A.length + (G.length + Z.length) := by simp only [List.length_append]
  have e : wdC (A.length : Int) ((A.length : Int) + (G.length : Int)) x (A ++ (G ++ Z)) = A ++ ((G ++ List.replicate (x - (((A.length : Int) + (G.length : Int)) - (A.length : Int)) + 8).toNat 0) ++ Z) := by
    unfold wdC
    rw [show A ++ (G ++ Z) = (A ++ G) ++ Z by simp, take_a (A := A ++ G) (by rw [List.length_append]; lia), drop_a (A := A ++ G) (by rw [List.length_append]; lia)]
    simp
  rw [e]
  have hr : (G ++ List.replicate (x - (((A.length : Int) + (G.length : Int)) - (A.length : Int)) + 8).toNat (0 : Int)).length = (x + 8).toNat := by
    rw [List.length_append, List.length_replicate]; lia
  refine ⟨gapOk.of rfl (by rw [hr]; lia) (by rw [hr]; lia), ?_, ?_⟩
  · rw [txt_parts rfl (by rw [hr]; lia), txt_parts rfl rfl]
  · simp only [List.length_append, List.length_replicate]; lia
theorem put_txt {i ge : Int} {C W : List Int} (h : gapOk i ge C) (hw : W.length ≤ ge - i) : gapOk (i + W.length) ge (C.take i.toNat ++ (W ++ C.drop (i + W.length).toNat)) ∧ txt (i + W.length) ge (C.take i.toNat ++ (W ++ C.drop (i + W.length).toNat)) = (txt i ge C).take i.toNat ++ (W ++ (txt i ge C).drop i.toNat) ∧ (C.take i.toNat ++ (W ++ C.drop (i + W.length).toNat)).length = C.length := by
  obtain ⟨A, G, Z, rfl, rfl, rfl, hl0⟩ := h.parts
  have e : (A ++ (G ++ Z)).take (A.length : Int).toNat ++ (W ++ (A ++ (G ++ Z)).drop ((A.length : Int) + (W.length : Int)).toNat) = (A ++ W) ++ (G.drop W.length ++ Z) := by
    rw [take_a (by lia), seg_drop_hi (by lia), show ((A.length : Int) + (W.length : Int)).toNat - A.length = W.length by lia, seg_drop_lo (by lia), List.append_assoc]
  have hG : (G.drop W.length).length = G.length - W.length := List.length_drop
  rw [e]
  refine ⟨gapOk.of (by rw [List.length_append]; lia) (by rw [hG]; lia) (by rw [hG, List.length_append]; lia), ?_, ?_⟩
  · rw [txt_parts (by rw [List.length_append]; lia) (by rw [hG, List.length_append]; lia), txt_parts rfl rfl, take_a (by lia), drop_a (by lia), List.append_assoc]
  · simp only [List.length_append, hG]; lia
theorem cIns_sound : FnSound 2 548 cIns := by
  intro c O own α H s m lit args vs K E S j h
  refine optT_el h ?_
  clear h
  rintro ⟨g, i, p⟩ ea h
  replace ea := argRIR_ok ea
  subst ea
  refine optT_el h ?_
  clear h
  rintro ⟨U, bd⟩ hl h
  replace hl := gap_eq hl
  refine optT_el h ?_
  clear h
  intro o hp h
  refine optT_el h ?_
  clear h
  intro W hW h
  dsimp only at h hp
  obtain ⟨⟨hb, h0, h1, h2⟩, h⟩ := h
  obtain ⟨a, cs, r, g1, g2, g3, g4⟩ := S.C.take hl
  obtain ⟨b, cb, r2, k1, k2, k3, k4⟩ := g3.take hp
  obtain ⟨ws, n, rfl, hws⟩ := asInts_is hW k2
  obtain ⟨cc, C, gs, ge, hC, ok, hU, hlen⟩ := gap_is g2 (by lia)
  have p' : (lit ++ own).Perm ((cs ++ [(b, listOf ws.toArray n)]) ++ (r2 ++ own)) := by
    have : (lit ++ own).Perm ((cs ++ ([(b, listOf ws.toArray n)] ++ r2)) ++ own) := List.Perm.append_right own (g4.trans (List.Perm.append_left cs k4))
    simpa using this
  have C0 : Cells c.w (gap3 a cc b) [(0, .obj 579 (gapF gs ge)), (1, .ints C), (2, .ints W)] (cs ++ [(b, listOf ws.toArray n)]) := by
    have e : Ext (gapα a cc) (gap3 a cc b) := fun p x hx => by
      match p, hx with
      | 0, hx => exact hx
      | 1, hx => exact hx
    have C2 : Cells c.w (gap3 a cc b) [(2, .ints W)] ([(b, listOf ws.toArray n)] ++ []) := .cons rfl ⟨ws, n, rfl, hws⟩ .nil
    exact cat_cells C2 (hC.mono e)
  have S0 : SatX c (r2 ++ own) (gap3 a cc b) [] ⟨3, [(0, .obj 579 (gapF gs ge)), (1, .ints C), (2, .ints W)]⟩ s m _ := S.see p' C0 fun p hp => by
    match p, hp with
    | p + 3, _ => rfl
  obtain _ | ⟨⟨a', ha', rfl⟩, _ | ⟨⟨t, rfl⟩, _ | ⟨⟨b', hb', rfl⟩, _ | _⟩⟩⟩ := j
  rw [g1] at ha'
  cases ha'
  rw [k1] at hb'
  cases hb'
  have e := txt_len ok
  rw [← hU] at e
  refine wpAny_mono ((fn_sound fr548 TG_sound).fn c O _ _ _ s m _ [.r 0, .i i, .r 2] [.ref a, .int i t, .ref b] (fun q => q.1 = .n ∧ ∃ gs' ge' C', stands (gapO gs' ge' C' ++ [(2, .ints W)]) q.2.σ ∧ gapOk gs' ge' C' ∧ txt gs' ge' C' = U.take i.toNat ++ (W ++ U.drop i.toNat) ∧ C'.length ≤ bd + 100) E S0 (.cons ⟨a, rfl, rfl⟩ (.cons ⟨t, rfl⟩ (.cons ⟨b, rfl, rfl⟩ .nil))) ?_) (fun v s' x => ?_) fun _ _ x => x
  · show (sIns _ _).ok _
    rw [ins_run]
    have ok' := ok
    obtain ⟨o0, o1, o2, o3⟩ := ok'
    refine ⟨by lia, ⟨ok, by lia, by lia⟩, fun lo => ?_, fun hi => ?_⟩
    · obtain ⟨w1, w2, w3⟩ := wd_ok ok lo (by lia) (by lia)
      obtain ⟨m1, m2, m3⟩ := mv_ok w1 (i := i) h0 (by lia)
      obtain ⟨n1, n2, n3⟩ := put_txt (W := W) m1 (by lia)
      refine ⟨⟨w1, h0, by lia⟩, by lia, ⟨h0, by lia, by lia⟩, by lia, by lia, rfl, _, _, _, ⟨rfl, rfl, rfl, trivial⟩, n1, ?_, by lia⟩
      rw [n2, m3, w2, ← hU]
    · obtain ⟨m1, m2, m3⟩ := mv_ok ok (i := i) h0 (by lia)
      obtain ⟨n1, n2, n3⟩ := put_txt (W := W) m1 (by lia)
      refine ⟨⟨ok, h0, by lia⟩, by lia, ⟨h0, by lia, by lia⟩, by lia, by lia, rfl, _, _, _, ⟨rfl, rfl, rfl, trivial⟩, n1, ?_, by lia⟩
      rw [n2, m3, ← hU]
  · obtain ⟨α1, sv, H1, lit1, x1, S1, r1, i1, rfl, gs', ge', C', hst, ok', hU', hlen'⟩ := x
    obtain ⟨l, r', C1, C2, p⟩ := S1.C.carve hst
    cases C1 with
    | @cons _ _ a1 cs1 _ l1 e1 i1' C1 =>
      cases C1 with
      | @cons _ _ c1 cs2 _ l2 e2 i2' C1 =>
        cases C1 with
        | @cons _ _ b1 cs3 _ l3 e3 i3' C1 =>
          cases C1
          have hb1 : b1 = b := by
            have := x1 2 b rfl
            rw [e3] at this
            cases this
            rfl
          subst hb1
          have is := is_gap (α := α) (bd := bd + 100) (l := cs1 ++ (cs2 ++ [])) (.cons e1 i1' (.cons e2 i2' .nil)) (x1 0 a rfl) (x1 1 cc rfl) ok' hlen'
          rw [hU'] at is
          have q1 : (lit1 ++ (r2 ++ own)).Perm (r' ++ (((cs1 ++ (cs2 ++ [])) ++ (cs3 ++ r2)) ++ own)) := by
            have : ((cs1 ++ (cs2 ++ (cs3 ++ [])) ++ r') ++ (r2 ++ own)).Perm (r' ++ (((cs1 ++ (cs2 ++ [])) ++ (cs3 ++ r2)) ++ own)) := by
              rw [show ((cs1 ++ (cs2 ++ [])) ++ (cs3 ++ r2)) ++ own = (cs1 ++ (cs2 ++ (cs3 ++ []))) ++ (r2 ++ own) by simp, ← List.append_assoc r']
              exact List.Perm.append_right _ List.perm_append_comm
            exact (List.Perm.append_right _ p).trans this
          have N := S1.N.perm fun q hq => q1.mem_iff.mpr hq
          exact ⟨α, .n, ⟨H.nx, (g, .gap (U.take i.toNat ++ (W ++ U.drop i.toNat)) (bd + 100)) :: (_, .ints W) :: rm _ (rm g H.σ)⟩, _, Ext.rfl', ⟨S1.F, fun q hq => N q (List.mem_append_right _ hq), apart_right (apart_perm S1.D q1), .cons g1 is (.cons k1 ((i3'.only (ns := []) rfl).mono (only_ext fun p x hp => by cases hp)) k3), fun _ _ h => (nomatch h), S.Z⟩, r1, i1, h⟩
end KR
end
section
open PySem PySem.W PyProof.Rows PySem.Calls
set_option Elab.async false
set_option maxRecDepth 100000
set_option maxHeartbeats 4000000
set_option linter.constructorNameAsVariable false
set_option linter.unusedVariables false
namespace KR
noncomputable def Blk (w : World) (A : Around) (env : Env) (scope : Scope) (cl : List (Str × Addr)) (elt tgt iter : PySem.Expr) (pos : Pos) (RR : Value → Addr → Result → Shared → Prop) (E : Value → Shared → Prop) (v : Value) (s : Shared) : Prop :=
  wpAny (model Pg w) A (pyIter v) (fun it s₂ => wpAny (model Pg w) A (newList []) (fun acc s₃ => wpAny (model Pg w) A (newFunctionEnv scope env.globals cl [] env.qual none .none (some env)) (fun cenv s₄ =>
      codeAny (model Pg w) A (.compStart (.ListComp elt [⟨tgt, iter, [], 0⟩] scope pos) 0 it acc { cenv with scope := relabel scope env }) (RR acc cenv.locals) s₄) E s₃) E s₂) E s
section
variable {w : World} {A : Around} {E : Value → Shared → Prop} {s : Shared} {env : Env} {scope : Scope} {cl : List (Str × Addr)} {elt iter tgt : PySem.Expr} {pos : Pos} {ax : Addr} {its : Array Value} {RR : Value → Addr → Result → Shared → Prop}
theorem tn_start (hcell : ∀ y ∈ scope.names, y.2 ≠ .cell) (hkind : scope.kind = .function) (hl : s.heap.IsList ax its)
    (go : ∀ I D C h tk m', s.heap.objs.size ≤ I → I < D → D < C → Fr s.heap C h m' → h.IsListIter I ax 0 → h.get? D = some (LCg.lst []) →
      codeAny (model Pg w) A (.compLoop (.ListComp elt [⟨tgt, iter, [], 0⟩] scope pos) 0 (.ref I) (.ref D) (compEnvC scope cl C env)) (RR (.ref D) C) { s with heap := h, toks := tk }) :
    Blk w A env scope cl (elt) (tgt) iter pos RR E (.ref ax) s := by
  refine wpAny_pyIter_list hl (wpAny_newObj_type (wpAny_newFunctionEnv hcell (fun _ hy => nomatch hy) (fun h hns hsb => ?_) hkind))
  dsimp only at hns hsb ⊢
  have k1 : ∀ {b : Addr} {o o' : Obj} {g : Heap}, g.get? b = some o → (g.push o').get? b = some o := fun e => Heap.get?_push_of_some _ e
  have z1 := Heap.size_push s.heap { cls := .type "list_iterator", data := .fields #[.ref ax, .int 0 0] }
  have gI : (s.heap.push { cls := .type "list_iterator", data := .fields #[.ref ax, .int 0 0] }).get? s.heap.objs.size = some { cls := .type "list_iterator", data := .fields #[.ref ax, .int 0 0] } := Heap.get?_push_size _ rfl
  have gk : ∀ b o, s.heap.get? b = some o → (s.heap.push { cls := .type "list_iterator", data := .fields #[.ref ax, .int 0 0] }).get? b = some o := fun b o e => k1 e
  generalize s.heap.push { cls := .type "list_iterator", data := .fields #[.ref ax, .int 0 0] } = g1 at *
  have z2 := Heap.size_push g1 (LCg.lst [])
  have gD : (g1.push (LCg.lst [])).get? g1.objs.size = some (LCg.lst []) := Heap.get?_push_size _ rfl
  have up : ∀ {b o}, b < g1.objs.size + 1 → (g1.push (LCg.lst [])).get? b = some o → h.get? b = some o := fun hb e => hsb.extBut _ _ (Nat.ne_of_lt (z2 ▸ hb)) (k1 e)
  have ze : (g1.push (LCg.lst [])).objs.size = g1.objs.size + 1 := z2
  have fin := go s.heap.objs.size g1.objs.size (g1.push (LCg.lst [])).objs.size h (s.toks + 0) _ (Nat.le_refl _) (by lia) (by lia) ⟨hns, fun b o e => up (by have := Heap.lt_size e; lia) (k1 (gk b o e)), by lia⟩ ⟨_, up (by lia) (k1 gI), rfl, rfl⟩ (up (Nat.lt_succ_self _) gD)
  exact codeAny_compStart_list fin (wpAny_pyIter_listiter ⟨_, up (by lia) (k1 gI), rfl, rfl⟩ fin)
variable {elts : List PySem.Expr} {x1 : Nat} {tp : Pos}
theorem tn_end {h : Heap} {I C : Addr} {m' : Str → Option Value} {l : List (Addr × Obj)} {i : Nat} {tk : Nat} {R : Option Value → Shared → Prop} {E : Value → Shared → Prop} (hh : A.handled = none) (hl : s.heap.IsList ax its) (hi : its[i]? = none) (i0 : s.heap.objs.size ≤ I) (i1 : I ≠ C) (F : Fr s.heap C h m') (N : News s.heap C h l) (off : ∀ p ∈ l, p.1 ≠ I) (hit : h.IsListIter I ax i)
    (exit : ∀ h', Fr s.heap C h' m' → News s.heap C h' l → R none { s with heap := h', toks := tk }) : wpAny (model Pg w) A (pyNext (.ref I)) R E { s with heap := h, toks := tk } := by
  obtain ⟨o, e, r⟩ := hl
  refine wpAny_pyNext_list_end hh hit ⟨o, F.keep _ _ e, r⟩ hi fun h' hx => ?_
  exact exit h' ⟨F.ns.at' fun o e => hx _ _ i1.symm e, fun b o e => hx _ _ (fun q => by rw [q, Heap.get?_none_of_le i0] at e; cases e) (F.keep b o e), F.above⟩ fun p hp => ⟨hx _ _ (off p hp) (N p hp).1, (N p hp).2⟩
theorem tn_zero (hcell : ∀ y ∈ scope.names, y.2 ≠ .cell) (hkind : scope.kind = .function) (hh : A.handled = none) (hl : s.heap.IsList ax #[])
    (exit : ∀ D C h tk m', D < C → Fr s.heap C h m' → News s.heap C h [(D, LCg.lst [])] → RR (.ref D) C (.ok .next) { s with heap := h, toks := tk }) :
    Blk w A env scope cl (elt) (.Tuple elts x1 tp) iter pos RR E (.ref ax) s := by
  refine tn_start hcell hkind hl fun I D C h tk m' i0 i1 i2 F hit hD => ?_
  refine LCp.codeAny_compLoop_pair (fun _ s' => s' = { s with heap := h, toks := tk }) (fun _ s' e => ?_) 0 rfl
  subst e
  have N : News s.heap C h [(D, LCg.lst [])] := fun p hp => by
    cases List.mem_singleton.mp hp
    exact ⟨hD, Nat.ne_of_lt i2, Heap.get?_none_of_le (Nat.le_of_lt (Nat.lt_of_le_of_lt i0 i1))⟩
  exact tn_end hh hl rfl i0 (Nat.ne_of_lt (Nat.lt_trans i1 i2)) F N (fun p hp => by cases List.mem_singleton.mp hp; exact Nat.ne_of_gt i1) hit fun h' F' N' => exit D C h' tk m' i2 F' N'
end
section
variable {w : World} {A : Around} {E : Value → Shared → Prop} {q : Program} {loose : List Str} {mean : ExcName → Option Value} {mg mb : Str → Option Value} {h₀ hp' : Heap} {L ac aq : Addr} {m m₂ : Str → Option Value} {news : List (Addr × Obj)} {ce : Env} {x y z : Int} {tx ty tz : Tok} {ge dr os} {tk k0 : Nat} {p1 p2 p3 p4 p5 p6 p7 p8 p9 p0 : Pos}
noncomputable def tupP (x y : Int) (t1 t2 : Tok) (D : Addr) : Obj := { cls := .type "tuple", data := .seq [Value.int x t1, .int y t2, .ref D].toArray }
noncomputable def PcEnv (ce : Env) (C ac : Addr) : Prop := ce.locals = C ∧ ce.scope.kind = .function ∧ ce.kindOf "low" = some .local ∧ ce.kindOf "high" = some .local ∧ ce.kindOf "plist" = some .local ∧ ce.kindOf "start" = some .cell ∧ ce.cells.lookup (Str.ofString "start") = some ac ∧ ce.kindOf "list" = some .globalImplicit ∧ ce.globals = mainGlobals ∧ ce.builtins = builtinsNs
theorem pc_elt {Q : Value → Shared → Prop} (F : Fr h₀ L hp' m) (N : News h₀ L hp' news) (X : (hp w.params).In h₀) (T : Top q loose mean mg mb h₀) {C : Addr} (hns : hp'.Ns C m₂) (k : PcEnv ce C ac)
    (hx : m₂ "low" = some (.int x tx)) (hy : m₂ "high" = some (.int y ty)) (hz : m₂ "plist" = some (.ref aq)) (cell : hp'.IsCell ac (some (.int z tz))) (lq : hp'.IsList aq #[])
    (h : ∀ T D c t1 t2 h' tk', Fr h₀ L h' m → News h₀ L h' ((T, tupP (x - z) (y - z) t1 t2 D) :: (D, listOf ([] : List Value).toArray c) :: news) → (∀ p ∈ (D, listOf ([] : List Value).toArray c) :: news, p.1 < T) → (∀ p ∈ news, p.1 < D) → Q (.ref T) ⟨h', ge, dr, tk', os⟩) :
    wpAny (model Pg w) A (eval (.Tuple [.BinOp (.Name "low" p1) .Sub (.Name "start" p2) p3, .BinOp (.Name "high" p4) .Sub (.Name "start" p5) p6, .Call (.Name "list" p7) [.Name "plist" p8] [] p9] k0 p0) ce) Q E ⟨hp', ge, dr, tk, os⟩ := by
  obtain ⟨rfl, hk, k1, k2, k3, k4, hc, k5, hg, hb⟩ := k
  refine Tuple_ (args_cons (wpAny_BinOp (wpAny_Name (wpAny_loadName_local hk k1 hns hx (wpAny_Name (wpAny_loadName_cell hk k4 hc cell (sub_clean fun t1 tk1 => ?_)))))) rfl)
  refine args_cons (wpAny_BinOp (wpAny_Name (wpAny_loadName_local hk k2 hns hy (wpAny_Name (wpAny_loadName_cell hk k4 hc cell (sub_clean fun t2 tk2 => ?_)))))) rfl
  refine args_cons (Call_ (Name_function_global hk k5 (loadGlobal_builtin (show hp'.Ns ce.globals mg from hg ▸ (T.keeps F.keep).g) (mg_none_of X T.g (by kernel_rfl)) (show hp'.Ns ce.builtins mb from hb ▸ (T.keeps F.keep).b) ((T.builtins _ (by decide)).trans PyProof.Rows.boot_list) ?_))) rfl
  refine Pv.callWith_type1 (args_cons (wpAny_Name (wpAny_loadName_local hk k3 hns hz (args_nil ?_))) rfl) rfl rfl
  refine list_copyK F N lq (fun D c h2 F2 N2 l2 => args_nil ?_) (Nat.zero_le _)
  exact kup_newTuple F2 N2 (fun T h3 F3 N3 l3 => h T D c t1 t2 h3 _ F3 N3 l3 l2) (Nat.le_of_ble_eq_true rfl)
theorem tn_one {s : Shared} {env : Env} {scope : Scope} {cl : List (Str × Addr)} {iter : PySem.Expr} {pos px py pz tp : Pos} {x1 : Nat} {ax t : Addr} {RR : Value → Addr → Result → Shared → Prop} (hcell : ∀ y ∈ scope.names, y.2 ≠ .cell) (hkind : scope.kind = .function) (hx : scope.names.lookup (Str.ofString "low") = some .local) (hy : scope.names.lookup (Str.ofString "high") = some .local) (hz : scope.names.lookup (Str.ofString "plist") = some .local)
    (hh : A.handled = none) (X : (hp w.params).In s.heap) (T : Top q loose mean mg mb s.heap) (kE : ∀ C, PcEnv (compEnvC scope cl C env) C ac) (hl : s.heap.IsList ax #[.ref t]) (ht : IsTup s.heap t #[.int x tx, .int y ty, .ref aq]) (cell : s.heap.IsCell ac (some (.int z tz))) (lq : s.heap.IsList aq #[])
    (exit : ∀ D C T D2 c t1 t2 h tk m', D < C → D < D2 → D2 < T → Fr s.heap C h m' → News s.heap C h [(D, LCg.lst [.ref T]), (T, tupP (x - z) (y - z) t1 t2 D2), (D2, listOf ([] : List Value).toArray c)] → RR (.ref D) C (.ok .next) { s with heap := h, toks := tk }) :
    Blk w A env scope cl ((.Tuple [.BinOp (.Name "low" p1) .Sub (.Name "start" p2) p3, .BinOp (.Name "high" p4) .Sub (.Name "start" p5) p6, .Call (.Name "list" p7) [.Name "plist" p8] [] p9] k0 p0)) (.Tuple [.Name "low" px, .Name "high" py, .Name "plist" pz] x1 tp) iter pos RR E (.ref ax) s := by
  refine tn_start hcell hkind hl fun I D C h tk m' i0 i1 i2 F hit hD => ?_
  have iC := Nat.lt_trans i1 i2
  have nI : s.heap.get? I = none := Heap.get?_none_of_le i0
  have nD : s.heap.get? D = none := Heap.get?_none_of_le (Nat.le_of_lt (Nat.lt_of_le_of_lt i0 i1))
  refine LCp.codeAny_compLoop_pair (fun k s' => (k = 1 ∧ s' = { s with heap := h, toks := tk }) ∨ (k = 0 ∧ ∃ T D2 c t1 t2 h' tk' m', s' = { s with heap := h', toks := tk' } ∧ I < D2 ∧ D < D2 ∧ D2 < T ∧ h'.IsListIter I ax 1 ∧ Fr s.heap C h' m' ∧ News s.heap C h' [(D, LCg.lst [.ref T]), (T, tupP (x - z) (y - z) t1 t2 D2), (D2, listOf ([] : List Value).toArray c)])) (fun k s' J => ?_) 1 (.inl ⟨rfl, rfl⟩)
  obtain ⟨rfl, rfl⟩ | ⟨rfl, T', D2, c, t1, t2, h', tk', m1, rfl, j1, j2, j3, hit', F', N'⟩ := J
  · have hl' : h.IsList ax #[.ref t] := by obtain ⟨o, e, r⟩ := hl; exact ⟨o, F.keep _ _ e, r⟩
    refine wpAny_pyNext_list_item hit hl' (x := .ref t) rfl fun h1 hit1 s1 => ?_
    have F1 := F.change s1 (Nat.ne_of_lt iC) nI
    refine wpAny_letOwnedTupleGo_listiter hit1 (assign_Tuple_tuple hh (by obtain ⟨o, e, r⟩ := ht; exact ⟨o, F1.keep _ _ e, r⟩) rfl rfl fun h2 he => ?_)
    have he' : ∀ b o, h1.get? b = some o → h2.get? b = some o := fun b o e => he b o (Nat.ne_of_lt (Heap.lt_size e)) e
    have F2 := F1.keeps he'
    refine assignInOrder_cons (wpAny_assign_Name (wpAny_storeName_local (lookup_relabel_local hx) F2.ns (fun h3 n3 s3 => ?_) (by simp [compEnvC, relabel, hkind])))
    refine assignInOrder_cons (wpAny_assign_Name (wpAny_storeName_local (lookup_relabel_local hy) n3 (fun h4 n4 s4 => ?_) (by simp [compEnvC, relabel, hkind])))
    refine assignInOrder_cons (wpAny_assign_Name (wpAny_storeName_local (lookup_relabel_local hz) n4 (fun h5 n5 s5 => ?_) (by simp [compEnvC, relabel, hkind])))
    refine assignInOrder_nil ?_
    have F5 := ((F2.set n3 s3).set n4 s4).set n5 s5
    have k5 : ∀ b o, b ≠ C → h1.get? b = some o → h5.get? b = some o := fun b o hb e => s5.extBut b o hb (s4.extBut b o hb (s3.extBut b o hb (he' b o e)))
    obtain ⟨oI, eI, rI⟩ := hit1
    have N5 : News s.heap C h5 [(D, LCg.lst []), (I, oI)] := fun p hp => by
      obtain _ | ⟨_, _ | ⟨_, hp⟩⟩ := hp
      · exact ⟨k5 _ _ (Nat.ne_of_lt i2) (s1.extBut _ _ (Nat.ne_of_gt i1) hD), Nat.ne_of_lt i2, nD⟩
      · exact ⟨k5 _ _ (Nat.ne_of_lt iC) eI, Nat.ne_of_lt iC, nI⟩
      · cases hp
    refine pc_elt (aq := aq) (z := z) (tz := tz) F5 N5 (X.keeps fun _ _ e => e) T n5 (kE C) (tx := tx) (ty := ty) (by rfl) (by rfl) (by rfl) (by obtain ⟨o, e, r⟩ := cell; exact ⟨o, F5.keep _ _ e, r⟩) (by obtain ⟨o, e, r⟩ := lq; exact ⟨o, F5.keep _ _ e, r⟩) fun T' D2 c t1 t2 h6 tk6 F6 N6 l6 l6' => ?_
    have gD := N6 _ (.tail _ (.tail _ (.head _)))
    refine append_at gD.1 fun h7 s7 d7 => ⟨0, Nat.zero_lt_one, .inr ⟨rfl, T', D2, c, t1, t2, h7, tk6, _, rfl, l6' _ (.tail _ (.head _)), l6' _ (.head _), l6 _ (.head _), ?_, F6.change s7 (Nat.ne_of_lt i2) nD, fun p hp => ?_⟩⟩
    · exact ⟨oI, s7.extBut _ _ (Nat.ne_of_lt i1) (N6 _ (.tail _ (.tail _ (.tail _ (.head _))))).1, rI⟩
    · obtain _ | ⟨_, _ | ⟨_, _ | ⟨_, hp⟩⟩⟩ := hp
      · exact ⟨d7, gD.2⟩
      · exact ⟨s7.extBut _ _ (Nat.ne_of_gt (l6 _ (.tail _ (.head _)))) (N6 _ (.head _)).1, (N6 _ (.head _)).2⟩
      · exact ⟨s7.extBut _ _ (Nat.ne_of_gt (l6' _ (.head _))) (N6 _ (.tail _ (.head _))).1, (N6 _ (.tail _ (.head _))).2⟩
      · cases hp
  · refine tn_end hh hl rfl i0 (Nat.ne_of_lt iC) F' N' (fun p hp => ?_) hit' fun h2 F2 N2 => exit D C T' D2 c t1 t2 h2 tk' m1 i2 j2 j3 F2 N2
    obtain _ | ⟨_, _ | ⟨_, _ | ⟨_, hp⟩⟩⟩ := hp
    · exact Nat.ne_of_gt i1
    · exact Nat.ne_of_gt (Nat.lt_trans j1 j3)
    · exact Nat.ne_of_gt j1
    · cases hp
end
theorem tn_back {h₀ b h : Heap} {L C : Addr} {m m' : Str → Option Value} {news l : List (Addr × Obj)} (F : Fr h₀ L b m) (N : News h₀ L b news) (F' : Fr b C h m') (N' : News b C h l) :
    Fr h₀ L h m ∧ News h₀ L h (l ++ news) ∧ C ≠ L ∧ h₀.get? C = none ∧ (∀ p ∈ l ++ news, p.1 ≠ C) ∧ ∀ p ∈ l, ∀ q ∈ news, p.1 ≠ q.1 := by
  have old : ∀ {a : Addr} {o : Obj}, b.get? a = some o → a < C := fun e => Nat.lt_of_lt_of_le (Heap.lt_size e) F'.above
  have none0 : ∀ {a : Addr}, b.get? a = none → h₀.get? a = none := fun {a} e => by
    cases g : h₀.get? a with
    | none => rfl
    | some o => rw [F.keep _ _ g] at e; cases e
  have apart : ∀ p ∈ l, ∀ (a : Addr) (o : Obj), b.get? a = some o → p.1 ≠ a := fun p hp a o e q => by
    have := (N' p hp).2.2
    rw [q, e] at this
    cases this
  obtain ⟨oL, _, _, eL, _⟩ := F.ns
  refine ⟨F.keeps F'.keep, fun p hp => ?_, Nat.ne_of_gt (old eL), none0 (Heap.get?_none_of_le F'.above), fun p hp => ?_, fun p hp q hq => apart p hp _ _ (N q hq).1⟩
  · rcases List.mem_append.mp hp with hp | hp
    · exact ⟨(N' p hp).1, apart p hp _ _ eL, none0 (N' p hp).2.2⟩
    · exact ⟨F'.keep _ _ (N p hp).1, (N p hp).2⟩
  · rcases List.mem_append.mp hp with hp | hp
    · exact (N' p hp).2.1
    · exact Nat.ne_of_lt (old (N p hp).1)
section
variable {w : World} {A : Around} {E : Value → Shared → Prop} {s : Shared} {env : Env} {scope : Scope} {cl : List (Str × Addr)} {elt iter tgt : PySem.Expr} {pos py spos : Pos} {h₀ : Heap} {L : Addr} {y : Str}
theorem tn_list {Q : Value → Shared → Prop} (hclos : closureFor scope env = pure cl) (hkind : scope.kind = .function) (hnames : ∀ z ∈ scope.names, z.2 = .local → scope.names.lookup z.1 = some .local)
    (h : wpAny (model Pg w) A (eval iter env) (fun v s1 => ∃ (m : Str → Option Value) (news : List (Addr × Obj)) (Out : Addr → List Value → List (Addr × Obj) → Prop), Fr h₀ L s1.heap m ∧ News h₀ L s1.heap news ∧ (∀ RR E, (∀ D C h tk m' ys l, Fr s1.heap C h m' → News s1.heap C h ((D, LCg.lst ys) :: l) → Out D ys l → RR (.ref D) C (.ok .next) { s1 with heap := h, toks := tk }) → Blk w A env scope cl elt tgt iter pos RR E v s1) ∧
      ∀ D h tk ys l, Fr h₀ L h m → News h₀ L h ((D, LCg.lst ys) :: (l ++ news)) → (∀ p ∈ (D, LCg.lst ys) :: l, ∀ q ∈ news, p.1 ≠ q.1) → Out D ys l → Q (.ref D) { s1 with heap := h, toks := tk }) E s)
    (hs : ∀ x, foldedSetIterable iter env x = pure x := by intro _; rfl) : wpAny (model Pg w) A (eval (.ListComp elt [⟨tgt, iter, [], 0⟩] scope pos) env) Q E s := by
  rw [eval_ListComp]
  refine wpAny_comprehension_free (use := none) rfl hs hclos hkind hnames (wpAny_mono h (fun v s1 p => ?_) fun _ _ e => e)
  obtain ⟨m, news, Out, F, N, blk, fin⟩ := p
  refine blk _ _ fun D C h tk m' ys l F' N' o => ?_
  obtain ⟨F2, N2, c1, c2, c3, c4⟩ := tn_back F N F' N'
  exact ⟨m', F'.ns, fun h'' hs'' => fin D h'' _ ys l (F2.change hs'' c1 c2) (fun p hp => ⟨hs''.extBut _ _ (c3 p hp) (N2 p hp).1, (N2 p hp).2⟩) c4 o⟩
theorem tn_assign {Q : Flow → Shared → Prop} (hLe : env.locals = L) (hsw : swapsWith (.ListComp elt [⟨tgt, iter, [], 0⟩] scope pos) (some (.Name y py)) spos.line env = pure true) (hclos : closureFor scope env = pure cl) (hkind : scope.kind = .function) (hnames : ∀ z ∈ scope.names, z.2 = .local → scope.names.lookup z.1 = some .local)
    (hy : env.kindOf y = some .local) (hp : (env.scope.kind == .class || (env.scope.kind == .module && env.locals != env.globals)) = false)
    (h : wpAny (model Pg w) A (eval iter env) (fun v s1 => ∃ (m : Str → Option Value) (news : List (Addr × Obj)) (Out : Addr → List Value → List (Addr × Obj) → Prop), Fr h₀ L s1.heap m ∧ News h₀ L s1.heap news ∧ (∀ RR E, (∀ D C h tk m' ys l, Fr s1.heap C h m' → News s1.heap C h ((D, LCg.lst ys) :: l) → Out D ys l → RR (.ref D) C (.ok .next) { s1 with heap := h, toks := tk }) → Blk w A env scope cl elt tgt iter pos RR E v s1) ∧
      ∀ D h tk ys l, Fr h₀ L h (fun z => if z = y then some (.ref D) else m z) → News h₀ L h ((D, LCg.lst ys) :: (l ++ news)) → (∀ p ∈ (D, LCg.lst ys) :: l, ∀ q ∈ news, p.1 ≠ q.1) → Out D ys l → Q .next { s1 with heap := h, toks := tk }) E s)
    (hs : ∀ x, foldedSetIterable iter env x = pure x := by intro _; rfl) : wpAny (model Pg w) A (exec (.Assign [.Name y py] (.ListComp elt [⟨tgt, iter, [], 0⟩] scope pos) spos) env) Q E s := by
  subst hLe
  rw [exec_Assign_Name_used _ _ _ _ hsw]
  refine wpAny_bind (wpAny_standAt (wpAny_bind ?_))
  show wpAny _ A (do let _ ← comprehension (.ListComp elt [⟨tgt, iter, [], 0⟩] scope pos) scope env _ (newList []) false (eval iter env) (some (assign (.Name y py) env))) _ _ s
  refine wpAny_bind (wpAny_mono (wpAny_comprehension_free (use := some (assign (.Name y py) env)) (Q := fun _ s' => Q .next s') rfl hs hclos hkind hnames (wpAny_mono h (fun v s1 p => ?_) fun _ _ e => e)) (fun _ _ hq => wpAny_pure (wpAny_pure hq)) fun _ _ e => e)
  obtain ⟨m, news, Out, F, N, blk, fin⟩ := p
  refine blk _ _ fun D C h tk m' ys l F' N' o => ?_
  obtain ⟨F2, N2, c1, c2, c3, c4⟩ := tn_back F N F' N'
  show wpAny _ A (assign (.Name y py) env (.ref D)) _ _ _
  refine wpAny_assign_Name (wpAny_storeName_local hy F2.ns (fun h2 hn2 hs2 => ?_) hp)
  exact ⟨m', F'.ns.sameBut hs2 c1, fun h'' hs'' => fin D h'' _ ys l ((F2.set hn2 hs2).change hs'' c1 c2) (fun p hp => ⟨hs''.extBut _ _ (c3 p hp) (hs2.extBut _ _ (N2 p hp).2.1 (N2 p hp).1), (N2 p hp).2⟩) c4 o⟩
end
end KR
end
section
open PySem PySem.W PyProof.Rows PySem.Calls
set_option Elab.async false
set_option maxRecDepth 100000
set_option maxHeartbeats 4000000
set_option linter.constructorNameAsVariable false
set_option linter.unusedVariables false
namespace KR
theorem areAll_nil {α : Al} {vs : List Value} (h : AreAll α [] vs) : vs = [] := by cases h; rfl
theorem areAll_cons {α : Al} {v : SV} {l : List SV} {vs : List Value} (h : AreAll α (v :: l) vs) : ∃ a as, vs = a :: as ∧ v.Is α a ∧ AreAll α l as := by cases h; exact ⟨_, _, rfl, ‹_›, ‹_›⟩
theorem areAll_one {α : Al} {t : Nat} {vs : List Value} (h : AreAll α [.r t] vs) : ∃ a, α t = some a ∧ vs = [.ref a] := by
  obtain ⟨v, l, rfl, ⟨a, ha, rfl⟩, g⟩ := areAll_cons h
  cases areAll_nil g
  exact ⟨a, ha, rfl⟩
theorem areAll_iir {α : Al} {x y : Int} {t : Nat} {vs : List Value} (h : AreAll α [.i x, .i y, .r t] vs) : ∃ tx ty a, α t = some a ∧ vs = [.int x tx, .int y ty, .ref a] := by
  obtain ⟨_, l, rfl, ⟨tx, rfl⟩, g⟩ := areAll_cons h
  obtain ⟨_, l, rfl, ⟨ty, rfl⟩, g2⟩ := areAll_cons g
  obtain ⟨a, ha, rfl⟩ := areAll_one g2
  exact ⟨tx, ty, a, ha, rfl⟩
noncomputable def bMoved : Loc → HS → T R3 := fun ρ H => match lkS "runs" ρ with
  | some (.r p) => match lk p H.σ with
    | some (.list []) => .ret (.ret (.r H.nx), ρ, H.new (.list []))
    | _ => .fail
  | _ => .fail
theorem bMoved_ok {d : Nat} : BodyS d fS187.1 bS187.1 bMoved := by
  intro c O hsc hclo own α ρ H s K E PE S h
  obtain ⟨n, hclo⟩ := hclo
  unfold bMoved at h
  split at h <;> try exact h.elim
  rename_i p hρ
  split at h <;> try exact h.elim
  rename_i hl
  obtain ⟨m, lit, S⟩ := S
  obtain ⟨v, hv, a, ha, rfl⟩ := S.V _ _ hρ
  obtain ⟨vs, k, hm, hvs⟩ := S.list hl ha
  cases areAll_nil hvs
  have henv : c.env = envX c.cnm fS187.1 c.L c.acl c.ccd [(Str.ofString "by", n)] := by rw [← hsc, ← show c.clo = [(Str.ofString "by", n)] from hclo]
  have eb : bS187.1 = [_] := rfl
  rw [eb]
  refine wpAny_execs_cons (wpAny_Return_some ?_)
  refine tn_list (cl := [(Str.ofString "by", n)]) (h₀ := c.h₀) (L := c.L) (by rw [henv]; with_unfolding_all rfl) (by rfl) (by decide) ?_
  refine nameX_L S.F hv ⟨m, lit ++ own, fun _ ys l => ys = [] ∧ l = [], S.F, S.N, fun RR E ex => tn_zero (by decide) rfl rfl ⟨_, (S.N _ hm).1, rfl, _, rfl⟩ fun D C h tk m' _ F' N' => ex D C h tk m' [] [] F' N' ⟨rfl, rfl⟩, ?_⟩ O.hk (by rw [hsc]; rfl) (by decide)
  rintro D h' tk _ _ F' N' off ⟨rfl, rfl⟩
  have e0 := setα_ext (a := D) (S.Z _ (Nat.le_refl _))
  exact ⟨_, .ret (.r H.nx), ρ, _, e0, ⟨m, _, S.alloc (cs := [(D, listOf ([] : List Value).toArray 0)]) (o := .list []) F' N' ⟨fun b hb => by
    obtain ⟨q, hq, rfl⟩ := of_mem_adr hb
    exact off _ (.head _) q hq, S.D⟩ ⟨[], 0, rfl, .nil⟩⟩, Rest.rfl', ⟨_, rfl, D, setα_same, rfl⟩, h⟩
theorem asTup_eq {o : SO} {l : List SV} (h : asTup o = some l) : o = .tup l := by cases o <;> cases h; rfl
theorem asCell_eq {o : SO} {v : SV} (h : asCell o = some v) : o = .cell (some v) := by cases o <;> cases h; rfl
noncomputable def isNil : List SV → Option Unit
  | [] => some ()
  | _ => none
theorem isNil_eq {l : List SV} {u : Unit} (h : isNil l = some u) : l = [] := by cases l <;> cases h; rfl
noncomputable def xyq (l : List SV) : Option (Int × Int × Nat) := match l with
  | [a, b, c] => (asI a).bind fun x => (asI b).bind fun y => (asR c).bind fun q => some (x, y, q)
  | _ => none
theorem xyq_eq {l : List SV} {x y : Int} {q : Nat} (h : xyq l = some (x, y, q)) : l = [.i x, .i y, .r q] := by
  match l, h with
  | [a, b, c], h =>
    obtain ⟨x1, e1, h⟩ := Option.bind_eq_some_iff.mp h
    obtain ⟨y1, e2, h⟩ := Option.bind_eq_some_iff.mp h
    obtain ⟨q1, e3, h⟩ := Option.bind_eq_some_iff.mp h
    cases h
    rw [asI_eq e1, asI_eq e2, asR_eq e3]
noncomputable def itE : PySem.Expr := match bS459.1 with
  | s :: _ => match s with
    | .Assign _ e .. => match e with
      | .ListComp _ gs .. => match gs with
        | g :: _ => g.iter
        | _ => .Constant .none 0 ⟨0, 0, 0, 0⟩
      | _ => .Constant .none 0 ⟨0, 0, 0, 0⟩
    | _ => .Constant .none 0 ⟨0, 0, 0, 0⟩
  | _ => .Constant .none 0 ⟨0, 0, 0, 0⟩
noncomputable def pcO (k : Loc → HS → T R3) (ρ : Loc) (H : HS) (l : List SV) : T R3 := match l with
  | [] => k (putS "runs" (.r H.nx) ρ) (H.new (.list []))
  | t :: r => optT (isNil r) fun _ => optT (asR t) fun t => optT (lkO asTup t H) fun l => optT (xyq l) fun g => optT (lkO asLst g.2.2 H) fun l => optT (isNil l) fun _ =>
    optT (lkS "start" ρ) fun v => optT (asCl v) fun pc => optT (lkO asCell pc H) fun v => optT (asI v) fun z =>
    k (putS "runs" (.r (H.nx + 2)) ρ) (((H.new (.list [])).new (.tup [.i (g.1 - z), .i (g.2.1 - z), .r H.nx])).new (.list [.r (H.nx + 1)]))
noncomputable def bPieceOf (Γ : Tab) : Loc → HS → T R3 := fun ρ H => (ev Γ (evName fS459.1.names ρ) 20 itE H).bind fun v => optT (asR v.1) fun p => optT (lkO asLst p v.2) fun l => pcO (exs (ex Γ fS459.1.names 40) (bS459.1.drop 1)) ρ v.2 l
theorem cells3 {w : World} {α : Al} {H : HS} {lit : List (Addr × Obj)} {D D2 T : Addr} {x y : Int} {t1 t2 : Tok} {c : Nat} (C : Cells w α H.σ lit) (Z : ∀ p, H.nx ≤ p → α p = none) :
    ∃ β, Ext α β ∧ β (H.nx + 2) = some D ∧ Cells w β (((H.new (.list [])).new (.tup [.i x, .i y, .r H.nx])).new (.list [.r (H.nx + 1)])).σ ((D, LCg.lst [.ref T]) :: (T, tupP x y t1 t2 D2) :: (D2, listOf ([] : List Value).toArray c) :: lit) ∧ ∀ p, H.nx + 3 ≤ p → β p = none := by
  have e0 := setα_ext (a := D2) (Z _ (Nat.le_refl _))
  have Z0 := setα_none (a := D2) Z
  have e1 := setα_ext (a := T) (Z0 _ (Nat.le_refl _))
  have Z1 := setα_none (a := T) Z0
  have e2 := setα_ext (a := D) (Z1 _ (Nat.le_refl _))
  have hD2 := (e1.trans e2) _ _ setα_same
  have hT := e2 _ _ setα_same
  exact ⟨_, e0.trans (e1.trans e2), setα_same, .cons (cs := [_]) setα_same ⟨[.ref T], 1, rfl, .cons ⟨T, hT, rfl⟩ .nil⟩ (.cons (cs := [_]) hT ⟨[.int x t1, .int y t2, .ref D2], rfl, .cons ⟨_, rfl⟩ (.cons ⟨_, rfl⟩ (.cons ⟨D2, hD2, rfl⟩ .nil))⟩ (.cons (cs := [_]) hD2 ⟨[], c, rfl, .nil⟩ (C.mono (e0.trans (e1.trans e2))))), setα_none Z1⟩
theorem SatX.stored {c : Cx} {own : List (Addr × Obj)} {α β : Al} {ρ : Loc} {H H' : HS} {s s' : Shared} {m : Str → Option Value} {lit l : List (Addr × Obj)} (S : SatX c own α ρ H s m lit) {x : Str} {p : Nat} {D : Addr} (e : Ext α β) (ha : β p = some D) (F : Fr c.h₀ c.L s'.heap (fun z => if z = x then some (.ref D) else m z)) (N : News c.h₀ c.L s'.heap (l ++ own)) (DD : Apart (adr (l ++ own))) (C : Cells c.w β H'.σ l) (Z : ∀ p, H'.nx ≤ p → β p = none) :
    SatX c own β (putS x (.r p) ρ) H' s' (fun z => if z = x then some (.ref D) else m z) l := by
  refine ⟨F, N, DD, C, fun y sy hy => ?_, Z⟩
  rw [lkS_put] at hy
  cases g : eqS y x with
  | true => rw [g, if_pos rfl] at hy; cases hy; exact ⟨_, if_pos (eqS_iff.mp g), D, ha, rfl⟩
  | false => rw [g, if_neg (by simp)] at hy; exact ((S.V y sy hy).mono e).at (if_neg (eqS_no.mp g))
theorem pcO_one {k : Loc → HS → T R3} {ρ : Loc} {H : HS} {t0 : SV} {r : List SV} {K : R3 → Prop} (h : (pcO k ρ H (t0 :: r)).ok K) : ∃ t x y q pc z, t0 :: r = [.r t] ∧ lk t H.σ = some (.tup [.i x, .i y, .r q]) ∧ lk q H.σ = some (.list []) ∧ lkS "start" ρ = some (.cl pc) ∧ lk pc H.σ = some (.cell (some (.i z))) ∧ (k (putS "runs" (.r (H.nx + 2)) ρ) (((H.new (.list [])).new (.tup [.i (x - z), .i (y - z), .r H.nx])).new (.list [.r (H.nx + 1)]))).ok K := by
  refine via fun G hG => ?_
  refine optT_el h ?_
  clear h
  intro _ e h
  cases isNil_eq e
  refine asR_el h ?_
  clear h
  rintro t rfl h
  refine optT_el h ?_
  clear h
  intro lt e h
  obtain ⟨_, ht, e⟩ := lkO_eq e
  cases asTup_eq e
  refine optT_el h ?_
  clear h
  rintro ⟨x, y, qn⟩ e h
  cases xyq_eq e
  refine lst_el h ?_
  clear h
  intro _ hq h
  refine optT_el h ?_
  clear h
  intro _ e h
  cases isNil_eq e
  refine optT_el h ?_
  clear h
  intro _ hρ h
  refine optT_el h ?_
  clear h
  intro pc e h
  cases asCl_eq e
  refine optT_el h ?_
  clear h
  intro _ e h
  obtain ⟨_, hpc, e⟩ := lkO_eq e
  cases asCell_eq e
  refine asI_el h ?_
  clear h
  rintro z rfl h
  exact hG.mpr ⟨t, x, y, qn, pc, z, rfl, ht, hq, hρ, hpc, h⟩
theorem bPieceOf_ok {d : Nat} {Γ : Tab} (G : TabSound d Γ) : BodyS d fS459.1 bS459.1 (bPieceOf Γ) := by
  intro c O hsc hclo own α ρ H s K E PE S h
  obtain ⟨n, hclo⟩ := hclo
  have henv : c.env = envX c.cnm fS459.1 c.L c.acl c.ccd [(Str.ofString "start", n)] := by rw [← hsc, ← show c.clo = [(Str.ofString "start", n)] from hclo]
  obtain ⟨m, S⟩ := S
  have ht := ev_sound G O (fun x pos α H m s K E S h => evName_sound O (by rw [hsc]) S h) 20 itE α H m s _ E S (T.ok_bind h)
  have I := fun {α ρ H s K} => exs_sound (ex_sound G O (by rw [hsc]) 40) (bS459.1.drop 1) (own := own) (α := α) (ρ := ρ) (H := H) (s := s) (K := K) PE
  have eb : bS459.1 = [_, _] := rfl
  obtain ⟨lit, S⟩ := S
  rw [eb]
  refine wpAny_execs_cons ?_
  refine tn_assign (cl := [(Str.ofString "start", n)]) (h₀ := c.h₀) (L := c.L) rfl (by rw [henv]; with_unfolding_all rfl) (by rw [henv]; with_unfolding_all rfl) rfl (by decide) (by rw [henv]; rfl) (by rw [henv]; rfl) ?_
  refine wpAny_mono ht (fun v s1 p => via fun P hP => ?_) fun _ _ x => x
  obtain ⟨α1, sv, H1, x1, ⟨lit1, S1⟩, r1, i1, h1⟩ := p
  dsimp only at h1
  refine asR_el h1 ?_
  clear h1
  rintro p rfl h1
  refine lst_el h1 ?_
  clear h1
  intro lv hl h1
  obtain ⟨a, ha, rfl⟩ := i1
  cases lv with
  | nil =>
    obtain ⟨vs, k, hm, hvs⟩ := S1.list hl ha
    cases areAll_nil hvs
    refine hP.mpr ⟨m, lit1 ++ own, fun _ ys l => ys = [] ∧ l = [], S1.F, S1.N, fun RR E ex => tn_zero (by decide) rfl rfl ⟨_, (S1.N _ hm).1, rfl, _, rfl⟩ fun D C h tk m' _ F' N' => ex D C h tk m' [] [] F' N' ⟨rfl, rfl⟩, ?_⟩
    rintro D h' tk _ _ F' N' off ⟨rfl, rfl⟩
    have e0 := setα_ext (a := D) (S1.Z _ (Nat.le_refl _))
    have S2 := S1.stored (s' := ⟨h', s1.gens, s1.drawn, tk, s1.os⟩) (H' := H1.new (.list [])) (l := [(D, listOf ([] : List Value).toArray 0)] ++ lit1) e0 setα_same F' N' ⟨fun b hb => by
      obtain ⟨q, hq, rfl⟩ := of_mem_adr hb
      exact off _ (.head _) q hq, S1.D⟩ (.cons setα_same ⟨[], 0, rfl, .nil⟩ (S1.C.mono e0)) (setα_none S1.Z)
    exact PostS.on (x1.trans e0) r1 (I ⟨_, _, S2⟩ h1)
  | cons t0 r0 =>
    replace h1 := pcO_one h1
    obtain ⟨t, x, y, qn, pc, z, e, ht', hq, hρ, hpc, h1⟩ := h1
    rw [e] at hl
    obtain ⟨ac, hac, hap⟩ := S1.V _ _ hρ
    rw [show c.clo = [(Str.ofString "start", n)] from hclo] at hac
    cases (hac : some n = some ac)
    obtain ⟨vs, k, hm, hvs⟩ := S1.list hl ha
    obtain ⟨at', hat, rfl⟩ := areAll_one hvs
    obtain ⟨b0, cs0, hb0, ⟨vt, rfl, hvt⟩, hmt⟩ := S1.at ht'
    cases hat.symm.trans hb0
    obtain ⟨tx, ty, aq, haq, rfl⟩ := areAll_iir hvt
    obtain ⟨vq, kq, hmq, hvq⟩ := S1.list hq haq
    cases areAll_nil hvq
    obtain ⟨b1, cs1, hb1, ⟨ob, u, rfl, hob, tz, rfl⟩, hmc⟩ := S1.at hpc
    cases hap.symm.trans hb1
    refine hP.mpr ⟨m, lit1 ++ own, fun D ys l => ∃ T D2 c t1 t2, D < D2 ∧ D2 < T ∧ ys = [.ref T] ∧ l = [(T, tupP (x - z) (y - z) t1 t2 D2), (D2, listOf ([] : List Value).toArray c)], S1.F, S1.N, fun RR E ex => tn_one (by decide) rfl rfl rfl rfl rfl (O.X.keeps S1.F.keep) (O.T.keeps S1.F.keep) (fun C => by rw [henv]; exact ⟨rfl, rfl, rfl, rfl, rfl, rfl, rfl, rfl, rfl, rfl⟩) ⟨_, (S1.N _ hm).1, rfl, _, rfl⟩ ⟨_, (S1.N _ (hmt _ (.head _))).1, rfl, _, rfl⟩ ⟨ob, (S1.N _ (hmc _ (.head _))).1, hob⟩ ⟨_, (S1.N _ hmq).1, rfl, _, rfl⟩ fun D C T D2 c t1 t2 h tk m' _ j2 j3 F' N' => ex D C h tk m' _ _ F' N' ⟨T, D2, c, t1, t2, j2, j3, rfl, rfl⟩, ?_⟩
    rintro D h4 tk4 _ _ F4 N4 off ⟨T, D2, cc, t1, t2, j2, j3, rfl, rfl⟩
    obtain ⟨β, eβ, hβ, C2, Z2⟩ := cells3 (D := D) (D2 := D2) (T := T) (x := x - z) (y := y - z) (t1 := t1) (t2 := t2) (c := cc) S1.C S1.Z
    have ap : ∀ p ∈ [(D, LCg.lst [.ref T]), (T, tupP (x - z) (y - z) t1 t2 D2), (D2, listOf ([] : List Value).toArray cc)], ∀ b ∈ adr (lit1 ++ own), p.1 ≠ b := fun p hp b hb => by
      obtain ⟨q, hq, rfl⟩ := of_mem_adr hb
      exact off p hp q hq
    have S2 := S1.stored (s' := ⟨h4, s1.gens, s1.drawn, tk4, s1.os⟩) (l := (D, LCg.lst [.ref T]) :: (T, tupP (x - z) (y - z) t1 t2 D2) :: (D2, listOf ([] : List Value).toArray cc) :: lit1) eβ hβ F4 N4 ⟨fun b hb => ?_, fun b hb => ?_, ap _ (.tail _ (.tail _ (.head _))), S1.D⟩ C2 Z2
    · exact PostS.on (x1.trans eβ) r1 (I ⟨_, _, S2⟩ h1)
    · obtain _ | ⟨_, _ | ⟨_, hb⟩⟩ := hb
      · exact Nat.ne_of_lt (Nat.lt_trans j2 j3)
      · exact Nat.ne_of_lt j2
      · exact ap _ (.head _) b hb
    · obtain _ | ⟨_, hb⟩ := hb
      · exact Nat.ne_of_gt j3
      · exact ap _ (.tail _ (.head _)) b hb
end KR
end
section
open PySem PySem.W PyProof.Rows PySem.Calls
set_option Elab.async false
set_option maxRecDepth 100000
set_option maxHeartbeats 4000000
set_option linter.constructorNameAsVariable false
set_option linter.unusedVariables false
namespace KR
noncomputable section
noncomputable def bufF (g mk ls : Nat) (pt zv : Int) (mark : SV) : List (Str × SV) :=
  [("number", .i 1), ("name", .x), ("text", .r g), ("markers", .r mk), ("point", .i pt), ("begv", .i 1), ("zv", .i zv), ("mark", mark), ("is_live", .b true), ("is_read_only", .b false), ("ticks", .u), ("codes_ticks", .u), ("saved_ticks", .i 1), ("listeners", .r ls), ("undo", .n), ("props", .n), ("overlays", .n), ("locals", .n), ("syntax", .n), ("file", .n)]
noncomputable def T0 : Tab := addT 513 cSize (addT 527 cCodes (addT 555 cDel (addT 548 cIns noT)))
theorem T0_sound : TabSound 2 T0 := addT_sound cSize_sound (by decide) (addT_sound cCodes_sound (by decide) (addT_sound cDel_sound (by decide) (addT_sound cIns_sound (by decide) noT_sound)))
noncomputable def sNW : Fsp := runF noT ["buffer"] [] bS48.1 fS48.1
noncomputable def sReached : Fsp := runF noT ["buffer", "start", "end"] [] bS62.1 fS62.1
noncomputable def sTA : Fsp := runF noT ["buffer", "start", "end"] [] bS69.1 fS69.1
noncomputable def sTouch : Fsp := runF noT ["self", "are_codes"] [] bS682.1 fS682.1
noncomputable def tTB : Tab := addT 682 sTouch noT
noncomputable def sTB : Fsp := runF tTB ["buffer", "start", "end", "old_length"] [] bS76.1 fS76.1
noncomputable def sTO : Fsp := runF T0 ["buffer", "start", "end"] [] bS83.1 fS83.1
noncomputable def sHO : Fsp := runF noT ["buffer", "start", "end"] [] bS97.1 fS97.1
noncomputable def sNum : Fsp := runF noT ["self"] [] bS337.1 fS337.1
noncomputable def tMD : Tab := addT 337 sNum noT
noncomputable def sMDel : Fsp := runF tMD ["self", "start", "end"] [] bS372.1 fS372.1
noncomputable def TD : Tab := addT 48 sNW (addT 62 sReached (addT 69 sTA (addT 76 sTB (addT 83 sTO (addT 97 sHO (addT 372 sMDel noT))))))
theorem TD_sound : TabSound 3 TD :=
  addT_sound (d := 1) (fn_sound fr48 noT_sound).fn (by decide) (addT_sound (d := 1) (fn_sound fr62 noT_sound).fn (by decide) (addT_sound (d := 1) (fn_sound fr69 noT_sound).fn (by decide) (addT_sound (d := 2) (fn_sound fr76 (addT_sound (d := 1) (fn_sound fr682 noT_sound).fn (by decide) noT_sound)).fn (by decide)
    (addT_sound (fn_sound fr83 T0_sound).fn (by decide) (addT_sound (d := 1) (fn_sound fr97 noT_sound).fn (by decide) (addT_sound (d := 2) (fn_sound fr372 (addT_sound (d := 1) (fn_sound fr337 noT_sound).fn (by decide) noT_sound)).fn (by decide) noT_sound))))))
noncomputable def sDelete : Fsp := runF TD ["buffer", "start", "end"] [] bS126.1 fS126.1
noncomputable def sRows : Fsp := runF noT ["buffer", "start", "end"] [] bS454.1 fS454.1
noncomputable def sTidy : Fsp := runF noT ["runs"] [] bS182.1 fS182.1
noncomputable def sPiece : Fsp := runC 171 (runF noT ["self", "codes", "runs"] [] bS168.1 fS168.1)
theorem sPiece_sound : FnSound 2 171 sPiece := cls_sound (f := 168) (fun P => ⟨by kernel_rfl, by kernel_rfl, by kernel_rfl⟩) (fn_sound fr168 noT_sound)
noncomputable def sBCodes : Fsp := runF T0 ["self", "start", "end"] [] bS647.1 fS647.1
noncomputable def TP : Tab := addT 454 sRows (addT 182 sTidy (addT 171 sPiece (addT 647 sBCodes noT)))
theorem TP_sound : TabSound 3 TP := addT_sound (d := 1) (fn_sound fr454 noT_sound).fn (by decide) (addT_sound (d := 1) (fn_sound fr182 noT_sound).fn (by decide) (addT_sound sPiece_sound (by decide) (addT_sound (fn_sound fr647 T0_sound).fn (by decide) noT_sound)))
noncomputable def sPieceOf : Fsp := runFB ["buffer", "start", "end"] "start" (bPieceOf TP)
theorem sPieceOf_sound : FnSound 4 459 sPieceOf := (fn_soundB fr459 (bPieceOf_ok TP_sound)).fn
noncomputable def sMoved : Fsp := runFB ["runs", "by"] "by" bMoved
noncomputable def TJ : Tab := addT 182 sTidy (addT 171 sPiece (addT 187 sMoved noT))
theorem TJ_sound : TabSound 2 TJ := addT_sound (d := 1) (fn_sound fr182 noT_sound).fn (by decide) (addT_sound sPiece_sound (by decide) (addT_sound (d := 1) (fn_soundB fr187 bMoved_ok).fn (by decide) noT_sound))
noncomputable def sJoined : Fsp := runF TJ ["one", "other"] [] bS194.1 fS194.1
noncomputable def sKN : Fsp := runF noT ["ring", "piece", "is_replacing"] [] bS227.1 fS227.1
noncomputable def TA : Tab := addT 227 sKN (addT 194 sJoined noT)
theorem TA_sound : TabSound 3 TA := addT_sound (d := 1) (fn_sound fr227 noT_sound).fn (by decide) (addT_sound (fn_sound fr194 TJ_sound).fn (by decide) noT_sound)
noncomputable def sKA : Fsp := runF TA ["ring", "piece", "is_ahead"] [] bS234.1 fS234.1
noncomputable def tSK : Tab := addT 227 sKN (addT 234 sKA noT)
noncomputable def sSK : Fsp := runF tSK ["ring", "piece", "goes_on", "is_ahead"] [] bS471.1 fS471.1
theorem sSK_sound : FnSound 5 471 sSK := (fn_sound fr471 (addT_sound (d := 1) (fn_sound fr227 noT_sound).fn (by decide) (addT_sound (fn_sound fr234 TA_sound).fn (by decide) noT_sound))).fn
noncomputable def TK : Tab := addT 62 sReached (addT 459 sPieceOf (addT 471 sSK (addT 48 sNW (addT 126 sDelete noT))))
theorem TK_sound : TabSound 5 TK := addT_sound (d := 1) (fn_sound fr62 noT_sound).fn (by decide) (addT_sound sPieceOf_sound (by decide) (addT_sound sSK_sound (by decide) (addT_sound (d := 1) (fn_sound fr48 noT_sound).fn (by decide) (addT_sound (fn_sound fr126 TD_sound).fn (by decide) noT_sound))))
noncomputable def sKill : Fsp := runF TK ["buffer", "ring", "start", "end", "goes_on"] [] bS478.1 fS478.1
theorem sKill_sound : FnSound 6 478 sKill := (fn_sound fr478 TK_sound).fn
end
end KR
end
section
open PySem PySem.W PyProof.Rows PySem.Calls
set_option Elab.async false
set_option maxRecDepth 100000
set_option maxHeartbeats 4000000
set_option linter.constructorNameAsVariable false
set_option linter.unusedVariables false
namespace KR
noncomputable def renV (f : Nat → Nat) : SV → SV
  | .r p => .r (f p)
  | v => v
noncomputable def renF (f : Nat → Nat) : List (Str × SV) → List (Str × SV)
  | [] => []
  | q :: r => (q.1, renV f q.2) :: renF f r
noncomputable def renL (f : Nat → Nat) : List SV → List SV
  | [] => []
  | v :: r => renV f v :: renL f r
noncomputable def renR (f : Nat → Nat) : List (Int × Nat) → List (Int × Nat)
  | [] => []
  | q :: r => (q.1, f q.2) :: renR f r
noncomputable def renO (f : Nat → Nat) : SO → SO
  | .obj C fs => .obj C (renF f fs)
  | .list l => .list (renL f l)
  | .tup l => .tup (renL f l)
  | .rows l => .rows (renR f l)
  | .cell (some v) => .cell (some (renV f v))
  | o => o
noncomputable def renσ (f : Nat → Nat) : List (Nat × SO) → List (Nat × SO)
  | [] => []
  | q :: r => (f q.1, renO f q.2) :: renσ f r
section
variable {α β : Al} {ns : List Nat} {f : Nat → Nat}
theorem SV.Is.ren (x : ∀ p a, inL p ns = true → α p = some a → β (f p) = some a) : ∀ {s : SV} {v : Value}, svIn ns s = true → s.Is α v → (renV f s).Is β v
  | .i _, _, _, h | .n, _, _, h | .b _, _, _, h | .c _, _, _, h | .u, _, _, h | .x, _, _, h | .g _, _, _, h | .f _, _, _, h | .cl _, _, _, h | .j _, _, _, h => h
  | .r p, _, l, ⟨a, h1, h2⟩ => ⟨a, x p a l h1, h2⟩
theorem AreAll.ren (x : ∀ p a, inL p ns = true → α p = some a → β (f p) = some a) {l vs} (h : AreAll α l vs) (g : l.all (svIn ns) = true) : AreAll β (renL f l) vs := by
  induction h with
  | nil => exact .nil
  | cons i _ ih => simp only [List.all_cons, Bool.and_eq_true] at g; exact .cons (i.ren x g.1) (ih g.2)
theorem FsAre.ren {P : Params} (x : ∀ p a, inL p ns = true → α p = some a → β (f p) = some a) {fs es} (h : FsAre P α fs es) (g : (fs.all fun q => svIn ns q.2) = true) : FsAre P β (renF f fs) es := by
  induction h with
  | nil => exact .nil
  | cons i _ ih => simp only [List.all_cons, Bool.and_eq_true] at g; exact .cons (i.ren x g.1) (ih g.2)
theorem RowsAre.ren (x : ∀ p a, inL p ns = true → α p = some a → β (f p) = some a) {l kvs} (h : RowsAre α l kvs) (g : (l.all fun q => inL q.2 ns) = true) : RowsAre β (renR f l) kvs := by
  induction h with
  | nil => exact .nil
  | cons i _ ih => simp only [List.all_cons, Bool.and_eq_true] at g; exact .cons (x _ _ g.1 i) (ih g.2)
theorem renF_len (fs : List (Str × SV)) : (renF f fs).length = fs.length := by
  induction fs with
  | nil => rfl
  | cons _ _ ih => simp [renF, ih]
theorem SO.Is.ren {w : World} (x : ∀ p a, inL p ns = true → α p = some a → β (f p) = some a) : ∀ {o : SO} {a cs}, soIn ns o = true → o.Is w α a cs → (renO f o).Is w β a cs
  | .obj _ fs, _, _, g, ⟨d, es, h1, h2⟩ => ⟨d, es, by rw [renF_len]; exact h1, h2.ren x g⟩
  | .list _, _, _, g, ⟨vs, n, h1, h2⟩ => ⟨vs, n, h1, h2.ren x g⟩
  | .ints _, _, _, _, h => h
  | .tup _, _, _, g, ⟨vs, h1, h2⟩ => ⟨vs, h1, h2.ren x g⟩
  | .gap _ _, _, _, _, h => h
  | .rows _, _, _, g, ⟨ro, kvs, h1, h2, h3, h4⟩ => ⟨ro, kvs, h1, h2, h3, h4.ren x g⟩
  | .cell (some _), _, _, g, ⟨ob, u, h1, h2, h3⟩ => ⟨ob, u, h1, h2, h3.ren x g⟩
  | .cell none, _, _, _, h => h
  | .deck, _, _, _, h => h
theorem Cells.ren {w : World} (x : ∀ p a, inL p ns = true → α p = some a → β (f p) = some a) {σ lit} (h : Cells w α σ lit) (g : cellsIn ns σ = true) : Cells w β (renσ f σ) lit := by
  induction h with
  | nil => exact .nil
  | cons h1 h2 _ ih =>
    simp only [cellsIn, List.all_cons, Bool.and_eq_true] at g
    exact .cons (x _ _ g.1.1 h1) (h2.ren x g.1.2) (ih g.2)
end
noncomputable def idx (p : Nat) : List Nat → Nat
  | [] => 0
  | q :: r => match Nat.beq p q with
    | true => 0
    | false => (idx p r) + 1
noncomputable def nth : List Nat → Nat → Option Nat
  | [], _ => none
  | q :: _, 0 => some q
  | _ :: r, k + 1 => nth r k
theorem nth_idx {p : Nat} : ∀ {ns : List Nat}, inL p ns = true → nth ns (idx p ns) = some p
  | [], h => nomatch h
  | q :: r, h => by
    unfold inL at h
    unfold idx
    cases e : Nat.beq p q with
    | true => rw [Nat.eq_of_beq_eq_true e]; rfl
    | false => rw [e] at h; exact nth_idx (ns := r) h
theorem nth_out : ∀ {ns : List Nat} {k : Nat}, ns.length ≤ k → nth ns k = none
  | [], _, _ => rfl
  | q :: r, 0, h => absurd h (by simp)
  | q :: r, k + 1, h => nth_out (ns := r) (by simpa using h)
noncomputable def back (ns : List Nat) (α : Al) : Al := fun k => match nth ns k with
  | some p => α p
  | none => none
theorem back_ok {ns : List Nat} {α : Al} : ∀ p a, inL p ns = true → α p = some a → back ns α (idx p ns) = some a := fun p a h e => by
  unfold back
  rw [nth_idx h]
  exact e
noncomputable def locs : Loc → Loc → Prop
  | [], _ => True
  | q :: r, ρ => lkS q.1 ρ = some q.2 ∧ locs r ρ
theorem locs_ok {x : Str} {sv : SV} : ∀ {ρ0 ρ : Loc}, locs ρ0 ρ → lkS x ρ0 = some sv → lkS x ρ = some sv
  | [], _, _, h => nomatch h
  | (y, v) :: r, ρ, l, h => by
    simp only [lkS] at h
    cases e : eqS x y with
    | true => rw [e] at h; cases h; rw [eqS_iff.mp e]; exact l.1
    | false => rw [e] at h; exact locs_ok l.2 h
theorem lkS_ren {x : Str} {sv : SV} {f : Nat → Nat} : ∀ {ρ : Loc}, lkS x (renF f ρ) = some sv → ∃ sv0, lkS x ρ = some sv0 ∧ sv = renV f sv0
  | [], h => nomatch h
  | q :: r, h => by
    simp only [renF, lkS] at h ⊢
    cases e : eqS x q.1 with
    | true => rw [e] at h; cases h; exact ⟨_, rfl, rfl⟩
    | false => rw [e] at h; exact lkS_ren h
theorem SatX.norm {c : Cx} {own : List (Addr × Obj)} {α : Al} {ρ : Loc} {H : HS} {s : Shared} {m : Str → Option Value} {lit : List (Addr × Obj)} (S : SatX c own α ρ H s m lit) (ns : List Nat) (q : List (Nat × SO)) (ρ0 : Loc) (hq : stands q H.σ) (hn : cellsIn ns q = true) (hl : locs ρ0 ρ) (hv : (ρ0.all fun x => svIn ns x.2 && !isCl x.2) = true) :
    ∃ lit', SatX c own (back ns α) (renF (idx · ns) ρ0) ⟨ns.length, renσ (idx · ns) q⟩ s m lit' := by
  obtain ⟨l, r, C1, C2, p⟩ := S.C.carve hq
  have p' : (lit ++ own).Perm (r ++ (l ++ own)) := (List.Perm.append_right own (p.trans List.perm_append_comm)).trans (by rw [List.append_assoc])
  have N := S.N.perm fun q hq => p'.mem_iff.mpr hq
  refine ⟨l, S.F, fun q hq => N q (List.mem_append_right _ hq), apart_right (apart_perm S.D p'), C1.ren back_ok hn, fun x sv hx => ?_, fun k hk => ?_⟩
  · obtain ⟨sv0, h1, rfl⟩ := lkS_ren hx
    have h2 := locs_ok hl h1
    have h3 := List.all_eq_true.mp hv _ (lkS_mem h1)
    simp only [Bool.and_eq_true, Bool.not_eq_true'] at h3
    obtain ⟨v, h4, h5⟩ := (S.V _ _ h2).val h3.2
    exact LocIs.of h4 (h5.ren back_ok h3.1)
  · unfold back
    rw [nth_out hk]
end KR
end
section
open PySem PySem.W PyProof.Rows PySem.Calls
set_option Elab.async false
set_option maxRecDepth 100000
set_option maxHeartbeats 4000000
set_option linter.constructorNameAsVariable false
set_option linter.unusedVariables false
namespace KR
noncomputable section
noncomputable def FF (d f : Nat) := {sp : Fsp // FnSound d f sp}
noncomputable def TT (d : Nat) := {Γ : Tab // TabSound d Γ}
noncomputable def t0 {d : Nat} : TT d := ⟨noT, noT_sound⟩
noncomputable def TT.a {d d' f : Nat} (G : TT d') (x : FF d f) (e : d ≤ d' := by decide) : TT d' := ⟨addT f x.1 G.1, addT_sound x.2 e G.2⟩
noncomputable def mk {d f : Nat} {ps dv body scope} (FR : FnRec f ps dv body scope) (G : TT d) : FF (d + 1) f := ⟨runF G.1 ps dv body scope, (fn_sound FR G.2).fn⟩
noncomputable def mkB {d f : Nat} {ps cx body scope} (FR : FnRecC f ps cx body scope) (G : TT d) : FF (d + 1) f := ⟨runFC G.1 ps cx body scope, (fn_soundC FR G.2).fn⟩
noncomputable def mkC {d C f : Nat} {ps dv body scope} (hC : ∀ P, makesIn (hp P) C = true ∧ findIn (hp P) (.ref C) (Str.ofString "__init__") = some (some (.ref f)) ∧ isFn (hp P) (.ref f) = true) (FR : FnRec f ps dv body scope) (G : TT d) : FF (d + 2) C := ⟨runC C (runF G.1 ps dv body scope), cls_sound hC (fn_sound FR G.2)⟩
noncomputable def y48 : FF 1 48 := mk fr48 t0
noncomputable def y62 : FF 1 62 := mk fr62 t0
noncomputable def y69 : FF 1 69 := mk fr69 t0
noncomputable def y682 : FF 1 682 := mk fr682 t0
noncomputable def y76 : FF 2 76 := mk fr76 (t0.a y682)
noncomputable def y104 : FF 1 104 := mk fr104 t0
noncomputable def y337 : FF 1 337 := mk fr337 t0
noncomputable def y365 : FF 2 365 := mk fr365 (t0.a y337)
noncomputable def y633 : FF 3 633 := mk fr633 ⟨T0, T0_sound⟩
noncomputable def y55 : FF 4 55 := mk fr55 (t0.a y633)
noncomputable def y90 : FF 3 90 := mk fr90 ⟨T0, T0_sound⟩
noncomputable def y111 : FF 5 111 := mk fr111 ((((((((t0.a y48).a y62).a y55).a y69).a y90).a y365).a y104).a y76)
noncomputable def y119 : FF 6 119 := mk fr119 (t0.a y111)
noncomputable def y464 : FF 7 464 := mkB fr464 (t0.a y119)
noncomputable def y182 : FF 1 182 := mk fr182 t0
noncomputable def y171 : FF 2 171 := ⟨sPiece, sPiece_sound⟩
noncomputable def y199 : FF 3 199 := mkB fr199 ((t0.a y182).a y171)
noncomputable def y241 : FF 1 241 := mk fr241 t0
noncomputable def y428 : FF 1 428 := mk fr428 t0
noncomputable def y435 : FF 2 435 := mk fr435 (t0.a y428)
noncomputable def y314 : FF 2 314 := mkC (f := 290) (fun P => ⟨by kernel_rfl, by kernel_rfl, by kernel_rfl⟩) fr290 t0
noncomputable def y344 : FF 1 344 := mk fr344 t0
noncomputable def y393 : FF 4 393 := mk fr393 ((t0.a y344).a y633)
noncomputable def y421 : FF 5 421 := mk fr421 ((t0.a y314).a y393)
noncomputable def y442 : FF 5 442 := mk fr442 ((t0.a y314).a y393)
noncomputable def y449 : FF 6 449 := mk fr449 ((((t0.a y428).a y442).a y393).a y421)
noncomputable def y492 : FF 8 492 := mk fr492 (((((t0.a y48).a y241).a y449).a y464).a y199)
noncomputable def y216 : FF 2 216 := mkC (f := 213) (fun P => ⟨by kernel_rfl, by kernel_rfl, by kernel_rfl⟩) fr213 t0
noncomputable def y410 : FF 2 410 := mkC (f := 407) (fun P => ⟨by kernel_rfl, by kernel_rfl, by kernel_rfl⟩) fr407 t0
noncomputable def y382 : FF 2 382 := mkC (f := 330) (fun P => ⟨by kernel_rfl, by kernel_rfl, by kernel_rfl⟩) fr330 t0
noncomputable def y654 : FF 1 654 := mk fr654 t0
noncomputable def y699 : FF 1 699 := mk fr699 t0
noncomputable def deckO (n : Int) (R C : List Int) : List (Nat × SO) := [(0, .list [.r 1, .r 2, .i n]), (1, .ints R), (2, .ints C)]
noncomputable def y579 : FF 2 579 := mkC (f := 506) (fun P => ⟨by kernel_rfl, by kernel_rfl, by kernel_rfl⟩) fr506 t0
noncomputable def y647 : FF 3 647 := mk fr647 ⟨T0, T0_sound⟩
end
end KR
end
section
open PySem PySem.W PyProof.Rows PySem.Calls
set_option Elab.async false
set_option maxRecDepth 100000
set_option maxHeartbeats 4000000
set_option linter.constructorNameAsVariable false
set_option linter.unusedVariables false
namespace KR
noncomputable section
noncomputable def cDraw : Fsp := fun args H => match args with
  | [.r g, .i k] => match lk g H.σ with
    | some .deck => .need (0 < k ∧ k ≤ 64) (.all (fun z => 0 ≤ z ∧ z < k) fun z => .ret (.i z, H))
    | _ => .fail
  | _ => .fail
theorem draw_run (R C : List Int) (n k : Int) : y699.1 [.r 0, .i k] ⟨3, deckO n R C⟩ = (T.br (¬R = []) (T.need ((0 : Int) ≤ (0 : Int) ∧ (0 : Int) < ↑R.length ∧ R.length ≤ (4000 : Nat)) (T.need ((0 : Int) < k ∧ k ≤ (1024 : Int)) (T.need ((0 : Int) ≤ (0 : Int) ∧ (0 : Int) < ↑R.length ∧ R.length ≤ (4000 : Nat)) (T.need ((0 : Int) ≤ (0 : Int) ∧ (0 : Int) < ↑(R.set (Int.toNat (0 : Int)) ((R.getD (Int.toNat (0 : Int)) (0 : Int)).fdiv k)).length ∧ (R.set (Int.toNat (0 : Int)) ((R.getD (Int.toNat (0 : Int)) (0 : Int)).fdiv k)).length ≤ (4000 : Nat)) (T.br ((R.set (Int.toNat (0 : Int)) ((R.getD (Int.toNat (0 : Int)) (0 : Int)).fdiv k)).getD (Int.toNat (0 : Int)) (0 : Int) = (0 : Int)) (T.need ((0 : Nat) < (R.set (Int.toNat (0 : Int)) ((R.getD (Int.toNat (0 : Int)) (0 : Int)).fdiv k)).length ∧ (R.set (Int.toNat (0 : Int)) ((R.getD (Int.toNat (0 : Int)) (0 : Int)).fdiv k)).length ≤ (4000 : Nat)) (T.need (k ≠ (0 : Int)) (T.ret (SV.i ((R.getD (Int.toNat (0 : Int)) (0 : Int)).fmod k), { nx := (4 : Nat), σ := [((0 : Nat), SO.list [SV.r (1 : Nat), SV.r (2 : Nat), SV.i n]), ((1 : Nat), SO.ints (R.set (Int.toNat (0 : Int)) ((R.getD (Int.toNat (0 : Int)) (0 : Int)).fdiv k)).tail), ((2 : Nat), SO.ints C)] })))) (T.need (k ≠ (0 : Int)) (T.ret (SV.i ((R.getD (Int.toNat (0 : Int)) (0 : Int)).fmod k), { nx := (4 : Nat), σ := [((0 : Nat), SO.list [SV.r (1 : Nat), SV.r (2 : Nat), SV.i n]), ((1 : Nat), SO.ints (R.set (Int.toNat (0 : Int)) ((R.getD (Int.toNat (0 : Int)) (0 : Int)).fdiv k))), ((2 : Nat), SO.ints C)] })))))))) (T.need (C.length ≤ (4000 : Nat)) (T.need (↑C.length ≠ (0 : Int)) (T.need ((0 : Int) ≤ (n + (1 : Int)).fmod ↑C.length ∧ (n + (1 : Int)).fmod ↑C.length < ↑C.length ∧ C.length ≤ (4000 : Nat)) (T.need (IntMulOk (1640531527 : Int) (n + (1 : Int))) (T.need ((4294966297 : Int) ≠ (0 : Int)) (T.need (IntMulOk ((C.getD ((n + (1 : Int)).fmod ↑C.length).toNat (0 : Int) + (1640531527 : Int) * (n + (1 : Int))).fmod (4294966297 : Int)) ((C.getD ((n + (1 : Int)).fmod ↑C.length).toNat (0 : Int) + (1640531527 : Int) * (n + (1 : Int))).fmod (4294966297 : Int))) (T.need (IntMulOk (122949823 : Int) (n + (1 : Int))) (T.need ((4294966237 : Int) ≠ (0 : Int)) (T.need (IntMulOk (((C.getD ((n + (1 : Int)).fmod ↑C.length).toNat (0 : Int) + (1640531527 : Int) * (n + (1 : Int))).fmod (4294966297 : Int) * (C.getD ((n + (1 : Int)).fmod ↑C.length).toNat (0 : Int) + (1640531527 : Int) * (n + (1 : Int))).fmod (4294966297 : Int) + (122949823 : Int) * (n + (1 : Int))).fmod (4294966237 : Int)) (((C.getD ((n + (1 : Int)).fmod ↑C.length).toNat (0 : Int) + (1640531527 : Int) * (n + (1 : Int))).fmod (4294966297 : Int) * (C.getD ((n + (1 : Int)).fmod ↑C.length).toNat (0 : Int) + (1640531527 : Int) * (n + (1 : Int))).fmod (4294966297 : Int) + (122949823 : Int) * (n + (1 : Int))).fmod (4294966237 : Int))) (T.need ((4294966187 : Int) ≠ (0 : Int)) (T.need ((0 : Int) < (1024 : Int) ∧ (1024 : Int) ≤ (1024 : Int)) (T.need (k ≠ (0 : Int)) (T.ret (SV.i ((((((C.getD ((n + (1 : Int)).fmod ↑C.length).toNat (0 : Int) + (1640531527 : Int) * (n + (1 : Int))).fmod (4294966297 : Int) * (C.getD ((n + (1 : Int)).fmod ↑C.length).toNat (0 : Int) + (1640531527 : Int) * (n + (1 : Int))).fmod (4294966297 : Int) + (122949823 : Int) * (n + (1 : Int))).fmod (4294966237 : Int) * ((C.getD ((n + (1 : Int)).fmod ↑C.length).toNat (0 : Int) + (1640531527 : Int) * (n + (1 : Int))).fmod (4294966297 : Int) * (C.getD ((n + (1 : Int)).fmod ↑C.length).toNat (0 : Int) + (1640531527 : Int) * (n + (1 : Int))).fmod (4294966297 : Int) + (122949823 : Int) * (n + (1 : Int))).fmod (4294966237 : Int)).fmod (4294966187 : Int)).fdiv (1024 : Int)).fmod k), { nx := (4 : Nat), σ := [((0 : Nat), SO.list [SV.r (1 : Nat), SV.r (2 : Nat), SV.i (n + (1 : Int))]), ((1 : Nat), SO.ints R), ((2 : Nat), SO.ints C)] })))))))))))))) : T (SV × HS)) := by kernel_rfl
theorem deck_is {w : World} {α : Al} {a : Addr} {cs : List (Addr × Obj)} (i : SO.deck.Is w α a cs) : ∃ b d n R C, Cells w (gap3 a b d) (deckO n R C) cs ∧ R.length ≤ 64 ∧ 0 < C.length ∧ C.length ≤ 64 := by
  obtain ⟨b, d, n, t, vs, ws, k0, k1, k2, R, C, rfl, h1, h2, h3⟩ := i
  exact ⟨b, d, n, R, C, .cons (cs := [_]) rfl ⟨_, k0, rfl, .cons ⟨b, rfl, rfl⟩ (.cons ⟨d, rfl, rfl⟩ (.cons ⟨t, rfl⟩ .nil))⟩ (.cons (cs := [_]) rfl ⟨vs, k1, rfl, h1⟩ (.cons (cs := [_]) rfl ⟨ws, k2, rfl, h2⟩ .nil)), h3⟩
theorem is_deck {w : World} {α β : Al} {a : Addr} {n : Int} {R C : List Int} {l : List (Addr × Obj)} (h : Cells w β (deckO n R C) l) (h0 : β 0 = some a) (hb : R.length ≤ 64 ∧ 0 < C.length ∧ C.length ≤ 64) : SO.deck.Is w α a l := by
  obtain _ | ⟨e1, ⟨vs0, k0, rfl, i0⟩, _ | ⟨e2, ⟨vs, k1, rfl, i1⟩, _ | ⟨e3, ⟨ws, k2, rfl, i2⟩, _ | _⟩⟩⟩ := h
  rw [h0] at e1
  cases e1
  obtain _ | ⟨⟨b, hb1, rfl⟩, _ | ⟨⟨d, hd1, rfl⟩, _ | ⟨⟨t, rfl⟩, _ | _⟩⟩⟩ := i0
  rw [e2] at hb1
  cases hb1
  rw [e3] at hd1
  cases hd1
  exact ⟨_, _, n, t, vs, ws, k0, k1, k2, R, C, rfl, i1, i2, hb⟩
theorem fmod_b (x : Int) {k : Int} (h : 0 < k) : 0 ≤ x.fmod k ∧ x.fmod k < k := by
  rw [Int.fmod_eq_emod_of_nonneg x (Int.le_of_lt h)]
  exact ⟨Int.emod_nonneg _ (by lia), Int.emod_lt_of_pos _ h⟩
theorem mul_fmod {x y k : Int} (h : 0 < k) (h2 : k < 2 ^ 64) : IntMulOk (x.fmod k) y := by
  have := fmod_b x h
  exact IntMulOk.of_left (intBits_le_64 (by lia) (by lia))
theorem set_len (R : List Int) (x : Int) : (R.set (Int.toNat 0) x).length = R.length := List.length_set
theorem draw_ok {R C : List Int} {n k : Int} (hR : R.length ≤ 64) (hC : 0 < C.length ∧ C.length ≤ 64) (hk : 0 < k ∧ k ≤ 64) {K : SV × HS → Prop}
    (h : ∀ z n' R', 0 ≤ z ∧ z < k → R'.length ≤ 64 → K (.i z, ⟨4, deckO n' R' C⟩)) (h3 : ∀ z n' R', 0 ≤ z ∧ z < k → R'.length ≤ 64 → K (.i z, ⟨3, deckO n' R' C⟩)) : (y699.1 [.r 0, .i k] ⟨3, deckO n R C⟩).ok K := by
  obtain ⟨c0, c1⟩ := hC
  obtain ⟨k0, k1⟩ := hk
  have hn : k ≠ 0 := by lia
  rw [draw_run]
  refine ⟨fun hne => ?_, fun _ => ?_⟩
  · have hl : 0 < R.length := List.length_pos_iff.mpr hne
    have b1 : 0 ≤ (0 : Int) ∧ 0 < (R.length : Int) ∧ R.length ≤ 4000 := ⟨by lia, by lia, by lia⟩
    have b2 : ∀ x : Int, 0 ≤ (0 : Int) ∧ 0 < ((R.set (Int.toNat 0) x).length : Int) ∧ (R.set (Int.toNat 0) x).length ≤ 4000 := fun x => by rw [set_len]; exact b1
    refine ⟨b1, ⟨k0, by lia⟩, b1, b2 _, fun _ => ⟨⟨by rw [set_len]; exact hl, (b2 _).2.2⟩, hn, h _ _ _ (fmod_b _ k0) ?_⟩, fun _ => ⟨hn, h _ _ _ (fmod_b _ k0) (by rw [set_len]; exact hR)⟩⟩
    rw [List.length_tail, set_len]
    lia
  · have cl : (0 : Int) < (C.length : Int) := by lia
    have cf := fmod_b (n + 1) cl
    exact ⟨by lia, by lia, ⟨cf.1, cf.2, by lia⟩, .of_left (by decide +kernel), by decide, mul_fmod (by decide) (by decide), .of_left (by decide +kernel), by decide, mul_fmod (by decide) (by decide), by decide, ⟨by decide, by decide⟩, hn, h _ _ _ (fmod_b _ k0) hR⟩
theorem up_same {p : Nat} {o : SO} : ∀ {σ : List (Nat × SO)}, lk p σ = some o → up p o σ = σ
  | [], h => rfl
  | (q, o') :: r, h => by
    unfold lk at h
    unfold up
    cases e : Nat.beq p q with
    | true => rw [e] at h; cases h; rfl
    | false => rw [e] at h; dsimp only; rw [up_same h]
theorem cDraw_sound : FnSound 1 699 cDraw := by
  intro c O own α H s m lit args vs K E S j h
  unfold cDraw at h
  split at h <;> try exact h.elim
  rename_i g k
  split at h <;> try exact h.elim
  rename_i hl
  obtain ⟨hk, h⟩ := h
  obtain ⟨a, cs, pre, post, h1, h4, h2, h3⟩ := S.C.find hl
  obtain ⟨b, d, n, R, C, hC, hb⟩ := deck_is h2
  let r := pre ++ post
  have sw : ∀ l : List (Addr × Obj), (pre ++ (l ++ post)).Perm (l ++ r) := fun l => by
    show (pre ++ (l ++ post)).Perm (l ++ (pre ++ post))
    rw [← List.append_assoc, ← List.append_assoc]
    exact List.Perm.append_right post List.perm_append_comm
  have p' : (lit ++ own).Perm (cs ++ (r ++ own)) := by
    rw [← List.append_assoc, h4]; exact List.Perm.append_right own (sw cs)
  have S0 : SatX c (r ++ own) (gap3 a b d) [] ⟨3, deckO n R C⟩ s m cs := S.see p' hC fun p hp => by
    match p, hp with
    | p + 3, _ => rfl
  obtain _ | ⟨⟨a', ha', rfl⟩, _ | ⟨⟨t, rfl⟩, _ | _⟩⟩ := j
  rw [h1] at ha'
  cases ha'
  have j0 : AreAll (gap3 a b d) [.r 0, .i k] [.ref a, .int k t] := .cons ⟨a, rfl, rfl⟩ (.cons ⟨t, rfl⟩ .nil)
  refine wpAny_mono (y699.2 c O _ _ _ s m cs _ _ _ E S0 j0 (draw_ok (K := fun q => ∃ z n' R', 0 ≤ z ∧ z < k ∧ R'.length ≤ 64 ∧ q.1 = .i z ∧ stands (deckO n' R' C) q.2.σ) hb.1 hb.2 hk (fun z n' R' hz hl => ⟨z, n', R', hz.1, hz.2, hl, rfl, rfl, rfl, rfl, trivial⟩) (fun z n' R' hz hl => ⟨z, n', R', hz.1, hz.2, hl, rfl, rfl, rfl, rfl, trivial⟩))) (fun v s' x => ?_) fun _ _ x => x
  obtain ⟨α1, sv, H1, lit1, x1, S1, r1, i1, z, n', R', z0, z1, hl', e, hst⟩ := x
  dsimp only at e
  subst e
  obtain ⟨l, r', C1, C2, p⟩ := S1.C.carve hst
  have is := is_deck (α := α) C1 (x1 0 a rfl) ⟨hl', hb.2⟩
  have q1 : (lit1 ++ (r ++ own)).Perm (r' ++ ((pre ++ (l ++ post)) ++ own)) := by
    have e : ((l ++ r') ++ (r ++ own)).Perm (r' ++ ((l ++ r) ++ own)) := by
      rw [List.append_assoc l r own, ← List.append_assoc r' l]
      exact List.Perm.append_right _ List.perm_append_comm
    exact ((List.Perm.append_right _ p).trans e).trans (List.Perm.append_left r' (List.Perm.append_right own (sw l).symm))
  have N := S1.N.perm fun q hq => q1.mem_iff.mpr hq
  have C9 := h3 α Ext.rfl' .deck l is
  rw [up_same hl] at C9
  exact ⟨α, .i z, H, pre ++ (l ++ post), Ext.rfl', ⟨S1.F, fun q hq => N q (List.mem_append_right _ hq), apart_right (apart_perm S1.D q1), C9, fun _ _ h => (nomatch h), S.Z⟩, r1, i1, h z ⟨z0, z1⟩⟩
end
end KR
end
section
open PySem PySem.W PyProof.Rows PySem.Calls
set_option Elab.async false
set_option maxRecDepth 100000
set_option maxHeartbeats 4000000
set_option linter.constructorNameAsVariable false
set_option linter.unusedVariables false
namespace KR
noncomputable section
noncomputable def cGapText : Fsp := fun args H => match args with
  | [.r p, .i r] => match lk p H.σ, decide (r = 8) with
    | some (.list []), true => .ret (.r H.nx, ⟨H.nx + 1, (H.nx, .gap [] 8) :: rm p H.σ⟩)
    | _, _ => .fail
  | _ => .fail
theorem gt_run : y579.1 [.r 0, .i 8] ⟨1, [(0, .list [])]⟩ = (.need ((-4000 : Int) ≤ 8 ∧ (8 : Int) ≤ 4000) (.need (([] : List Int).length + (List.replicate (Int.toNat 8) (0 : Int)).length ≤ 4000) (.ret (.r 1, ⟨6, [(5, .ints ([] ++ List.replicate (Int.toNat 8) 0)), (1, .obj 579 [("room", .i 8), ("cells", .r 5), ("gap_start", .i ((([] : List SV).length : Nat) : Int)), ("gap_end", .i (((([] : List SV).length : Nat) : Int) + 8))]), (0, .list [])]⟩))) : T (SV × HS)) := by kernel_rfl
noncomputable def one (a : Addr) : Al := fun p => match p with
  | 0 => some a
  | _ => none
theorem cGapText_sound : FnSound 2 579 cGapText := by
  intro c O own α H s m lit args vs K E S j h
  unfold cGapText at h
  split at h <;> try exact h.elim
  rename_i p r
  split at h <;> try exact h.elim
  rename_i hl hr
  have hr := of_decide_eq_true hr
  subst hr
  obtain ⟨a, cs, r, h1, h2, h3, h4⟩ := S.C.take hl
  obtain ⟨ws, k, rfl, iw⟩ := h2
  cases iw
  have p' : (lit ++ own).Perm ([(a, listOf [].toArray k)] ++ (r ++ own)) := by
    rw [← List.append_assoc]; exact List.Perm.append_right own h4
  have S0 : SatX c (r ++ own) (one a) [] ⟨1, [(0, .list [])]⟩ s m [(a, listOf [].toArray k)] := S.see p' (.cons (cs := [_]) rfl ⟨[], k, rfl, .nil⟩ .nil) fun p hp => by
    match p, hp with
    | p + 1, _ => rfl
  obtain _ | ⟨⟨a', ha', rfl⟩, _ | ⟨⟨t, rfl⟩, _ | _⟩⟩ := j
  rw [h1] at ha'
  cases ha'
  have j0 : AreAll (one a) [.r 0, .i 8] [.ref a, .int 8 t] := .cons ⟨a, rfl, rfl⟩ (.cons ⟨t, rfl⟩ .nil)
  have hk : (y579.1 [.r 0, .i 8] ⟨1, [(0, .list [])]⟩).ok fun q => q.1 = .r 1 ∧ stands [(1, .obj 579 [("room", .i 8), ("cells", .r 5), ("gap_start", .i ((0 : Nat) : Int)), ("gap_end", .i (((0 : Nat) : Int) + 8))]), (5, .ints (List.replicate 8 0))] q.2.σ := by
    rw [gt_run]
    exact ⟨by decide, by decide, rfl, rfl, rfl, trivial⟩
  refine wpAny_mono (y579.2 c O _ _ _ s m _ _ _ _ E S0 j0 hk) (fun v s' x => ?_) fun _ _ x => x
  obtain ⟨α1, sv, H1, lit1, x1, S1, r1, i1, e, hst⟩ := x
  dsimp only at e
  subst e
  obtain ⟨a2, ha2, rfl⟩ := i1
  obtain ⟨l, S2⟩ := S1.norm [1, 5] _ [] hst rfl trivial rfl
  have C2 : Cells c.w (back [1, 5] α1) (gapO 0 8 (List.replicate 8 0)) l := S2.C
  obtain ⟨b2, hb2⟩ := C2.named 1 rfl
  have is : (SO.gap [] 8).Is c.w (setα α H.nx a2) a2 l := is_gap (gs := 0) (ge := 8) C2 ha2 hb2 ⟨by decide, by decide, by decide, by decide⟩ (by decide)
  have e := setα_ext (a := a2) (S.Z H.nx (Nat.le_refl _))
  refine ⟨setα α H.nx a2, .r H.nx, _, l ++ r, e, ⟨S2.F, ?_, ?_, .cons setα_same is (h3.mono e), fun _ _ h => (nomatch h), setα_none S.Z⟩, r1, ⟨a2, setα_same, rfl⟩, h⟩
  · rw [List.append_assoc]; exact S2.N
  · rw [List.append_assoc]; exact S2.D
noncomputable def z579 : FF 2 579 := ⟨cGapText, cGapText_sound⟩
noncomputable def z685 : FF 4 685 := mkC (f := 598) (fun P => ⟨by kernel_rfl, by kernel_rfl, by kernel_rfl⟩) fr598 ((t0.a z579).a y382)
noncomputable def z706 : FF 7 706 := mk fr706 (((t0.a z685).a y119).a y654)
end
end KR
end
section
open PySem PySem.W PyProof.Rows PySem.Calls
set_option Elab.async false
set_option maxRecDepth 100000
set_option maxHeartbeats 4000000
set_option linter.constructorNameAsVariable false
set_option linter.unusedVariables false
namespace KR
theorem T.ok_mono {β : Type} {K K' : β → Prop} : ∀ {t : T β}, t.ok K → (∀ b, K b → K' b) → t.ok K'
  | .ret _, h, k => k _ h
  | .fail, h, _ => h
  | .need _ _, h, k => ⟨h.1, T.ok_mono h.2 k⟩
  | .all _ _, h, k => fun z x => T.ok_mono (h z x) k
  | .br _ _ _, h, k => ⟨fun x => T.ok_mono (h.1 x) k, fun x => T.ok_mono (h.2 x) k⟩
noncomputable abbrev KO := Out × Loc × HS → Prop
noncomputable def LPost (c : Cx) (own : List (Addr × Obj)) (s : Shared) (K : KO) (fl : Flow) (s' : Shared) : Prop := ∃ α o ρ H, Sat c own α ρ H s' ∧ Rest s s' ∧ o.Is α fl ∧ K (o, ρ, H)
noncomputable def LawS (c : Cx) (l : List Stmt) (ρ : Loc) (H : HS) (K : KO) : Prop := ∀ own α s E, PassesOwn (model Pg c.w) c.A c.env E → Sat c own α ρ H s → wpAny (model Pg c.w) c.A (execs l c.env) (LPost c own s K) E s
noncomputable def LawT (c : Cx) (st : Stmt) (ρ : Loc) (H : HS) (K : KO) : Prop := ∀ own α s E, PassesOwn (model Pg c.w) c.A c.env E → Sat c own α ρ H s → wpAny (model Pg c.w) c.A (exec st c.env) (LPost c own s K) E s
noncomputable def next (c : Cx) (r : List Stmt) (K : KO) : KO := fun x => match x with
  | (.next, ρ, H) => LawS c r ρ H K
  | x => K x
section
variable {c : Cx} {d : Nat} {ρ ρ' : Loc} {H H' : HS} {K K1 : KO} {st : Stmt} {r l : List Stmt} {sc : List (Str × NameKind)} {Γ : Tab}
theorem LPost.back {own : List (Addr × Obj)} {s s1 s2 : Shared} {fl : Flow} (r : Rest s s1) (h : LPost c own s1 K fl s2) : LPost c own s K fl s2 := by
  obtain ⟨α, o, ρ, H, h1, h2, h3, h4⟩ := h
  exact ⟨α, o, ρ, H, h1, r.trans h2, h3, h4⟩
theorem LawS.nil (h : K (.next, ρ, H)) : LawS c [] ρ H K := fun own α s E PE S => wpAny_execs_nil ⟨α, .next, ρ, H, S, Rest.rfl', rfl, h⟩
theorem LawS.cons (h : LawT c st ρ H (next c r K)) : LawS c (st :: r) ρ H K := fun own α s E PE S => by
  refine wpAny_execs_cons ?_
  refine wpAny_mono (h own α s E PE S) (fun f s1 p => ?_) fun _ _ x => x
  obtain ⟨α1, o, ρ1, H1, S1, r1, i1, h1⟩ := p
  cases o with
  | next =>
    cases i1
    exact wpAny_mono (h1 own α1 s1 E PE S1) (fun f s2 p => p.back r1) fun _ _ x => x
  | ret v =>
    obtain ⟨v', rfl, iv⟩ := i1
    exact ⟨α1, .ret v, ρ1, H1, S1, r1, ⟨v', rfl, iv⟩, h1⟩
theorem LawS.mono {K' : KO} (h : LawS c l ρ H K) (k : ∀ x, K x → K' x) : LawS c l ρ H K' := fun own α s E PE S => wpAny_mono (h own α s E PE S) (fun f s1 p => by
  obtain ⟨α1, o, ρ1, H1, S1, r1, i1, h1⟩ := p
  exact ⟨α1, o, ρ1, H1, S1, r1, i1, k _ h1⟩) fun _ _ x => x
theorem LawT.ex (G : TabSound d Γ) (O : c.Ok d) (hsc : c.csc.names = sc) (h : (ex Γ sc 40 st ρ H).ok K) : LawT c st ρ H K := fun own α s E PE S => by
  refine PostS.go (ex_sound G O hsc 40 own st α ρ H s K E PE S h) ?_
  rintro f s1 α1 o ρ1 H1 _ S1 r1 i1 h1
  exact ⟨α1, o, ρ1, H1, S1, r1, i1, h1⟩
theorem LawS.exs (G : TabSound d Γ) (O : c.Ok d) (hsc : c.csc.names = sc) : ∀ {l : List Stmt} {ρ : Loc} {H : HS}, (exs (KR.ex Γ sc 40) l ρ H).ok (next c r K) → LawS c (l ++ r) ρ H K
  | [], ρ, H, h => h
  | st :: l, ρ, H, h => by
    refine LawS.cons (LawT.ex G O hsc (T.ok_mono (T.ok_bind h) fun x hx => ?_))
    obtain ⟨o, ρ1, H1⟩ := x
    cases o with
    | next => exact LawS.exs G O hsc hx
    | ret v => exact hx
theorem LawS.norm (ns : List Nat) (q : List (Nat × SO)) (ρ0 : Loc) (hq : stands q H.σ) (hn : cellsIn ns q = true) (hl : locs ρ0 ρ) (hv : (ρ0.all fun x => svIn ns x.2 && !isCl x.2) = true) (h : LawS c l (renF (idx · ns) ρ0) ⟨ns.length, renσ (idx · ns) q⟩ K) : LawS c l ρ H K := fun own α s E PE S => by
  obtain ⟨m, lit, S⟩ := S
  obtain ⟨lit', S'⟩ := S.norm ns q ρ0 hq hn hl hv
  exact h own _ s E PE ⟨m, lit', S'⟩
noncomputable def pickσ : List Nat → List (Nat × SO) → Option (List (Nat × SO))
  | [], _ => some []
  | p :: r, σ => match lk p σ with
    | some o => match pickσ r (rm p σ) with
      | some q => some ((p, o) :: q)
      | none => none
    | none => none
theorem pickσ_ok : ∀ {ns : List Nat} {σ q : List (Nat × SO)}, pickσ ns σ = some q → stands q σ
  | [], σ, q, h => by cases h; trivial
  | p :: r, σ, q, h => by
    unfold pickσ at h
    split at h <;> try cases h
    rename_i o e
    split at h <;> cases h
    rename_i q e2
    exact ⟨e, pickσ_ok e2⟩
noncomputable def pickL : List Str → Loc → Option Loc
  | [], _ => some []
  | x :: r, ρ => match lkS x ρ with
    | some v => match pickL r ρ with
      | some q => some ((x, v) :: q)
      | none => none
    | none => none
theorem pickL_ok : ∀ {xs : List Str} {ρ ρ0 : Loc}, pickL xs ρ = some ρ0 → locs ρ0 ρ
  | [], ρ, ρ0, h => by cases h; trivial
  | x :: r, ρ, ρ0, h => by
    unfold pickL at h
    split at h <;> try cases h
    rename_i v e
    split at h <;> cases h
    rename_i q e2
    exact ⟨e, pickL_ok e2⟩
noncomputable def wkF : List (Str × SV) → List (Str × SV)
  | [] => []
  | (k, .i z) :: r => match eqS k "ticks" with
    | true => (k, .u) :: wkF r
    | false => match eqS k "codes_ticks" with
      | true => (k, .u) :: wkF r
      | false => (k, .i z) :: wkF r
  | q :: r => q :: wkF r
theorem wkF_ok {P : Params} {α : Al} {fs es} (h : FsAre P α fs es) : FsAre P α (wkF fs) es ∧ (wkF fs).length = fs.length := by
  induction h with
  | nil => exact ⟨.nil, rfl⟩
  | @cons x sv v k fs es i _ ih =>
    obtain ⟨h1, h2⟩ := ih
    have same : FsAre P α ((x, sv) :: wkF fs) (⟨PyData.keyHash P x, .str x k, v⟩ :: es) ∧ ((x, sv) :: wkF fs).length = ((x, sv) :: fs).length := ⟨.cons i h1, by simp [h2]⟩
    cases sv with
    | i z =>
      have weak : FsAre P α ((x, .u) :: wkF fs) (⟨PyData.keyHash P x, .str x k, v⟩ :: es) ∧ ((x, SV.u) :: wkF fs).length = ((x, SV.i z) :: fs).length := ⟨.cons (by obtain ⟨t, e⟩ := i; exact ⟨z, t, e⟩) h1, by simp [h2]⟩
      unfold wkF
      cases eqS x "ticks" with
      | true => exact weak
      | false =>
        dsimp only
        cases eqS x "codes_ticks" with
        | true => exact weak
        | false => exact same
    | _ => exact same
noncomputable def wkσ : List (Nat × SO) → List (Nat × SO)
  | [] => []
  | (p, .obj C fs) :: r => (p, .obj C (wkF fs)) :: wkσ r
  | q :: r => q :: wkσ r
theorem wkσ_ok {w : World} {α : Al} {σ lit} (h : Cells w α σ lit) : Cells w α (wkσ σ) lit := by
  induction h with
  | nil => exact .nil
  | @cons p o a cs σ lit h1 h2 _ ih =>
    cases o with
    | obj C fs =>
      obtain ⟨d, es, e1, e2⟩ := h2
      exact .cons h1 ⟨d, es, by rw [(wkF_ok e2).2]; exact e1, (wkF_ok e2).1⟩ ih
    | _ => exact .cons h1 h2 ih
noncomputable def normL (ns : List Nat) (xs : List Str) (ρ : Loc) (H : HS) : Option (Loc × HS) := match pickσ ns H.σ, pickL xs ρ with
  | some q, some ρ0 => match cellsIn ns q && ρ0.all fun x => svIn ns x.2 && !isCl x.2 with
    | true => some (renF (idx · ns) ρ0, ⟨ns.length, wkσ (renσ (idx · ns) q)⟩)
    | false => none
  | _, _ => none
theorem LawS.nf (ns : List Nat) (xs : List Str) (e : normL ns xs ρ H = some (ρ', H')) (h : LawS c l ρ' H' K) : LawS c l ρ H K := by
  unfold normL at e
  split at e <;> try cases e
  rename_i q ρ0 e1 e2
  split at e <;> cases e
  rename_i g
  simp only [Bool.and_eq_true] at g
  refine LawS.norm ns q ρ0 (pickσ_ok e1) g.1 (pickL_ok e2) g.2 fun own α s E PE S => ?_
  obtain ⟨m, lit, S⟩ := S
  exact h own α s E PE ⟨m, lit, S.F, S.N, S.D, wkσ_ok S.C, S.V, S.Z⟩
noncomputable def nfT (ns : List Nat) (xs : List Str) : R3 → T R3 := fun x => match x with
  | (.next, ρ, H) => match normL ns xs ρ H with
    | some q => .ret (.next, q.1, q.2)
    | none => .fail
  | o => .ret o
theorem nfT_ok {ns : List Nat} {xs : List Str} {x : R3} (h : (nfT ns xs x).ok (next c r K)) : next c r K x := by
  obtain ⟨o, ρ, H⟩ := x
  unfold nfT at h
  cases o with
  | ret v => exact h
  | next =>
    dsimp only at h
    split at h <;> try exact h.elim
    rename_i q e
    exact LawS.nf ns xs e h
theorem LawT.ite (G : TabSound d Γ) (O : c.Ok d) (hsc : c.csc.names = sc) {t : PySem.Expr} {a b : List Stmt} {pos : Pos} (h : (tru (ev Γ (evName sc ρ) 40) 9 t H).ok fun q => LawS c (match q.1 with | true => a | false => b) ρ q.2 K) : LawT c (.If t a b pos) ρ H K := fun own α s E PE S => by
  have V : EvS c own ρ c.env (ev Γ (evName sc ρ) 40) := ev_sound G O (fun x pos α H m s K E S h => evName_sound O hsc S h) 40
  refine wpAny_If ?_
  refine Post0.go (tru_sound0 O.room V 9 t S h) ?_
  rintro v s1 α1 t H1 x1 S1 r1 i1 h1
  subst i1
  cases v with
  | true => exact wpAny_mono (h1 own α1 s1 E PE S1) (fun f s2 p => p.back r1) fun _ _ x => x
  | false => exact wpAny_mono (h1 own α1 s1 E PE S1) (fun f s2 p => p.back r1) fun _ _ x => x
theorem small_nat {n : Nat} (h : n ≤ 1000) : Builtin.Range.small 0 (n : Int) 1 = true := by
  have e : Builtin.Range.rangeSize 0 (n : Int) 1 = (n : Int) := by rw [rangeSize_nat]; simp
  unfold Builtin.Range.small
  rw [e]
  have f : ∀ k : Int, 0 ≤ k → k ≤ 2000 → Builtin.Range.rangeFitsLong k = true := fun k h0 h1 => by
    unfold Builtin.Range.rangeFitsLong
    simp
    omega
  rw [f 0 (by omega) (by omega), f n (by omega) (by omega), f 1 (by omega) (by omega), if_pos (by decide), f _ (by omega) (by omega)]
  simp
theorem LawT.range (G : TabSound d Γ) (O : c.Ok d) (hsc : c.csc.names = sc) {x : Str} {p1 fp cp pos : Pos} {e : PySem.Expr} {body : List Stmt} (hx : isLoc sc x = true) (hst : notStar e = true) (hr : (evName sc ρ "range" H).ok fun q => q = (.f .range, H)) (I : Nat → Nat → Loc → HS → Prop)
    (start : (ev Γ (evName sc ρ) 40 e H).ok fun q => ∃ n : Nat, (q.1 = .i n ∨ q.1 = .j n) ∧ n ≤ 1000 ∧ I n 0 ρ q.2)
    (turn : ∀ n i ρ H, i < n → I n i ρ H → LawS c body (putS x (.i (i : Nat)) ρ) H (fun o => match o with | (.next, ρ, H) => I n (i + 1) ρ H | o => K o))
    (done : ∀ n ρ H, I n n ρ H → K (.next, ρ, H)) :
    LawT c (.For (.Name x p1) (.Call (.Name "range" fp) [e] [] cp) body [] pos) ρ H K := fun own α s E PE S => by
  obtain ⟨m0, lit0, S0⟩ := id S
  refine For_invVF (h₀ := c.h₀) S0.F (isLoc_ok hsc hx) (by show (c.csc.kind == .class || (c.csc.kind == .module && _)) = false; rw [O.hk]; rfl) ?_ (fun x => rfl) PE
  refine Call_ ?_
  refine Post.go (evName_sound O hsc ⟨lit0, S0⟩ hr) ?_
  rintro v s1 α1 sv H1 x1 S1 r1 i1 e1
  cases e1
  cases i1
  have V : EvS c own ρ c.env (ev Γ (evName sc ρ) 40) := ev_sound G O (fun x pos α H m s K E S h => evName_sound O hsc S h) 40
  have hev : (evs (ev Γ (evName sc ρ) 40) [e] H).ok fun q => ∃ n : Nat, (q.1 = [.i n] ∨ q.1 = [.j n]) ∧ n ≤ 1000 ∧ I n 0 ρ q.2 := by
    unfold evs
    rw [show [e].all notStar = true by simp [hst]]
    refine T.bind_ok (T.ok_mono start fun q hq => ?_)
    obtain ⟨n, h1, h2⟩ := hq
    exact ⟨n, h1.imp (fun e => by rw [e]) fun e => by rw [e], h2⟩
  obtain ⟨star, w⟩ := evs_sound (pos := cp) (E := E) V [e] S1 hev
  refine Pv.callWith_type1 ?_ (starEach_no hst) rfl
  refine Post.go w ?_
  rintro vs s2 α2 svs H2 x2 ⟨lit2, S2⟩ r2 i2 ⟨n, e2, hn, hI⟩
  have i3 : ∃ t, vs = [.int n t] := by
    dsimp only at e2
    rcases e2 with e2 | e2 <;> subst e2 <;> obtain _ | ⟨⟨t, rfl⟩, _ | _⟩ := i2 <;> exact ⟨t, rfl⟩
  obtain ⟨t, rfl⟩ := i3
  have rr : Rest s s2 := r1.trans r2
  refine range1_rows S2.F S2.N fun h' tk t1 u1 v1 hR F' N' _ => ?_
  let J : Nat → (Str → Option Value) → List (Addr × Obj) → Prop := fun i m news => ∃ α ρ H lit, news = lit ++ own ∧ Apart (adr (lit ++ own)) ∧ Cells c.w α H.σ lit ∧ (∀ y sv, lkS y ρ = some sv → LocIs c m α y sv) ∧ (∀ p, H.nx ≤ p → α p = none) ∧ I n i ρ H
  refine iter_rangeInv (n := n) J rfl hR (small_nat hn) (by rw [rangeSize_nat]; simp) F' N' ⟨α2, ρ, H2, lit2, rfl, S2.D, S2.C, S2.V, S2.Z, hI⟩ ?_ ?_
  · intro A i m news t h tk hi j off F N
    obtain ⟨α3, ρ3, H3, lit3, rfl, D, C, V, Z, hI⟩ := j
    have e0 : (0 : Int) + (i : Nat) = (i : Nat) := by omega
    have p1 : ((A, itR ((0 : Int) + ((i + 1 : Nat) : Int)) ((n : Int) - ((i + 1 : Nat) : Int))) :: (lit3 ++ own)).Perm (lit3 ++ ((A, itR ((0 : Int) + ((i + 1 : Nat) : Int)) ((n : Int) - ((i + 1 : Nat) : Int))) :: own)) := List.perm_middle.symm
    have D1 : Apart (adr ((A, itR ((0 : Int) + ((i + 1 : Nat) : Int)) ((n : Int) - ((i + 1 : Nat) : Int))) :: (lit3 ++ own))) := ⟨fun b hb => by
      obtain ⟨q, hq, rfl⟩ := of_mem_adr hb
      exact fun e => off q hq e.symm, D⟩
    have S1 : Sat c ((A, itR ((0 : Int) + ((i + 1 : Nat) : Int)) ((n : Int) - ((i + 1 : Nat) : Int))) :: own) α3 (putS x (.i (i : Nat)) ρ3) H3 { s2 with heap := h, toks := tk } := ⟨_, lit3, F, fun q hq => N q (p1.mem_iff.mpr hq), apart_perm' D1 p1, C, fun y sy hy => by
      rw [lkS_put] at hy
      cases e : eqS y x with
      | true => rw [e, if_pos rfl] at hy; cases hy; exact LocIs.of (if_pos (eqS_iff.mp e)) ⟨t, by rw [e0]⟩
      | false => rw [e, if_neg (by simp)] at hy; exact (V y sy hy).at (if_neg (eqS_no.mp e)), Z⟩
    refine wpAny_mono (turn n i ρ3 H3 hi hI _ α3 _ E PE S1) (fun fl s4 p => ?_) fun _ _ x => x
    obtain ⟨α4, o, ρ4, H4, ⟨m4, lit4, S4⟩, r4, i4, h4⟩ := p
    have p2 : (lit4 ++ ((A, itR ((0 : Int) + ((i + 1 : Nat) : Int)) ((n : Int) - ((i + 1 : Nat) : Int))) :: own)).Perm ((A, itR ((0 : Int) + ((i + 1 : Nat) : Int)) ((n : Int) - ((i + 1 : Nat) : Int))) :: (lit4 ++ own)) := List.perm_middle
    have D2 := apart_perm' S4.D p2
    have off2 : ∀ q ∈ lit4 ++ own, q.1 ≠ A := fun q hq e => D2.1 q.1 (mem_adr hq) e.symm
    obtain ⟨heap4, gens4, drawn4, toks4, os4⟩ := s4
    have r5 := rr.trans r4
    obtain ⟨q1, q2, q3⟩ := r4
    dsimp only at q1 q2 q3
    cases o with
    | next =>
      cases i4
      refine ⟨heap4, toks4, m4, lit4 ++ own, by rw [q1, q2, q3], S4.F, fun q hq => S4.N q (p2.mem_iff.mpr hq), off2, α4, ρ4, H4, lit4, rfl, D2.2, S4.C, S4.V, S4.Z, h4⟩
    | ret w =>
      obtain ⟨w', rfl, iw⟩ := i4
      exact ⟨α4, .ret w, ρ4, H4, ⟨m4, lit4, S4.F, fun q hq => S4.N q (p2.mem_iff.mpr (List.mem_cons_of_mem _ hq)), D2.2, S4.C, S4.V, S4.Z⟩, r5, ⟨w', rfl, iw⟩, h4⟩
  · intro m news h tk j F N
    obtain ⟨α3, ρ3, H3, lit3, rfl, D, C, V, Z, hI⟩ := j
    exact ⟨α3, .next, ρ3, H3, ⟨m, lit3, F, N, D, C, V, Z⟩, rr, rfl, done n ρ3 H3 hI⟩
end
end KR
end
section
open PySem PySem.W PyProof.Rows PySem.Calls
set_option Elab.async false
set_option maxRecDepth 100000
set_option maxHeartbeats 4000000
set_option linter.constructorNameAsVariable false
set_option linter.unusedVariables false
namespace KR
noncomputable section
noncomputable def forBody : Stmt → List Stmt
  | .For _ _ b _ _ => b
  | _ => []
noncomputable def nthS : List Stmt → Nat → Stmt
  | [], _ => .Pass ⟨0, 0, 0, 0⟩
  | s :: _, 0 => s
  | _ :: r, k + 1 => nthS r k
noncomputable def loop1 : List Stmt := forBody (nthS bS711.1 5)
noncomputable def loop2 : List Stmt := forBody (nthS bS711.1 9)
noncomputable def loop3 : List Stmt := forBody (nthS bS711.1 11)
noncomputable def z478 : FF 6 478 := ⟨sKill, sKill_sound⟩
noncomputable def z699 : FF 1 699 := ⟨cDraw, cDraw_sound⟩
noncomputable def TL : TT 8 := (((((((((t0.a z699).a z706).a y216).a z478).a y492).a y410).a y435).a y647).a y633)
noncomputable def lsc : List (Str × NameKind) := fS711.1.names
noncomputable def objP (p c r : Nat) : Nat × SO := (p, .obj 171 [("codes", .r c), ("runs", .r r)])
noncomputable def bufO (pt zv : Int) (mark : SV) : Nat × SO := (0, .obj 685 (bufF 1 2 4 pt zv mark))
noncomputable def marO (rows : List (Int × Nat)) : List (Nat × SO) := [(2, .obj 382 [("rows", .r 3)]), (3, .rows rows), (4, .list [])]
noncomputable def ringO (l : Nat) (p : Int) : Nat × SO := (5, .obj 216 [("most", .i 9), ("pieces", .r l), ("pointer", .i p)])
noncomputable def lawG (C T : List Int) (pt zv : Int) (l : List SV) (t : List (Nat × SO)) : List (Nat × SO) :=
  bufO pt zv .n :: (1, .gap C 108) :: (marO [] ++ (ringO 6 0 :: (6, .list l) :: (7, .deck) :: (8, .ints T) :: t))
noncomputable def pieceH (W : List Int) : List (Nat × SO) := [objP 9 10 11, (10, .ints W), (11, .list [])]
noncomputable def hE (C T : List Int) (pt zv : Int) : HS := ⟨9, lawG C T pt zv [] []⟩
noncomputable def hO (C T : List Int) (pt zv : Int) (W : List Int) : HS := ⟨12, lawG C T pt zv [.r 9] (pieceH W)⟩
noncomputable def lawF (pl lo hi : Int) (k : Nat) : Loc := [("deck", .r 7), ("text", .r 8), ("buffer", .r 0), ("ring", .r 5), ("place", .i pl), ("low", .i lo), ("high", .i hi), ("turn", .i k)]
noncomputable def lawK (pl lo hi : Int) (k : Nat) (pt m : Int) : Loc := [("deck", .r 7), ("text", .r 8), ("buffer", .r 0), ("ring", .r 5), ("place", .i pl), ("low", .i lo), ("high", .i hi), ("turn", .i k), ("point", .i pt), ("many", .i m)]
noncomputable def names8 : List Str := ["deck", "text", "buffer", "ring", "place", "low", "high", "turn"]
noncomputable def reachT {β : Type} (x y zv : Int) (t : Int → Int → T β) : T β := .all (fun m => m ≤ x ∧ m ≤ y ∧ (m = x ∨ m = y)) fun z => .all (fun m => x ≤ m ∧ y ≤ m ∧ (m = x ∨ m = y)) fun z' => .need (¬z < 1) (.need (¬zv < z') (t z z'))
theorem reach_le {β : Type} {K : β → Prop} {x y zv : Int} {t : Int → Int → T β} (h : 1 ≤ x ∧ x ≤ y ∧ y ≤ zv) (k : (t x y).ok K) : (reachT x y zv t).ok K := fun z hz z' hz' => by
  obtain rfl : z = x := by omega
  obtain rfl : z' = y := by omega
  exact ⟨by omega, by omega, k⟩
theorem reach_ge {β : Type} {K : β → Prop} {x y zv : Int} {t : Int → Int → T β} (h : 1 ≤ y ∧ y ≤ x ∧ x ≤ zv) (k : (t y x).ok K) : (reachT x y zv t).ok K := fun z hz z' hz' => by
  obtain rfl : z = y := by omega
  obtain rfl : z' = x := by omega
  exact ⟨by omega, by omega, k⟩
theorem reach_any {β : Type} {K : β → Prop} {x y zv a b : Int} {t : Int → Int → T β} (h : 1 ≤ a ∧ a ≤ b ∧ b ≤ zv) (e : (a = x ∧ b = y) ∨ (a = y ∧ b = x)) (k : (t a b).ok K) : (reachT x y zv t).ok K := by
  rcases e with ⟨rfl, rfl⟩ | ⟨rfl, rfl⟩
  · exact reach_le h k
  · exact reach_ge h k
structure Ok {β : Type} (t : T β) (K : β → Prop) : Prop where
  h : t.ok K
theorem by_cut {β : Type} {K : β → Prop} {t t' : T β} {q : Pt} (e : t.cut q = t') (h : t'.ok K) : Ok t K := ⟨T.cut_ok (e ▸ h)⟩
theorem by_run {β : Type} {K : β → Prop} {t t' : T β} (e : t = t') (h : t'.ok K) : Ok t K := ⟨e ▸ h⟩
noncomputable def cutT (C : List Int) (lo hi : Int) : List Int := (C.take (hi - 1).toNat).drop (lo - 1).toNat
noncomputable def gapT (C : List Int) (lo hi : Int) : List Int := C.take (lo - 1).toNat ++ C.drop (hi - 1).toNat
noncomputable def codeN {β : Type} (C : List Int) (lo hi : Int) (t : T β) : T β := .need (108 ≤ 1000 ∧ 0 ≤ lo - 1 ∧ lo - 1 ≤ hi - 1 ∧ hi - 1 ≤ C.length) t
noncomputable def delT {β : Type} (C : List Int) (pt zv lo hi : Int) (t : Int → Int → List Int → T β) : T β := reachT lo hi zv fun lo hi => .need (¬lo = hi) (codeN C lo hi (.br (lo < pt) (.all (fun m => lo ≤ m ∧ pt - (hi - lo) ≤ m ∧ (m = lo ∨ m = pt - (hi - lo))) fun z => t z (zv - (hi - lo)) (gapT C lo hi)) (t pt (zv - (hi - lo)) (gapT C lo hi))))
noncomputable def delT0 {β : Type} (zv lo hi : Int) (t : T β) : T β := reachT lo hi zv fun lo hi => .need (lo = hi) t
structure KB (C : List Int) (zv lo hi : Int) : Prop where
  a : 1 ≤ lo
  b : lo ≤ hi
  c : hi ≤ zv
  d : zv = C.length + 1
  e : C.length ≤ 64
section
variable {β : Type} {K : β → Prop} {C : List Int} {pt zv lo hi : Int}
theorem KB.code (h : KB C zv lo hi) {t : T β} (k : t.ok K) : (codeN C lo hi t).ok K := by
  obtain ⟨a, b, c, d, e⟩ := h
  exact ⟨⟨by decide, by omega, by omega, by omega⟩, k⟩
theorem KB.r (h : KB C zv lo hi) : 1 ≤ lo ∧ lo ≤ hi ∧ hi ≤ zv := ⟨h.a, h.b, h.c⟩
theorem KB.cut (h : KB C zv lo hi) : (cutT C lo hi).length ≤ 64 := by
  have := h.e
  unfold cutT
  rw [List.length_drop, List.length_take]
  omega
theorem KB.del (h : KB C zv lo hi) {t : Int → Int → List Int → T β} (n : lo < hi) (p : pt = lo ∨ pt = hi) (k : (t lo (zv - (hi - lo)) (gapT C lo hi)).ok K) : (delT C pt zv lo hi t).ok K := by
  refine reach_le h.r ⟨by omega, h.code ⟨fun x z hz => ?_, fun x => ?_⟩⟩
  · obtain rfl : z = lo := by omega
    exact k
  · obtain rfl : pt = lo := by omega
    exact k
theorem KB.del0 (h : KB C zv lo hi) {t : T β} (n : lo = hi) (k : t.ok K) : (delT0 zv lo hi t).ok K := reach_le h.r ⟨n, k⟩
end
end
end KR
end
section
open PySem PySem.W PyProof.Rows PySem.Calls
set_option Elab.async false
set_option maxRecDepth 100000
set_option maxHeartbeats 4000000
set_option linter.constructorNameAsVariable false
set_option linter.unusedVariables false
namespace KR
noncomputable section
noncomputable def leafE (n a : Nat) (C T W : List Int) (pt zv : Int) (l : List SV) (t : List (Nat × SO)) : KR.T (SV × HS) := .ret (.n, ⟨n + a, (1, .gap C 108) :: (n + 14, .list (.r (n + 11) :: l)) :: objP (n + 11) (n + 9) (n + 10) :: (n + 10, .list []) :: (n + 9, .ints W) :: bufO pt zv .n :: (marO [] ++ (ringO (n + 14) 0 :: (6, .list l) :: (7, .deck) :: (8, .ints T) :: t))⟩)
noncomputable def leafB (C T W : List Int) (pt zv : Int) : KR.T (SV × HS) := .ret (.n, ⟨23, (19, .list [.r 16]) :: objP 16 14 15 :: (15, .list []) :: (14, .ints W) :: (1, .gap C 108) :: bufO pt zv .n :: (marO [] ++ (ringO 19 0 :: (6, .list []) :: (7, .deck) :: (8, .ints T) :: []))⟩)
noncomputable def leafO (C T V W : List Int) (pt zv : Int) : KR.T (SV × HS) := .ret (.n, ⟨36, (1, .gap C 108) :: objP 29 24 28 :: (28, .list []) :: (24, .ints V) :: bufO pt zv .n :: (marO [] ++ (ringO 6 0 :: (6, .list [.r 29]) :: (7, .deck) :: (8, .ints T) :: pieceH W))⟩)
noncomputable def leafP (C T V W : List Int) (pt zv : Int) : KR.T (SV × HS) := .ret (.n, ⟨29, objP 25 20 24 :: (24, .list []) :: (20, .ints V) :: (1, .gap C 108) :: bufO pt zv .n :: (marO [] ++ (ringO 6 0 :: (6, .list [.r 25]) :: (7, .deck) :: (8, .ints T) :: pieceH W))⟩)
noncomputable def Pt.rs : Nat → Pt → Pt
  | 0, p => p
  | k + 1, p => .r (Pt.rs k p)
noncomputable def Pt.ls : Nat → Pt → Pt
  | 0, p => p
  | k + 1, p => .l (Pt.ls k p)
theorem runE0 (C T : List Int) (x y pt zv : Int) (P : Prop) : (sKill [.r 0, .r 5, .i x, .i y, .c P] (hE C T pt zv)).cut (.rs 6 (.l .e)) =
  reachT x y zv fun lo hi => .need (¬lo < hi) (.need (¬P) (delT0 zv lo hi (.ret (.n, ⟨14, lawG C T pt zv [] []⟩)))) := by kernel_rfl
theorem runE1 (C T : List Int) (x y pt zv : Int) (P : Prop) : (sKill [.r 0, .r 5, .i x, .i y, .c P] (hE C T pt zv)).cut (.rs 3 (.l (.r (.l (.rs 2 (.l .e)))))) =
  reachT x y zv fun lo hi => .need (¬lo < hi) (.need P (.need (¬lo < hi) (codeN C lo hi (.need P (.need ((0 : Int) ≤ 9) (delT0 zv lo hi (leafB C T (cutT C lo hi) pt zv))))))) := by kernel_rfl
theorem runE2 (C T : List Int) (x y pt zv : Int) (P : Prop) : (sKill [.r 0, .r 5, .i x, .i y, .c P] (hE C T pt zv)).cut (.rs 2 (.ls 3 (.f (.rs 3 .e) (.rs 3 .e)))) =
  reachT x y zv fun lo hi => .need (lo < hi) (.need (lo < hi) (codeN C lo hi (.need (lo - lo < hi - lo) (.br P (.need ((0 : Int) ≤ 9) (delT C pt zv lo hi fun pt zv D => leafE 9 21 D T (cutT C lo hi) pt zv [] [])) (.need ((0 : Int) ≤ 9) (delT C pt zv lo hi fun pt zv D => leafE 9 21 D T (cutT C lo hi) pt zv [] [])))))) := by kernel_rfl
theorem runO1 (C T W : List Int) (x y pt zv : Int) (P : Prop) : (sKill [.r 0, .r 5, .i x, .i y, .c P] (hO C T pt zv W)).cut (.rs 2 (.ls 4 (.f (.rs 3 .e) (.rs 3 .e)))) =
  reachT x y zv fun lo hi => .need (lo < hi) (.need (lo < hi) (codeN C lo hi (.need (lo - lo < hi - lo) (.need P (.br (y < x) (.need ((cutT C lo hi).length + W.length ≤ 4000) (.need ((cutT C lo hi).length ≤ 4000) (delT C pt zv lo hi fun pt zv D => leafO D T (cutT C lo hi ++ W) W pt zv)))
    (.need (W.length + (cutT C lo hi).length ≤ 4000) (.need (W.length ≤ 4000) (delT C pt zv lo hi fun pt zv D => leafO D T (W ++ cutT C lo hi) W pt zv)))))))) := by kernel_rfl
theorem runO0 (C T W : List Int) (x y pt zv : Int) (P : Prop) : (sKill [.r 0, .r 5, .i x, .i y, .c P] (hO C T pt zv W)).cut (.rs 3 (.l (.r (.l (.rs 3 (.l .e)))))) =
  reachT x y zv fun lo hi => .need (¬lo < hi) (.need P (.need (¬lo < hi) (codeN C lo hi (.need P (.need (¬y < x) (.need (W.length + (cutT C lo hi).length ≤ 4000) (.need (W.length ≤ 4000) (delT0 zv lo hi (leafP C T (W ++ cutT C lo hi) W pt zv))))))))) := by kernel_rfl
section
variable {c : Cx} {l : List Stmt} {K0 : KO} {C T W : List Int} {x y pt zv a b pl lo hi pt' m : Int} {k : Nat} {P : Prop}
theorem gap_none (h : KB C zv a b) (e : a = b) : gapT C a b = C ∧ zv - (b - a) = zv ∧ cutT C a b = [] := by
  subst e
  exact ⟨List.take_append_drop _ _, by lia, by unfold cutT; rw [List.drop_eq_nil_iff, List.length_take]; lia⟩
theorem kill_E (hb : KB C zv a b) (hxy : (a = x ∧ b = y) ∨ (a = y ∧ b = x)) (hp : pt = x)
    (h0 : a = b → ¬P → LawS c l (lawF pl lo hi k) (hE C T pt zv) K0)
    (h1 : a < b ∨ P → LawS c l (lawF pl lo hi k) (hO (gapT C a b) T a (zv - (b - a)) (cutT C a b)) K0) :
    Ok (sKill [.r 0, .r 5, .i x, .i y, .c P] (hE C T pt zv)) fun q => LawS c l (lawK pl lo hi k pt' m) q.2 K0 := by
  by_cases e : a = b
  · by_cases p : P
    · refine by_cut (runE1 C T x y pt zv P) (reach_any hb.r hxy ⟨by lia, p, by lia, hb.code ⟨p, by decide, hb.del0 e (LawS.nf (ρ' := lawF pl lo hi k) (H' := hO C T pt zv (cutT C a b)) [0, 1, 2, 3, 4, 5, 19, 7, 8, 16, 14, 15] names8 (by kernel_rfl) ?_)⟩⟩)
      obtain ⟨e1, e2, e3⟩ := gap_none hb e
      have := h1 (.inr p)
      rw [e1, e2, show a = pt by lia, show b = pt by lia] at this
      rw [show a = pt by lia, show b = pt by lia]
      exact this
    · exact by_cut (runE0 C T x y pt zv P) (reach_any hb.r hxy ⟨by lia, p, hb.del0 e (LawS.nf (ρ' := lawF pl lo hi k) (H' := hE C T pt zv) [0, 1, 2, 3, 4, 5, 6, 7, 8] names8 (by kernel_rfl) (h0 e p))⟩)
  · have lt : a < b := by have := hb.b; lia
    refine by_cut (runE2 C T x y pt zv P) (reach_any hb.r hxy ⟨lt, lt, hb.code ⟨by lia, fun p => ⟨by decide, hb.del lt (by lia) ?_⟩, fun p => ⟨by decide, hb.del lt (by lia) ?_⟩⟩⟩)
    all_goals exact LawS.nf (ρ' := lawF pl lo hi k) (H' := hO (gapT C a b) T a (zv - (b - a)) (cutT C a b)) [0, 1, 2, 3, 4, 5, 23, 7, 8, 20, 18, 19] names8 (by kernel_rfl) (h1 (.inl lt))
theorem kill_O (hb : KB C zv a b) (hxy : (a = x ∧ b = y) ∨ (a = y ∧ b = x)) (hp : pt = x) (hW : W.length ≤ 64) (p : P)
    (h : LawS c l (lawF pl lo hi k) (hO (gapT C a b) T a (zv - (b - a)) (if y < x then cutT C a b ++ W else W ++ cutT C a b)) K0) :
    Ok (sKill [.r 0, .r 5, .i x, .i y, .c P] (hO C T pt zv W)) fun q => LawS c l (lawK pl lo hi k pt' m) q.2 K0 := by
  have hc := hb.cut
  by_cases e : a = b
  · have q : ¬y < x := by lia
    rw [if_neg q] at h
    refine by_cut (runO0 C T W x y pt zv P) (reach_any hb.r hxy ⟨by lia, p, by lia, hb.code ⟨p, q, by lia, by lia, hb.del0 e (LawS.nf (ρ' := lawF pl lo hi k) (H' := hO C T pt zv (W ++ cutT C a b)) [0, 1, 2, 3, 4, 5, 6, 7, 8, 25, 20, 24] names8 (by kernel_rfl) ?_)⟩⟩)
    obtain ⟨e1, e2, e3⟩ := gap_none hb e
    rw [e1, e2, show a = pt by lia, show b = pt by lia] at h
    rw [show a = pt by lia, show b = pt by lia]
    exact h
  · have lt : a < b := by have := hb.b; lia
    refine by_cut (runO1 C T W x y pt zv P) (reach_any hb.r hxy ⟨lt, lt, hb.code ⟨by lia, p, fun q => ⟨by lia, by lia, hb.del lt (by lia) ?_⟩, fun q => ⟨by lia, by lia, hb.del lt (by lia) ?_⟩⟩⟩)
    · rw [if_pos q] at h
      exact LawS.nf (ρ' := lawF pl lo hi k) (H' := hO (gapT C a b) T a (zv - (b - a)) (cutT C a b ++ W)) [0, 1, 2, 3, 4, 5, 6, 7, 8, 29, 24, 28] names8 (by kernel_rfl) h
    · rw [if_neg q] at h
      exact LawS.nf (ρ' := lawF pl lo hi k) (H' := hO (gapT C a b) T a (zv - (b - a)) (W ++ cutT C a b)) [0, 1, 2, 3, 4, 5, 6, 7, 8, 29, 24, 28] names8 (by kernel_rfl) h
end
end
end KR
end
section
open PySem PySem.W PyProof.Rows PySem.Calls
set_option Elab.async false
set_option maxRecDepth 100000
set_option maxHeartbeats 4000000
set_option linter.constructorNameAsVariable false
set_option linter.unusedVariables false
namespace KR
noncomputable section
noncomputable def law7 (pl lo hi : Int) : Loc := [("deck", .r 7), ("text", .r 8), ("buffer", .r 0), ("ring", .r 5), ("place", .i pl), ("low", .i lo), ("high", .i hi)]
noncomputable def lawP (pl lo hi : Int) (k : Nat) (pt : Int) : Loc := [("deck", .r 7), ("text", .r 8), ("buffer", .r 0), ("ring", .r 5), ("place", .i pl), ("low", .i lo), ("high", .i hi), ("turn", .i k), ("point", .i pt)]
noncomputable def ifTest : Stmt → PySem.Expr
  | .If t _ _ _ => t
  | _ => .Constant .none 0 ⟨0, 0, 0, 0⟩
noncomputable def ifThen : Stmt → List Stmt
  | .If _ a _ _ => a
  | _ => []
noncomputable def ifElse : Stmt → List Stmt
  | .If _ _ b _ => b
  | _ => []
noncomputable def ifPos : Stmt → Pos
  | .If _ _ _ p => p
  | _ => ⟨0, 0, 0, 0⟩
noncomputable def fork1 : Stmt := nthS loop1 1
noncomputable def xL := ex TL.1 lsc 40
noncomputable def vL (ρ : Loc) := ev TL.1 (evName lsc ρ) 40
theorem run_point (pl lo hi pt zv : Int) (k nx : Nat) (C T : List Int) (l : List SV) (t : List (Nat × SO)) : xL (nthS loop1 0) (lawF pl lo hi k) ⟨nx, lawG C T pt zv l t⟩ = (.ret (.next, lawP pl lo hi k pt, ⟨nx, lawG C T pt zv l t⟩) : KR.T R3) := by kernel_rfl
noncomputable def drawT {β : Type} (k : Int) (t : Int → T β) : T β := .need (0 < k ∧ k ≤ 64) (.all (fun z => 0 ≤ z ∧ z < k) t)
theorem run_fork (pl lo hi pt zv : Int) (k nx : Nat) (C T : List Int) (l : List SV) (t : List (Nat × SO)) : tru (vL (lawP pl lo hi k pt)) 9 (ifTest fork1) ⟨nx, lawG C T pt zv l t⟩ = (drawT 2 fun z => .br (z = 0) (.ret (true, ⟨nx, lawG C T pt zv l t⟩)) (.ret (false, ⟨nx, lawG C T pt zv l t⟩)) : KR.T (Bool × HS)) := by kernel_rfl
theorem run_fwd (pl lo hi pt zv : Int) (k nx : Nat) (C T : List Int) (l : List SV) (t : List (Nat × SO)) : exs xL [nthS (ifThen fork1) 0, nthS (ifThen fork1) 1] (lawP pl lo hi k pt) ⟨nx, lawG C T pt zv l t⟩ =
  (drawT 4 fun z => .need (T.length ≤ 4000) (.all (fun m => m ≤ z ∧ m ≤ T.length - hi ∧ (m = z ∨ m = T.length - hi)) fun m => .ret (.next, lawK pl lo (hi + m) k pt m, ⟨nx, lawG C T pt zv l t⟩)) : KR.T R3) := by kernel_rfl
theorem run_bwd (pl lo hi pt zv : Int) (k nx : Nat) (C T : List Int) (l : List SV) (t : List (Nat × SO)) : exs xL [nthS (ifElse fork1) 0, nthS (ifElse fork1) 1] (lawP pl lo hi k pt) ⟨nx, lawG C T pt zv l t⟩ =
  (drawT 4 fun z => .all (fun m => m ≤ z ∧ m ≤ lo ∧ (m = z ∨ m = lo)) fun m => .ret (.next, lawK pl (lo - m) hi k pt m, ⟨nx, lawG C T pt zv l t⟩) : KR.T R3) := by kernel_rfl
theorem run_kf (pl lo hi pt p0 m zv : Int) (k nx : Nat) (C T : List Int) (l : List SV) (t : List (Nat × SO)) : xL (nthS (ifThen fork1) 2) (lawK pl lo hi k pt m) ⟨nx, lawG C T p0 zv l t⟩ =
  ((sKill [.r 0, .r 5, .i pt, .i (pt + m), .c (0 < (k : Int))] ⟨nx, lawG C T p0 zv l t⟩).bind fun x => .ret (.next, lawK pl lo hi k pt m, x.2) : KR.T R3) := by kernel_rfl
theorem run_kb (pl lo hi pt p0 m zv : Int) (k nx : Nat) (C T : List Int) (l : List SV) (t : List (Nat × SO)) : xL (nthS (ifElse fork1) 2) (lawK pl lo hi k pt m) ⟨nx, lawG C T p0 zv l t⟩ =
  ((sKill [.r 0, .r 5, .i pt, .i (pt - m), .c (0 < (k : Int))] ⟨nx, lawG C T p0 zv l t⟩).bind fun x => .ret (.next, lawK pl lo hi k pt m, x.2) : KR.T R3) := by kernel_rfl
noncomputable def ns9 : List Nat := [0, 1, 2, 3, 4, 5, 6, 7, 8]
noncomputable def ns12 : List Nat := [0, 1, 2, 3, 4, 5, 6, 7, 8, 9, 10, 11]
noncomputable def names7 : List Str := ["deck", "text", "buffer", "ring", "place", "low", "high"]
noncomputable def wholeT (C : List Int) : List Int := (C.take ((C.length : Int) + 1 - 1).toNat).drop ((1 : Int) - 1).toNat
noncomputable def wholeN {β : Type} (C : List Int) (bd : Nat) (t : T β) : T β := .need (bd ≤ 1000) (.need (bd ≤ 1000 ∧ 0 ≤ (1 : Int) - 1 ∧ (1 : Int) - 1 ≤ (C.length : Int) + 1 - 1 ∧ (C.length : Int) + 1 - 1 ≤ C.length) t)
noncomputable def chkT {β : Type} (C T : List Int) (lo hi pt : Int) (t : KR.T β) : KR.T β := .need (¬pt ≠ lo + 1) (wholeN C 108 (.need (0 ≤ lo) (.need (T.length ≤ 4000) (.need (0 ≤ hi) (.need (T.length ≤ 4000) (.need ((T.take lo.toNat).length + (T.drop hi.toNat).length ≤ 4000) (.need (¬¬wholeT C = T.take lo.toNat ++ T.drop hi.toNat) t)))))))
theorem run_chkE (pl lo hi pt zv : Int) (k : Nat) (C T : List Int) : ((exs xL [nthS loop1 2, nthS loop1 3] (lawF pl lo hi k) (hE C T pt zv)).bind (nfT ns9 names7)).cut (.rs 5 .e) =
  (chkT C T lo hi pt (.need (¬lo < hi) (.need (¬(0 : Int) < (k : Int)) (.need (¬¬([] : List Int) = []) (.ret (.next, law7 pl lo hi, hE C T pt zv))))) : KR.T R3) := by kernel_rfl
theorem run_chkO (pl lo hi pt zv : Int) (k : Nat) (C T W : List Int) : ((exs xL [nthS loop1 2, nthS loop1 3] (lawF pl lo hi k) (hO C T pt zv W)).bind (nfT ns12 names7)).cut (.rs 3 (.l (.r .e))) =
  (chkT C T lo hi pt (.need (¬lo < hi) (.need ((0 : Int) < (k : Int)) (.need (0 ≤ lo) (.need (0 ≤ hi) (.need (T.length ≤ 4000) (.need (¬¬[W] = [(T.take hi.toNat).drop lo.toNat]) (.ret (.next, law7 pl lo hi, hO C T pt zv W)))))))) : KR.T R3) := by kernel_rfl
theorem run_chkL (pl lo hi pt zv : Int) (k : Nat) (C T W : List Int) : ((exs xL [nthS loop1 2, nthS loop1 3] (lawF pl lo hi k) (hO C T pt zv W)).bind (nfT ns12 names7)).cut (.rs 2 (.l (.r .e))) =
  (chkT C T lo hi pt (.need (lo < hi) (.need (0 ≤ lo) (.need (0 ≤ hi) (.need (T.length ≤ 4000) (.need (¬¬[W] = [(T.take hi.toNat).drop lo.toNat]) (.ret (.next, law7 pl lo hi, hO C T pt zv W))))))) : KR.T R3) := by kernel_rfl
structure G1 (T C : List Int) (lo hi pt zv : Int) : Prop where
  a : 0 ≤ lo
  b : lo ≤ hi
  c : hi ≤ T.length
  e : C = T.take lo.toNat ++ T.drop hi.toNat
  p : pt = lo + 1
  z : zv = C.length + 1
  n : T.length ≤ 9
section
variable {T C W : List Int} {lo hi pt zv m : Int}
theorem join_cut (T : List Int) {a b c : Nat} (h1 : a ≤ b) (h2 : b ≤ c) : (T.take b).drop a ++ (T.take c).drop b = (T.take c).drop a := by
  rw [List.drop_take, List.drop_take, List.drop_take, show c - a = (b - a) + (c - b) by lia, List.take_add, List.drop_drop, show a + (b - a) = b by lia]
theorem tn1 (a : Nat) : ((a : Int) + 1 - 1).toNat = a := by lia
theorem tn2 (a b : Nat) : ((a : Int) + 1 + (b : Int) - 1).toNat = a + b := by lia
theorem tn3 (a b : Nat) : ((a : Int) + (b : Int)).toNat = a + b := by lia
theorem tn4 (a b : Nat) : ((a : Int) + 1 - (b : Int) - 1).toNat = a - b := by lia
theorem tn5 (a b : Nat) : ((a : Int) - (b : Int)).toNat = a - b := by lia
theorem len_cut (T : List Int) {l h : Nat} (h1 : l ≤ h) (h2 : h ≤ T.length) : (T.take l ++ T.drop h).length = l + (T.length - h) := by
  rw [List.length_append, List.length_take_of_le (Nat.le_trans h1 h2), List.length_drop]
theorem G1.nat (g : G1 T C lo hi pt zv) : ∃ l h : Nat, lo = l ∧ hi = h ∧ l ≤ h ∧ h ≤ T.length ∧ C = T.take l ++ T.drop h ∧ pt = (l : Int) + 1 ∧ C.length = l + (T.length - h) := by
  obtain ⟨l, e1⟩ := Int.eq_ofNat_of_zero_le g.a
  obtain ⟨h, e2⟩ := Int.eq_ofNat_of_zero_le (Int.le_trans g.a g.b)
  have b := g.b
  have c := g.c
  have e := g.e
  have p := g.p
  subst e1 e2
  have b : l ≤ h := Int.ofNat_le.mp b
  have c : h ≤ T.length := Int.ofNat_le.mp c
  have e : C = T.take l ++ T.drop h := e
  exact ⟨l, h, rfl, rfl, b, c, e, p, by rw [e]; exact len_cut T b c⟩
theorem G1.whole (g : G1 T C lo hi pt zv) : wholeT C = C := by
  unfold wholeT
  rw [show ((C.length : Int) + 1 - 1).toNat = C.length from tn1 _, List.take_length]
  rfl
theorem G1.chk {β : Type} {K : β → Prop} {t : KR.T β} (g : G1 T C lo hi pt zv) (h : t.ok K) : (chkT C T lo hi pt t).ok K := by
  have n := g.n
  have w := g.whole
  have e' := g.e
  have a := g.a
  have bb := Int.le_trans g.a g.b
  obtain ⟨l, h', rfl, rfl, b, c, e, p, ll⟩ := g.nat
  clear g
  have s : ∀ {x : Nat}, x ≤ 64 → x ≤ 4000 := fun h => Nat.le_trans h (by decide)
  have n' : T.length ≤ 4000 := Nat.le_trans n (by decide)
  refine ⟨fun x => x p, by decide, ⟨by decide, by decide, by lia, by lia⟩, a, n', bb, n', ?_, fun x => x (by rw [w]; exact e'), h⟩
  rw [← List.length_append]
  show (T.take l ++ T.drop h').length ≤ 4000
  rw [len_cut T b c]
  lia
theorem G1.left (g : G1 T C lo hi pt zv) : C.take lo.toNat = T.take lo.toNat ∧ C.drop lo.toNat = T.drop hi.toNat := by
  obtain ⟨l, h, rfl, rfl, b, c, e, p, ll⟩ := g.nat
  have s : (T.take l).length = l := List.length_take_of_le (Nat.le_trans b c)
  rw [e]
  exact ⟨List.take_left' s, List.drop_left' s⟩
theorem G1.fwd (g : G1 T C lo hi pt zv) (h0 : 0 ≤ m) (h1 : m ≤ T.length - hi) : KB C zv pt (pt + m) ∧ G1 T (gapT C pt (pt + m)) lo (hi + m) pt (zv - (pt + m - pt)) ∧ cutT C pt (pt + m) = (T.take (hi + m).toNat).drop hi.toNat := by
  obtain ⟨e1, e2⟩ := g.left
  have z := g.z
  have n := g.n
  have p0 := g.p
  obtain ⟨l, h, rfl, rfl, b, c, e, p, ll⟩ := g.nat
  obtain ⟨m, rfl⟩ := Int.eq_ofNat_of_zero_le h0
  have hm : h + m ≤ T.length := by lia
  have x1 : (pt - 1).toNat = l := by rw [p]; exact tn1 l
  have x2 : (pt + m - 1).toNat = l + m := by rw [p]; exact tn2 l m
  have e1 : C.take l = T.take l := e1
  have e2 : C.drop l = T.drop h := e2
  have eg : gapT C pt (pt + m) = T.take l ++ T.drop (h + m) := by
    unfold gapT
    rw [x1, x2, e1, ← List.drop_drop, e2, List.drop_drop]
  have lg : (gapT C pt (pt + m)).length = l + (T.length - (h + m)) := by rw [eg]; exact len_cut T (by lia) hm
  have ec : cutT C pt (pt + m) = (T.take (h + m)).drop h := by
    unfold cutT
    rw [x2, x1, List.drop_take, e2, List.drop_take, Nat.add_sub_cancel_left, Nat.add_sub_cancel_left]
  clear x1 x2
  refine ⟨⟨by lia, by lia, by lia, z, by lia⟩, ⟨Int.natCast_nonneg l, by lia, by lia, by rw [show ((h : Int) + (m : Int)).toNat = h + m from tn3 h m]; exact eg, p0, by lia, n⟩, ?_⟩
  rw [show ((h : Int) + (m : Int)).toNat = h + m from tn3 h m]
  exact ec
theorem G1.bwd (g : G1 T C lo hi pt zv) (h0 : 0 ≤ m) (h1 : m ≤ lo) : KB C zv (pt - m) pt ∧ G1 T (gapT C (pt - m) pt) (lo - m) hi (pt - m) (zv - (pt - (pt - m))) ∧ cutT C (pt - m) pt = (T.take lo.toNat).drop (lo - m).toNat := by
  obtain ⟨e1, e2⟩ := g.left
  have z := g.z
  have n := g.n
  obtain ⟨l, h, rfl, rfl, b, c, e, p, ll⟩ := g.nat
  clear g
  obtain ⟨m, rfl⟩ := Int.eq_ofNat_of_zero_le h0
  have hm : m ≤ l := Int.ofNat_le.mp h1
  have x1 : (pt - 1).toNat = l := by rw [p]; exact tn1 l
  have x2 : (pt - m - 1).toNat = l - m := by rw [p]; exact tn4 l m
  have e1 : C.take l = T.take l := e1
  have e2 : C.drop l = T.drop h := e2
  have eg : gapT C (pt - m) pt = T.take (l - m) ++ T.drop h := by
    unfold gapT
    rw [x1, x2, e2]
    congr 1
    rw [show l - m = min (l - m) l from (Nat.min_eq_left (Nat.sub_le _ _)).symm, ← List.take_take, e1, List.take_take]
  have ec : cutT C (pt - m) pt = (T.take l).drop (l - m) := by
    unfold cutT
    rw [x1, x2, e1]
  have lg : (gapT C (pt - m) pt).length = l - m + (T.length - h) := by rw [eg]; exact len_cut T (Nat.le_trans (Nat.sub_le _ _) b) c
  clear x1 x2
  refine ⟨⟨by lia, by lia, by lia, z, by lia⟩, ⟨by lia, by lia, by lia, by rw [show ((l : Int) - (m : Int)).toNat = l - m from tn5 l m]; exact eg, by lia, by lia, n⟩, ?_⟩
  rw [show ((l : Int) - (m : Int)).toNat = l - m from tn5 l m]
  exact ec
theorem draw_all {β : Type} {K : β → Prop} {k : Int} {t : Int → KR.T β} (hk : 0 < k ∧ k ≤ 64) (h : ∀ z, 0 ≤ z → z < k → (t z).ok K) : (drawT k t).ok K := ⟨hk, fun z hz => h z hz.1 hz.2⟩
variable {c : Cx} {pl : Int} {k : Nat} {K : KO} {H : HS} {l : List Stmt} {ρ : Loc}
theorem LawT.run (O : c.Ok 8) (hsc : c.csc.names = lsc) {st : Stmt} (h : Ok (xL st ρ H) K) : LawT c st ρ H K := LawT.ex TL.2 O hsc h.h
theorem LawS.run (O : c.Ok 8) (hsc : c.csc.names = lsc) {r : List Stmt} (h : Ok (KR.exs xL l ρ H) (next c r K)) : LawS c (l ++ r) ρ H K := LawS.exs TL.2 O hsc h.h
theorem LawS.runN (O : c.Ok 8) (hsc : c.csc.names = lsc) {r : List Stmt} {ns : List Nat} {xs : List Str} (h : Ok ((KR.exs xL l ρ H).bind (nfT ns xs)) (next c r K)) : LawS c (l ++ r) ρ H K := LawS.exs TL.2 O hsc (T.ok_mono (T.ok_bind h.h) fun _ => nfT_ok)
theorem LawT.call (O : c.Ok 8) (hsc : c.csc.names = lsc) {st : Stmt} {t : KR.T (SV × HS)} {ρ' : Loc} (e : xL st ρ H = t.bind fun x => .ret (.next, ρ', x.2)) (h : Ok t fun q => K (.next, ρ', q.2)) : LawT c st ρ H K := LawT.run O hsc (by_run e (KR.T.bind_ok h.h))
noncomputable def E1 (T : List Int) (i : Nat) (lo hi : Int) (C : List Int) (pt zv : Int) (H : HS) : Prop := (H = hE C T pt zv ∧ lo = hi ∧ i ≤ 1) ∨ (H = hO C T pt zv ((T.take hi.toNat).drop lo.toNat) ∧ 0 < i)
noncomputable def I1 (T : List Int) (pl : Int) (n i : Nat) (ρ : Loc) (H : HS) : Prop := ∃ lo hi C pt zv, ρ = law7 pl lo hi ∧ G1 T C lo hi pt zv ∧ E1 T i lo hi C pt zv H
noncomputable def KT (T : List Int) (pl : Int) (n i : Nat) (K : KO) : KO := fun o => match o with
  | (.next, ρ, H) => I1 T pl n i ρ H
  | o => K o
theorem chk_E (O : c.Ok 8) (hsc : c.csc.names = lsc) {n : Nat} (g : G1 T C lo hi pt zv) (e : lo = hi) (hk : k = 0) : LawS c [nthS loop1 2, nthS loop1 3] (lawF pl lo hi k) (hE C T pt zv) (KT T pl n (k + 1) K) := by
  refine LawS.runN (r := []) O hsc (by_cut (run_chkE pl lo hi pt zv k C T) (g.chk ⟨by lia, by lia, fun x => x rfl, LawS.nil ⟨lo, hi, C, pt, zv, rfl, g, .inl ⟨rfl, e, by lia⟩⟩⟩))
theorem chk_O (O : c.Ok 8) (hsc : c.csc.names = lsc) {n : Nat} (g : G1 T C lo hi pt zv) (e : lo < hi ∨ 0 < k) (hW : W = (T.take hi.toNat).drop lo.toNat) : LawS c [nthS loop1 2, nthS loop1 3] (lawF pl lo hi k) (hO C T pt zv W) (KT T pl n (k + 1) K) := by
  have fin : next c [] (KT T pl n (k + 1) K) (.next, law7 pl lo hi, hO C T pt zv W) := LawS.nil ⟨lo, hi, C, pt, zv, rfl, g, .inr ⟨by rw [hW], by lia⟩⟩
  have w : ¬¬[W] = [(T.take hi.toNat).drop lo.toNat] := fun x => x (by rw [hW])
  have hn := g.n
  by_cases q : lo < hi
  · exact LawS.runN (r := []) O hsc (by_cut (run_chkL pl lo hi pt zv k C T W) (g.chk ⟨q, g.a, Int.le_trans g.a g.b, by lia, w, fin⟩))
  · exact LawS.runN (r := []) O hsc (by_cut (run_chkO pl lo hi pt zv k C T W) (g.chk ⟨q, by lia, g.a, Int.le_trans g.a g.b, by lia, w, fin⟩))
theorem cut_le (T : List Int) (a b : Nat) : ((T.take a).drop b).length ≤ T.length := by
  rw [List.length_drop]
  exact Nat.le_trans (Nat.sub_le _ _) (by rw [List.length_take]; exact Nat.min_le_right _ _)
theorem min_ok {z x : Int} (h : m ≤ z ∧ m ≤ x ∧ (m = z ∨ m = x)) (h0 : 0 ≤ z) (h1 : 0 ≤ x) : 0 ≤ m ∧ m ≤ x := ⟨by rcases h.2.2 with e | e <;> rw [e] <;> assumption, h.2.1⟩
theorem i0 {i : Nat} (h1 : i ≤ 1) (p : ¬(0 : Int) < (i : Int)) : i = 0 := by lia
theorem same_m {a b : Int} (h : a = a + b) : b = 0 := by lia
theorem same_b {a b : Int} (h : a - b = a) : b = 0 := by lia
theorem less {x y : Int} {i : Nat} (h : pt - m < pt ∨ (0 : Int) < (i : Int)) (e : x = y) : x - m < y ∨ 0 < i := by lia
theorem moreP {x y : Int} {i : Nat} (h : pt < pt + m ∨ (0 : Int) < (i : Int)) (e : x = y) : x < y + m ∨ 0 < i := by lia
theorem not_before {x : Int} (h : 0 ≤ m) : ¬x + m < x := by lia
theorem before {x : Int} (h : ¬x - m < x) (h0 : 0 ≤ m) : m = 0 := by lia
theorem turn1 (O : c.Ok 8) (hsc : c.csc.names = lsc) {n i : Nat} (I : I1 T pl n i ρ H) : LawS c loop1 (putS "turn" (.i (i : Nat)) ρ) H (KT T pl n (i + 1) K) := by
  obtain ⟨lo, hi, C, pt, zv, rfl, g, st⟩ := I
  have hn4 : T.length ≤ 4000 := Nat.le_trans g.n (by decide)
  have eb : loop1 = [nthS loop1 0, .If (ifTest fork1) (ifThen fork1) (ifElse fork1) (ifPos fork1), nthS loop1 2, nthS loop1 3] := by kernel_rfl
  have eρ : putS "turn" (.i (i : Nat)) (law7 pl lo hi) = lawF pl lo hi i := by kernel_rfl
  have ea : ifThen fork1 = [nthS (ifThen fork1) 0, nthS (ifThen fork1) 1] ++ [nthS (ifThen fork1) 2] := by kernel_rfl
  have eo : ifElse fork1 = [nthS (ifElse fork1) 0, nthS (ifElse fork1) 1] ++ [nthS (ifElse fork1) 2] := by kernel_rfl
  have W64 : ((T.take hi.toNat).drop lo.toNat).length ≤ 64 := Nat.le_trans (cut_le _ _ _) (Nat.le_trans g.n (by decide))
  have hlo := Int.toNat_le_toNat g.b
  obtain ⟨nx, l, t, eH⟩ : ∃ nx l t, H = ⟨nx, lawG C T pt zv l t⟩ := by
    rcases st with ⟨rfl, _⟩ | ⟨rfl, _⟩
    · exact ⟨_, _, _, rfl⟩
    · exact ⟨_, _, _, rfl⟩
  rw [eb, eρ]
  refine LawS.cons (LawT.run O hsc ?_)
  rw [eH]
  refine by_run (run_point pl lo hi pt zv i nx C T l t) (LawS.cons ?_)
  refine LawT.ite TL.2 O hsc ?_
  refine Ok.h (by_run (run_fork pl lo hi pt zv i nx C T l t) (draw_all ⟨by decide, by decide⟩ fun z _ _ => ⟨fun hz => ?_, fun hz => ?_⟩))
  · show LawS c (ifThen fork1) (lawP pl lo hi i pt) ⟨nx, lawG C T pt zv l t⟩ (next c [nthS loop1 2, nthS loop1 3] (KT T pl n (i + 1) K))
    rw [ea]
    refine LawS.run O hsc (by_run (run_fwd pl lo hi pt zv i nx C T l t) (draw_all ⟨by decide, by decide⟩ fun z z0 z4 => ⟨hn4, fun m hm => LawS.cons (LawT.call O hsc (run_kf pl lo (hi + m) pt pt m zv i nx C T l t) ?_)⟩))
    obtain ⟨m0, m1⟩ := min_ok hm z0 (Int.sub_nonneg.mpr g.c)
    obtain ⟨hb, g', hcut⟩ := g.fwd (m := m) m0 m1
    rw [← eH]
    rcases st with ⟨rfl, e, hi1⟩ | ⟨rfl, hi1⟩
    · refine (kill_E (c := c) (l := []) (K0 := next c [nthS loop1 2, nthS loop1 3] (KT T pl n (i + 1) K)) (pl := pl) (lo := lo) (hi := hi + m) (k := i) (pt' := pt) (m := m) (P := 0 < (i : Int)) (C := C) (T := T) (zv := zv) (pt := pt) hb (.inl ⟨rfl, rfl⟩) rfl (fun e2 p => LawS.nil (chk_E O hsc ?_ ?_ (i0 hi1 p))) fun p => LawS.nil (chk_O O hsc g' (moreP p e) ?_))
      · rw [same_m e2, Int.add_zero]; exact g
      · rw [same_m e2, Int.add_zero]; exact e
      · rw [hcut, e]
    · refine (kill_O (c := c) (l := []) (K0 := next c [nthS loop1 2, nthS loop1 3] (KT T pl n (i + 1) K)) (pl := pl) (lo := lo) (hi := hi + m) (k := i) (pt' := pt) (m := m) (P := 0 < (i : Int)) (C := C) (T := T) (zv := zv) (pt := pt) hb (.inl ⟨rfl, rfl⟩) rfl W64 (Int.natCast_pos.mpr hi1) (LawS.nil (chk_O O hsc g' (.inr hi1) ?_)))
      rw [if_neg (not_before m0), hcut]
      exact join_cut T hlo (Int.toNat_le_toNat (Int.le_add_of_nonneg_right m0))
  · show LawS c (ifElse fork1) (lawP pl lo hi i pt) ⟨nx, lawG C T pt zv l t⟩ (next c [nthS loop1 2, nthS loop1 3] (KT T pl n (i + 1) K))
    rw [eo]
    refine LawS.run O hsc (by_run (run_bwd pl lo hi pt zv i nx C T l t) (draw_all ⟨by decide, by decide⟩ fun z z0 z4 m hm => LawS.cons (LawT.call O hsc (run_kb pl (lo - m) hi pt pt m zv i nx C T l t) ?_)))
    obtain ⟨m0, m1⟩ := min_ok hm z0 g.a
    obtain ⟨hb, g', hcut⟩ := g.bwd (m := m) m0 m1
    rw [← eH]
    rcases st with ⟨rfl, e, hi1⟩ | ⟨rfl, hi1⟩
    · refine (kill_E (c := c) (l := []) (K0 := next c [nthS loop1 2, nthS loop1 3] (KT T pl n (i + 1) K)) (pl := pl) (lo := lo - m) (hi := hi) (k := i) (pt' := pt) (m := m) (P := 0 < (i : Int)) (C := C) (T := T) (zv := zv) (pt := pt) hb (.inr ⟨rfl, rfl⟩) rfl (fun e2 p => LawS.nil (chk_E O hsc ?_ ?_ (i0 hi1 p))) fun p => LawS.nil (chk_O O hsc g' (less p e) ?_))
      · rw [same_b e2, Int.sub_zero]; exact g
      · rw [same_b e2, Int.sub_zero]; exact e
      · rw [hcut, e]
    · refine (kill_O (c := c) (l := []) (K0 := next c [nthS loop1 2, nthS loop1 3] (KT T pl n (i + 1) K)) (pl := pl) (lo := lo - m) (hi := hi) (k := i) (pt' := pt) (m := m) (P := 0 < (i : Int)) (C := C) (T := T) (zv := zv) (pt := pt) hb (.inr ⟨rfl, rfl⟩) rfl W64 (Int.natCast_pos.mpr hi1) (LawS.nil (chk_O O hsc g' (.inr hi1) ?_)))
      rw [hcut]
      split
      · exact join_cut T (Int.toNat_le_toNat (Int.sub_le_self lo m0)) hlo
      · rename_i q
        rw [before q m0, Int.sub_zero, List.drop_eq_nil_of_le (as := T.take lo.toNat) (by rw [List.length_take]; exact Nat.min_le_left _ _), List.append_nil]
end
end
end KR
end
section
open PySem PySem.W PyProof.Rows PySem.Calls
set_option Elab.async false
set_option maxRecDepth 100000
set_option maxHeartbeats 4000000
set_option linter.constructorNameAsVariable false
set_option linter.unusedVariables false
namespace KR
noncomputable section
noncomputable def hD (T : List Int) : HS := ⟨2, [(0, .deck), (1, .ints T)]⟩
noncomputable def lawD (pl : Int) : Loc := [("deck", .r 0), ("text", .r 1), ("place", .i pl)]
noncomputable def lawD0 : Loc := [("deck", .r 0), ("text", .r 1)]
noncomputable def namesD : List Str := ["deck", "text", "place"]
noncomputable def sL (k : Nat) : Stmt := nthS bS711.1 k
noncomputable def n4 {β : Type} (W : List Int) (t : T β) : T β := .need (W.length ≤ 4000) t
noncomputable def insX (C W : List Int) (pt : Int) : List Int := C.take (pt - 1).toNat ++ (W ++ C.drop (pt - 1).toNat)
noncomputable def insT {β : Type} (C W : List Int) (bd : Nat) (pt zv : Int) (t : T β) : T β := reachT pt pt zv fun _ _ => n4 W (.need (¬(W.length : Int) = 0) (n4 W (.need (bd ≤ 1000) (.need (¬(4194304 : Int) < (C.length : Int) + (W.length : Int)) (.need (bd ≤ 1000 ∧ 0 ≤ pt - 1 ∧ pt - 1 ≤ C.length ∧ W.length ≤ 50) (n4 W (.need (¬pt < pt) (n4 W (n4 W t)))))))))
noncomputable def markT {β : Type} (C : List Int) (bd : Nat) (pt : Int) (t : Int → T β) : T β := .all (fun m => pt ≤ m ∧ 1 ≤ m ∧ (m = pt ∨ m = 1)) fun z => .need (bd ≤ 1000) (.all (fun m => m ≤ z ∧ m ≤ (C.length : Int) + 1 ∧ (m = z ∨ m = (C.length : Int) + 1)) t)
structure KI (C W : List Int) (bd : Nat) (pt zv : Int) : Prop where
  a : 1 ≤ pt
  b : pt ≤ zv
  d : zv = C.length + 1
  e : C.length ≤ 64
  f : W.length ≤ 50
  g : bd ≤ 1000
section
variable {β : Type} {K : β → Prop} {C W T : List Int} {bd : Nat} {pt zv pl lo hi : Int}
theorem KI.n4 (h : KI C W bd pt zv) {t : KR.T β} (k : t.ok K) : (KR.n4 W t).ok K := ⟨by have := h.f; lia, k⟩
theorem KI.ins (h : KI C W bd pt zv) (p : 0 < W.length) {t : KR.T β} (k : t.ok K) : (insT C W bd pt zv t).ok K := by
  obtain ⟨a, b, d, e, f, g⟩ := id h
  exact reach_le ⟨a, Int.le_refl _, b⟩ (h.n4 ⟨by lia, h.n4 ⟨g, by lia, ⟨g, by lia, by lia, f⟩, h.n4 ⟨by lia, h.n4 (h.n4 k)⟩⟩⟩)
theorem KI.mark (h : KI C W bd pt zv) {t : Int → KR.T β} (k : (t pt).ok K) : (markT C bd pt t).ok K := by
  obtain ⟨a, b, d, e, f, g⟩ := id h
  refine fun z hz => ⟨g, fun z' hz' => ?_⟩
  obtain rfl : z' = pt := by lia
  exact k
theorem whole_eq (C : List Int) : wholeT C = C := by
  unfold wholeT
  rw [show ((C.length : Int) + 1 - 1).toNat = C.length from tn1 _, List.take_length]
  rfl
theorem whole_ok {t : KR.T β} (h : bd ≤ 1000) (k : t.ok K) : (wholeN C bd t).ok K := ⟨h, ⟨h, by decide, by lia, by lia⟩, k⟩
end
theorem run_midE (C T : List Int) (pt zv pl lo hi : Int) : ((exs xL [sL 6, sL 7] (law7 pl lo hi) (hE C T pt zv)).bind (nfT [7, 8] namesD)).cut (.rs 2 .e) =
  (.need (¬¬([] : List Int) = []) (wholeN C 108 (.need (¬¬wholeT C = T) (.ret (.next, lawD pl, hD T)))) : KR.T R3) := by kernel_rfl
theorem run_mid0 (C T W : List Int) (pt zv pl lo hi : Int) : ((exs xL [sL 6, sL 7] (law7 pl lo hi) (hO C T pt zv W)).bind (nfT [7, 8] namesD)).cut (.rs 2 (.l (.rs 2 .e))) =
  (markT C 108 pt fun z => n4 W (reachT pt pt zv fun _ _ => n4 W (.need ((W.length : Int) = 0) (.need (¬¬[pt, z] = [hi + 1, lo + 1]) (wholeN C 108 (.need (¬¬wholeT C = T) (.ret (.next, lawD pl, hD T))))))) : KR.T R3) := by kernel_rfl
theorem run_mid1 (C T W : List Int) (pt zv pl lo hi : Int) : ((exs xL [sL 6, sL 7] (law7 pl lo hi) (hO C T pt zv W)).bind (nfT [7, 8] namesD)).cut (.rs 6 (.l (.rs 2 .e))) =
  (markT C 108 pt fun z => n4 W (insT C W 108 pt zv (.need (¬pt < z) (.need (z = pt) (n4 W (n4 W (.need (¬¬[pt + (W.length : Int), z] = [hi + 1, lo + 1]) (wholeN (insX C W pt) 208 (.need (¬¬wholeT (insX C W pt) = T) (.ret (.next, lawD pl, hD T)))))))))) : KR.T R3) := by kernel_rfl
noncomputable def lbufT {β : Type} (T : List Int) (pl : Int) (t : Int → KR.T β) : KR.T β := insT [] T 8 1 1 (n4 T (n4 T (.all (fun m => pl + 1 ≤ m ∧ 1 ≤ m ∧ (m = pl + 1 ∨ m = 1)) fun z => .all (fun m => m ≤ z ∧ m ≤ 1 + (T.length : Int) ∧ (m = z ∨ m = 1 + (T.length : Int))) t)))
theorem lbuf_ok {β : Type} {K : β → Prop} {T : List Int} {pl : Int} {t : Int → KR.T β} (h0 : 0 < T.length) (h1 : T.length ≤ 9) (h2 : 0 ≤ pl) (h3 : pl ≤ T.length) (k : (t (pl + 1)).ok K) : (lbufT T pl t).ok K := by
  have h : KI [] T 8 1 1 := ⟨by decide, by decide, by decide, by decide, by lia, by decide⟩
  refine h.ins h0 (h.n4 (h.n4 fun z hz z' hz' => ?_))
  obtain rfl : z' = pl + 1 := by lia
  exact k
theorem run_start (T : List Int) : ((exs xL [sL 2, sL 3, sL 4] lawD0 (hD T)).bind (nfT [2, 4, 5, 6, 7, 13, 14, 0, 1] names7)).cut (.rs 5 .e) =
  (n4 T (drawT ((T.length : Int) + 1) fun pl => lbufT T pl fun pt => .ret (.next, law7 pl pl pl, hE (insX [] T 1) T pt (1 + (T.length : Int)))) : KR.T R3) := by kernel_rfl
noncomputable def recH : Nat → List (List Int) → List (Nat × SO)
  | _, [] => []
  | b, w :: r => objP b (b + 1) (b + 2) :: (b + 1, .ints w) :: (b + 2, .list []) :: (b + 3, .ints w) :: recH (b + 4) r
noncomputable def refP : Nat → List (List Int) → List SV
  | _, [] => []
  | b, _ :: r => .r b :: refP (b + 4) r
noncomputable def refK : Nat → List (List Int) → List SV
  | _, [] => []
  | b, _ :: r => .r (b + 3) :: refK (b + 4) r
noncomputable def lenR : List (List Int) → Nat
  | [] => 10
  | _ :: r => lenR r + 4
noncomputable def hN (C T : List Int) (pt zv : Int) (ws : List (List Int)) : HS := ⟨lenR ws, lawG C T pt zv (refP 10 ws) ((9, .list (refK 10 ws)) :: recH 10 ws)⟩
noncomputable def lawN : Loc := [("deck", .r 7), ("text", .r 8), ("buffer", .r 0), ("ring", .r 5), ("the_parts", .r 9)]
noncomputable def namesN : List Str := ["deck", "text", "buffer", "ring", "the_parts"]
theorem run_second (T : List Int) (pl : Int) : ((exs xL [sL 8] (lawD pl) (hD T)).bind (nfT [2, 4, 5, 6, 7, 13, 14, 0, 1, 15] namesN)).cut (.rs 5 .e) =
  (lbufT T pl fun pt => .ret (.next, lawN, hN (insX [] T 1) T pt (1 + (T.length : Int)) []) : KR.T R3) := by kernel_rfl
section
variable {c : Cx} {K : KO} {H : HS} {ρ : Loc} {T : List Int} {pl : Int} {n : Nat} {r : List Stmt}
theorem ins_nil (T : List Int) : insX [] T 1 = T := by unfold insX; simp
theorem start_ok (O : c.Ok 8) (hsc : c.csc.names = lsc) (hT : 0 < T.length ∧ T.length ≤ 9) (h : ∀ (pl : Int) ρ H, 0 ≤ pl → pl ≤ T.length → I1 T pl n 0 ρ H → LawS c r ρ H K) : LawS c ([sL 2, sL 3, sL 4] ++ r) lawD0 (hD T) K := by
  refine LawS.runN O hsc (by_cut (run_start T) ⟨by lia, draw_all ⟨by lia, by lia⟩ fun pl h0 h1 => lbuf_ok hT.1 hT.2 h0 (by lia) (h pl _ _ h0 (by lia) ⟨pl, pl, _, _, _, rfl, ⟨h0, Int.le_refl _, by lia, ?_, rfl, ?_, hT.2⟩, .inl ⟨rfl, rfl, by lia⟩⟩)⟩)
  · rw [ins_nil, List.take_append_drop]
  · rw [ins_nil]; lia
theorem W_len (T : List Int) {l k : Nat} (c : k ≤ T.length) : ((T.take k).drop l).length = k - l := by rw [List.length_drop, List.length_take_of_le c]
theorem mid_ok (O : c.Ok 8) (hsc : c.csc.names = lsc) (I : I1 T pl n n ρ H) (h : LawS c r (lawD pl) (hD T) K) : LawS c ([sL 6, sL 7] ++ r) ρ H K := by
  obtain ⟨lo, hi, C, pt, zv, rfl, g, st⟩ := I
  rcases st with ⟨rfl, e, _⟩ | ⟨rfl, _⟩
  · refine LawS.runN O hsc (by_cut (run_midE C T pt zv pl lo hi) ⟨fun x => x rfl, whole_ok (by decide) ⟨fun x => x ?_, h⟩⟩)
    rw [whole_eq, g.e, e, List.take_append_drop]
  · have z := g.z
    have gn := g.n
    have e1 := g.left
    obtain ⟨l, k, rfl, rfl, b, c1, e, p, ll⟩ := g.nat
    clear g
    have e2 : C.drop l = T.drop k := e1.2
    replace e1 : C.take l = T.take l := e1.1
    have hw : ((T.take k).drop l).length = k - l := W_len T c1
    have ej : (T.take k).drop l = (T.take k).drop l := rfl
    show LawS c ([sL 6, sL 7] ++ r) (law7 pl l k) (hO C T pt zv ((T.take k).drop l)) K
    generalize eW : (T.take k).drop l = W at hw
    clear ej
    have ki : KI C W 108 pt zv := ⟨by lia, by lia, z, by lia, by lia, by decide⟩
    by_cases w : l < k
    · have ei : insX C W pt = T := by
        unfold insX
        rw [show (pt - 1).toNat = l by rw [p]; exact tn1 l, e1, e2, ← List.append_assoc, ← eW]
        have := join_cut T (a := 0) (b := l) (c := k) (Nat.zero_le _) b
        rw [List.drop_zero, List.drop_zero] at this
        rw [this, List.take_append_drop]
      refine LawS.runN O hsc (by_cut (run_mid1 C T _ pt zv pl l k) (ki.mark (ki.n4 (ki.ins (by lia) ⟨Int.lt_irrefl _, rfl, ki.n4 (ki.n4 ⟨fun x => x ?_, whole_ok (by decide) ⟨fun x => x ?_, h⟩⟩)⟩))))
      · rw [hw, p, show (l : Int) + 1 + ((k - l : Nat) : Int) = (k : Int) + 1 by lia]
      · rw [whole_eq, ei]
    · have ekl : k = l := Nat.le_antisymm (Nat.not_lt.mp w) b
      have hw0 : (W.length : Int) = 0 := by rw [hw, ekl, Nat.sub_self]; rfl
      refine LawS.runN O hsc (by_cut (run_mid0 C T _ pt zv pl l k) (ki.mark (ki.n4 (reach_le ⟨ki.a, Int.le_refl _, ki.b⟩ (ki.n4 ⟨hw0, fun x => x ?_, whole_ok (by decide) ⟨fun x => x ?_, h⟩⟩)))))
      · rw [p, ekl]
      · rw [whole_eq, e, ekl, List.take_append_drop]
end
end
end KR
end
section
open PySem PySem.W PyProof.Rows PySem.Calls
set_option Elab.async false
set_option maxRecDepth 100000
set_option maxHeartbeats 4000000
set_option linter.constructorNameAsVariable false
set_option linter.unusedVariables false
namespace KR
noncomputable section
noncomputable def hM (C T : List Int) (pt zv : Int) (V W : List Int) (ws : List (List Int)) : HS := ⟨lenR ws + 4, lawG C T pt zv (.r 10 :: refP 14 ws) ((9, .list (.r 13 :: refK 14 ws)) :: objP 10 11 12 :: (11, .ints V) :: (12, .list []) :: (13, .ints W) :: recH 14 ws)⟩
noncomputable def recN : Nat → List (List Int) → List Nat
  | _, [] => []
  | b, _ :: r => b :: (b + 1) :: (b + 2) :: (b + 3) :: recN (b + 4) r
noncomputable def nsA (ws : List (List Int)) : List Nat := 0 :: 1 :: 2 :: 3 :: 4 :: 5 :: (lenR ws + 15) :: 7 :: 8 :: (lenR ws + 23) :: (lenR ws + 12) :: (lenR ws + 10) :: (lenR ws + 11) :: lenR ws :: recN 10 ws
noncomputable def nsB (ws : List (List Int)) : List Nat := 0 :: 1 :: 2 :: 3 :: 4 :: 5 :: 6 :: 7 :: 8 :: (lenR ws + 7) :: recN 10 ws
noncomputable def lawNk (k : Nat) : Loc := [("deck", .r 7), ("text", .r 8), ("buffer", .r 0), ("ring", .r 5), ("the_parts", .r 9), ("turn", .i k)]
noncomputable def delF {β : Type} (C : List Int) (pt zv lo hi : Int) (t : Int → Int → KR.T β) : KR.T β := reachT lo hi zv fun lo hi => .need (¬lo = hi) (codeN C lo hi (.need (¬lo < pt) (t lo hi)))
noncomputable def manyT {β : Type} (C : List Int) (pt : Int) (t : Int → KR.T β) : KR.T β := drawT 3 fun z => .need (108 ≤ 1000) (.all (fun m => m ≤ 1 + z ∧ m ≤ (C.length : Int) + 1 - pt ∧ (m = 1 + z ∨ m = (C.length : Int) + 1 - pt)) fun m => codeN C pt (pt + m) (t m))
noncomputable def treeA (C T : List Int) (pt zv : Int) (ws : List (List Int)) : KR.T R3 := manyT C pt fun m => reachT pt (pt + m) zv fun lo hi => .need (lo < hi) (.need (lo < hi) (codeN C lo hi (.need (lo - lo < hi - lo) (.need ((0 : Int) ≤ 9) (delF C pt zv lo hi fun l h => .need (0 < m) (.ret (.next, lawN, hM (gapT C l h) T pt (zv - (h - l)) (cutT C lo hi) (cutT C pt (pt + m)) ws)))))))
noncomputable def treeB (C T : List Int) (pt zv : Int) (ws : List (List Int)) : KR.T R3 := manyT C pt fun m => reachT pt (pt + m) zv fun lo hi => .need (¬lo < hi) (delT0 zv lo hi (.need (¬0 < m) (.ret (.next, lawN, hN C T pt zv ws))))
noncomputable def four : List Stmt := [nthS loop2 0, nthS loop2 1, nthS loop2 2, nthS loop2 3]
theorem run_A (C T : List Int) (pt zv : Int) (k : Nat) : ∀ ws : List (List Int), ws.length ≤ 3 → ((exs xL four (lawNk k) (hN C T pt zv ws)).bind (nfT (nsA ws) namesN)).cut (.rs 2 (.ls 3 (.rs 4 (.l .e)))) = treeA C T pt zv ws
  | [], _ => by kernel_rfl
  | [w1], _ => by kernel_rfl
  | [w1, w2], _ => by kernel_rfl
  | [w1, w2, w3], _ => by kernel_rfl
  | _ :: _ :: _ :: _ :: _, h => absurd h (by simp)
theorem run_B (C T : List Int) (pt zv : Int) (k : Nat) : ∀ ws : List (List Int), ws.length ≤ 3 → ((exs xL four (lawNk k) (hN C T pt zv ws)).bind (nfT (nsB ws) namesN)).cut (.rs 5 (.l (.r .e))) = treeB C T pt zv ws
  | [], _ => by kernel_rfl
  | [w1], _ => by kernel_rfl
  | [w1, w2], _ => by kernel_rfl
  | [w1, w2, w3], _ => by kernel_rfl
  | _ :: _ :: _ :: _ :: _, h => absurd h (by simp)
noncomputable def taken (ws : List (List Int)) : List Int := ws.reverse.flatten
theorem taken_cons (w : List Int) (ws : List (List Int)) : taken (w :: ws) = taken ws ++ w := by unfold taken; simp
structure G2 (T A R : List Int) (ws : List (List Int)) (C : List Int) (pt zv : Int) : Prop where
  t : T = A ++ (taken ws ++ R)
  e : C = A ++ R
  p : pt = A.length + 1
  z : zv = C.length + 1
  n : T.length ≤ 9
  w : ∀ w ∈ ws, 0 < w.length
section
variable {T A R C : List Int} {ws : List (List Int)} {pt zv m : Int} {K : KO} {c : Cx} {ρ : Loc} {H : HS}
theorem G2.len (g : G2 T A R ws C pt zv) : (C.length : Int) = A.length + R.length ∧ A.length + (taken ws).length + R.length ≤ 9 := by
  have h := g.n
  rw [g.t, List.length_append, List.length_append] at h
  rw [g.e, List.length_append]
  lia
theorem G2.kb (g : G2 T A R ws C pt zv) (h0 : 0 ≤ m) (h1 : m ≤ R.length) : KB C zv pt (pt + m) := by
  have := g.len
  have := g.p
  have := g.z
  exact ⟨by lia, by lia, by lia, g.z, by lia⟩
theorem G2.kill (g : G2 T A R ws C pt zv) (h0 : 0 < m) (h1 : m ≤ R.length) : G2 T A (R.drop m.toNat) (cutT C pt (pt + m) :: ws) (gapT C pt (pt + m)) pt (zv - (pt + m - pt)) := by
  have l := g.len
  obtain ⟨t, e, p, z, n, w⟩ := id g
  have x1 : (pt - 1).toNat = A.length := by lia
  have x2 : (pt + m - 1).toNat = A.length + m.toNat := by lia
  have e1 : C.take A.length = A := by rw [e]; exact List.take_left' rfl
  have e2 : C.drop A.length = R := by rw [e]; exact List.drop_left' rfl
  have eg : gapT C pt (pt + m) = A ++ R.drop m.toNat := by
    unfold gapT
    rw [x1, x2, e1, ← List.drop_drop, e2]
  have ec : cutT C pt (pt + m) = R.take m.toNat := by
    unfold cutT
    rw [x1, x2, List.drop_take, e2]
    congr 1
    lia
  refine ⟨?_, eg, p, ?_, n, fun u hu => ?_⟩
  · rw [ec, taken_cons, List.append_assoc, List.take_append_drop]; exact t
  · rw [eg, List.length_append, List.length_drop]; lia
  · rcases List.mem_cons.mp hu with rfl | hu
    · rw [ec, List.length_take]; lia
    · exact w u hu
theorem G2.many {β : Type} {K : β → Prop} {t : Int → KR.T β} (g : G2 T A R ws C pt zv) (h : ∀ m : Int, 0 ≤ m → m ≤ R.length → (m = 0 → R.length = 0) → (t m).ok K) : (manyT C pt t).ok K := by
  have l := g.len
  have p := g.p
  refine draw_all ⟨by decide, by decide⟩ fun z z0 _ => ⟨by decide, fun m hm => ?_⟩
  exact (g.kb (by lia) (by lia)).code (h m (by lia) (by lia) (by lia))
noncomputable def I2 (T : List Int) (i : Nat) (ρ : Loc) (H : HS) : Prop := ∃ A R ws C pt zv, ρ = lawN ∧ H = hN C T pt zv ws ∧ G2 T A R ws C pt zv ∧ ws.length ≤ i
noncomputable def KT2 (T : List Int) (i : Nat) (K : KO) : KO := fun o => match o with
  | (.next, ρ, H) => I2 T i ρ H
  | o => K o
theorem turn2 (O : c.Ok 8) (hsc : c.csc.names = lsc) {i : Nat} (hi : i < 4) (I : I2 T i ρ H) : LawS c loop2 (putS "turn" (.i (i : Nat)) ρ) H (KT2 T (i + 1) K) := by
  obtain ⟨A, R, ws, C, pt, zv, rfl, rfl, g, hl⟩ := I
  have eb : loop2 = four ++ [] := by kernel_rfl
  have eρ : putS "turn" (.i (i : Nat)) lawN = lawNk i := by kernel_rfl
  have len := g.len
  have p := g.p
  rw [eb, eρ]
  by_cases hR : R.length = 0
  · refine LawS.runN O hsc (by_cut (run_B C T pt zv i ws (by lia)) (g.many fun m h0 h1 _ => ?_))
    have kb := g.kb h0 h1
    exact reach_le kb.r ⟨by lia, kb.del0 (by lia) ⟨by lia, LawS.nil ⟨A, R, ws, C, pt, zv, rfl, rfl, g, by lia⟩⟩⟩
  · refine LawS.runN O hsc (by_cut (run_A C T pt zv i ws (by lia)) (g.many fun m h0 h1 hm => ?_))
    have kb := g.kb h0 h1
    have hm : 0 < m := by lia
    exact reach_le kb.r ⟨by lia, by lia, kb.code ⟨by lia, by decide, reach_le kb.r ⟨by lia, kb.code ⟨by lia, hm, LawS.nil ⟨A, R.drop m.toNat, _ :: ws, _, _, _, rfl, rfl, g.kill hm h1, by simp; lia⟩⟩⟩⟩⟩
end
end
end KR
end
section
open PySem PySem.W PyProof.Rows PySem.Calls
set_option Elab.async false
set_option maxRecDepth 100000
set_option maxHeartbeats 4000000
set_option linter.constructorNameAsVariable false
set_option linter.unusedVariables false
namespace KR
noncomputable section
noncomputable def mkO (p : Nat) (num : Int) (pos : Int) : Nat × SO := (p, .obj 314 [("number", .i num), ("advances", .b false), ("buffer", .r 0), ("position", .i pos)])
noncomputable def hY1 (bd : Nat) (C T : List Int) (pt zv : Int) (p : Int) (ptr : Int) (ws : List (List Int)) : HS := ⟨lenR ws + 1, bufO pt zv (.r (lenR ws)) :: (1, .gap C bd) :: (marO [(0, lenR ws)] ++ (ringO 6 ptr :: (6, .list (refP 10 ws)) :: (7, .deck) :: (8, .ints T) :: (9, .list (refK 10 ws)) :: (recH 10 ws ++ [mkO (lenR ws) 0 p])))⟩
noncomputable def hY2 (bd : Nat) (C T : List Int) (pt zv : Int) (p q : Int) (ptr : Int) (ws : List (List Int)) : HS := ⟨lenR ws + 2, bufO pt zv (.r (lenR ws)) :: (1, .gap C bd) :: (marO [(0, lenR ws), (-1, lenR ws + 1)] ++ (ringO 6 ptr :: (6, .list (refP 10 ws)) :: (7, .deck) :: (8, .ints T) :: (9, .list (refK 10 ws)) :: (recH 10 ws ++ [mkO (lenR ws) 0 p, mkO (lenR ws + 1) (-1) q])))⟩
noncomputable def app : List Nat → List Nat → List Nat
  | [], l => l
  | a :: r, l => a :: app r l
noncomputable def nsY (l : List Nat) (ws : List (List Int)) : List Nat := 0 :: 1 :: 2 :: 3 :: 4 :: 5 :: 6 :: 7 :: 8 :: 9 :: app (recN 10 ws) l
noncomputable def ptrOf (ws : List (List Int)) (i : Nat) : Int := (ws.length : Int) - (i : Int)
noncomputable def treeY0 (C T : List Int) (pt zv : Int) (i : Nat) (w : List Int) (ws : List (List Int)) : KR.T R3 := .need ((i : Int) = 0) (markT C 108 pt fun z => n4 w (insT C w 108 pt zv (.need (¬pt < z) (.need (z = pt) (n4 w (n4 w (.ret (.next, lawN, hY1 208 (insX C w pt) T (pt + (w.length : Int)) (zv + (w.length : Int)) z (ptrOf ws 1) ws))))))))
noncomputable def treeY {β : Type} (C : List Int) (bd : Nat) (pt zv p : Int) (i : Nat) (w : List Int) (t : Int → Int → KR.T β) : KR.T β := .need (¬(i : Int) = 0) (markT C bd p fun z => .need ((0 : Int) ≤ 2) (.need ((0 : Int) ≤ 2) (markT C bd pt fun z2 => n4 w (insT C w bd pt zv (.need (¬pt < z) (.need (¬z = pt) (.need (¬pt < z2) (.need (z2 = pt) (n4 w (n4 w (t z z2))))))))))) 
noncomputable def nthW (ws : List (List Int)) (i : Nat) : List Int := ws.getD i []
theorem run_Y0 (C T : List Int) (pt zv : Int) (k : Nat) : ∀ ws : List (List Int), 0 < ws.length → ws.length ≤ 4 → ((exs xL loop3 (lawNk k) (hN C T pt zv ws)).bind (nfT (nsY [lenR ws + 3] ws) namesN)).cut (.l (.rs 6 (.l .e))) = treeY0 C T pt zv k (nthW ws (ws.length - 1)) ws
  | [], h, _ => absurd h (by decide)
  | [w1], _, _ => by kernel_rfl
  | [w1, w2], _, _ => by kernel_rfl
  | [w1, w2, w3], _, _ => by kernel_rfl
  | [w1, w2, w3, w4], _, _ => by kernel_rfl
  | _ :: _ :: _ :: _ :: _ :: _, _, h => absurd h (by simp)
theorem run_Y1 (C T : List Int) (pt zv p : Int) (k : Nat) : ∀ ws : List (List Int), 1 < ws.length → ws.length ≤ 4 → ((exs xL loop3 (lawNk k) (hY1 208 C T pt zv p (ptrOf ws 1) ws)).bind (nfT (nsY [lenR ws, lenR ws + 4] ws) namesN)).cut (.r (.rs 8 (.l .e))) =
    treeY C 208 pt zv p k (nthW ws (ws.length - 2)) fun z z2 => .ret (.next, lawN, hY2 308 (insX C (nthW ws (ws.length - 2)) pt) T (pt + ((nthW ws (ws.length - 2)).length : Int)) (zv + ((nthW ws (ws.length - 2)).length : Int)) z2 z (ptrOf ws 2) ws)
  | [], h, _ => absurd h (by decide)
  | [w1], h, _ => absurd h (by simp)
  | [w1, w2], _, _ => by kernel_rfl
  | [w1, w2, w3], _, _ => by kernel_rfl
  | [w1, w2, w3, w4], _, _ => by kernel_rfl
  | _ :: _ :: _ :: _ :: _ :: _, _, h => absurd h (by simp)
noncomputable def leafY2 (C T : List Int) (pt zv : Int) (i : Nat) (w : List Int) (ws : List (List Int)) (z z2 : Int) : KR.T R3 := .ret (.next, lawN, hY2 (108 + 100 * i + 100) (insX C w pt) T (pt + (w.length : Int)) (zv + (w.length : Int)) z2 z (ptrOf ws (i + 1)) ws)
theorem run_Y2 (C T : List Int) (pt zv p q : Int) (k : Nat) : ∀ (ws : List (List Int)) (i : Nat), 2 ≤ i → i < ws.length → ws.length ≤ 4 → ((exs xL loop3 (lawNk k) (hY2 (108 + 100 * i) C T pt zv p q (ptrOf ws i) ws)).bind (nfT (nsY [lenR ws, lenR ws + 5] ws) namesN)).cut (.r (.rs 8 (.l .e))) =
    treeY C (108 + 100 * i) pt zv p k (nthW ws (ws.length - (i + 1))) (leafY2 C T pt zv i (nthW ws (ws.length - (i + 1))) ws)
  | [], i, _, h, _ => absurd h (by simp)
  | [w1], i, g, h, _ => absurd h (by simp; lia)
  | [w1, w2], i, g, h, _ => absurd h (by simp; lia)
  | [w1, w2, w3], 2, _, _, _ => by kernel_rfl
  | [w1, w2, w3, w4], 2, _, _, _ => by kernel_rfl
  | [w1, w2, w3, w4], 3, _, _, _ => by kernel_rfl
  | _, 0, g, _, _ => absurd g (by decide)
  | _, 1, g, _, _ => absurd g (by decide)
  | [w1, w2, w3], i + 3, g, h, _ => absurd h (by simp)
  | [w1, w2, w3, w4], i + 4, g, h, _ => absurd h (by simp)
  | _ :: _ :: _ :: _ :: _ :: _, _, _, _, h => absurd h (by simp)
noncomputable def back3 (ws : List (List Int)) (i : Nat) : List Int := (ws.reverse.take i).flatten
theorem back3_succ {ws : List (List Int)} {i : Nat} (h : i < ws.length) : back3 ws (i + 1) = back3 ws i ++ nthW ws (ws.length - (i + 1)) ∧ nthW ws (ws.length - (i + 1)) ∈ ws := by
  have h' : i < ws.reverse.length := by rw [List.length_reverse]; exact h
  have e : nthW ws (ws.length - (i + 1)) = ws.reverse[i] := by
    unfold nthW
    rw [List.getD_eq_getElem?_getD, List.getElem?_eq_getElem (by lia), Option.getD_some, List.getElem_reverse]
    congr 1
    lia
  refine ⟨?_, ?_⟩
  · unfold back3
    rw [List.take_succ_eq_append_getElem h', List.flatten_append, e]
    simp
  · rw [e]
    exact List.mem_reverse.mp (List.getElem_mem h')
theorem back3_le (ws : List (List Int)) (i : Nat) : (back3 ws i).length ≤ (taken ws).length := by
  have : taken ws = back3 ws i ++ (ws.reverse.drop i).flatten := by
    unfold taken back3
    rw [← List.flatten_append, List.take_append_drop]
  rw [this, List.length_append]
  lia
structure G3 (T A R : List Int) (ws : List (List Int)) (i : Nat) (C : List Int) (pt zv : Int) : Prop where
  t : T = A ++ (taken ws ++ R)
  e : C = A ++ (back3 ws i ++ R)
  p : pt = A.length + (back3 ws i).length + 1
  z : zv = C.length + 1
  n : T.length ≤ 9
  w : ∀ w ∈ ws, 0 < w.length
  l : ws.length ≤ 4
section
variable {T A R C : List Int} {ws : List (List Int)} {pt zv p q : Int} {K : KO} {c : Cx} {ρ : Loc} {H : HS} {i bd : Nat}
theorem G3.next (g : G3 T A R ws i C pt zv) (h : i < ws.length) (hb : bd ≤ 1000) : KI C (nthW ws (ws.length - (i + 1))) bd pt zv ∧ 0 < (nthW ws (ws.length - (i + 1))).length ∧
    G3 T A R ws (i + 1) (insX C (nthW ws (ws.length - (i + 1))) pt) (pt + ((nthW ws (ws.length - (i + 1))).length : Int)) (zv + ((nthW ws (ws.length - (i + 1))).length : Int)) := by
  obtain ⟨b1, b2⟩ := back3_succ h
  have b3 := back3_le ws (i + 1)
  obtain ⟨t, e, p, z, n, w, l⟩ := id g
  rw [t, List.length_append, List.length_append] at n
  rw [b1, List.length_append] at b3
  have lc : C.length = A.length + ((back3 ws i).length + R.length) := by rw [e, List.length_append, List.length_append]
  have x1 : (pt - 1).toNat = (A ++ back3 ws i).length := by rw [List.length_append]; lia
  have ei : insX C (nthW ws (ws.length - (i + 1))) pt = A ++ (back3 ws (i + 1) ++ R) := by
    unfold insX
    rw [x1, e, ← List.append_assoc A, List.take_left' rfl, List.drop_left' rfl, b1]
    simp
  refine ⟨⟨by lia, by lia, z, by lia, by lia, hb⟩, w _ b2, t, ei, ?_, ?_, g.n, w, l⟩
  · rw [b1, List.length_append]; lia
  · rw [ei, b1, List.length_append, List.length_append, List.length_append]; lia
noncomputable def Y3 (T : List Int) (ws : List (List Int)) (C : List Int) (pt zv : Int) : Nat → HS → Prop
  | 0, H => H = hN C T pt zv ws
  | 1, H => ∃ p, 1 ≤ p ∧ p < pt ∧ H = hY1 208 C T pt zv p (ptrOf ws 1) ws
  | i, H => ∃ p q, 1 ≤ p ∧ p < pt ∧ H = hY2 (108 + 100 * i) C T pt zv p q (ptrOf ws i) ws
noncomputable def I3 (T : List Int) (ws : List (List Int)) (i : Nat) (ρ : Loc) (H : HS) : Prop := ∃ A R C pt zv, ρ = lawN ∧ G3 T A R ws i C pt zv ∧ Y3 T ws C pt zv i H
noncomputable def KT3 (T : List Int) (ws : List (List Int)) (i : Nat) (K : KO) : KO := fun o => match o with
  | (.next, ρ, H) => I3 T ws i ρ H
  | o => K o
theorem tree_ok {β : Type} {K : β → Prop} {w : List Int} {t : Int → Int → KR.T β} (k : KI C w bd pt zv) (hw : 0 < w.length) (h0 : 1 ≤ p) (h1 : p < pt) (hi : 0 < i) (h : (t p pt).ok K) : (treeY C bd pt zv p i w t).ok K := by
  have k' : KI C w bd p zv := ⟨h0, by have := k.b; lia, k.d, k.e, k.f, k.g⟩
  exact ⟨by lia, k'.mark ⟨by decide, by decide, k.mark (k.n4 (k.ins hw ⟨by lia, by lia, by lia, rfl, k.n4 (k.n4 h)⟩))⟩⟩
theorem turn3 (O : c.Ok 8) (hsc : c.csc.names = lsc) (hi : i < ws.length) (I : I3 T ws i ρ H) : LawS c loop3 (putS "turn" (.i (i : Nat)) ρ) H (KT3 T ws (i + 1) K) := by
  obtain ⟨A, R, C, pt, zv, rfl, g, st⟩ := I
  have eb : loop3 = loop3 ++ [] := (List.append_nil _).symm
  have eρ : putS "turn" (.i (i : Nat)) lawN = lawNk i := by kernel_rfl
  have hl := g.l
  rw [eb, eρ]
  match i, hi, g, st with
  | 0, hi, g, st =>
    cases st
    obtain ⟨k, hw, g'⟩ := g.next (bd := 108) hi (by decide)
    have := k.a
    exact LawS.runN O hsc (by_cut (run_Y0 C T pt zv 0 ws hi hl) ⟨rfl, k.mark (k.n4 (k.ins hw ⟨by lia, rfl, k.n4 (k.n4 (LawS.nil ⟨A, R, _, _, _, rfl, g', pt, by lia, by lia, rfl⟩))⟩))⟩)
  | 1, hi, g, st =>
    obtain ⟨p, h0, h1, rfl⟩ := st
    obtain ⟨k, hw, g'⟩ := g.next (bd := 208) hi (by decide)
    exact LawS.runN O hsc (by_cut (run_Y1 C T pt zv p 1 ws hi hl) (tree_ok k hw h0 h1 (by decide) (LawS.nil ⟨A, R, _, _, _, rfl, g', pt, p, by lia, by lia, rfl⟩)))
  | i + 2, hi, g, st =>
    obtain ⟨p, q, h0, h1, rfl⟩ := st
    obtain ⟨k, hw, g'⟩ := g.next (bd := 108 + 100 * (i + 2)) hi (by lia)
    exact LawS.runN O hsc (by_cut (run_Y2 C T pt zv p q (i + 2) ws (i + 2) (by lia) hi hl) (tree_ok k hw h0 h1 (by lia) (LawS.nil ⟨A, R, _, _, _, rfl, g', pt, p, by lia, by lia, rfl⟩)))
end
end
end KR
end
section
open PySem PySem.W PyProof.Rows PySem.Calls
set_option Elab.async false
set_option maxRecDepth 100000
set_option maxHeartbeats 4000000
set_option linter.constructorNameAsVariable false
set_option linter.unusedVariables false
namespace KR
noncomputable section
noncomputable def outT (x : R3) : KR.T Out := .ret x.1
theorem out_ok {K : Out → Prop} {t : KR.T R3} (h : Ok (t.bind outT) K) : Ok t fun x => K x.1 := ⟨T.ok_bind h.h⟩
noncomputable def KF : KO := fun x => ∃ P, x.1 = .ret (.c P) ∧ P
noncomputable def sameT {β : Type} (ws : List (List Int)) (t : KR.T β) : KR.T β := match ws with
  | [] => .need (¬¬([] : List Int) = []) t
  | w :: r => .need (¬¬(w :: r) = (w :: r)) t
theorem same_ok {β : Type} {K : β → Prop} {t : KR.T β} (h : t.ok K) : ∀ ws, (sameT ws t).ok K
  | [] => ⟨fun x => x rfl, h⟩
  | _ :: _ => ⟨fun x => x rfl, h⟩
theorem run_parts (C T : List Int) (pt zv : Int) : ∀ ws : List (List Int), ws.length ≤ 4 → ((exs xL [sL 10] lawN (hN C T pt zv ws)).bind (nfT (nsY [] ws) namesN)).cut (.r .e) = sameT ws (.ret (.next, lawN, hN C T pt zv ws))
  | [], _ => by kernel_rfl
  | [w1], _ => by kernel_rfl
  | [w1, w2], _ => by kernel_rfl
  | [w1, w2, w3], _ => by kernel_rfl
  | [w1, w2, w3, w4], _ => by kernel_rfl
  | _ :: _ :: _ :: _ :: _ :: _, h => absurd h (by simp)
noncomputable def argE : Stmt → PySem.Expr
  | .For _ (.Call _ (e :: _) _ _) _ _ _ => e
  | _ => .Constant .none 0 ⟨0, 0, 0, 0⟩
theorem run_e5 (T : List Int) (pl lo hi : Int) (H : HS) (pt zv : Int) (C : List Int) : vL (law7 pl lo hi) (argE (sL 5)) (hE C T pt zv) = (drawT 6 fun z => .ret (.i (1 + z), hE C T pt zv) : KR.T (SV × HS)) := by kernel_rfl
theorem run_e9 (T : List Int) (pt zv : Int) (C : List Int) : vL lawN (argE (sL 9)) (hN C T pt zv []) = (drawT 4 fun z => .ret (.i (1 + z), hN C T pt zv []) : KR.T (SV × HS)) := by kernel_rfl
theorem run_e11 (C T : List Int) (pt zv : Int) : ∀ ws : List (List Int), ws.length ≤ 4 → vL lawN (argE (sL 11)) (hN C T pt zv ws) = (.ret (.j ws.length, hN C T pt zv ws) : KR.T (SV × HS))
  | [], _ => by kernel_rfl
  | [w1], _ => by kernel_rfl
  | [w1, w2], _ => by kernel_rfl
  | [w1, w2, w3], _ => by kernel_rfl
  | [w1, w2, w3, w4], _ => by kernel_rfl
  | _ :: _ :: _ :: _ :: _ :: _, h => absurd h (by simp)
noncomputable def endT (C T : List Int) (bd : Nat) : KR.T Out := wholeN C bd (.ret (.ret (.c (wholeT C = T))))
theorem run_end0 (C T : List Int) (pt zv : Int) : (exs xL [sL 12] lawN (hN C T pt zv [])).bind outT = endT C T 108 := by kernel_rfl
theorem run_end1 (C T w : List Int) (pt zv p ptr : Int) : (exs xL [sL 12] lawN (hY1 208 C T pt zv p ptr [w])).bind outT = endT C T 208 := by kernel_rfl
theorem run_end2 (C T : List Int) (pt zv p q ptr : Int) (bd : Nat) : ∀ ws : List (List Int), 2 ≤ ws.length → ws.length ≤ 4 → (exs xL [sL 12] lawN (hY2 bd C T pt zv p q ptr ws)).bind outT = endT C T bd
  | [], h, _ => absurd h (by simp)
  | [w1], h, _ => absurd h (by simp)
  | [w1, w2], _, _ => by kernel_rfl
  | [w1, w2, w3], _, _ => by kernel_rfl
  | [w1, w2, w3, w4], _, _ => by kernel_rfl
  | _ :: _ :: _ :: _ :: _ :: _, _, h => absurd h (by simp)
theorem for5 : ∃ p1 fp cp pos, sL 5 = .For (.Name "turn" p1) (.Call (.Name "range" fp) [argE (sL 5)] [] cp) loop1 [] pos := ⟨_, _, _, _, rfl⟩
theorem for9 : ∃ p1 fp cp pos, sL 9 = .For (.Name "turn" p1) (.Call (.Name "range" fp) [argE (sL 9)] [] cp) loop2 [] pos := ⟨_, _, _, _, rfl⟩
theorem for11 : ∃ p1 fp cp pos, sL 11 = .For (.Name "turn" p1) (.Call (.Name "range" fp) [argE (sL 11)] [] cp) loop3 [] pos := ⟨_, _, _, _, rfl⟩
theorem range7 (pl lo hi : Int) (H : HS) : evName lsc (law7 pl lo hi) "range" H = .ret (.f .range, H) := by kernel_rfl
theorem rangeN (H : HS) : evName lsc lawN "range" H = .ret (.f .range, H) := by kernel_rfl
section
variable {T C : List Int} {pt zv : Int} {c : Cx} {ρ : Loc} {H : HS} {ws : List (List Int)}
theorem ok_of {β : Type} {K : β → Prop} {t t' : KR.T β} (e : t = t') (h : t'.ok K) : t.ok K := e ▸ h
theorem end_ok (O : c.Ok 8) (hsc : c.csc.names = lsc) (I : I3 T ws ws.length ρ H) : LawS c [sL 12] ρ H KF := by
  obtain ⟨A, R, C, pt, zv, rfl, g, st⟩ := I
  have hl := g.l
  have eC : C = T := by
    have : back3 ws ws.length = taken ws := by
      unfold back3 taken
      rw [show ws.length = ws.reverse.length from List.length_reverse.symm, List.take_length]
    rw [g.e, g.t, this]
  have key : ∀ {H bd}, bd ≤ 1000 → (exs xL [sL 12] lawN H).bind outT = endT C T bd → LawS c ([sL 12] ++ []) lawN H KF := fun hb e => LawS.run O hsc ⟨KR.T.ok_mono (out_ok (K := fun o => ∃ P, o = .ret (.c P) ∧ P) (by_run e (whole_ok hb ⟨_, rfl, by rw [whole_eq]; exact eC⟩))).h fun x hx => by
    obtain ⟨P, e1, e2⟩ := hx
    obtain ⟨o, ρ1, H1⟩ := x
    dsimp only at e1
    subst e1
    exact ⟨P, rfl, e2⟩⟩
  match ws, hl, st with
  | [], _, st =>
    cases st
    exact key (by decide) (run_end0 C T pt zv)
  | [w], _, st =>
    obtain ⟨p, _, _, rfl⟩ := st
    exact key (by decide) (run_end1 C T w pt zv p _)
  | w1 :: w2 :: r, hl, st =>
    obtain ⟨p, q, _, _, rfl⟩ := st
    exact key (by simp only [List.length_cons] at hl ⊢; lia) (run_end2 C T pt zv p q _ _ _ (by simp) hl)
theorem third_ok (O : c.Ok 8) (hsc : c.csc.names = lsc) (g : I2 T 4 ρ H) : LawS c [sL 10, sL 11, sL 12] ρ H KF := by
  obtain ⟨A, R, ws, C, pt, zv, rfl, rfl, g, hl⟩ := g
  refine LawS.runN (l := [sL 10]) (r := [sL 11, sL 12]) O hsc (by_cut (run_parts C T pt zv ws hl) (same_ok ?_ ws))
  refine LawS.cons ?_
  obtain ⟨p1, fp, cp, pos, e⟩ := for11
  rw [e]
  refine LawT.range TL.2 O hsc (by kernel_rfl) (by kernel_rfl) (ok_of (rangeN _) rfl) (fun n i ρ H => n = ws.length ∧ I3 T ws i ρ H) (ok_of (run_e11 C T pt zv ws hl) ⟨ws.length, .inr rfl, by lia, rfl, ?_⟩) (fun n i ρ H hi I => ?_) fun n ρ H I => ?_
  · exact ⟨A, R, C, pt, zv, rfl, ⟨g.t, by rw [g.e]; rfl, by rw [g.p]; rfl, g.z, g.n, g.w, hl⟩, rfl⟩
  · obtain ⟨rfl, I⟩ := I
    refine LawS.mono (turn3 (K := next c [sL 12] KF) O hsc hi I) fun x hx => ?_
    obtain ⟨o, ρ, H⟩ := x
    cases o with
    | next => exact ⟨rfl, hx⟩
    | ret v => exact hx
  · obtain ⟨rfl, I⟩ := I
    exact end_ok O hsc I
theorem second_ok (O : c.Ok 8) (hsc : c.csc.names = lsc) {pl : Int} (hT : 0 < T.length ∧ T.length ≤ 9) (h0 : 0 ≤ pl) (h1 : pl ≤ T.length) : LawS c [sL 8, sL 9, sL 10, sL 11, sL 12] (lawD pl) (hD T) KF := by
  refine LawS.runN (l := [sL 8]) (r := [sL 9, sL 10, sL 11, sL 12]) O hsc (by_cut (run_second T pl) (lbuf_ok hT.1 hT.2 h0 h1 ?_))
  refine LawS.cons ?_
  obtain ⟨p1, fp, cp, pos, e⟩ := for9
  rw [e]
  refine LawT.range TL.2 O hsc (by kernel_rfl) (by kernel_rfl) (ok_of (rangeN _) rfl) (fun n i ρ H => n ≤ 4 ∧ I2 T i ρ H) (ok_of (run_e9 T _ _ _) (draw_all ⟨by decide, by decide⟩ fun z z0 z4 => ⟨(1 + z).toNat, .inl ?_, by lia, by lia, ?_⟩)) (fun n i ρ H hi I => ?_) fun n ρ H I => ?_
  · show SV.i (1 + z) = SV.i ((1 + z).toNat : Int)
    rw [show ((1 + z).toNat : Int) = 1 + z by lia]
  · have e1 : T = T.take pl.toNat ++ (taken [] ++ T.drop pl.toNat) := (List.take_append_drop _ _).symm
    exact ⟨T.take pl.toNat, T.drop pl.toNat, [], _, _, _, rfl, rfl, ⟨e1, by rw [ins_nil]; exact e1, by rw [List.length_take]; lia, by rw [ins_nil]; lia, hT.2, fun w hw => nomatch hw⟩, Nat.zero_le _⟩
  · obtain ⟨hn, I⟩ := I
    refine LawS.mono (turn2 (K := next c [sL 10, sL 11, sL 12] KF) O hsc (by lia) I) fun x hx => ?_
    obtain ⟨o, ρ, H⟩ := x
    cases o with
    | next => exact ⟨hn, hx⟩
    | ret v => exact hx
  · obtain ⟨hn, A, R, ws, C, pt, zv, e1, e2, g, hl⟩ := I
    exact third_ok O hsc ⟨A, R, ws, C, pt, zv, e1, e2, g, by lia⟩
theorem first_ok (O : c.Ok 8) (hsc : c.csc.names = lsc) (hT : 0 < T.length ∧ T.length ≤ 9) : LawS c [sL 2, sL 3, sL 4, sL 5, sL 6, sL 7, sL 8, sL 9, sL 10, sL 11, sL 12] lawD0 (hD T) KF := by
  refine start_ok (n := 0) (r := [sL 5, sL 6, sL 7, sL 8, sL 9, sL 10, sL 11, sL 12]) O hsc hT fun pl ρ H h0 h1 I => ?_
  refine LawS.cons ?_
  obtain ⟨lo, hi, C, pt, zv, rfl, g, st⟩ := I
  have hH : H = hE C T pt zv := by
    rcases st with ⟨h, _⟩ | ⟨_, h⟩
    · exact h
    · exact absurd h (by decide)
  subst hH
  obtain ⟨p1, fp, cp, pos, e⟩ := for5
  rw [e]
  refine LawT.range TL.2 O hsc (by kernel_rfl) (by kernel_rfl) (ok_of (range7 _ _ _ _) rfl) (fun n i ρ H => 0 < n ∧ I1 T pl n i ρ H) (ok_of (run_e5 T pl lo hi (hE C T pt zv) pt zv C) (draw_all ⟨by decide, by decide⟩ fun z z0 z6 => ⟨(1 + z).toNat, .inl ?_, by lia, by lia, ?_⟩)) (fun n i ρ H hi I => ?_) fun n ρ H I => ?_
  · show SV.i (1 + z) = SV.i ((1 + z).toNat : Int)
    rw [show ((1 + z).toNat : Int) = 1 + z by lia]
  · exact ⟨lo, hi, C, pt, zv, rfl, g, st⟩
  · obtain ⟨hn, I⟩ := I
    refine LawS.mono (turn1 (K := next c [sL 6, sL 7, sL 8, sL 9, sL 10, sL 11, sL 12] KF) O hsc I) fun x hx => ?_
    obtain ⟨o, ρ, H⟩ := x
    cases o with
    | next => exact ⟨hn, hx⟩
    | ret v => exact hx
  · exact mid_ok O hsc I.2 (second_ok O hsc hT h0 h1)
end
end
end KR
end
section
open PySem PySem.W PyProof.Rows PySem.Calls
set_option Elab.async false
set_option maxRecDepth 100000
set_option maxHeartbeats 4000000
set_option linter.constructorNameAsVariable false
set_option linter.unusedVariables false
namespace KR
noncomputable section
theorem SatX.comp {c : Cx} {own : List (Addr × Obj)} {α : Al} {ρ ρ' : Loc} {H : HS} {s s' : Shared} {m m' : Str → Option Value} {lit : List (Addr × Obj)} (S : SatX c own α ρ H s m lit) {D : Addr} {ys : List Value} {U : List Int} (F' : Fr c.h₀ c.L s'.heap m') (N' : News c.h₀ c.L s'.heap (lit ++ own)) (h0 : c.h₀.get? D = none) (hp : NewPlain s'.heap (lit ++ own) D ys.toArray) (i : IntsAre ys U)
    (V : ∀ x sv, lkS x ρ' = some sv → LocIs c m' (setα α H.nx D) x sv) : ∃ lit', SatX c own (setα α H.nx D) ρ' (H.new (.ints U)) s' m' lit' := by
  have hL := hp.ne_locals F'
  obtain ⟨⟨n, e⟩, ne⟩ := hp
  have e0 := setα_ext (a := D) (S.Z _ (Nat.le_refl _))
  refine ⟨[(D, listOf ys.toArray n)] ++ lit, F', fun q hq => ?_, ⟨fun b hb => ?_, S.D⟩, .cons setα_same ⟨ys, n, rfl, i⟩ (S.C.mono e0), V, setα_none S.Z⟩
  · rcases List.mem_cons.mp hq with rfl | hq
    · exact ⟨e, hL, h0⟩
    · exact N' q hq
  · obtain ⟨q, hq, rfl⟩ := of_mem_adr hb
    exact fun e => ne q hq e.symm
theorem keepsK {s : Shared} {tk : Nat} : Keeps s { s with toks := tk } := ⟨s.heap, tk, rfl, fun _ _ e => e⟩
theorem keeps0 {s : Shared} : Keeps s s := ⟨s.heap, s.toks, rfl, fun _ _ e => e⟩
theorem carried_ints {α : Type} {p : α → Bool} {f : α → Int} {as : List α} {ys : List Value} (h : CarriedAll ys ((as.filter p).map fun a => PyData.int (f a))) : ∃ U, IntsAre ys U ∧ U.length ≤ as.length := ⟨_, h.intsOf, by rw [List.length_map]; exact List.length_filter_le _ _⟩
noncomputable def itD : PySem.Expr := match bS692.1 with
  | .Assign _ (.ListComp _ [⟨_, it, _, _⟩] _ _) _ :: _ => it
  | _ => .Constant .none 0 ⟨0, 0, 0, 0⟩
noncomputable def lastTwo : List PySem.Expr := match bS692.1 with
  | [_, .Return (some (.List (_ :: r) _)) _] => r
  | _ => []
theorem run_last (U V : List Int) : evs1 (ev noT (evName fS692.1.names [("cells", .r 0)]) 20) lastTwo (((⟨0, []⟩ : HS).new (.ints U)).new (.ints V)) =
  (.need (U.length ≤ 4000) (.need (U.length + [417 + (U.length : Int)].length ≤ 4000) (.ret ([.r 3, .i 0], ⟨4, [(3, .ints (U ++ [417 + (U.length : Int)])), (2, .list [.i (417 + (U.length : Int))]), (1, .ints V), (0, .ints U)]⟩))) : T (List SV × HS)) := by kernel_rfl
theorem deck_body {d : Nat} {c : Cx} (O : c.Ok d) (hsc : c.csc = fS692.1) (hclo : c.clo = []) {own : List (Addr × Obj)} {s : Shared} {E : Value → Shared → Prop} {sa : Addr} {vs : List Value} {ns : List Int} (hL : c.h₀.IsList sa vs.toArray) (hI : IntsAre vs ns) (hn : ns.length ≤ 63)
    (S : Sat c own (fun _ => none) [("script", .g sa)] ⟨0, []⟩ s) : wpAny (model Pg c.w) c.A (execs bS692.1 c.env) (PostS c own (fun _ => none) s fun x => x.1 = .ret (.r 0) ∧ x.2.2 = ⟨1, [(0, .deck)]⟩) E s := by
  obtain ⟨m, lit, S⟩ := S
  obtain ⟨v, hv, rfl⟩ := S.V "script" _ rfl
  have eb : bS692.1 = [_, _] := rfl
  have henv : c.env = envX c.cnm fS692.1 c.L c.acl c.ccd [] := by rw [← hsc, ← hclo]
  rw [henv, eb]
  have lv := hI.length
  have hl0 : s.heap.IsList sa vs.toArray := by
    obtain ⟨o, e1, e2, n, e3⟩ := hL
    exact ⟨o, S.F.keep _ _ e1, e2, n, e3⟩
  have hit : wpAny (model Pg c.w) c.A (eval itD (envX c.cnm fS692.1 c.L c.acl c.ccd [])) (fun xv s1 => ∃ D, xv = .ref D ∧ Rest s s1 ∧ Fr c.h₀ c.L s1.heap m ∧ News c.h₀ c.L s1.heap ((D, listOf (vs.take 20).toArray 0) :: (lit ++ own))) E s := by
    refine Subscript_ (nameX_L S.F hv ?_ rfl rfl (by decide))
    refine wpAny_Slice (evalPart_none_step (evalPart_some_step (const_clean fun t tk => evalPart_none_step ?_)))
    exact kms_slice_lit S.F S.N hl0 .none (.int 20 t) (pick_upto (by decide)) (fun D h' F' N' l1 => ⟨D, rfl, Rest.rfl', F', N'⟩) rfl (fun _ => rfl) (by rw [List.size_toArray, sizeLine_eq]; lia)
  refine wpAny_execs_cons ?_
  refine Assign_ListComp_DCn (h₀ := c.h₀) (K := .int) (m := m) (pz := fun _ => true) (d := fun k => .int (if k < 0 then -k else k)) (by with_unfolding_all rfl) rfl rfl (by with_unfolding_all rfl) (by decide) (by rfl) (by decide) (by rfl) (by rfl) (by rfl) ?_ (fun _ => rfl)
  refine wpAny_mono hit (fun xv s1 p => ?_) fun _ _ x => x
  obtain ⟨D, rfl, R1, F', N'⟩ := p
  refine ⟨_, D, vs.take 20, ns.take 20, rfl, PySem.IsL.isList (N' _ (.head _)).1, (hI.take 20).areOf, ?_, F', N', ?_, ?_, ?_⟩
  · rw [List.length_take, sizeLine_eq]; lia
  · intro C a v s₂ m₂ E' _ _ _ _ _ _
    exact wpAny_tests_nil ⟨rfl, keeps0⟩
  · intro C a v s₂ m₂ E' _ _ hv _ hns hm hk
    obtain ⟨t, rfl⟩ := hv
    refine Call_ (LCgL.ld_built (K := hp c.w.params) (F'.keeps hk) O.X O.T (by kernel_rfl) PyProof.Rows.boot_abs (by decide) ?_ rfl rfl rfl rfl)
    refine callWith_builtin1 (args_cons (ldVarK hns hm ?_ rfl rfl) rfl) rfl rfl
    exact args_nil (call_abs_int fun u tk => ⟨.int _ _, keepsK⟩)
  · intro D2 ys h2 tk2 F2 N2 h0 _ hp hc
    obtain ⟨U, iU, lU⟩ := carried_ints hc
    rw [List.length_take] at lU
    obtain ⟨lit2, S2⟩ := SatX.comp (ρ' := [("cells", .r 0)]) (s' := { s1 with heap := h2, toks := tk2 }) S F2 (fun q hq => N2 q (.tail _ hq)) h0 ⟨hp.1, fun q hq => hp.2 q (.tail _ hq)⟩ iU fun x sv hx => by
      simp only [lkS] at hx
      cases e : eqS x "cells" with
      | true => rw [e] at hx; cases hx; rw [eqS_iff.mp e]; exact ⟨_, if_pos rfl, D2, setα_same, rfl⟩
      | false => rw [e] at hx; cases hx
    obtain ⟨v2, hv2, a2, ha2, rfl⟩ := S2.V "cells" _ rfl
    obtain ⟨vu, k2, hm2, iu2⟩ := S2.ints (p := 0) rfl rfl ha2
    have lu := iu2.length
    refine wpAny_execs_cons (wpAny_Return_some (List_ (args_cons ?_ rfl)))
    refine ListComp_DCn (h₀ := c.h₀) (L := c.L) (m := fun z => if z = Str.ofString "cells" then some (.ref D2) else m z) (K := .int) (pz := fun k => decide ((10 : Int) ^ (18 : Int).toNat ≤ k)) (d := fun k => .int k) rfl (by with_unfolding_all rfl) (by decide) (by rfl) (by decide) (by rfl) ?_ (fun _ => rfl)
    refine nameX_L S2.F hv2 ⟨lit2 ++ own, a2, vu, U, rfl, PySem.IsL.isList (S2.N _ hm2).1, iu2.areOf, ?_, S2.F, S2.N, ?_, ?_, ?_⟩ rfl rfl (by decide)
    · rw [sizeLine_eq]; lia
    · intro C a v s₂ m₂ E' _ _ hv hns hm hk
      obtain ⟨t, rfl⟩ := hv
      refine wpAny_tests_one (wpAny_isTrue_Compare1 (ldVarK hns hm (wpAny_BinOp (const_clean fun _ _ => const_clean fun _ _ => pow_int_small (by decide) (by decide) (by decide) (ge_int (wpAny_truthy_bool ⟨rfl, keepsK⟩)))) rfl rfl))
    · intro C a v s₂ m₂ E' _ _ hv _ hns hm hk
      obtain ⟨t, rfl⟩ := hv
      exact ldVarK hns hm ⟨.int _ _, keeps0⟩ rfl rfl
    · intro D3 ys3 h3 tk3 F3 N3 h03 _ hp3 hc3
      obtain ⟨V, iV, lV⟩ := carried_ints hc3
      obtain ⟨lit3, S3⟩ := SatX.comp (ρ' := [("cells", .r 0)]) (s' := { s1 with heap := h3, toks := tk3 }) S2 F3 N3 h03 hp3 iV fun x sv hx => (S2.V x sv hx).mono (setα_ext (S2.Z _ (Nat.le_refl _)))
      have I := ev_sound (own := own) (ρ := [("cells", .r 0)]) (nm := evName fS692.1.names [("cells", .r 0)]) (noT_sound (d := d)) O (fun x pos α H m s K E S h => evName_sound O (by rw [hsc]) S h) 20
      rw [henv] at I
      have hw := evs1_sound I (pos := ⟨428, 11, 428, 88⟩) lastTwo (E := E) (K := fun q => q = ([.r 3, .i 0], ⟨4, [(3, .ints (U ++ [417 + (U.length : Int)])), (2, .list [.i (417 + (U.length : Int))]), (1, .ints V), (0, .ints U)]⟩)) (by kernel_rfl) ⟨lit3, S3⟩ (ok_of (run_last U V) ⟨by lia, by simp; lia, rfl⟩)
      refine Post.go hw ?_
      rintro vs4 s4 α4 svs H4 x4 S4 r4 i4 e4
      cases e4
      obtain ⟨a3, ha3⟩ : ∃ a, α4 1 = some a := by
        obtain ⟨lit4, S4⟩ := S4
        exact S4.C.named 1 rfl
      have h31 : α4 1 = some D3 := x4 _ _ setα_same
      refine Post.go (newL_sound (K := fun q => q = (.r 4, ⟨5, [(4, .list [.r 1, .r 3, .i 0]), (3, .ints (U ++ [417 + (U.length : Int)])), (2, .list [.i (417 + (U.length : Int))]), (1, .ints V), (0, .ints U)]⟩)) S4 (AreAll.cons (s := .r 1) ⟨D3, h31, rfl⟩ i4) rfl) ?_
      rintro v5 s5 α5 sv5 H5 x5 ⟨lit5, S5⟩ r5 i5 e5
      cases e5
      obtain ⟨a5, ha5, rfl⟩ := i5
      obtain ⟨lit6, S6⟩ := SatX.norm (S5.drop) [4, 1, 3] [(4, .list [.r 1, .r 3, .i 0]), (1, .ints V), (3, .ints (U ++ [417 + (U.length : Int)]))] [] ⟨rfl, rfl, rfl, trivial⟩ rfl trivial rfl
      have is := is_deck (w := c.w) (α := setα (fun _ => none) 0 a5) (n := 0) (R := V) (C := U ++ [417 + (U.length : Int)]) S6.C ha5 ⟨by lia, by simp, by simp; lia⟩
      refine ⟨setα (fun _ => none) 0 a5, .ret (.r 0), [], ⟨1, [(0, .deck)]⟩, (fun _ _ h => nomatch h), ⟨_, lit6 ++ [], S6.F, ?_, ?_, .cons rfl is .nil, (fun _ _ h => nomatch h), fun p hp => ?_⟩, (Rest.trans R1 r4).trans r5, ⟨_, rfl, a5, rfl, rfl⟩, rfl, rfl⟩
      · rw [List.append_nil]; exact S6.N
      · rw [List.append_nil]; exact S6.D
      · match p, hp with
        | p + 1, _ => rfl
end
end KR
end
section
open PySem PySem.W PyProof.Rows PySem.Calls
set_option Elab.async false
set_option maxRecDepth 100000
set_option maxHeartbeats 4000000
set_option linter.constructorNameAsVariable false
set_option linter.unusedVariables false
namespace KR
noncomputable section
theorem deck_st {c : Cx} (O : c.Ok 8) (hsc : c.csc.names = lsc) {sa : Addr} {vs : List Value} {ns : List Int} (hL : c.h₀.IsList sa vs.toArray) (hI : IntsAre vs ns) (hn : ns.length ≤ 63) {K : KO} (h : K (.next, [("script", .g sa), ("deck", .r 0)], ⟨1, [(0, .deck)]⟩)) : LawT c (sL 0) [("script", .g sa)] ⟨0, []⟩ K := by
  intro own α s E PE S
  obtain ⟨m, lit, S⟩ := S
  have eα : α = fun _ => none := funext fun p => S.Z p (Nat.zero_le _)
  subst eα
  obtain ⟨p1, p2, fp, ap, cp, es⟩ : ∃ p1 p2 fp ap cp, sL 0 = .Assign [.Name "deck" p1] (.Call (.Name "_law_deck" fp) [.Name "script" ap] [] cp) p2 := ⟨_, _, _, _, _, rfl⟩
  rw [es]
  refine wpAny_Assign_Name ?_ (swaps_no rfl)
  refine Call_ ?_
  have V : EvS c own [("script", .g sa)] c.env (ev noT (evName lsc [("script", .g sa)]) 20) := ev_sound (d := 8) noT_sound O (fun x pos α H m s K E S h => evName_sound O hsc S h) 20
  refine Post.go (evName_sound (K := fun q => q = (.g 692, ⟨0, []⟩)) O hsc ⟨lit, S⟩ (ok_of (by kernel_rfl : evName lsc [("script", .g sa)] "_law_deck" ⟨0, []⟩ = .ret (.g 692, ⟨0, []⟩)) rfl)) ?_
  rintro v s1 α1 sv H1 x1 S1 r1 i1 e1
  cases e1
  cases i1
  refine callWith_K (K := hp c.w.params) O.X (inK_ok (by kernel_rfl) c.w.params) ?_ rfl rfl
  refine Post.go (evs1_sound V (pos := cp) [.Name "script" ap] (K := fun q => q = ([.g sa], ⟨0, []⟩)) rfl S1 (ok_of (by kernel_rfl : evs1 (ev noT (evName lsc [("script", .g sa)]) 20) [.Name "script" ap] ⟨0, []⟩ = .ret ([.g sa], ⟨0, []⟩)) rfl)) ?_
  rintro vs2 s2 α2 svs H2 x2 S2 r2 i2 e2
  cases e2
  obtain ⟨lit2, S2⟩ := S2
  refine ⟨O.X.keeps S2.F.keep, wpAny_call ?_⟩
  have eα2 : α2 = fun _ => none := funext fun p => S2.Z p (Nat.zero_le _)
  subst eα2
  refine fn_core fr692 O rfl rfl O.hdp O.hun S2.drop i2 rfl (K := fun x => x.1 = .ret (.r 0) ∧ x.2.2 = ⟨1, [(0, .deck)]⟩) (fun c' O' hsc' hclo keep s3 E3 PE3 S3 => deck_body O' hsc' hclo (by obtain ⟨o, q1, q2⟩ := hL; exact ⟨o, keep _ _ q1, q2⟩) hI hn S3) fun v s3 p => ?_
  obtain ⟨α3, sv3, H3, lit3, x3, S3, r3, i3, o, ρ3, H4, e3, e4, e5⟩ := p
  dsimp only at e4 e5
  subst e4 e5
  have e6 : gc 0 (.r 0) ⟨1, [(0, .deck)]⟩ = ⟨1, [(0, .deck)]⟩ := by kernel_rfl
  have e3' : (sv3, H3) = (SV.r 0, (⟨1, [(0, .deck)]⟩ : HS)) := e3.trans (by rw [← e6]; rfl)
  cases e3'
  have S4 : Sat c own α3 [("script", .g sa)] ⟨1, [(0, .deck)]⟩ s3 := ⟨m, lit3, S3.F, S3.N, S3.D, S3.C, fun x sv hx => (S.V x sv hx).mono (fun _ _ h => by cases h), S3.Z⟩
  exact store_sound O hsc S4 i3 (by kernel_rfl) fun s5 S5 r5 => ⟨α3, .next, _, _, S5, (r1.trans (r2.trans r3)).trans r5, rfl, h⟩
theorem run_len (sa : Nat) : evs1 (vL [("script", .g sa), ("deck", .r 0)]) [(match sL 1 with | .Assign _ (.ListComp _ [⟨_, .Call _ (e :: _) _ _, _, _⟩] _ _) _ => e | _ => .Constant .none 0 ⟨0, 0, 0, 0⟩)] ⟨1, [(0, .deck)]⟩ = (drawT 8 fun z => .ret ([.i (2 + z)], ⟨1, [(0, .deck)]⟩) : T (List SV × HS)) := by kernel_rfl
theorem text_st {c : Cx} (O : c.Ok 8) (hsc : c.csc = fS711.1) (hclo : c.clo = []) {sa : Addr} {K : KO} (h : ∀ T : List Int, 2 ≤ T.length → T.length ≤ 9 → K (.next, [("script", .g sa), ("deck", .r 0), ("text", .r 1)], ⟨2, [(1, .ints T), (0, .deck)]⟩)) : LawT c (sL 1) [("script", .g sa), ("deck", .r 0)] ⟨1, [(0, .deck)]⟩ K := by
  intro own α s E PE S
  have hsc' : c.csc.names = lsc := by rw [hsc]; rfl
  have V : EvS c own [("script", .g sa), ("deck", .r 0)] c.env (vL [("script", .g sa), ("deck", .r 0)]) := ev_sound TL.2 O (fun x pos α H m s K E S h => evName_sound O hsc' S h) 40
  obtain ⟨m, lit, S⟩ := S
  have hr := fun {E} => evName_sound (M := model Pg c.w) (A := c.A) (E := E) (K := fun q => q = (.f .range, ⟨1, [(0, .deck)]⟩)) (pos := ⟨447, 31, 447, 36⟩) O hsc' ⟨lit, S⟩ (ok_of (by kernel_rfl : evName lsc [("script", .g sa), ("deck", .r 0)] "range" ⟨1, [(0, .deck)]⟩ = .ret (.f .range, ⟨1, [(0, .deck)]⟩)) rfl)
  have henv : c.env = envX c.cnm fS711.1 c.L c.acl c.ccd [] := by rw [← hsc, ← hclo]
  rw [henv] at V
  have hr := fun {E} => henv ▸ hr (E := E)
  rw [henv]
  have es : sL 1 = .Assign [.Name "text" _] (.ListComp (.BinOp (.Constant (.int 100) 0 _) .Add (.Name "at" _) _) [⟨.Name "at" _, .Call (.Name "range" _) [_] [] _, [], 0⟩] _ _) _ := rfl
  rw [es]
  refine Assign_ListComp_DCr (h₀ := c.h₀) (m := m) (pz := fun _ => true) (d := fun k => .int (100 + k)) (by with_unfolding_all rfl) rfl rfl (by with_unfolding_all rfl) (by decide) (by rfl) (by decide) (by rfl) (by rfl) (by rfl) ?_ (fun _ => rfl)
  refine Call_ (Post.go hr ?_)
  rintro v s1 α1 sv H1 x1 S1 r1 i1 e1
  cases e1
  cases i1
  refine Pv.callWith_type1 ?_ rfl rfl
  refine Post.go (evs1_sound V [_] (K := fun q => ∃ z : Int, 0 ≤ z ∧ z < 8 ∧ q = ([.i (2 + z)], ⟨1, [(0, .deck)]⟩)) rfl S1 (ok_of (run_len sa) (draw_all ⟨by decide, by decide⟩ fun z z0 z8 => ⟨z, z0, z8, rfl⟩))) ?_
  rintro vs2 s2 α2 svs H2 x2 ⟨lit2, S2⟩ r2 i2 ⟨z, z0, z8, e2⟩
  cases e2
  obtain _ | ⟨⟨t, rfl⟩, _ | _⟩ := i2
  obtain ⟨n, hn⟩ : ∃ n : Nat, 2 + z = (n : Int) := ⟨(2 + z).toNat, by lia⟩
  rw [hn]
  refine range1_rows S2.F S2.N fun h' tk t1 u1 v1 hR F' N' _ => ?_
  refine ⟨_, _, 0, n, 1, t1, u1, v1, n, rfl, hR, small_nat (by lia), by rw [rangeSize_nat]; simp, by rw [sizeLine_eq]; lia, F', N', ?_, ?_, ?_⟩
  · intro C a v s₂ m₂ E' _ _ _ _ _ _
    exact wpAny_tests_nil ⟨rfl, keeps0⟩
  · intro C a v s₂ m₂ E' _ _ hv _ hns hm hk
    obtain ⟨t, rfl⟩ := hv
    exact wpAny_BinOp (const_clean fun _ _ => ldVarK hns hm (add_clean fun _ _ => ⟨.int _ _, keepsK⟩) rfl rfl)
  · intro D ys h2 tk2 F2 N2 h0 _ hp hc
    obtain ⟨U, iU, lU⟩ : ∃ U, IntsAre ys U ∧ U.length = n := ⟨_, hc.intsOf, by rw [List.length_map, List.filter_eq_self.mpr fun _ _ => rfl, rangeInts_length]⟩
    obtain ⟨lit3, S3⟩ := SatX.comp (ρ' := [("script", .g sa), ("deck", .r 0), ("text", .r 1)]) (s' := { s2 with heap := h2, toks := tk2 }) S2 F2 N2 h0 hp iU fun x sv hx => by
      rw [show ([("script", .g sa), ("deck", .r 0), ("text", .r 1)] : Loc) = putS "text" (.r 1) [("script", .g sa), ("deck", .r 0)] from by kernel_rfl, lkS_put] at hx
      cases e : eqS x "text" with
      | true => rw [e, if_pos rfl] at hx; cases hx; exact ⟨_, if_pos (eqS_iff.mp e), D, setα_same, rfl⟩
      | false =>
        rw [e, if_neg (by simp)] at hx
        exact ((S2.V x sv hx).mono (setα_ext (S2.Z _ (Nat.le_refl _)))).at (if_neg (eqS_no.mp e))
    exact ⟨_, .next, _, _, ⟨_, lit3, S3⟩, r1.trans r2, rfl, h _ (by lia) (by lia)⟩
theorem law_top {w : World} {q : Program} {loose : List Str} {mean : ExcName → Option Value} {mg mb : Str → Option Value} {h₀ : Heap} {L acl sa : Addr} {ccd : Value} {m : Str → Option Value} {s : Shared} {Q : Flow → Shared → Prop} {E : Value → Shared → Prop} {vs : List Value} {ns : List Int}
    (B : Below callerA h₀ [] h₀) (X : (hp w.params).In h₀) (T : Top q loose mean mg mb h₀) (F : Fr h₀ L s.heap m) (N : News h₀ L s.heap []) (hm : m (Str.ofString "script") = some (.ref sa)) (hL : h₀.IsList sa vs.toArray) (hI : IntsAre vs ns) (hn : ns.length ≤ 63)
    (hE : PassesOwn (model Pg w) (callerA.deeper (envOf (Str.ofString "law") fS711.1 L acl ccd)) (envOf (Str.ofString "law") fS711.1 L acl ccd) E)
    (ret : ∀ (m' : Str → Option Value) (h' : Heap) (tk' : Nat), Fr h₀ L h' m' → Q (.ret (.bool true)) { s with heap := h', toks := tk' }) :
    wpAny (model Pg w) (callerA.deeper (envOf (Str.ofString "law") fS711.1 L acl ccd)) (execs bS711.1 (envOf (Str.ofString "law") fS711.1 L acl ccd)) Q E s := by
  let c : Cx := ⟨w, q, loose, mean, mg, mb, 302, 7, some [], Str.ofString "law", fS711.1, acl, ccd, [], callerA, h₀, h₀, L, []⟩
  have O : c.Ok 8 := ⟨B, X, T, rfl, by show 302 + 20 * 8 ≤ 900; decide, by show 7 + 200 * 8 ≤ 5000; decide⟩
  have hA : callerA.deeper (envOf (Str.ofString "law") fS711.1 L acl ccd) = c.A := rfl
  have hsc : c.csc.names = lsc := rfl
  have eb : bS711.1 = [sL 0, sL 1, sL 2, sL 3, sL 4, sL 5, sL 6, sL 7, sL 8, sL 9, sL 10, sL 11, sL 12] := rfl
  have V : ∀ x sv, lkS x ([("script", .g sa)] : Loc) = some sv → LocIs c m (fun _ => none) x sv := fun x sv hx => by
    simp only [lkS] at hx
    cases e : eqS x "script" with
    | true => rw [e] at hx; cases hx; rw [eqS_iff.mp e]; exact ⟨_, hm, rfl⟩
    | false => rw [e] at hx; cases hx
  have S : Sat c [] (fun _ => none) [("script", .g sa)] ⟨0, []⟩ s := ⟨m, [], F, N, trivial, .nil, V, fun _ _ => rfl⟩
  have law : LawS c [sL 0, sL 1, sL 2, sL 3, sL 4, sL 5, sL 6, sL 7, sL 8, sL 9, sL 10, sL 11, sL 12] [("script", .g sa)] ⟨0, []⟩ KF :=
    LawS.cons (deck_st O hsc hL hI hn (LawS.cons (text_st O rfl rfl fun T h2 h9 => LawS.nf (ρ' := lawD0) (H' := hD T) [0, 1] ["deck", "text"] (by kernel_rfl) (first_ok O hsc ⟨by lia, h9⟩))))
  rw [hA] at hE ⊢
  rw [eb]
  refine wpAny_mono (law [] _ s E hE S) (fun fl s1 p => ?_) fun _ _ x => x
  obtain ⟨α, o, ρ, H, ⟨m1, lit1, S1⟩, r1, i1, P, e1, hP⟩ := p
  dsimp only at e1
  subst e1
  obtain ⟨v, rfl, t, rfl, ht⟩ := i1
  have ht : t = true := ht.mpr hP
  subst ht
  obtain ⟨heap, gens, drawn, toks, os⟩ := s1
  obtain ⟨q1, q2, q3⟩ := r1
  dsimp only at q1 q2 q3
  subst q1 q2 q3
  exact ret m1 heap toks S1.F
end
end KR
end
section
open PySem PySem.W PyProof.Rows PySem.Calls
set_option Elab.async false
set_option maxRecDepth 100000
set_option maxHeartbeats 8000000
namespace KR
theorem top_below {A : Around} {p : Program} {loose : List Str} {mean : ExcName → Option Value} {mg mb : Str → Option Value} {h : Heap} (T : Top p loose mean mg mb h) (K : Below A T.heap [] T.heap) : Below A h [] h := K
namespace law9
theorem tw2300440331742390272 : True := trivial
theorem tw15001373047731354656 : True := trivial
theorem tw9127270681844997184 : True := trivial
theorem tw7337332272028360800 : True := trivial
theorem tw6702621246256108736 : True := trivial
theorem tw1230788575400342752 : True := trivial
theorem tw5653529522495107392 : True := trivial
theorem tw8723365364593691968 : True := trivial
theorem tw11406573342676600160 : True := trivial
theorem tw13653391305139113376 : True := trivial
theorem tw9746790635705455040 : True := trivial
theorem tw10658464219235930560 : True := trivial
theorem tw563698319174959648 : True := trivial
theorem tw18398471469921984064 : True := trivial
theorem tw4491231604504923744 : True := trivial
theorem tw16453568590060200576 : True := trivial
theorem tw17780201977186781856 : True := trivial
theorem tw4087969686119574176 : True := trivial
theorem tw17661991515115180736 : True := trivial
theorem tw3256459739024180928 : True := trivial
theorem tw5471679072023006944 : True := trivial
theorem tw14942444600819875552 : True := trivial
theorem tw10975855570575298304 : True := trivial
theorem tw17734765083605622528 : True := trivial
theorem tw784917433617119040 : True := trivial
theorem tw8789688238166839136 : True := trivial
theorem tw15151784028388485984 : True := trivial
theorem tw10983512264801193888 : True := trivial
theorem tw14773799812864094144 : True := trivial
theorem tw15084190382175065056 : True := trivial
theorem tw5264792382340172801 : True := trivial
theorem tw10747974506142712865 : True := trivial
theorem tw5569039111837716513 : True := trivial
theorem tw17425877268161069281 : True := trivial
theorem tw8887344313470682369 : True := trivial
theorem tw16166664583504611681 : True := trivial
theorem tw6585566000415064449 : True := trivial
theorem tw6915295829816456641 : True := trivial
theorem tw1066682556769639905 : True := trivial
theorem tw489302190088628801 : True := trivial
theorem tw11280615148455897665 : True := trivial
theorem tw4948998095290335841 : True := trivial
theorem tw9130284034417135233 : True := trivial
theorem tw192131970216928929 : True := trivial
theorem tw8085283859530248897 : True := trivial
theorem tw18049681392972389089 : True := trivial
theorem tw15688159538330314497 : True := trivial
theorem tw15007691520217798401 : True := trivial
theorem tw17908890474784384769 : True := trivial
theorem tw16665295614377147169 : True := trivial
theorem tw13807307833031294849 : True := trivial
theorem tw17044173141485788033 : True := trivial
theorem tw946840480490890209 : True := trivial
theorem tw14899204823398486050 : True := trivial
theorem tw14049011328482596898 : True := trivial
theorem tw2213019028651932770 : True := trivial
theorem tw10553305823014731938 : True := trivial
theorem tw14519547406356812994 : True := trivial
theorem tw1155627214651075010 : True := trivial
theorem tw12444253549264568802 : True := trivial
theorem tw18319980381668262370 : True := trivial
theorem tw5417087871641932258 : True := trivial
theorem tw12712868543153731106 : True := trivial
theorem tw7784109081762227810 : True := trivial
theorem tw9653288049099544194 : True := trivial
theorem tw16809052859366700674 : True := trivial
theorem tw3759153258909007490 : True := trivial
theorem tw6000353210908698306 : True := trivial
theorem tw5053504033000806114 : True := trivial
theorem tw12474436983841429314 : True := trivial
theorem tw1487413124899218242 : True := trivial
theorem tw18129949970565792642 : True := trivial
theorem tw15396409764387065730 : True := trivial
theorem tw10891812457026308994 : True := trivial
theorem tw14815281257737912194 : True := trivial
theorem tw10231691113855916962 : True := trivial
theorem tw2251234252227833794 : True := trivial
theorem tw18164675385054649379 : True := trivial
theorem tw16156892265429705827 : True := trivial
theorem tw13172486068188455011 : True := trivial
theorem tw9882839399129646211 : True := trivial
theorem tw16523252143157039235 : True := trivial
theorem tw4155340834842171523 : True := trivial
theorem tw10990024549959884963 : True := trivial
theorem tw14388727761052470499 : True := trivial
theorem tw16440120803457242339 : True := trivial
theorem tw15931479454359573731 : True := trivial
theorem tw6167262523422496099 : True := trivial
theorem tw13385021617469689187 : True := trivial
theorem tw18369581758349812099 : True := trivial
theorem tw6978869420337677859 : True := trivial
theorem tw2574019059353429571 : True := trivial
theorem tw1802595018562901603 : True := trivial
theorem tw12505252360177507971 : True := trivial
theorem tw9593234102824693443 : True := trivial
theorem tw17743902382474067651 : True := trivial
theorem tw15144225343128665955 : True := trivial
theorem tw5420948698256020355 : True := trivial
theorem tw255530323002261411 : True := trivial
theorem tw7587127817794825380 : True := trivial
theorem tw12066709760284649636 : True := trivial
theorem tw18310065726167604452 : True := trivial
theorem tw5180311869121071396 : True := trivial
theorem tw16578757981023759652 : True := trivial
theorem tw14529616244763574596 : True := trivial
theorem tw1058676592197197124 : True := trivial
theorem tw9140292527767545188 : True := trivial
theorem tw9864664579769794980 : True := trivial
theorem tw11021275079945587108 : True := trivial
theorem tw5377704650526246436 : True := trivial
theorem tw18179359857509366308 : True := trivial
theorem tw3848006980241439300 : True := trivial
theorem tw14344234395920547396 : True := trivial
theorem tw11961489774965503652 : True := trivial
theorem tw15717175152906598084 : True := trivial
theorem tw10404609265562039044 : True := trivial
theorem tw2097835136808034084 : True := trivial
theorem tw12166236310232116068 : True := trivial
theorem tw13628677892435829893 : True := trivial
theorem tw10838399348944174213 : True := trivial
theorem tw14940420769111567557 : True := trivial
theorem tw1715181799537976517 : True := trivial
theorem tw11671832350035161445 : True := trivial
theorem tw5688817678602000741 : True := trivial
theorem tw9453421034874614149 : True := trivial
theorem tw16466909376916058597 : True := trivial
theorem tw14460100194670027365 : True := trivial
theorem tw1511521921450279557 : True := trivial
theorem tw16564669503109586597 : True := trivial
theorem tw3455908805647600325 : True := trivial
theorem tw12959319930032018117 : True := trivial
theorem tw8681056665568141029 : True := trivial
theorem tw10321619405359001349 : True := trivial
theorem tw7625664670585857829 : True := trivial
theorem tw12789548932236482437 : True := trivial
theorem tw12442870802036787077 : True := trivial
theorem tw6204375800737501093 : True := trivial
theorem tw2758297575646524357 : True := trivial
theorem tw13718627671057875974 : True := trivial
theorem tw8824151084925855846 : True := trivial
theorem tw8220367736344645766 : True := trivial
theorem tw6275167732244652198 : True := trivial
theorem tw12331381324671933638 : True := trivial
theorem tw1009110194007228678 : True := trivial
theorem tw125209320464994598 : True := trivial
theorem tw16425023599361010022 : True := trivial
theorem tw5726339795300085190 : True := trivial
theorem tw2244201378134538726 : True := trivial
theorem tw6651516282517574118 : True := trivial
theorem tw2996876248215911910 : True := trivial
theorem tw1387813784580653574 : True := trivial
theorem tw7560461799935595046 : True := trivial
theorem tw2314312554946004550 : True := trivial
theorem tw4311671952464782918 : True := trivial
theorem tw9227399249912454854 : True := trivial
theorem tw4023432082691649318 : True := trivial
theorem tw2399675669170240326 : True := trivial
theorem tw3776879675362075494 : True := trivial
theorem tw7758539817292615558 : True := trivial
theorem tw3462008184712706022 : True := trivial
theorem tw10688798048315568167 : True := trivial
theorem tw7448276299266354279 : True := trivial
theorem tw4217762251118164103 : True := trivial
theorem tw2205576964941489351 : True := trivial
theorem tw1134821011340432615 : True := trivial
theorem tw800498482678735111 : True := trivial
theorem tw10671088850988913927 : True := trivial
theorem tw18421482110578735463 : True := trivial
theorem tw7791020158496574023 : True := trivial
theorem tw16754388390877915751 : True := trivial
theorem tw3387202207578905223 : True := trivial
theorem tw9442301303243719335 : True := trivial
theorem tw10175082751053988583 : True := trivial
theorem tw15766882511084857095 : True := trivial
theorem tw16612276447592664871 : True := trivial
theorem tw17571713240371868519 : True := trivial
theorem tw1031531232207208295 : True := trivial
theorem tw17843644536793311143 : True := trivial
theorem tw8763553723525471175 : True := trivial
theorem tw5219628805065625575 : True := trivial
theorem tw15092686610513035239 : True := trivial
theorem tw17274197467515584520 : True := trivial
theorem tw2850517461055813704 : True := trivial
theorem tw4589215721854208104 : True := trivial
theorem tw17675817615102603368 : True := trivial
theorem tw14730079452655392904 : True := trivial
theorem tw17227373240920407176 : True := trivial
theorem tw11714472067876747464 : True := trivial
theorem tw6575438295048690888 : True := trivial
theorem tw16012790558713582824 : True := trivial
theorem tw6022272005102755048 : True := trivial
theorem tw15245909561764937992 : True := trivial
theorem tw4316376709027976456 : True := trivial
theorem tw11231014596587642152 : True := trivial
theorem tw7048749809315412296 : True := trivial
theorem tw14019238044428611976 : True := trivial
theorem tw1099077472446468552 : True := trivial
theorem tw8422584668772180456 : True := trivial
theorem tw707490801546757640 : True := trivial
theorem tw13153975703561043496 : True := trivial
theorem tw5096678628546591272 : True := trivial
theorem tw6598500625083434568 : True := trivial
theorem tw16428885189284893352 : True := trivial
theorem tw9945306784917013192 : True := trivial
theorem tw10304622315000213320 : True := trivial
theorem tw14507996680353495912 : True := trivial
theorem tw3602342836404789128 : True := trivial
theorem tw10006410998875020168 : True := trivial
theorem tw15322658809518414792 : True := trivial
theorem tw9804034106688770024 : True := trivial
theorem tw1802688092795224105 : True := trivial
theorem tw10288367363238664297 : True := trivial
theorem tw13739857803004974249 : True := trivial
theorem tw12483653792214272201 : True := trivial
theorem tw7783883329175080201 : True := trivial
theorem tw2568620021868768553 : True := trivial
theorem tw4871209199491883305 : True := trivial
theorem tw10126406525400781129 : True := trivial
theorem tw13210648995827964233 : True := trivial
theorem tw2976933369665880457 : True := trivial
theorem tw14967234177890593161 : True := trivial
theorem tw17163436731338930665 : True := trivial
theorem tw9454332588502711785 : True := trivial
theorem tw6052009470409455113 : True := trivial
theorem tw1360804669477586473 : True := trivial
theorem tw5188035194712330953 : True := trivial
theorem tw17352211333818641193 : True := trivial
theorem tw18417452673174765449 : True := trivial
theorem tw15476126376163609513 : True := trivial
theorem tw18262426928240989097 : True := trivial
theorem tw1530648271492504489 : True := trivial
theorem tw9643458648629780490 : True := trivial
theorem tw3265523318206323818 : True := trivial
theorem tw3834766734319630474 : True := trivial
theorem tw11137229163104680106 : True := trivial
theorem tw4477786618193089738 : True := trivial
theorem tw7806227862479349994 : True := trivial
theorem tw14250581378049945898 : True := trivial
theorem tw2815155832595663146 : True := trivial
theorem tw3309691087733405002 : True := trivial
theorem tw13521911544274189706 : True := trivial
theorem tw15706409834614319530 : True := trivial
theorem tw6626173676163041706 : True := trivial
theorem tw1508872553922415114 : True := trivial
theorem tw17929278933664382474 : True := trivial
theorem tw18046971374370451978 : True := trivial
theorem tw4226841053512456746 : True := trivial
theorem tw11808603233083100746 : True := trivial
theorem tw5592920940669153866 : True := trivial
theorem tw10047886051174696522 : True := trivial
theorem tw6832319396055115402 : True := trivial
theorem tw3976623651032203978 : True := trivial
theorem tw10158367001607632618 : True := trivial
theorem tw9472851834757947146 : True := trivial
theorem tw591616313883753258 : True := trivial
theorem tw7373319059538789258 : True := trivial
theorem tw9218640558176324586 : True := trivial
theorem tw16038935053002002410 : True := trivial
theorem tw13133947977019649002 : True := trivial
theorem tw5431433468266772555 : True := trivial
theorem tw5302323884055515243 : True := trivial
theorem tw231561059674308715 : True := trivial
theorem tw1805401629438294155 : True := trivial
theorem tw2900252582765474955 : True := trivial
theorem tw6502819797606825131 : True := trivial
theorem tw16209484668854149323 : True := trivial
theorem tw3027905602614966475 : True := trivial
theorem tw13417631412923567371 : True := trivial
theorem tw7454642272629538059 : True := trivial
theorem tw15492935189956802859 : True := trivial
theorem tw3345420896354143627 : True := trivial
theorem tw1094172830346694027 : True := trivial
theorem tw638570295240102347 : True := trivial
theorem tw14336090543326449099 : True := trivial
theorem tw16978742549030999531 : True := trivial
theorem tw14115149827571231211 : True := trivial
theorem tw3473848054607366667 : True := trivial
theorem tw1630490571108968011 : True := trivial
theorem tw2310173113404979883 : True := trivial
theorem tw7812144926865802123 : True := trivial
theorem tw14655033299685314539 : True := trivial
theorem tw9319972049782894636 : True := trivial
theorem tw5804374974876348460 : True := trivial
theorem tw8104211778909849676 : True := trivial
theorem tw11471972254157721676 : True := trivial
theorem tw6896251669646821484 : True := trivial
theorem tw4722502352574816492 : True := trivial
theorem tw416367521174366540 : True := trivial
theorem tw13729930375633514892 : True := trivial
theorem tw15956700367575756300 : True := trivial
theorem tw4328684918621787660 : True := trivial
theorem tw15074772969053705772 : True := trivial
theorem tw1562552297109056204 : True := trivial
theorem tw9400893475508807436 : True := trivial
theorem tw15011835231221644044 : True := trivial
theorem tw15173512861210013484 : True := trivial
theorem tw12055089576097314700 : True := trivial
theorem tw22147187287960492 : True := trivial
theorem tw785972208465413036 : True := trivial
theorem tw5290786281748202444 : True := trivial
theorem tw12780225966998532076 : True := trivial
theorem tw11460160547838388237 : True := trivial
theorem tw12794850681714663629 : True := trivial
theorem tw3527183629653901645 : True := trivial
theorem tw3528986982033491373 : True := trivial
theorem tw8971483721915128237 : True := trivial
theorem tw6529639820774051309 : True := trivial
theorem tw7364689051433155053 : True := trivial
theorem tw9039961103445450253 : True := trivial
theorem tw17154361936859549357 : True := trivial
theorem tw12768762743860288173 : True := trivial
theorem tw12179672150259320525 : True := trivial
theorem tw11424478715509361389 : True := trivial
theorem tw18055348753886157549 : True := trivial
theorem tw7511321692259883789 : True := trivial
theorem tw4918783051345993485 : True := trivial
theorem tw9302471934178945805 : True := trivial
theorem tw9670600792357832621 : True := trivial
theorem tw2822428145360223181 : True := trivial
theorem tw15201432170625891309 : True := trivial
theorem tw3385739559861742702 : True := trivial
theorem tw10854614950868519022 : True := trivial
theorem tw17306295098188806382 : True := trivial
theorem tw8025269101032831214 : True := trivial
theorem tw5361156437506685198 : True := trivial
theorem tw4389664530475993358 : True := trivial
theorem tw4042795890000864590 : True := trivial
theorem tw11805574996536017294 : True := trivial
theorem tw8364644911452508558 : True := trivial
theorem tw13256129959887493518 : True := trivial
theorem tw322951911601435150 : True := trivial
theorem tw823672632051819118 : True := trivial
theorem tw3436892265046935214 : True := trivial
theorem tw2857735799453362894 : True := trivial
theorem tw5151690451284799182 : True := trivial
theorem tw14864572190029597454 : True := trivial
theorem tw5131662537157957486 : True := trivial
theorem tw17264647661679455118 : True := trivial
theorem tw498903311613724622 : True := trivial
theorem tw15575897266398575598 : True := trivial
theorem tw15663739112048391183 : True := trivial
theorem tw9439072638368758799 : True := trivial
theorem tw11924598096751678511 : True := trivial
theorem tw1082134563191462991 : True := trivial
theorem tw7729848621108737103 : True := trivial
theorem tw11747957781739787343 : True := trivial
theorem tw15570267054706040975 : True := trivial
theorem tw6128107270278515887 : True := trivial
theorem tw448200488186288335 : True := trivial
theorem tw9910168132452131087 : True := trivial
theorem tw16291542329546166543 : True := trivial
theorem tw14326415461185582383 : True := trivial
theorem tw15341080228128804143 : True := trivial
theorem tw17375559673707408783 : True := trivial
theorem tw4120007395472584143 : True := trivial
theorem tw8221426835963681263 : True := trivial
theorem tw9043047968439032367 : True := trivial
theorem tw1312069122931567215 : True := trivial
theorem tw13412110173182583407 : True := trivial
theorem tw4781677465850817167 : True := trivial
theorem tw693595534700664463 : True := trivial
theorem tw4430181936580901551 : True := trivial
theorem tw7724632306867784367 : True := trivial
theorem tw5285637686666735311 : True := trivial
theorem tw14782717488036371151 : True := trivial
theorem tw17330030880303653615 : True := trivial
theorem tw13385146713377543951 : True := trivial
theorem tw18266897654609868687 : True := trivial
theorem tw8235878463645256655 : True := trivial
theorem tw15169385249613316144 : True := trivial
theorem tw11810684925832909904 : True := trivial
theorem tw2879938014848756816 : True := trivial
theorem tw13136706839219922032 : True := trivial
theorem tw8239649012519579856 : True := trivial
theorem tw5867162708505774320 : True := trivial
theorem tw17275039712637990160 : True := trivial
theorem tw7760207797974446448 : True := trivial
theorem tw8949832106339379600 : True := trivial
theorem tw2080272548259257744 : True := trivial
theorem tw2456548568915037616 : True := trivial
theorem tw16146265536746854832 : True := trivial
theorem tw13353697535795083824 : True := trivial
theorem tw1442957881215023696 : True := trivial
theorem tw2668334132897187440 : True := trivial
theorem tw2333012915853206160 : True := trivial
theorem tw11857190816277463792 : True := trivial
theorem tw4812632680400455408 : True := trivial
theorem tw17436769628698576624 : True := trivial
theorem tw6033868916633392880 : True := trivial
theorem tw9665215958744966928 : True := trivial
theorem tw934075657075818320 : True := trivial
theorem tw11793054984515483472 : True := trivial
theorem tw4539525232853462896 : True := trivial
theorem tw11355838713084011376 : True := trivial
theorem tw3088179404577988496 : True := trivial
theorem tw12188657406944116656 : True := trivial
theorem tw8319088006016158640 : True := trivial
theorem tw4774431912265046000 : True := trivial
theorem tw4452026495884943377 : True := trivial
theorem tw4969489889161172017 : True := trivial
theorem tw16395304320800046193 : True := trivial
theorem tw17218515125656928401 : True := trivial
theorem tw8272878879871948945 : True := trivial
theorem tw15648851021381179569 : True := trivial
theorem tw11744608676701648049 : True := trivial
theorem tw11576555689098512593 : True := trivial
theorem tw13382768323404145873 : True := trivial
theorem tw2300713945513571569 : True := trivial
theorem tw8563413239806472465 : True := trivial
theorem tw3725886866289986961 : True := trivial
theorem tw14598029765169368497 : True := trivial
theorem tw11046234490240395697 : True := trivial
theorem tw21162594144284081 : True := trivial
theorem tw11483172230716177873 : True := trivial
theorem tw1872357224522668497 : True := trivial
theorem tw2996529870961670641 : True := trivial
theorem tw848942502876640849 : True := trivial
theorem tw1070258975601652337 : True := trivial
theorem tw17024761987097055889 : True := trivial
theorem tw3466471808668227249 : True := trivial
theorem tw10679349136587430609 : True := trivial
theorem tw3964440525128276785 : True := trivial
theorem tw11500138264959671089 : True := trivial
theorem tw12372055471976249201 : True := trivial
theorem tw2116576863985301457 : True := trivial
theorem tw1069103858083090417 : True := trivial
theorem tw14993828298044067922 : True := trivial
theorem tw17370039655125197970 : True := trivial
theorem tw2054840042182510994 : True := trivial
theorem tw14108748574129010066 : True := trivial
theorem tw6617966294403564978 : True := trivial
theorem tw5177349967784887826 : True := trivial
theorem tw2335399146398979634 : True := trivial
theorem tw6703163459084492370 : True := trivial
theorem tw6453969469753602642 : True := trivial
theorem tw17270512264893422162 : True := trivial
theorem tw16877898491161508530 : True := trivial
theorem tw9251923767236050674 : True := trivial
theorem tw8701174549146014450 : True := trivial
theorem tw4876554742219716370 : True := trivial
theorem tw7998276509541221138 : True := trivial
theorem tw3579959725103319922 : True := trivial
theorem tw14211177869509116882 : True := trivial
theorem tw15122964268119246802 : True := trivial
theorem tw13551887949549117459 : True := trivial
theorem tw695187105409589331 : True := trivial
theorem tw17690042843532704883 : True := trivial
theorem tw7672903689527952531 : True := trivial
theorem tw17722909097695898803 : True := trivial
theorem tw5128813981171332403 : True := trivial
theorem tw10868471282153614867 : True := trivial
theorem tw8243068224426459795 : True := trivial
theorem tw4216660926823808691 : True := trivial
theorem tw9865056668792666835 : True := trivial
theorem tw16830093006031293171 : True := trivial
theorem tw9004336667256441619 : True := trivial
theorem tw10193333185565372211 : True := trivial
theorem tw9675642517112187699 : True := trivial
theorem tw9384978083576175507 : True := trivial
theorem tw18298783507037270100 : True := trivial
theorem tw12829088515097293972 : True := trivial
theorem tw15823627146348682420 : True := trivial
theorem tw8906984541156103380 : True := trivial
theorem tw6061235038846096596 : True := trivial
theorem tw5042143409132001588 : True := trivial
theorem tw415667137810542932 : True := trivial
theorem tw7902341054644547924 : True := trivial
theorem tw7366074048182567284 : True := trivial
theorem tw5630402946574356884 : True := trivial
theorem tw9992316379764256212 : True := trivial
theorem tw10587327358855143924 : True := trivial
theorem tw7433459315820124660 : True := trivial
theorem tw11710072298099458580 : True := trivial
theorem tw5437810425644807796 : True := trivial
theorem tw5293786983233175156 : True := trivial
theorem tw7079348782477941588 : True := trivial
theorem tw10618672348986055572 : True := trivial
theorem tw1965444289122927604 : True := trivial
theorem tw12510363166056558613 : True := trivial
theorem tw683823927478634549 : True := trivial
theorem tw12986259249821081717 : True := trivial
theorem tw14658496986845207733 : True := trivial
theorem tw17508868757518918869 : True := trivial
theorem tw15456732247774865653 : True := trivial
theorem tw14120489765181149429 : True := trivial
theorem tw1935273253374364949 : True := trivial
theorem tw4917392004122657077 : True := trivial
theorem tw5698897603858833781 : True := trivial
theorem tw5713676416788715989 : True := trivial
theorem tw5203203683156328917 : True := trivial
theorem tw14383538136789773845 : True := trivial
theorem tw16609913023220433461 : True := trivial
theorem tw10320131897322697301 : True := trivial
theorem tw1592794994184074869 : True := trivial
theorem tw5757613592530359925 : True := trivial
theorem tw3621506325212189333 : True := trivial
theorem tw3955156192503797429 : True := trivial
theorem tw7411658940663374517 : True := trivial
theorem tw12648232665724590805 : True := trivial
theorem tw12052023043353870069 : True := trivial
theorem tw10823116472227109653 : True := trivial
theorem tw6497806058735444853 : True := trivial
theorem tw14822619867115112309 : True := trivial
theorem tw10949087502281628533 : True := trivial
theorem tw16812884788457487253 : True := trivial
theorem tw12982033636065947573 : True := trivial
theorem tw2731718421252124629 : True := trivial
theorem tw2327146565442786293 : True := trivial
theorem tw17059831741740865525 : True := trivial
theorem tw577783323863636981 : True := trivial
theorem tw15508143201441807349 : True := trivial
theorem tw1921409743859007510 : True := trivial
theorem tw2154952981017254966 : True := trivial
theorem tw12155676091257327702 : True := trivial
theorem tw6927744014272928886 : True := trivial
theorem tw6387353873999588470 : True := trivial
theorem tw7285956121551965334 : True := trivial
theorem tw17134474741828790486 : True := trivial
theorem tw14970439855761642710 : True := trivial
theorem tw2460610776546873814 : True := trivial
theorem tw1860617545916230134 : True := trivial
theorem tw1876620887342686806 : True := trivial
theorem tw15082548047893303030 : True := trivial
theorem tw8654842593039174390 : True := trivial
theorem tw96673325782637366 : True := trivial
theorem tw6487072811629368150 : True := trivial
theorem tw3320337473466835830 : True := trivial
theorem tw1322836501316156310 : True := trivial
theorem tw1762044554329503670 : True := trivial
theorem tw4400829258892540886 : True := trivial
theorem tw2881421714368502774 : True := trivial
theorem tw12387700257449679862 : True := trivial
theorem tw4590284094041914423 : True := trivial
theorem tw17286357386188969047 : True := trivial
theorem tw5285213086584695927 : True := trivial
theorem tw14120422702535310455 : True := trivial
theorem tw7124838770772525175 : True := trivial
theorem tw12189885747404293399 : True := trivial
theorem tw6212824318659351863 : True := trivial
theorem tw9398473594615314775 : True := trivial
theorem tw7606971148298730839 : True := trivial
theorem tw14325820711115047255 : True := trivial
theorem tw3677935118603765079 : True := trivial
theorem tw5163663139330286967 : True := trivial
theorem tw12330316322113944951 : True := trivial
theorem tw13495993671319353751 : True := trivial
theorem tw105624984530172375 : True := trivial
theorem tw1472976785011397079 : True := trivial
theorem tw17229334688067424791 : True := trivial
theorem tw797973738389560887 : True := trivial
theorem tw14309561056470898263 : True := trivial
theorem tw17304232792207284823 : True := trivial
theorem tw6513039810496720471 : True := trivial
theorem tw4418854294756759159 : True := trivial
theorem tw11641405523696038551 : True := trivial
theorem tw2041517349945277079 : True := trivial
theorem tw11132793721778819735 : True := trivial
theorem tw12406636557818241815 : True := trivial
theorem tw6045055667424682839 : True := trivial
theorem tw18237722803520392055 : True := trivial
theorem tw17269786497036163991 : True := trivial
theorem tw3041573607220224951 : True := trivial
theorem tw13939540845719198711 : True := trivial
theorem tw11354948125748086808 : True := trivial
theorem tw12435882413005394072 : True := trivial
theorem tw12858445435585564824 : True := trivial
theorem tw11962259906156594392 : True := trivial
theorem tw12515673248312513752 : True := trivial
theorem tw2845804286530056408 : True := trivial
theorem tw1361255599966647512 : True := trivial
theorem tw16009848560254880024 : True := trivial
theorem tw14063189638469994776 : True := trivial
theorem tw7971888153402427704 : True := trivial
theorem tw14113825457625533752 : True := trivial
theorem tw2365733681666389368 : True := trivial
theorem tw411246638299421272 : True := trivial
theorem tw4479644673855068760 : True := trivial
theorem tw51592126254107288 : True := trivial
theorem tw15891088926162196152 : True := trivial
theorem tw6979644272116453112 : True := trivial
theorem tw13456632691691798328 : True := trivial
theorem tw10798004413983415096 : True := trivial
theorem tw4268333393757872088 : True := trivial
theorem tw1369938374799670232 : True := trivial
theorem tw7420032620784806009 : True := trivial
theorem tw17291662575407011993 : True := trivial
theorem tw4160758351288142009 : True := trivial
theorem tw5206117144860697817 : True := trivial
theorem tw8915204269957878041 : True := trivial
theorem tw17102161410551344441 : True := trivial
theorem tw4276615308026562905 : True := trivial
theorem tw5468097763901191577 : True := trivial
theorem tw76731864908686841 : True := trivial
theorem tw691875329582109273 : True := trivial
theorem tw5654013203911284313 : True := trivial
theorem tw11367119546100954713 : True := trivial
theorem tw15334390352959173273 : True := trivial
theorem tw809563753889917657 : True := trivial
theorem tw11964854845853116121 : True := trivial
theorem tw13876886549394807577 : True := trivial
theorem tw13869012080566363929 : True := trivial
theorem tw8709866525772745529 : True := trivial
theorem tw10053985586274350969 : True := trivial
theorem tw9366960602904723385 : True := trivial
theorem tw5835513162550773818 : True := trivial
theorem tw3974384013001368666 : True := trivial
theorem tw12012564330416134266 : True := trivial
theorem tw13003022295415508218 : True := trivial
theorem tw16223107385395105082 : True := trivial
theorem tw2406714994439993722 : True := trivial
theorem tw15085321974922232346 : True := trivial
theorem tw6687365385796329018 : True := trivial
theorem tw11276524539530914394 : True := trivial
theorem tw10334514103715163770 : True := trivial
theorem tw12855499076697417370 : True := trivial
theorem tw3897573123422473882 : True := trivial
theorem tw10587020308404220634 : True := trivial
theorem tw3539401342219769626 : True := trivial
theorem tw15544656933937852218 : True := trivial
theorem tw12283673137823675258 : True := trivial
theorem tw15884527842790550555 : True := trivial
theorem tw2141850923825276955 : True := trivial
theorem tw6659261094880541723 : True := trivial
theorem tw11006336420161529947 : True := trivial
theorem tw8318998999172159611 : True := trivial
theorem tw14429152933866486939 : True := trivial
theorem tw7253143579284337819 : True := trivial
theorem tw7986779572307263675 : True := trivial
theorem tw839906184215381179 : True := trivial
theorem tw14339432285469623483 : True := trivial
theorem tw3740919933880732987 : True := trivial
theorem tw15666593909762755931 : True := trivial
theorem tw8653071578679672187 : True := trivial
theorem tw14325858844238063003 : True := trivial
theorem tw11212846475666349499 : True := trivial
theorem tw9104571141790566843 : True := trivial
theorem tw7752234035725132251 : True := trivial
theorem tw10363571499924720123 : True := trivial
theorem tw7303143280596132379 : True := trivial
theorem tw15515847727427193403 : True := trivial
theorem tw3334296319400134203 : True := trivial
theorem tw15106572084141786715 : True := trivial
theorem tw2012358237546526363 : True := trivial
theorem tw2129025673680863899 : True := trivial
theorem tw7556934469948502683 : True := trivial
theorem tw8337198895880622971 : True := trivial
theorem tw2443227030024145883 : True := trivial
theorem tw15626182887720564828 : True := trivial
theorem tw7699483588041891964 : True := trivial
theorem tw16565290585104057468 : True := trivial
theorem tw13231696194723365052 : True := trivial
theorem tw5443362685678217468 : True := trivial
theorem tw15121739310733623580 : True := trivial
theorem tw16394246430906282364 : True := trivial
theorem tw10817348713925136860 : True := trivial
theorem tw3336168959846020764 : True := trivial
theorem tw3586551140577937084 : True := trivial
theorem tw15432529022415931100 : True := trivial
theorem tw13799649618347962076 : True := trivial
theorem tw1464405373628684028 : True := trivial
theorem tw15112113530837243676 : True := trivial
theorem tw3979537773636141884 : True := trivial
theorem tw1978144195246162812 : True := trivial
theorem tw7025559827306020732 : True := trivial
theorem tw11298675438591097885 : True := trivial
theorem tw14433030550564656157 : True := trivial
theorem tw6977209662117197917 : True := trivial
theorem tw12056591212365371485 : True := trivial
theorem tw13363589039456525469 : True := trivial
theorem tw1490809660693015741 : True := trivial
theorem tw16623102952579380445 : True := trivial
theorem tw17127670258842353885 : True := trivial
theorem tw10463464130397542685 : True := trivial
theorem tw15764028502365707549 : True := trivial
theorem tw14237639965538027837 : True := trivial
theorem tw2066667769686914397 : True := trivial
theorem tw1765992160949343645 : True := trivial
theorem tw17840672874122738077 : True := trivial
theorem tw11488362619633799773 : True := trivial
theorem tw13934819574106344093 : True := trivial
theorem tw17060000699639767805 : True := trivial
theorem tw5447462004291814141 : True := trivial
theorem tw2356094702668956445 : True := trivial
theorem tw4623286363439460157 : True := trivial
theorem tw909762105298496381 : True := trivial
theorem tw3045995255749570429 : True := trivial
theorem tw2417893485323621277 : True := trivial
theorem tw6028304835318391773 : True := trivial
theorem tw7326675538389765150 : True := trivial
theorem tw1453044303486656574 : True := trivial
theorem tw2441912054176506974 : True := trivial
theorem tw5372646362863436958 : True := trivial
theorem tw10219801600387031326 : True := trivial
theorem tw2060751228679208286 : True := trivial
theorem tw5136102721034797438 : True := trivial
theorem tw8280463135083305502 : True := trivial
theorem tw10540016489572903454 : True := trivial
theorem tw13720222980065164894 : True := trivial
theorem tw420291668018985630 : True := trivial
theorem tw14628797569495653054 : True := trivial
theorem tw6819711984762650302 : True := trivial
theorem tw9083981765172314910 : True := trivial
theorem tw17781349542914218782 : True := trivial
theorem tw3927528229820357470 : True := trivial
theorem tw7636781628531581790 : True := trivial
theorem tw4139335528832995262 : True := trivial
theorem tw13627877792350658526 : True := trivial
theorem tw8118905316543601662 : True := trivial
theorem tw10329581322420764670 : True := trivial
theorem tw8534998791182306431 : True := trivial
theorem tw1260739697234605279 : True := trivial
theorem tw10419898125327296767 : True := trivial
theorem tw17242168214743435583 : True := trivial
theorem tw15314008302631338431 : True := trivial
theorem tw1079178958799237567 : True := trivial
theorem tw5176722627557373407 : True := trivial
theorem tw16463868811829412319 : True := trivial
theorem tw4616860364228254175 : True := trivial
theorem tw2481710712440605183 : True := trivial
theorem tw17115623808417974847 : True := trivial
theorem tw13697869150282094175 : True := trivial
theorem tw15006609031781974655 : True := trivial
theorem tw8783361050412327711 : True := trivial
theorem tw6386157385739315007 : True := trivial
theorem tw3395938569389950879 : True := trivial
theorem tw16267686372982147999 : True := trivial
theorem tw199546753752256415 : True := trivial
theorem tw13411628116962041453 : True := trivial
end law9
set_option Elab.async true in
theorem law9 : PySem.Challenge.rw_pq0289_01.Holds := by
  w_on; o_law; o_head (kHook hp has (fun _ => by kernel_rfl)); (case hw => w_witness2)
  k_go0
  rename Below _ _ _ _ => K0
  with_reducible rename Top _ _ _ _ _ _ => T0
  with_reducible rename Fr _ _ _ _ => F0
  with_reducible rename News _ _ _ _ => N0
  rename Heap.IsList _ _ _ => L0
  rename IntsAre _ _ => I0
  with_reducible rename Frag.In _ _ => X0
  refine law_top (top_below T0 K0) X0 T0 F0 N0 ?a1 L0 I0 ?a2 ?a3 ?a4
  case a1 => exact rfl
  case a2 => omega
  case a3 => passes_own
  case a4 =>
    intro m8 h8 tk8 F8
    (try dsimp only)
    k_end
    wrow_close
end KR
end
theorem PySem.Challenge.cw_pq0289_01_holds : PySem.Challenge.rw_pq0289_01.Holds :=
  KR.law9
