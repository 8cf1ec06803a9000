import PyProof.Rows.All
import Wide.All
import OpenK.AllK
import Wide.FinOn
import PySem.Challenge.RW_ok0060_01
open PySem PySem.W PyProof.Rows PySem.Calls
set_option Elab.async false
set_option maxRecDepth 100000
set_option maxHeartbeats 8000000
set_option linter.unusedVariables false
namespace Mine60
theorem apart_HdX : ∀ x : Nat, x = x := by
  w_top off
  k_with_none
  first | (walk1; done) | exact fun _ => rfl
section
noncomputable def hA.body : List Stmt := PySem.Challenge.pw_ok0060_01.main.body
noncomputable def hA.nth : List Stmt → Nat → Stmt
  | [], _ => .Pass default
  | s :: _, 0 => s
  | _ :: r, n + 1 => hA.nth r n
noncomputable def hA.cls : Stmt → List Stmt
  | .ClassDef _ _ _ b _ _ _ _ _ _ _ => b
  | _ => []
noncomputable def hA.args : Stmt → Arguments
  | .FunctionDef _ a _ _ _ _ _ _ _ _ => a
  | _ => default
noncomputable def hA.fbody : Stmt → List Stmt
  | .FunctionDef _ _ b _ _ _ _ _ _ _ => b
  | _ => []
noncomputable def hA.fscope : Stmt → Scope
  | .FunctionDef _ _ _ _ _ _ sc _ _ _ => sc
  | _ => default
@[reducible] noncomputable def hA.t0 : Stmt := by
  refine (?f : ?x = (hA.nth hA.body 0) → Stmt) ?h
  case h => conv => rhs; whnf; zeta
  case f => exact fun _ => ?x
@[reducible] noncomputable def hA.a0 : Arguments := by
  refine (?f : ?x = (hA.args (hA.nth hA.body 0)) → Arguments) ?h
  case h => conv => rhs; whnf; zeta
  case f => exact fun _ => ?x
@[reducible] noncomputable def hA.b0 : List Stmt := by
  refine (?f : ?x = (hA.fbody (hA.nth hA.body 0)) → List Stmt) ?h
  case h => conv => rhs; whnf; zeta
  case f => exact fun _ => ?x
@[reducible] noncomputable def hA.s0 : Scope := by
  refine (?f : ?x = (hA.fscope (hA.nth hA.body 0)) → Scope) ?h
  case h => conv => rhs; whnf; zeta
  case f => exact fun _ => ?x
@[reducible] noncomputable def hA.t1 : Stmt := by
  refine (?f : ?x = (hA.nth hA.body 1) → Stmt) ?h
  case h => conv => rhs; whnf; zeta
  case f => exact fun _ => ?x
@[reducible] noncomputable def hA.t2 : Stmt := by
  refine (?f : ?x = (hA.nth hA.body 2) → Stmt) ?h
  case h => conv => rhs; whnf; zeta
  case f => exact fun _ => ?x
@[reducible] noncomputable def hA.a1 : Arguments := by
  refine (?f : ?x = (hA.args (hA.nth (hA.cls (hA.nth hA.body 2)) 0)) → Arguments) ?h
  case h => conv => rhs; whnf; zeta
  case f => exact fun _ => ?x
@[reducible] noncomputable def hA.b1 : List Stmt := by
  refine (?f : ?x = (hA.fbody (hA.nth (hA.cls (hA.nth hA.body 2)) 0)) → List Stmt) ?h
  case h => conv => rhs; whnf; zeta
  case f => exact fun _ => ?x
@[reducible] noncomputable def hA.s1 : Scope := by
  refine (?f : ?x = (hA.fscope (hA.nth (hA.cls (hA.nth hA.body 2)) 0)) → Scope) ?h
  case h => conv => rhs; whnf; zeta
  case f => exact fun _ => ?x
@[reducible] noncomputable def hA.t3 : Stmt := by
  refine (?f : ?x = (hA.nth hA.body 3) → Stmt) ?h
  case h => conv => rhs; whnf; zeta
  case f => exact fun _ => ?x
@[reducible] noncomputable def hA.t4 : Stmt := by
  refine (?f : ?x = (hA.nth hA.body 4) → Stmt) ?h
  case h => conv => rhs; whnf; zeta
  case f => exact fun _ => ?x
@[reducible] noncomputable def hA.a2 : Arguments := by
  refine (?f : ?x = (hA.args (hA.nth hA.body 4)) → Arguments) ?h
  case h => conv => rhs; whnf; zeta
  case f => exact fun _ => ?x
@[reducible] noncomputable def hA.b2 : List Stmt := by
  refine (?f : ?x = (hA.fbody (hA.nth hA.body 4)) → List Stmt) ?h
  case h => conv => rhs; whnf; zeta
  case f => exact fun _ => ?x
@[reducible] noncomputable def hA.s2 : Scope := by
  refine (?f : ?x = (hA.fscope (hA.nth hA.body 4)) → Scope) ?h
  case h => conv => rhs; whnf; zeta
  case f => exact fun _ => ?x
@[reducible] noncomputable def hA.t5 : Stmt := by
  refine (?f : ?x = (hA.nth hA.body 5) → Stmt) ?h
  case h => conv => rhs; whnf; zeta
  case f => exact fun _ => ?x
@[reducible] noncomputable def hA.a3 : Arguments := by
  refine (?f : ?x = (hA.args (hA.nth hA.body 5)) → Arguments) ?h
  case h => conv => rhs; whnf; zeta
  case f => exact fun _ => ?x
@[reducible] noncomputable def hA.b3 : List Stmt := by
  refine (?f : ?x = (hA.fbody (hA.nth hA.body 5)) → List Stmt) ?h
  case h => conv => rhs; whnf; zeta
  case f => exact fun _ => ?x
@[reducible] noncomputable def hA.s3 : Scope := by
  refine (?f : ?x = (hA.fscope (hA.nth hA.body 5)) → Scope) ?h
  case h => conv => rhs; whnf; zeta
  case f => exact fun _ => ?x
@[reducible] noncomputable def hA.t6 : Stmt := by
  refine (?f : ?x = (hA.nth hA.body 6) → Stmt) ?h
  case h => conv => rhs; whnf; zeta
  case f => exact fun _ => ?x
@[reducible] noncomputable def hA.a4 : Arguments := by
  refine (?f : ?x = (hA.args (hA.nth hA.body 6)) → Arguments) ?h
  case h => conv => rhs; whnf; zeta
  case f => exact fun _ => ?x
@[reducible] noncomputable def hA.b4 : List Stmt := by
  refine (?f : ?x = (hA.fbody (hA.nth hA.body 6)) → List Stmt) ?h
  case h => conv => rhs; whnf; zeta
  case f => exact fun _ => ?x
@[reducible] noncomputable def hA.s4 : Scope := by
  refine (?f : ?x = (hA.fscope (hA.nth hA.body 6)) → Scope) ?h
  case h => conv => rhs; whnf; zeta
  case f => exact fun _ => ?x
@[reducible] noncomputable def hA.t7 : Stmt := by
  refine (?f : ?x = (hA.nth hA.body 7) → Stmt) ?h
  case h => conv => rhs; whnf; zeta
  case f => exact fun _ => ?x
@[reducible] noncomputable def hA.a5 : Arguments := by
  refine (?f : ?x = (hA.args (hA.nth hA.body 7)) → Arguments) ?h
  case h => conv => rhs; whnf; zeta
  case f => exact fun _ => ?x
@[reducible] noncomputable def hA.b5 : List Stmt := by
  refine (?f : ?x = (hA.fbody (hA.nth hA.body 7)) → List Stmt) ?h
  case h => conv => rhs; whnf; zeta
  case f => exact fun _ => ?x
@[reducible] noncomputable def hA.s5 : Scope := by
  refine (?f : ?x = (hA.fscope (hA.nth hA.body 7)) → Scope) ?h
  case h => conv => rhs; whnf; zeta
  case f => exact fun _ => ?x
@[reducible] noncomputable def hA.t8 : Stmt := by
  refine (?f : ?x = (hA.nth hA.body 8) → Stmt) ?h
  case h => conv => rhs; whnf; zeta
  case f => exact fun _ => ?x
@[reducible] noncomputable def hA.a6 : Arguments := by
  refine (?f : ?x = (hA.args (hA.nth hA.body 8)) → Arguments) ?h
  case h => conv => rhs; whnf; zeta
  case f => exact fun _ => ?x
@[reducible] noncomputable def hA.b6 : List Stmt := by
  refine (?f : ?x = (hA.fbody (hA.nth hA.body 8)) → List Stmt) ?h
  case h => conv => rhs; whnf; zeta
  case f => exact fun _ => ?x
@[reducible] noncomputable def hA.s6 : Scope := by
  refine (?f : ?x = (hA.fscope (hA.nth hA.body 8)) → Scope) ?h
  case h => conv => rhs; whnf; zeta
  case f => exact fun _ => ?x
@[reducible] noncomputable def hA.t9 : Stmt := by
  refine (?f : ?x = (hA.nth hA.body 9) → Stmt) ?h
  case h => conv => rhs; whnf; zeta
  case f => exact fun _ => ?x
@[reducible] noncomputable def hA.a7 : Arguments := by
  refine (?f : ?x = (hA.args (hA.nth hA.body 9)) → Arguments) ?h
  case h => conv => rhs; whnf; zeta
  case f => exact fun _ => ?x
@[reducible] noncomputable def hA.b7 : List Stmt := by
  refine (?f : ?x = (hA.fbody (hA.nth hA.body 9)) → List Stmt) ?h
  case h => conv => rhs; whnf; zeta
  case f => exact fun _ => ?x
@[reducible] noncomputable def hA.s7 : Scope := by
  refine (?f : ?x = (hA.fscope (hA.nth hA.body 9)) → Scope) ?h
  case h => conv => rhs; whnf; zeta
  case f => exact fun _ => ?x
@[reducible] noncomputable def hA.t10 : Stmt := by
  refine (?f : ?x = (hA.nth hA.body 10) → Stmt) ?h
  case h => conv => rhs; whnf; zeta
  case f => exact fun _ => ?x
@[reducible] noncomputable def hA.a8 : Arguments := by
  refine (?f : ?x = (hA.args (hA.nth hA.body 10)) → Arguments) ?h
  case h => conv => rhs; whnf; zeta
  case f => exact fun _ => ?x
@[reducible] noncomputable def hA.b8 : List Stmt := by
  refine (?f : ?x = (hA.fbody (hA.nth hA.body 10)) → List Stmt) ?h
  case h => conv => rhs; whnf; zeta
  case f => exact fun _ => ?x
@[reducible] noncomputable def hA.s8 : Scope := by
  refine (?f : ?x = (hA.fscope (hA.nth hA.body 10)) → Scope) ?h
  case h => conv => rhs; whnf; zeta
  case f => exact fun _ => ?x
@[reducible] noncomputable def hA.t11 : Stmt := by
  refine (?f : ?x = (hA.nth hA.body 11) → Stmt) ?h
  case h => conv => rhs; whnf; zeta
  case f => exact fun _ => ?x
@[reducible] noncomputable def hA.a9 : Arguments := by
  refine (?f : ?x = (hA.args (hA.nth hA.body 11)) → Arguments) ?h
  case h => conv => rhs; whnf; zeta
  case f => exact fun _ => ?x
@[reducible] noncomputable def hA.b9 : List Stmt := by
  refine (?f : ?x = (hA.fbody (hA.nth hA.body 11)) → List Stmt) ?h
  case h => conv => rhs; whnf; zeta
  case f => exact fun _ => ?x
@[reducible] noncomputable def hA.s9 : Scope := by
  refine (?f : ?x = (hA.fscope (hA.nth hA.body 11)) → Scope) ?h
  case h => conv => rhs; whnf; zeta
  case f => exact fun _ => ?x
@[reducible] noncomputable def hA.t12 : Stmt := by
  refine (?f : ?x = (hA.nth hA.body 12) → Stmt) ?h
  case h => conv => rhs; whnf; zeta
  case f => exact fun _ => ?x
@[reducible] noncomputable def hA.t13 : Stmt := by
  refine (?f : ?x = (hA.nth hA.body 13) → Stmt) ?h
  case h => conv => rhs; whnf; zeta
  case f => exact fun _ => ?x
@[reducible] noncomputable def hA.t14 : Stmt := by
  refine (?f : ?x = (hA.nth hA.body 14) → Stmt) ?h
  case h => conv => rhs; whnf; zeta
  case f => exact fun _ => ?x
@[reducible] noncomputable def hA.a10 : Arguments := by
  refine (?f : ?x = (hA.args (hA.nth hA.body 14)) → Arguments) ?h
  case h => conv => rhs; whnf; zeta
  case f => exact fun _ => ?x
@[reducible] noncomputable def hA.b10 : List Stmt := by
  refine (?f : ?x = (hA.fbody (hA.nth hA.body 14)) → List Stmt) ?h
  case h => conv => rhs; whnf; zeta
  case f => exact fun _ => ?x
@[reducible] noncomputable def hA.s10 : Scope := by
  refine (?f : ?x = (hA.fscope (hA.nth hA.body 14)) → Scope) ?h
  case h => conv => rhs; whnf; zeta
  case f => exact fun _ => ?x
@[reducible] noncomputable def hA.t15 : Stmt := by
  refine (?f : ?x = (hA.nth hA.body 15) → Stmt) ?h
  case h => conv => rhs; whnf; zeta
  case f => exact fun _ => ?x
@[reducible] noncomputable def hA.a11 : Arguments := by
  refine (?f : ?x = (hA.args (hA.nth hA.body 15)) → Arguments) ?h
  case h => conv => rhs; whnf; zeta
  case f => exact fun _ => ?x
@[reducible] noncomputable def hA.b11 : List Stmt := by
  refine (?f : ?x = (hA.fbody (hA.nth hA.body 15)) → List Stmt) ?h
  case h => conv => rhs; whnf; zeta
  case f => exact fun _ => ?x
@[reducible] noncomputable def hA.t16 : Stmt := by
  refine (?f : ?x = (hA.nth hA.body 16) → Stmt) ?h
  case h => conv => rhs; whnf; zeta
  case f => exact fun _ => ?x
@[reducible] noncomputable def hA.a12 : Arguments := by
  refine (?f : ?x = (hA.args (hA.nth hA.body 16)) → Arguments) ?h
  case h => conv => rhs; whnf; zeta
  case f => exact fun _ => ?x
@[reducible] noncomputable def hA.b12 : List Stmt := by
  refine (?f : ?x = (hA.fbody (hA.nth hA.body 16)) → List Stmt) ?h
  case h => conv => rhs; whnf; zeta
  case f => exact fun _ => ?x
@[reducible] noncomputable def hA.s12 : Scope := by
  refine (?f : ?x = (hA.fscope (hA.nth hA.body 16)) → Scope) ?h
  case h => conv => rhs; whnf; zeta
  case f => exact fun _ => ?x
@[reducible] noncomputable def hA.t17 : Stmt := by
  refine (?f : ?x = (hA.nth hA.body 17) → Stmt) ?h
  case h => conv => rhs; whnf; zeta
  case f => exact fun _ => ?x
@[reducible] noncomputable def hA.a13 : Arguments := by
  refine (?f : ?x = (hA.args (hA.nth hA.body 17)) → Arguments) ?h
  case h => conv => rhs; whnf; zeta
  case f => exact fun _ => ?x
@[reducible] noncomputable def hA.b13 : List Stmt := by
  refine (?f : ?x = (hA.fbody (hA.nth hA.body 17)) → List Stmt) ?h
  case h => conv => rhs; whnf; zeta
  case f => exact fun _ => ?x
@[reducible] noncomputable def hA.t18 : Stmt := by
  refine (?f : ?x = (hA.nth hA.body 18) → Stmt) ?h
  case h => conv => rhs; whnf; zeta
  case f => exact fun _ => ?x
@[reducible] noncomputable def hA.a14 : Arguments := by
  refine (?f : ?x = (hA.args (hA.nth hA.body 18)) → Arguments) ?h
  case h => conv => rhs; whnf; zeta
  case f => exact fun _ => ?x
@[reducible] noncomputable def hA.b14 : List Stmt := by
  refine (?f : ?x = (hA.fbody (hA.nth hA.body 18)) → List Stmt) ?h
  case h => conv => rhs; whnf; zeta
  case f => exact fun _ => ?x
@[reducible] noncomputable def hA.s14 : Scope := by
  refine (?f : ?x = (hA.fscope (hA.nth hA.body 18)) → Scope) ?h
  case h => conv => rhs; whnf; zeta
  case f => exact fun _ => ?x
@[reducible] noncomputable def hA.t19 : Stmt := by
  refine (?f : ?x = (hA.nth hA.body 19) → Stmt) ?h
  case h => conv => rhs; whnf; zeta
  case f => exact fun _ => ?x
@[reducible] noncomputable def hA.a15 : Arguments := by
  refine (?f : ?x = (hA.args (hA.nth hA.body 19)) → Arguments) ?h
  case h => conv => rhs; whnf; zeta
  case f => exact fun _ => ?x
@[reducible] noncomputable def hA.b15 : List Stmt := by
  refine (?f : ?x = (hA.fbody (hA.nth hA.body 19)) → List Stmt) ?h
  case h => conv => rhs; whnf; zeta
  case f => exact fun _ => ?x
@[reducible] noncomputable def hA.s15 : Scope := by
  refine (?f : ?x = (hA.fscope (hA.nth hA.body 19)) → Scope) ?h
  case h => conv => rhs; whnf; zeta
  case f => exact fun _ => ?x
@[reducible] noncomputable def hA.t20 : Stmt := by
  refine (?f : ?x = (hA.nth hA.body 20) → Stmt) ?h
  case h => conv => rhs; whnf; zeta
  case f => exact fun _ => ?x
@[reducible] noncomputable def hA.a16 : Arguments := by
  refine (?f : ?x = (hA.args (hA.nth hA.body 20)) → Arguments) ?h
  case h => conv => rhs; whnf; zeta
  case f => exact fun _ => ?x
@[reducible] noncomputable def hA.b16 : List Stmt := by
  refine (?f : ?x = (hA.fbody (hA.nth hA.body 20)) → List Stmt) ?h
  case h => conv => rhs; whnf; zeta
  case f => exact fun _ => ?x
@[reducible] noncomputable def hA.s16 : Scope := by
  refine (?f : ?x = (hA.fscope (hA.nth hA.body 20)) → Scope) ?h
  case h => conv => rhs; whnf; zeta
  case f => exact fun _ => ?x
@[reducible] noncomputable def hA.t21 : Stmt := by
  refine (?f : ?x = (hA.nth hA.body 21) → Stmt) ?h
  case h => conv => rhs; whnf; zeta
  case f => exact fun _ => ?x
@[reducible] noncomputable def hA.a17 : Arguments := by
  refine (?f : ?x = (hA.args (hA.nth hA.body 21)) → Arguments) ?h
  case h => conv => rhs; whnf; zeta
  case f => exact fun _ => ?x
@[reducible] noncomputable def hA.b17 : List Stmt := by
  refine (?f : ?x = (hA.fbody (hA.nth hA.body 21)) → List Stmt) ?h
  case h => conv => rhs; whnf; zeta
  case f => exact fun _ => ?x
@[reducible] noncomputable def hA.s17 : Scope := by
  refine (?f : ?x = (hA.fscope (hA.nth hA.body 21)) → Scope) ?h
  case h => conv => rhs; whnf; zeta
  case f => exact fun _ => ?x
@[reducible] noncomputable def hA.t22 : Stmt := by
  refine (?f : ?x = (hA.nth hA.body 22) → Stmt) ?h
  case h => conv => rhs; whnf; zeta
  case f => exact fun _ => ?x
@[reducible] noncomputable def hA.a18 : Arguments := by
  refine (?f : ?x = (hA.args (hA.nth hA.body 22)) → Arguments) ?h
  case h => conv => rhs; whnf; zeta
  case f => exact fun _ => ?x
@[reducible] noncomputable def hA.b18 : List Stmt := by
  refine (?f : ?x = (hA.fbody (hA.nth hA.body 22)) → List Stmt) ?h
  case h => conv => rhs; whnf; zeta
  case f => exact fun _ => ?x
@[reducible] noncomputable def hA.s18 : Scope := by
  refine (?f : ?x = (hA.fscope (hA.nth hA.body 22)) → Scope) ?h
  case h => conv => rhs; whnf; zeta
  case f => exact fun _ => ?x
@[reducible] noncomputable def hA.t23 : Stmt := by
  refine (?f : ?x = (hA.nth hA.body 23) → Stmt) ?h
  case h => conv => rhs; whnf; zeta
  case f => exact fun _ => ?x
@[reducible] noncomputable def hA.t24 : Stmt := by
  refine (?f : ?x = (hA.nth hA.body 24) → Stmt) ?h
  case h => conv => rhs; whnf; zeta
  case f => exact fun _ => ?x
@[reducible] noncomputable def hA.a19 : Arguments := by
  refine (?f : ?x = (hA.args (hA.nth (hA.cls (hA.nth hA.body 24)) 0)) → Arguments) ?h
  case h => conv => rhs; whnf; zeta
  case f => exact fun _ => ?x
@[reducible] noncomputable def hA.b19 : List Stmt := by
  refine (?f : ?x = (hA.fbody (hA.nth (hA.cls (hA.nth hA.body 24)) 0)) → List Stmt) ?h
  case h => conv => rhs; whnf; zeta
  case f => exact fun _ => ?x
@[reducible] noncomputable def hA.s19 : Scope := by
  refine (?f : ?x = (hA.fscope (hA.nth (hA.cls (hA.nth hA.body 24)) 0)) → Scope) ?h
  case h => conv => rhs; whnf; zeta
  case f => exact fun _ => ?x
@[reducible] noncomputable def hA.a20 : Arguments := by
  refine (?f : ?x = (hA.args (hA.nth (hA.cls (hA.nth hA.body 24)) 1)) → Arguments) ?h
  case h => conv => rhs; whnf; zeta
  case f => exact fun _ => ?x
@[reducible] noncomputable def hA.b20 : List Stmt := by
  refine (?f : ?x = (hA.fbody (hA.nth (hA.cls (hA.nth hA.body 24)) 1)) → List Stmt) ?h
  case h => conv => rhs; whnf; zeta
  case f => exact fun _ => ?x
@[reducible] noncomputable def hA.s20 : Scope := by
  refine (?f : ?x = (hA.fscope (hA.nth (hA.cls (hA.nth hA.body 24)) 1)) → Scope) ?h
  case h => conv => rhs; whnf; zeta
  case f => exact fun _ => ?x
@[reducible] noncomputable def hA.a21 : Arguments := by
  refine (?f : ?x = (hA.args (hA.nth (hA.cls (hA.nth hA.body 24)) 2)) → Arguments) ?h
  case h => conv => rhs; whnf; zeta
  case f => exact fun _ => ?x
@[reducible] noncomputable def hA.b21 : List Stmt := by
  refine (?f : ?x = (hA.fbody (hA.nth (hA.cls (hA.nth hA.body 24)) 2)) → List Stmt) ?h
  case h => conv => rhs; whnf; zeta
  case f => exact fun _ => ?x
@[reducible] noncomputable def hA.s21 : Scope := by
  refine (?f : ?x = (hA.fscope (hA.nth (hA.cls (hA.nth hA.body 24)) 2)) → Scope) ?h
  case h => conv => rhs; whnf; zeta
  case f => exact fun _ => ?x
@[reducible] noncomputable def hA.a22 : Arguments := by
  refine (?f : ?x = (hA.args (hA.nth (hA.cls (hA.nth hA.body 24)) 3)) → Arguments) ?h
  case h => conv => rhs; whnf; zeta
  case f => exact fun _ => ?x
@[reducible] noncomputable def hA.b22 : List Stmt := by
  refine (?f : ?x = (hA.fbody (hA.nth (hA.cls (hA.nth hA.body 24)) 3)) → List Stmt) ?h
  case h => conv => rhs; whnf; zeta
  case f => exact fun _ => ?x
@[reducible] noncomputable def hA.s22 : Scope := by
  refine (?f : ?x = (hA.fscope (hA.nth (hA.cls (hA.nth hA.body 24)) 3)) → Scope) ?h
  case h => conv => rhs; whnf; zeta
  case f => exact fun _ => ?x
@[reducible] noncomputable def hA.a23 : Arguments := by
  refine (?f : ?x = (hA.args (hA.nth (hA.cls (hA.nth hA.body 24)) 4)) → Arguments) ?h
  case h => conv => rhs; whnf; zeta
  case f => exact fun _ => ?x
@[reducible] noncomputable def hA.b23 : List Stmt := by
  refine (?f : ?x = (hA.fbody (hA.nth (hA.cls (hA.nth hA.body 24)) 4)) → List Stmt) ?h
  case h => conv => rhs; whnf; zeta
  case f => exact fun _ => ?x
@[reducible] noncomputable def hA.s23 : Scope := by
  refine (?f : ?x = (hA.fscope (hA.nth (hA.cls (hA.nth hA.body 24)) 4)) → Scope) ?h
  case h => conv => rhs; whnf; zeta
  case f => exact fun _ => ?x
@[reducible] noncomputable def hA.a24 : Arguments := by
  refine (?f : ?x = (hA.args (hA.nth (hA.cls (hA.nth hA.body 24)) 5)) → Arguments) ?h
  case h => conv => rhs; whnf; zeta
  case f => exact fun _ => ?x
@[reducible] noncomputable def hA.b24 : List Stmt := by
  refine (?f : ?x = (hA.fbody (hA.nth (hA.cls (hA.nth hA.body 24)) 5)) → List Stmt) ?h
  case h => conv => rhs; whnf; zeta
  case f => exact fun _ => ?x
@[reducible] noncomputable def hA.s24 : Scope := by
  refine (?f : ?x = (hA.fscope (hA.nth (hA.cls (hA.nth hA.body 24)) 5)) → Scope) ?h
  case h => conv => rhs; whnf; zeta
  case f => exact fun _ => ?x
@[reducible] noncomputable def hA.a25 : Arguments := by
  refine (?f : ?x = (hA.args (hA.nth (hA.cls (hA.nth hA.body 24)) 6)) → Arguments) ?h
  case h => conv => rhs; whnf; zeta
  case f => exact fun _ => ?x
@[reducible] noncomputable def hA.b25 : List Stmt := by
  refine (?f : ?x = (hA.fbody (hA.nth (hA.cls (hA.nth hA.body 24)) 6)) → List Stmt) ?h
  case h => conv => rhs; whnf; zeta
  case f => exact fun _ => ?x
@[reducible] noncomputable def hA.s25 : Scope := by
  refine (?f : ?x = (hA.fscope (hA.nth (hA.cls (hA.nth hA.body 24)) 6)) → Scope) ?h
  case h => conv => rhs; whnf; zeta
  case f => exact fun _ => ?x
@[reducible] noncomputable def hA.a26 : Arguments := by
  refine (?f : ?x = (hA.args (hA.nth (hA.cls (hA.nth hA.body 24)) 7)) → Arguments) ?h
  case h => conv => rhs; whnf; zeta
  case f => exact fun _ => ?x
@[reducible] noncomputable def hA.b26 : List Stmt := by
  refine (?f : ?x = (hA.fbody (hA.nth (hA.cls (hA.nth hA.body 24)) 7)) → List Stmt) ?h
  case h => conv => rhs; whnf; zeta
  case f => exact fun _ => ?x
@[reducible] noncomputable def hA.s26 : Scope := by
  refine (?f : ?x = (hA.fscope (hA.nth (hA.cls (hA.nth hA.body 24)) 7)) → Scope) ?h
  case h => conv => rhs; whnf; zeta
  case f => exact fun _ => ?x
@[reducible] noncomputable def hA.a27 : Arguments := by
  refine (?f : ?x = (hA.args (hA.nth (hA.cls (hA.nth hA.body 24)) 8)) → Arguments) ?h
  case h => conv => rhs; whnf; zeta
  case f => exact fun _ => ?x
@[reducible] noncomputable def hA.b27 : List Stmt := by
  refine (?f : ?x = (hA.fbody (hA.nth (hA.cls (hA.nth hA.body 24)) 8)) → List Stmt) ?h
  case h => conv => rhs; whnf; zeta
  case f => exact fun _ => ?x
@[reducible] noncomputable def hA.s27 : Scope := by
  refine (?f : ?x = (hA.fscope (hA.nth (hA.cls (hA.nth hA.body 24)) 8)) → Scope) ?h
  case h => conv => rhs; whnf; zeta
  case f => exact fun _ => ?x
@[reducible] noncomputable def hA.a28 : Arguments := by
  refine (?f : ?x = (hA.args (hA.nth (hA.cls (hA.nth hA.body 24)) 9)) → Arguments) ?h
  case h => conv => rhs; whnf; zeta
  case f => exact fun _ => ?x
@[reducible] noncomputable def hA.b28 : List Stmt := by
  refine (?f : ?x = (hA.fbody (hA.nth (hA.cls (hA.nth hA.body 24)) 9)) → List Stmt) ?h
  case h => conv => rhs; whnf; zeta
  case f => exact fun _ => ?x
@[reducible] noncomputable def hA.s28 : Scope := by
  refine (?f : ?x = (hA.fscope (hA.nth (hA.cls (hA.nth hA.body 24)) 9)) → Scope) ?h
  case h => conv => rhs; whnf; zeta
  case f => exact fun _ => ?x
@[reducible] noncomputable def hA.a29 : Arguments := by
  refine (?f : ?x = (hA.args (hA.nth (hA.cls (hA.nth hA.body 24)) 10)) → Arguments) ?h
  case h => conv => rhs; whnf; zeta
  case f => exact fun _ => ?x
@[reducible] noncomputable def hA.b29 : List Stmt := by
  refine (?f : ?x = (hA.fbody (hA.nth (hA.cls (hA.nth hA.body 24)) 10)) → List Stmt) ?h
  case h => conv => rhs; whnf; zeta
  case f => exact fun _ => ?x
@[reducible] noncomputable def hA.t25 : Stmt := by
  refine (?f : ?x = (hA.nth hA.body 25) → Stmt) ?h
  case h => conv => rhs; whnf; zeta
  case f => exact fun _ => ?x
@[reducible] noncomputable def hA.t26 : Stmt := by
  refine (?f : ?x = (hA.nth hA.body 26) → Stmt) ?h
  case h => conv => rhs; whnf; zeta
  case f => exact fun _ => ?x
@[reducible] noncomputable def hA.a30 : Arguments := by
  refine (?f : ?x = (hA.args (hA.nth (hA.cls (hA.nth hA.body 26)) 0)) → Arguments) ?h
  case h => conv => rhs; whnf; zeta
  case f => exact fun _ => ?x
@[reducible] noncomputable def hA.b30 : List Stmt := by
  refine (?f : ?x = (hA.fbody (hA.nth (hA.cls (hA.nth hA.body 26)) 0)) → List Stmt) ?h
  case h => conv => rhs; whnf; zeta
  case f => exact fun _ => ?x
@[reducible] noncomputable def hA.s30 : Scope := by
  refine (?f : ?x = (hA.fscope (hA.nth (hA.cls (hA.nth hA.body 26)) 0)) → Scope) ?h
  case h => conv => rhs; whnf; zeta
  case f => exact fun _ => ?x
@[reducible] noncomputable def hA.a31 : Arguments := by
  refine (?f : ?x = (hA.args (hA.nth (hA.cls (hA.nth hA.body 26)) 1)) → Arguments) ?h
  case h => conv => rhs; whnf; zeta
  case f => exact fun _ => ?x
@[reducible] noncomputable def hA.b31 : List Stmt := by
  refine (?f : ?x = (hA.fbody (hA.nth (hA.cls (hA.nth hA.body 26)) 1)) → List Stmt) ?h
  case h => conv => rhs; whnf; zeta
  case f => exact fun _ => ?x
@[reducible] noncomputable def hA.s31 : Scope := by
  refine (?f : ?x = (hA.fscope (hA.nth (hA.cls (hA.nth hA.body 26)) 1)) → Scope) ?h
  case h => conv => rhs; whnf; zeta
  case f => exact fun _ => ?x
@[reducible] noncomputable def hA.a32 : Arguments := by
  refine (?f : ?x = (hA.args (hA.nth (hA.cls (hA.nth hA.body 26)) 2)) → Arguments) ?h
  case h => conv => rhs; whnf; zeta
  case f => exact fun _ => ?x
@[reducible] noncomputable def hA.b32 : List Stmt := by
  refine (?f : ?x = (hA.fbody (hA.nth (hA.cls (hA.nth hA.body 26)) 2)) → List Stmt) ?h
  case h => conv => rhs; whnf; zeta
  case f => exact fun _ => ?x
@[reducible] noncomputable def hA.s32 : Scope := by
  refine (?f : ?x = (hA.fscope (hA.nth (hA.cls (hA.nth hA.body 26)) 2)) → Scope) ?h
  case h => conv => rhs; whnf; zeta
  case f => exact fun _ => ?x
@[reducible] noncomputable def hA.a33 : Arguments := by
  refine (?f : ?x = (hA.args (hA.nth (hA.cls (hA.nth hA.body 26)) 3)) → Arguments) ?h
  case h => conv => rhs; whnf; zeta
  case f => exact fun _ => ?x
@[reducible] noncomputable def hA.b33 : List Stmt := by
  refine (?f : ?x = (hA.fbody (hA.nth (hA.cls (hA.nth hA.body 26)) 3)) → List Stmt) ?h
  case h => conv => rhs; whnf; zeta
  case f => exact fun _ => ?x
@[reducible] noncomputable def hA.s33 : Scope := by
  refine (?f : ?x = (hA.fscope (hA.nth (hA.cls (hA.nth hA.body 26)) 3)) → Scope) ?h
  case h => conv => rhs; whnf; zeta
  case f => exact fun _ => ?x
@[reducible] noncomputable def hA.a34 : Arguments := by
  refine (?f : ?x = (hA.args (hA.nth (hA.cls (hA.nth hA.body 26)) 4)) → Arguments) ?h
  case h => conv => rhs; whnf; zeta
  case f => exact fun _ => ?x
@[reducible] noncomputable def hA.b34 : List Stmt := by
  refine (?f : ?x = (hA.fbody (hA.nth (hA.cls (hA.nth hA.body 26)) 4)) → List Stmt) ?h
  case h => conv => rhs; whnf; zeta
  case f => exact fun _ => ?x
@[reducible] noncomputable def hA.a35 : Arguments := by
  refine (?f : ?x = (hA.args (hA.nth (hA.cls (hA.nth hA.body 26)) 5)) → Arguments) ?h
  case h => conv => rhs; whnf; zeta
  case f => exact fun _ => ?x
@[reducible] noncomputable def hA.b35 : List Stmt := by
  refine (?f : ?x = (hA.fbody (hA.nth (hA.cls (hA.nth hA.body 26)) 5)) → List Stmt) ?h
  case h => conv => rhs; whnf; zeta
  case f => exact fun _ => ?x
@[reducible] noncomputable def hA.s35 : Scope := by
  refine (?f : ?x = (hA.fscope (hA.nth (hA.cls (hA.nth hA.body 26)) 5)) → Scope) ?h
  case h => conv => rhs; whnf; zeta
  case f => exact fun _ => ?x
@[reducible] noncomputable def hA.a36 : Arguments := by
  refine (?f : ?x = (hA.args (hA.nth (hA.cls (hA.nth hA.body 26)) 6)) → Arguments) ?h
  case h => conv => rhs; whnf; zeta
  case f => exact fun _ => ?x
@[reducible] noncomputable def hA.b36 : List Stmt := by
  refine (?f : ?x = (hA.fbody (hA.nth (hA.cls (hA.nth hA.body 26)) 6)) → List Stmt) ?h
  case h => conv => rhs; whnf; zeta
  case f => exact fun _ => ?x
@[reducible] noncomputable def hA.a37 : Arguments := by
  refine (?f : ?x = (hA.args (hA.nth (hA.cls (hA.nth hA.body 26)) 7)) → Arguments) ?h
  case h => conv => rhs; whnf; zeta
  case f => exact fun _ => ?x
@[reducible] noncomputable def hA.b37 : List Stmt := by
  refine (?f : ?x = (hA.fbody (hA.nth (hA.cls (hA.nth hA.body 26)) 7)) → List Stmt) ?h
  case h => conv => rhs; whnf; zeta
  case f => exact fun _ => ?x
@[reducible] noncomputable def hA.s37 : Scope := by
  refine (?f : ?x = (hA.fscope (hA.nth (hA.cls (hA.nth hA.body 26)) 7)) → Scope) ?h
  case h => conv => rhs; whnf; zeta
  case f => exact fun _ => ?x
@[reducible] noncomputable def hA.t27 : Stmt := by
  refine (?f : ?x = (hA.nth hA.body 27) → Stmt) ?h
  case h => conv => rhs; whnf; zeta
  case f => exact fun _ => ?x
@[reducible] noncomputable def hA.t28 : Stmt := by
  refine (?f : ?x = (hA.nth hA.body 28) → Stmt) ?h
  case h => conv => rhs; whnf; zeta
  case f => exact fun _ => ?x
@[reducible] noncomputable def hA.a38 : Arguments := by
  refine (?f : ?x = (hA.args (hA.nth (hA.cls (hA.nth hA.body 28)) 0)) → Arguments) ?h
  case h => conv => rhs; whnf; zeta
  case f => exact fun _ => ?x
@[reducible] noncomputable def hA.b38 : List Stmt := by
  refine (?f : ?x = (hA.fbody (hA.nth (hA.cls (hA.nth hA.body 28)) 0)) → List Stmt) ?h
  case h => conv => rhs; whnf; zeta
  case f => exact fun _ => ?x
@[reducible] noncomputable def hA.a39 : Arguments := by
  refine (?f : ?x = (hA.args (hA.nth (hA.cls (hA.nth hA.body 28)) 1)) → Arguments) ?h
  case h => conv => rhs; whnf; zeta
  case f => exact fun _ => ?x
@[reducible] noncomputable def hA.b39 : List Stmt := by
  refine (?f : ?x = (hA.fbody (hA.nth (hA.cls (hA.nth hA.body 28)) 1)) → List Stmt) ?h
  case h => conv => rhs; whnf; zeta
  case f => exact fun _ => ?x
@[reducible] noncomputable def hA.a40 : Arguments := by
  refine (?f : ?x = (hA.args (hA.nth (hA.cls (hA.nth hA.body 28)) 2)) → Arguments) ?h
  case h => conv => rhs; whnf; zeta
  case f => exact fun _ => ?x
@[reducible] noncomputable def hA.b40 : List Stmt := by
  refine (?f : ?x = (hA.fbody (hA.nth (hA.cls (hA.nth hA.body 28)) 2)) → List Stmt) ?h
  case h => conv => rhs; whnf; zeta
  case f => exact fun _ => ?x
@[reducible] noncomputable def hA.s40 : Scope := by
  refine (?f : ?x = (hA.fscope (hA.nth (hA.cls (hA.nth hA.body 28)) 2)) → Scope) ?h
  case h => conv => rhs; whnf; zeta
  case f => exact fun _ => ?x
@[reducible] noncomputable def hA.t29 : Stmt := by
  refine (?f : ?x = (hA.nth hA.body 29) → Stmt) ?h
  case h => conv => rhs; whnf; zeta
  case f => exact fun _ => ?x
@[reducible] noncomputable def hA.t30 : Stmt := by
  refine (?f : ?x = (hA.nth hA.body 30) → Stmt) ?h
  case h => conv => rhs; whnf; zeta
  case f => exact fun _ => ?x
@[reducible] noncomputable def hA.a41 : Arguments := by
  refine (?f : ?x = (hA.args (hA.nth (hA.cls (hA.nth hA.body 30)) 0)) → Arguments) ?h
  case h => conv => rhs; whnf; zeta
  case f => exact fun _ => ?x
@[reducible] noncomputable def hA.b41 : List Stmt := by
  refine (?f : ?x = (hA.fbody (hA.nth (hA.cls (hA.nth hA.body 30)) 0)) → List Stmt) ?h
  case h => conv => rhs; whnf; zeta
  case f => exact fun _ => ?x
@[reducible] noncomputable def hA.s41 : Scope := by
  refine (?f : ?x = (hA.fscope (hA.nth (hA.cls (hA.nth hA.body 30)) 0)) → Scope) ?h
  case h => conv => rhs; whnf; zeta
  case f => exact fun _ => ?x
@[reducible] noncomputable def hA.a42 : Arguments := by
  refine (?f : ?x = (hA.args (hA.nth (hA.cls (hA.nth hA.body 30)) 1)) → Arguments) ?h
  case h => conv => rhs; whnf; zeta
  case f => exact fun _ => ?x
@[reducible] noncomputable def hA.b42 : List Stmt := by
  refine (?f : ?x = (hA.fbody (hA.nth (hA.cls (hA.nth hA.body 30)) 1)) → List Stmt) ?h
  case h => conv => rhs; whnf; zeta
  case f => exact fun _ => ?x
@[reducible] noncomputable def hA.a43 : Arguments := by
  refine (?f : ?x = (hA.args (hA.nth (hA.cls (hA.nth hA.body 30)) 2)) → Arguments) ?h
  case h => conv => rhs; whnf; zeta
  case f => exact fun _ => ?x
@[reducible] noncomputable def hA.b43 : List Stmt := by
  refine (?f : ?x = (hA.fbody (hA.nth (hA.cls (hA.nth hA.body 30)) 2)) → List Stmt) ?h
  case h => conv => rhs; whnf; zeta
  case f => exact fun _ => ?x
@[reducible] noncomputable def hA.a44 : Arguments := by
  refine (?f : ?x = (hA.args (hA.nth (hA.cls (hA.nth hA.body 30)) 3)) → Arguments) ?h
  case h => conv => rhs; whnf; zeta
  case f => exact fun _ => ?x
@[reducible] noncomputable def hA.b44 : List Stmt := by
  refine (?f : ?x = (hA.fbody (hA.nth (hA.cls (hA.nth hA.body 30)) 3)) → List Stmt) ?h
  case h => conv => rhs; whnf; zeta
  case f => exact fun _ => ?x
@[reducible] noncomputable def hA.a45 : Arguments := by
  refine (?f : ?x = (hA.args (hA.nth (hA.cls (hA.nth hA.body 30)) 4)) → Arguments) ?h
  case h => conv => rhs; whnf; zeta
  case f => exact fun _ => ?x
@[reducible] noncomputable def hA.b45 : List Stmt := by
  refine (?f : ?x = (hA.fbody (hA.nth (hA.cls (hA.nth hA.body 30)) 4)) → List Stmt) ?h
  case h => conv => rhs; whnf; zeta
  case f => exact fun _ => ?x
@[reducible] noncomputable def hA.a46 : Arguments := by
  refine (?f : ?x = (hA.args (hA.nth (hA.cls (hA.nth hA.body 30)) 5)) → Arguments) ?h
  case h => conv => rhs; whnf; zeta
  case f => exact fun _ => ?x
@[reducible] noncomputable def hA.b46 : List Stmt := by
  refine (?f : ?x = (hA.fbody (hA.nth (hA.cls (hA.nth hA.body 30)) 5)) → List Stmt) ?h
  case h => conv => rhs; whnf; zeta
  case f => exact fun _ => ?x
@[reducible] noncomputable def hA.a47 : Arguments := by
  refine (?f : ?x = (hA.args (hA.nth (hA.cls (hA.nth hA.body 30)) 6)) → Arguments) ?h
  case h => conv => rhs; whnf; zeta
  case f => exact fun _ => ?x
@[reducible] noncomputable def hA.b47 : List Stmt := by
  refine (?f : ?x = (hA.fbody (hA.nth (hA.cls (hA.nth hA.body 30)) 6)) → List Stmt) ?h
  case h => conv => rhs; whnf; zeta
  case f => exact fun _ => ?x
@[reducible] noncomputable def hA.s47 : Scope := by
  refine (?f : ?x = (hA.fscope (hA.nth (hA.cls (hA.nth hA.body 30)) 6)) → Scope) ?h
  case h => conv => rhs; whnf; zeta
  case f => exact fun _ => ?x
@[reducible] noncomputable def hA.a48 : Arguments := by
  refine (?f : ?x = (hA.args (hA.nth (hA.cls (hA.nth hA.body 30)) 7)) → Arguments) ?h
  case h => conv => rhs; whnf; zeta
  case f => exact fun _ => ?x
@[reducible] noncomputable def hA.b48 : List Stmt := by
  refine (?f : ?x = (hA.fbody (hA.nth (hA.cls (hA.nth hA.body 30)) 7)) → List Stmt) ?h
  case h => conv => rhs; whnf; zeta
  case f => exact fun _ => ?x
@[reducible] noncomputable def hA.s48 : Scope := by
  refine (?f : ?x = (hA.fscope (hA.nth (hA.cls (hA.nth hA.body 30)) 7)) → Scope) ?h
  case h => conv => rhs; whnf; zeta
  case f => exact fun _ => ?x
@[reducible] noncomputable def hA.a49 : Arguments := by
  refine (?f : ?x = (hA.args (hA.nth (hA.cls (hA.nth hA.body 30)) 8)) → Arguments) ?h
  case h => conv => rhs; whnf; zeta
  case f => exact fun _ => ?x
@[reducible] noncomputable def hA.b49 : List Stmt := by
  refine (?f : ?x = (hA.fbody (hA.nth (hA.cls (hA.nth hA.body 30)) 8)) → List Stmt) ?h
  case h => conv => rhs; whnf; zeta
  case f => exact fun _ => ?x
@[reducible] noncomputable def hA.s49 : Scope := by
  refine (?f : ?x = (hA.fscope (hA.nth (hA.cls (hA.nth hA.body 30)) 8)) → Scope) ?h
  case h => conv => rhs; whnf; zeta
  case f => exact fun _ => ?x
@[reducible] noncomputable def hA.a50 : Arguments := by
  refine (?f : ?x = (hA.args (hA.nth (hA.cls (hA.nth hA.body 30)) 9)) → Arguments) ?h
  case h => conv => rhs; whnf; zeta
  case f => exact fun _ => ?x
@[reducible] noncomputable def hA.b50 : List Stmt := by
  refine (?f : ?x = (hA.fbody (hA.nth (hA.cls (hA.nth hA.body 30)) 9)) → List Stmt) ?h
  case h => conv => rhs; whnf; zeta
  case f => exact fun _ => ?x
@[reducible] noncomputable def hA.a51 : Arguments := by
  refine (?f : ?x = (hA.args (hA.nth (hA.cls (hA.nth hA.body 30)) 10)) → Arguments) ?h
  case h => conv => rhs; whnf; zeta
  case f => exact fun _ => ?x
@[reducible] noncomputable def hA.b51 : List Stmt := by
  refine (?f : ?x = (hA.fbody (hA.nth (hA.cls (hA.nth hA.body 30)) 10)) → List Stmt) ?h
  case h => conv => rhs; whnf; zeta
  case f => exact fun _ => ?x
@[reducible] noncomputable def hA.a52 : Arguments := by
  refine (?f : ?x = (hA.args (hA.nth (hA.cls (hA.nth hA.body 30)) 11)) → Arguments) ?h
  case h => conv => rhs; whnf; zeta
  case f => exact fun _ => ?x
@[reducible] noncomputable def hA.b52 : List Stmt := by
  refine (?f : ?x = (hA.fbody (hA.nth (hA.cls (hA.nth hA.body 30)) 11)) → List Stmt) ?h
  case h => conv => rhs; whnf; zeta
  case f => exact fun _ => ?x
@[reducible] noncomputable def hA.s52 : Scope := by
  refine (?f : ?x = (hA.fscope (hA.nth (hA.cls (hA.nth hA.body 30)) 11)) → Scope) ?h
  case h => conv => rhs; whnf; zeta
  case f => exact fun _ => ?x
@[reducible] noncomputable def hA.a53 : Arguments := by
  refine (?f : ?x = (hA.args (hA.nth (hA.cls (hA.nth hA.body 30)) 12)) → Arguments) ?h
  case h => conv => rhs; whnf; zeta
  case f => exact fun _ => ?x
@[reducible] noncomputable def hA.b53 : List Stmt := by
  refine (?f : ?x = (hA.fbody (hA.nth (hA.cls (hA.nth hA.body 30)) 12)) → List Stmt) ?h
  case h => conv => rhs; whnf; zeta
  case f => exact fun _ => ?x
@[reducible] noncomputable def hA.s53 : Scope := by
  refine (?f : ?x = (hA.fscope (hA.nth (hA.cls (hA.nth hA.body 30)) 12)) → Scope) ?h
  case h => conv => rhs; whnf; zeta
  case f => exact fun _ => ?x
@[reducible] noncomputable def hA.t31 : Stmt := by
  refine (?f : ?x = (hA.nth hA.body 31) → Stmt) ?h
  case h => conv => rhs; whnf; zeta
  case f => exact fun _ => ?x
@[reducible] noncomputable def hA.t32 : Stmt := by
  refine (?f : ?x = (hA.nth hA.body 32) → Stmt) ?h
  case h => conv => rhs; whnf; zeta
  case f => exact fun _ => ?x
@[reducible] noncomputable def hA.a54 : Arguments := by
  refine (?f : ?x = (hA.args (hA.nth hA.body 32)) → Arguments) ?h
  case h => conv => rhs; whnf; zeta
  case f => exact fun _ => ?x
@[reducible] noncomputable def hA.b54 : List Stmt := by
  refine (?f : ?x = (hA.fbody (hA.nth hA.body 32)) → List Stmt) ?h
  case h => conv => rhs; whnf; zeta
  case f => exact fun _ => ?x
@[reducible] noncomputable def hA.t33 : Stmt := by
  refine (?f : ?x = (hA.nth hA.body 33) → Stmt) ?h
  case h => conv => rhs; whnf; zeta
  case f => exact fun _ => ?x
@[reducible] noncomputable def hA.t34 : Stmt := by
  refine (?f : ?x = (hA.nth hA.body 34) → Stmt) ?h
  case h => conv => rhs; whnf; zeta
  case f => exact fun _ => ?x
@[reducible] noncomputable def hA.a55 : Arguments := by
  refine (?f : ?x = (hA.args (hA.nth hA.body 34)) → Arguments) ?h
  case h => conv => rhs; whnf; zeta
  case f => exact fun _ => ?x
@[reducible] noncomputable def hA.b55 : List Stmt := by
  refine (?f : ?x = (hA.fbody (hA.nth hA.body 34)) → List Stmt) ?h
  case h => conv => rhs; whnf; zeta
  case f => exact fun _ => ?x
@[reducible] noncomputable def hA.s55 : Scope := by
  refine (?f : ?x = (hA.fscope (hA.nth hA.body 34)) → Scope) ?h
  case h => conv => rhs; whnf; zeta
  case f => exact fun _ => ?x
@[reducible] noncomputable def hA.t35 : Stmt := by
  refine (?f : ?x = (hA.nth hA.body 35) → Stmt) ?h
  case h => conv => rhs; whnf; zeta
  case f => exact fun _ => ?x
@[reducible] noncomputable def hA.a56 : Arguments := by
  refine (?f : ?x = (hA.args (hA.nth hA.body 35)) → Arguments) ?h
  case h => conv => rhs; whnf; zeta
  case f => exact fun _ => ?x
@[reducible] noncomputable def hA.b56 : List Stmt := by
  refine (?f : ?x = (hA.fbody (hA.nth hA.body 35)) → List Stmt) ?h
  case h => conv => rhs; whnf; zeta
  case f => exact fun _ => ?x
@[reducible] noncomputable def hA.s56 : Scope := by
  refine (?f : ?x = (hA.fscope (hA.nth hA.body 35)) → Scope) ?h
  case h => conv => rhs; whnf; zeta
  case f => exact fun _ => ?x
@[reducible] noncomputable def hA.t36 : Stmt := by
  refine (?f : ?x = (hA.nth hA.body 36) → Stmt) ?h
  case h => conv => rhs; whnf; zeta
  case f => exact fun _ => ?x
@[reducible] noncomputable def hA.a57 : Arguments := by
  refine (?f : ?x = (hA.args (hA.nth hA.body 36)) → Arguments) ?h
  case h => conv => rhs; whnf; zeta
  case f => exact fun _ => ?x
@[reducible] noncomputable def hA.b57 : List Stmt := by
  refine (?f : ?x = (hA.fbody (hA.nth hA.body 36)) → List Stmt) ?h
  case h => conv => rhs; whnf; zeta
  case f => exact fun _ => ?x
@[reducible] noncomputable def hA.s57 : Scope := by
  refine (?f : ?x = (hA.fscope (hA.nth hA.body 36)) → Scope) ?h
  case h => conv => rhs; whnf; zeta
  case f => exact fun _ => ?x
@[reducible] noncomputable def hA.t37 : Stmt := by
  refine (?f : ?x = (hA.nth hA.body 37) → Stmt) ?h
  case h => conv => rhs; whnf; zeta
  case f => exact fun _ => ?x
@[reducible] noncomputable def hA.a58 : Arguments := by
  refine (?f : ?x = (hA.args (hA.nth hA.body 37)) → Arguments) ?h
  case h => conv => rhs; whnf; zeta
  case f => exact fun _ => ?x
@[reducible] noncomputable def hA.b58 : List Stmt := by
  refine (?f : ?x = (hA.fbody (hA.nth hA.body 37)) → List Stmt) ?h
  case h => conv => rhs; whnf; zeta
  case f => exact fun _ => ?x
@[reducible] noncomputable def hA.s58 : Scope := by
  refine (?f : ?x = (hA.fscope (hA.nth hA.body 37)) → Scope) ?h
  case h => conv => rhs; whnf; zeta
  case f => exact fun _ => ?x
@[reducible] noncomputable def hA.t38 : Stmt := by
  refine (?f : ?x = (hA.nth hA.body 38) → Stmt) ?h
  case h => conv => rhs; whnf; zeta
  case f => exact fun _ => ?x
@[reducible] noncomputable def hA.a59 : Arguments := by
  refine (?f : ?x = (hA.args (hA.nth hA.body 38)) → Arguments) ?h
  case h => conv => rhs; whnf; zeta
  case f => exact fun _ => ?x
@[reducible] noncomputable def hA.b59 : List Stmt := by
  refine (?f : ?x = (hA.fbody (hA.nth hA.body 38)) → List Stmt) ?h
  case h => conv => rhs; whnf; zeta
  case f => exact fun _ => ?x
@[reducible] noncomputable def hA.s59 : Scope := by
  refine (?f : ?x = (hA.fscope (hA.nth hA.body 38)) → Scope) ?h
  case h => conv => rhs; whnf; zeta
  case f => exact fun _ => ?x
@[reducible] noncomputable def hA.t39 : Stmt := by
  refine (?f : ?x = (hA.nth hA.body 39) → Stmt) ?h
  case h => conv => rhs; whnf; zeta
  case f => exact fun _ => ?x
@[reducible] noncomputable def hA.a60 : Arguments := by
  refine (?f : ?x = (hA.args (hA.nth hA.body 39)) → Arguments) ?h
  case h => conv => rhs; whnf; zeta
  case f => exact fun _ => ?x
@[reducible] noncomputable def hA.b60 : List Stmt := by
  refine (?f : ?x = (hA.fbody (hA.nth hA.body 39)) → List Stmt) ?h
  case h => conv => rhs; whnf; zeta
  case f => exact fun _ => ?x
@[reducible] noncomputable def hA.s60 : Scope := by
  refine (?f : ?x = (hA.fscope (hA.nth hA.body 39)) → Scope) ?h
  case h => conv => rhs; whnf; zeta
  case f => exact fun _ => ?x
@[reducible] noncomputable def hA.t40 : Stmt := by
  refine (?f : ?x = (hA.nth hA.body 40) → Stmt) ?h
  case h => conv => rhs; whnf; zeta
  case f => exact fun _ => ?x
@[reducible] noncomputable def hA.a61 : Arguments := by
  refine (?f : ?x = (hA.args (hA.nth hA.body 40)) → Arguments) ?h
  case h => conv => rhs; whnf; zeta
  case f => exact fun _ => ?x
@[reducible] noncomputable def hA.b61 : List Stmt := by
  refine (?f : ?x = (hA.fbody (hA.nth hA.body 40)) → List Stmt) ?h
  case h => conv => rhs; whnf; zeta
  case f => exact fun _ => ?x
@[reducible] noncomputable def hA.s61 : Scope := by
  refine (?f : ?x = (hA.fscope (hA.nth hA.body 40)) → Scope) ?h
  case h => conv => rhs; whnf; zeta
  case f => exact fun _ => ?x
noncomputable def hd.o_43 : Params → Obj := (fun P => ⟨(.type "tuple"), none, (.seq #[] 0), #[]⟩)
noncomputable def hd.o_44 : Params → Obj := (fun P => ⟨.none, none, (.fields #[]), #[]⟩)
noncomputable def hd.o_45 : Params → Obj := (fun P => ⟨(.type "code"), none, (.fields #[(.str (.ofString "<module>") 182), (.str (.ofString "<module>") 183), (.str (.ofString "/claim/cut.py") 184), (.int 1 0), (.int 0 0), (.int 0 0), (.int 0 0), (.int 0 0), (.ref 11), (.bool false), (.int 181 0), (.ref 12), .none, .none, .none, .none, (.int 185 0), (.int 1 0), (.str (.ofString "/claim/cut.py") 186)]), #[]⟩)
noncomputable def hd.o_46 : Params → Obj := (fun P => ⟨(.type "frame"), none, .plain, #[(some (.ref 13)), (some (.ref 3)), (some (.ref 3)), none, (some (.str (.ofString "__main__") 164)), none, (some (.ref 0))]⟩)
noncomputable def hd.o_49 : Params → Obj := (fun P => ⟨.none, none, (.dict #[⟨(PyData.keyHash P (.ofString "type.__subclasses__.Exception.0")), (.str (.ofString "type.__subclasses__.Exception.0") 223), (.int 38 0)⟩, ⟨(PyData.keyHash P (.ofString "type.__subclasses__.Exception.n")), (.str (.ofString "type.__subclasses__.Exception.n") 224), (.int 1 0)⟩] 2), #[]⟩)
noncomputable def hd.o_50 : Params → Obj := (fun P => ⟨(.type "dict"), none, (.dict #[⟨(PyData.keyHash P (.ofString "__name__")), (.str (.ofString "__name__") 165), (.str (.ofString "emacs.editing") 227)⟩, ⟨(PyData.keyHash P (.ofString "__doc__")), (.str (.ofString "__doc__") 166), .none⟩, ⟨(PyData.keyHash P (.ofString "__package__")), (.str (.ofString "__package__") 167), .none⟩, ⟨(PyData.keyHash P (.ofString "__loader__")), (.str (.ofString "__loader__") 168), (.builtin "__main__.__loader__#opaque")⟩, ⟨(PyData.keyHash P (.ofString "__spec__")), (.str (.ofString "__spec__") 169), .none⟩, ⟨(PyData.keyHash P (.ofString "__annotations__")), (.str (.ofString "__annotations__") 170), (.ref 6)⟩, ⟨(PyData.keyHash P (.ofString "__builtins__")), (.str (.ofString "__builtins__") 171), (.ref 4)⟩, ⟨(PyData.keyHash P (.ofString "__file__")), (.str (.ofString "__file__") 173), (.str (.ofString "/claim/cut.py") 172)⟩, ⟨(PyData.keyHash P (.ofString "__cached__")), (.str (.ofString "__cached__") 174), .none⟩, ⟨(PyData.keyHash P (.ofString "_wall")), (.str (.ofString "_wall") 193), (.ref 21)⟩, ⟨(PyData.keyHash P (.ofString "LispSignal")), (.str (.ofString "LispSignal") 226), (.ref 38)⟩, ⟨(PyData.keyHash P (.ofString "need_writable")), (.str (.ofString "need_writable") 235), (.ref 48)⟩, ⟨(PyData.keyHash P (.ofString "reached")), (.str (.ofString "reached") 246), (.ref 55)⟩, ⟨(PyData.keyHash P (.ofString "tell_ahead")), (.str (.ofString "tell_ahead") 256), (.ref 62)⟩] 14), #[]⟩)
noncomputable def hd.o_51 : Params → Obj := (fun P => ⟨.none, none, (.fields #[(.int 1 0), (.int 0 0), (.ref 20), (.int 5 0), (.int 0 0), (.ref 27), (.int 11 0), (.int 0 0), (.ref 47), (.int 14 0), (.int 0 0), (.ref 54), (.int 19 0), (.int 0 0), (.ref 61)]), #[]⟩)
noncomputable def hd.o_52 : Params → Obj := (fun P => ⟨(.type "tuple"), none, (.seq #[] 0), #[]⟩)
noncomputable def hd.o_53 : Params → Obj := (fun P => ⟨.none, none, (.fields #[]), #[]⟩)
noncomputable def hd.o_54 : Params → Obj := (fun P => ⟨(.type "tuple"), none, (.seq #[(.str (.ofString "k") 190)] 0), #[]⟩)
noncomputable def hd.o_55 : Params → Obj := (fun P => ⟨(.type "tuple"), none, (.seq #[] 0), #[]⟩)
noncomputable def hd.o_56 : Params → Obj := (fun P => ⟨.none, none, (.func ⟨(.ofString "_wall"), (.ofString "_wall"), hA.a0, (.stmts hA.b0), hA.s0, 0, [], .none, .none, .none, .none, none, .none, .none, 0⟩), #[]⟩)
noncomputable def hd.o_57 : Params → Obj := (fun P => ⟨(.type "code"), none, (.fields #[(.str (.ofString "_wall") 187), (.str (.ofString "_wall") 188), (.str (.ofString "/claim/cut.py") 189), (.int 1 0), (.int 1 0), (.int 0 0), (.int 0 0), (.int 3 0), (.ref 15), (.bool true), (.int 181 0), (.ref 16), .none, (.ref 17), (.ref 18), (.ref 19), (.int 191 0), (.int 1 0), (.str (.ofString "/claim/cut.py") 192)]), #[]⟩)
noncomputable def hd.o_58 : Params → Obj := (fun P => ⟨(.type "function"), none, (.func ⟨(.ofString "_wall"), (.ofString "_wall"), hA.a0, (.stmts hA.b0), hA.s0, 3, [], .none, .none, .none, (.str (.ofString "__main__") 164), none, (.ref 20), .none, 0⟩), #[]⟩)
noncomputable def hd.o_59 : Params → Obj := (fun P => ⟨(.type "tuple"), none, (.seq #[(.type "Exception")] 0), #[]⟩)
noncomputable def hd.o_60 : Params → Obj := (fun P => ⟨(.type "builtin_function_or_method"), none, (.fields #[(.builtin "type.__prepare__"), (.type "type")]), #[]⟩)
noncomputable def hd.o_61 : Params → Obj := (fun P => ⟨(.type "dict"), none, (.dict #[⟨(PyData.keyHash P (.ofString "__module__")), (.str (.ofString "__module__") 203), (.str (.ofString "emacs.errors") 194)⟩, ⟨(PyData.keyHash P (.ofString "__qualname__")), (.str (.ofString "__qualname__") 205), (.str (.ofString "LispSignal") 204)⟩, ⟨(PyData.keyHash P (.ofString "__firstlineno__")), (.str (.ofString "__firstlineno__") 207), (.int 5 206)⟩, ⟨(PyData.keyHash P (.ofString "__init__")), (.str (.ofString "__init__") 216), (.ref 35)⟩, ⟨(PyData.keyHash P (.ofString "__static_attributes__")), (.str (.ofString "__static_attributes__") 219), (.ref 36)⟩] 5), #[]⟩)
noncomputable def hd.o_62 : Params → Obj := (fun P => ⟨(.type "tuple"), none, (.seq #[] 0), #[]⟩)
noncomputable def hd.o_63 : Params → Obj := (fun P => ⟨.none, none, (.fields #[(.int 7 0), (.int 4 0), (.ref 34)]), #[]⟩)
noncomputable def hd.o_64 : Params → Obj := (fun P => ⟨(.type "code"), none, (.fields #[(.str (.ofString "LispSignal") 198), (.str (.ofString "LispSignal") 199), (.str (.ofString "/claim/cut.py") 200), (.int 5 0), (.int 0 0), (.int 0 0), (.int 0 0), (.int 0 0), (.ref 25), (.bool false), (.int 181 0), (.ref 26), .none, .none, .none, .none, (.int 201 0), (.int 5 0), (.str (.ofString "/claim/cut.py") 202)]), #[]⟩)
noncomputable def hd.o_65 : Params → Obj := (fun P => ⟨(.type "frame"), none, .plain, #[(some (.ref 27)), (some (.ref 3)), (some (.ref 24)), none, (some (.str (.ofString "emacs.errors") 194)), none, (some (.ref 0))]⟩)
noncomputable def hd.o_66 : Params → Obj := (fun P => ⟨(.type "tuple"), none, (.seq #[] 0), #[]⟩)
noncomputable def hd.o_67 : Params → Obj := (fun P => ⟨.none, none, (.fields #[]), #[]⟩)
noncomputable def hd.o_68 : Params → Obj := (fun P => ⟨(.type "tuple"), none, (.seq #[(.str (.ofString "self") 211), (.str (.ofString "symbol") 212), (.str (.ofString "data") 213)] 0), #[]⟩)
noncomputable def hd.o_69 : Params → Obj := (fun P => ⟨(.type "tuple"), none, (.seq #[] 0), #[]⟩)
noncomputable def hd.o_70 : Params → Obj := (fun P => ⟨.none, none, (.func ⟨(.ofString "__init__"), (.ofString "LispSignal.__init__"), hA.a1, (.stmts hA.b1), hA.s1, 0, [], .none, .none, .none, .none, none, .none, .none, 0⟩), #[]⟩)
noncomputable def hd.o_71 : Params → Obj := (fun P => ⟨(.type "code"), none, (.fields #[(.str (.ofString "__init__") 208), (.str (.ofString "LispSignal.__init__") 209), (.str (.ofString "/claim/cut.py") 210), (.int 7 0), (.int 3 0), (.int 0 0), (.int 0 0), (.int 3 0), (.ref 29), (.bool true), (.int 181 0), (.ref 30), .none, (.ref 31), (.ref 32), (.ref 33), (.int 214 0), (.int 7 0), (.str (.ofString "/claim/cut.py") 215)]), #[]⟩)
noncomputable def hd.o_72 : Params → Obj := (fun P => ⟨(.type "function"), none, (.func ⟨(.ofString "__init__"), (.ofString "LispSignal.__init__"), hA.a1, (.stmts hA.b1), hA.s1, 3, [], .none, .none, .none, (.str (.ofString "emacs.errors") 194), none, (.ref 34), .none, 0⟩), #[]⟩)
noncomputable def hd.o_73 : Params → Obj := (fun P => ⟨(.type "tuple"), none, (.seq #[(.str (.ofString "data") 217), (.str (.ofString "symbol") 218)] 0), #[]⟩)
noncomputable def hd.o_74 : Params → Obj := (fun P => ⟨(.type "dict"), none, (.dict #[⟨(PyData.keyHash P (.ofString "__module__")), (.str (.ofString "__module__") 203), (.str (.ofString "emacs.errors") 194)⟩, ⟨(PyData.keyHash P (.ofString "__firstlineno__")), (.str (.ofString "__firstlineno__") 207), (.int 5 206)⟩, ⟨(PyData.keyHash P (.ofString "__init__")), (.str (.ofString "__init__") 216), (.ref 35)⟩, ⟨(PyData.keyHash P (.ofString "__static_attributes__")), (.str (.ofString "__static_attributes__") 219), (.ref 36)⟩, ⟨(PyData.keyHash P (.ofString "__weakref__")), (.str (.ofString "__weakref__") 221), (.ref 39)⟩, ⟨(PyData.keyHash P (.ofString "__doc__")), (.str (.ofString "__doc__") 222), .none⟩] 3), #[]⟩)
noncomputable def hd.o_75 : Params → Obj := (fun P => ⟨(.type "type"), none, (.cls ⟨(.ofString "LispSignal"), [(.type "Exception")], [(.ref 38), (.type "Exception"), (.type "BaseException"), (.type "object")], 37, (.ofString "LispSignal"), true, [], [], false, none, false⟩), #[(some (.ref 22)), none, (some (.str (.ofString "LispSignal") 196)), (some (.str (.ofString "LispSignal") 204)), (some (.builtin "Exception.__new__")), (some (.bool true))]⟩)
noncomputable def hd.o_76 : Params → Obj := (fun P => ⟨(.type "getset_descriptor"), none, (.fields #[(.str (.ofString "__weakref__") 220), (.ref 38), (.builtin "ExceptionGroup.__weakref__"), .none]), #[]⟩)
noncomputable def hd.o_77 : Params → Obj := (fun P => ⟨(.type "super"), none, (.fields #[(.ref 38), (.ref 38), (.ref 38)]), #[]⟩)
noncomputable def hd.o_78 : Params → Obj := (fun P => ⟨(.type "builtin_function_or_method"), none, (.fields #[(.builtin "object.__init_subclass__"), (.ref 38)]), #[]⟩)
noncomputable def hd.o_79 : Params → Obj := (fun P => ⟨(.type "tuple"), none, (.seq #[] 0), #[]⟩)
noncomputable def hd.o_80 : Params → Obj := (fun P => ⟨.none, none, (.fields #[]), #[]⟩)
noncomputable def hd.o_81 : Params → Obj := (fun P => ⟨(.type "tuple"), none, (.seq #[(.str (.ofString "buffer") 232)] 0), #[]⟩)
noncomputable def hd.o_82 : Params → Obj := (fun P => ⟨(.type "tuple"), none, (.seq #[] 0), #[]⟩)
noncomputable def hd.o_83 : Params → Obj := (fun P => ⟨.none, none, (.func ⟨(.ofString "need_writable"), (.ofString "need_writable"), hA.a2, (.stmts hA.b2), hA.s2, 0, [], .none, .none, .none, .none, none, .none, .none, 0⟩), #[]⟩)
noncomputable def hd.o_84 : Params → Obj := (fun P => ⟨(.type "code"), none, (.fields #[(.str (.ofString "need_writable") 229), (.str (.ofString "need_writable") 230), (.str (.ofString "/claim/cut.py") 231), (.int 11 0), (.int 1 0), (.int 0 0), (.int 0 0), (.int 3 0), (.ref 42), (.bool true), (.int 181 0), (.ref 43), .none, (.ref 44), (.ref 45), (.ref 46), (.int 233 0), (.int 11 0), (.str (.ofString "/claim/cut.py") 234)]), #[]⟩)
noncomputable def hd.o_85 : Params → Obj := (fun P => ⟨(.type "function"), none, (.func ⟨(.ofString "need_writable"), (.ofString "need_writable"), hA.a2, (.stmts hA.b2), hA.s2, 3, [], .none, .none, .none, (.str (.ofString "emacs.editing") 227), none, (.ref 47), .none, 0⟩), #[]⟩)
noncomputable def hd.o_86 : Params → Obj := (fun P => ⟨(.type "tuple"), none, (.seq #[] 0), #[]⟩)
noncomputable def hd.o_87 : Params → Obj := (fun P => ⟨.none, none, (.fields #[]), #[]⟩)
noncomputable def hd.o_88 : Params → Obj := (fun P => ⟨(.type "tuple"), none, (.seq #[(.str (.ofString "buffer") 239), (.str (.ofString "start") 240), (.str (.ofString "end") 241), (.str (.ofString "low") 242), (.str (.ofString "high") 243)] 0), #[]⟩)
noncomputable def hd.o_89 : Params → Obj := (fun P => ⟨(.type "tuple"), none, (.seq #[] 0), #[]⟩)
noncomputable def hd.o_90 : Params → Obj := (fun P => ⟨.none, none, (.func ⟨(.ofString "reached"), (.ofString "reached"), hA.a3, (.stmts hA.b3), hA.s3, 0, [], .none, .none, .none, .none, none, .none, .none, 0⟩), #[]⟩)
noncomputable def hd.o_91 : Params → Obj := (fun P => ⟨(.type "code"), none, (.fields #[(.str (.ofString "reached") 236), (.str (.ofString "reached") 237), (.str (.ofString "/claim/cut.py") 238), (.int 14 0), (.int 3 0), (.int 0 0), (.int 0 0), (.int 3 0), (.ref 49), (.bool true), (.int 181 0), (.ref 50), .none, (.ref 51), (.ref 52), (.ref 53), (.int 244 0), (.int 14 0), (.str (.ofString "/claim/cut.py") 245)]), #[]⟩)
noncomputable def hd.o_92 : Params → Obj := (fun P => ⟨(.type "function"), none, (.func ⟨(.ofString "reached"), (.ofString "reached"), hA.a3, (.stmts hA.b3), hA.s3, 3, [], .none, .none, .none, (.str (.ofString "emacs.editing") 227), none, (.ref 54), .none, 0⟩), #[]⟩)
noncomputable def hd.o_93 : Params → Obj := (fun P => ⟨(.type "tuple"), none, (.seq #[] 0), #[]⟩)
noncomputable def hd.o_94 : Params → Obj := (fun P => ⟨.none, none, (.fields #[]), #[]⟩)
noncomputable def hd.o_95 : Params → Obj := (fun P => ⟨(.type "tuple"), none, (.seq #[(.str (.ofString "buffer") 250), (.str (.ofString "start") 251), (.str (.ofString "end") 252), (.str (.ofString "listener") 253)] 0), #[]⟩)
noncomputable def hd.o_96 : Params → Obj := (fun P => ⟨(.type "tuple"), none, (.seq #[] 0), #[]⟩)
noncomputable def hd.o_97 : Params → Obj := (fun P => ⟨.none, none, (.func ⟨(.ofString "tell_ahead"), (.ofString "tell_ahead"), hA.a4, (.stmts hA.b4), hA.s4, 0, [], .none, .none, .none, .none, none, .none, .none, 0⟩), #[]⟩)
noncomputable def hd.o_98 : Params → Obj := (fun P => ⟨(.type "code"), none, (.fields #[(.str (.ofString "tell_ahead") 247), (.str (.ofString "tell_ahead") 248), (.str (.ofString "/claim/cut.py") 249), (.int 19 0), (.int 3 0), (.int 0 0), (.int 0 0), (.int 3 0), (.ref 56), (.bool true), (.int 181 0), (.ref 57), .none, (.ref 58), (.ref 59), (.ref 60), (.int 254 0), (.int 19 0), (.str (.ofString "/claim/cut.py") 255)]), #[]⟩)
noncomputable def hd.o_99 : Params → Obj := (fun P => ⟨(.type "function"), none, (.func ⟨(.ofString "tell_ahead"), (.ofString "tell_ahead"), hA.a4, (.stmts hA.b4), hA.s4, 3, [], .none, .none, .none, (.str (.ofString "emacs.editing") 227), none, (.ref 61), .none, 0⟩), #[]⟩)
noncomputable def hd.o_100 : Params → Obj := (fun P => ⟨(.type "dict"), none, (.dict #[⟨(PyData.keyHash P (.ofString "__name__")), (.str (.ofString "__name__") 165), (.str (.ofString "emacs.positions") 308)⟩, ⟨(PyData.keyHash P (.ofString "__doc__")), (.str (.ofString "__doc__") 166), .none⟩, ⟨(PyData.keyHash P (.ofString "__package__")), (.str (.ofString "__package__") 167), .none⟩, ⟨(PyData.keyHash P (.ofString "__loader__")), (.str (.ofString "__loader__") 168), (.builtin "__main__.__loader__#opaque")⟩, ⟨(PyData.keyHash P (.ofString "__spec__")), (.str (.ofString "__spec__") 169), .none⟩, ⟨(PyData.keyHash P (.ofString "__annotations__")), (.str (.ofString "__annotations__") 170), (.ref 6)⟩, ⟨(PyData.keyHash P (.ofString "__builtins__")), (.str (.ofString "__builtins__") 171), (.ref 4)⟩, ⟨(PyData.keyHash P (.ofString "__file__")), (.str (.ofString "__file__") 173), (.str (.ofString "/claim/cut.py") 172)⟩, ⟨(PyData.keyHash P (.ofString "__cached__")), (.str (.ofString "__cached__") 174), .none⟩, ⟨(PyData.keyHash P (.ofString "_wall")), (.str (.ofString "_wall") 193), (.ref 21)⟩, ⟨(PyData.keyHash P (.ofString "LispSignal")), (.str (.ofString "LispSignal") 226), (.ref 38)⟩, ⟨(PyData.keyHash P (.ofString "need_writable")), (.str (.ofString "need_writable") 235), (.ref 48)⟩, ⟨(PyData.keyHash P (.ofString "reached")), (.str (.ofString "reached") 246), (.ref 55)⟩, ⟨(PyData.keyHash P (.ofString "tell_ahead")), (.str (.ofString "tell_ahead") 256), (.ref 62)⟩, ⟨(PyData.keyHash P (.ofString "tell_behind")), (.str (.ofString "tell_behind") 267), (.ref 69)⟩, ⟨(PyData.keyHash P (.ofString "text_in")), (.str (.ofString "text_in") 276), (.ref 76)⟩, ⟨(PyData.keyHash P (.ofString "hung_in")), (.str (.ofString "hung_in") 286), (.ref 83)⟩, ⟨(PyData.keyHash P (.ofString "put_in")), (.str (.ofString "put_in") 297), (.ref 90)⟩, ⟨(PyData.keyHash P (.ofString "insert_at")), (.str (.ofString "insert_at") 307), (.ref 98)⟩, ⟨(PyData.keyHash P (.ofString "NEWLINE")), (.str (.ofString "NEWLINE") 311), (.int 10 310)⟩, ⟨(PyData.keyHash P (.ofString "char_after")), (.str (.ofString "char_after") 319), (.ref 105)⟩, ⟨(PyData.keyHash P (.ofString "char_before")), (.str (.ofString "char_before") 327), (.ref 112)⟩, ⟨(PyData.keyHash P (.ofString "is_bob")), (.str (.ofString "is_bob") 334), (.ref 119)⟩, ⟨(PyData.keyHash P (.ofString "is_eob")), (.str (.ofString "is_eob") 341), (.ref 126)⟩, ⟨(PyData.keyHash P (.ofString "is_bol")), (.str (.ofString "is_bol") 348), (.ref 133)⟩, ⟨(PyData.keyHash P (.ofString "is_eol")), (.str (.ofString "is_eol") 355), (.ref 140)⟩, ⟨(PyData.keyHash P (.ofString "substring")), (.str (.ofString "substring") 366), (.ref 147)⟩] 27), #[]⟩)
noncomputable def hd.o_101 : Params → Obj := (fun P => ⟨.none, none, (.fields #[(.int 1 0), (.int 0 0), (.ref 20), (.int 5 0), (.int 0 0), (.ref 27), (.int 11 0), (.int 0 0), (.ref 47), (.int 14 0), (.int 0 0), (.ref 54), (.int 19 0), (.int 0 0), (.ref 61), (.int 22 0), (.int 0 0), (.ref 68), (.int 26 0), (.int 0 0), (.ref 75), (.int 33 0), (.int 0 0), (.ref 82), (.int 38 0), (.int 0 0), (.ref 89), (.int 50 0), (.int 0 0), (.ref 97), (.int 54 0), (.int 0 0), (.ref 104), (.int 56 0), (.int 0 0), (.ref 111), (.int 58 0), (.int 0 0), (.ref 118), (.int 60 0), (.int 0 0), (.ref 125), (.int 62 0), (.int 0 0), (.ref 132), (.int 64 0), (.int 0 0), (.ref 139), (.int 66 0), (.int 0 0), (.ref 146)]), #[]⟩)
noncomputable def hd.o_102 : Params → Obj := (fun P => ⟨(.type "tuple"), none, (.seq #[] 0), #[]⟩)
noncomputable def hd.o_103 : Params → Obj := (fun P => ⟨.none, none, (.fields #[]), #[]⟩)
noncomputable def hd.o_104 : Params → Obj := (fun P => ⟨(.type "tuple"), none, (.seq #[(.str (.ofString "buffer") 260), (.str (.ofString "start") 261), (.str (.ofString "end") 262), (.str (.ofString "old_length") 263), (.str (.ofString "listener") 264)] 0), #[]⟩)
noncomputable def hd.o_105 : Params → Obj := (fun P => ⟨(.type "tuple"), none, (.seq #[] 0), #[]⟩)
noncomputable def hd.o_106 : Params → Obj := (fun P => ⟨.none, none, (.func ⟨(.ofString "tell_behind"), (.ofString "tell_behind"), hA.a5, (.stmts hA.b5), hA.s5, 0, [], .none, .none, .none, .none, none, .none, .none, 0⟩), #[]⟩)
noncomputable def hd.o_107 : Params → Obj := (fun P => ⟨(.type "code"), none, (.fields #[(.str (.ofString "tell_behind") 257), (.str (.ofString "tell_behind") 258), (.str (.ofString "/claim/cut.py") 259), (.int 22 0), (.int 4 0), (.int 0 0), (.int 0 0), (.int 3 0), (.ref 63), (.bool true), (.int 181 0), (.ref 64), .none, (.ref 65), (.ref 66), (.ref 67), (.int 265 0), (.int 22 0), (.str (.ofString "/claim/cut.py") 266)]), #[]⟩)
noncomputable def hd.o_108 : Params → Obj := (fun P => ⟨(.type "function"), none, (.func ⟨(.ofString "tell_behind"), (.ofString "tell_behind"), hA.a5, (.stmts hA.b5), hA.s5, 3, [], .none, .none, .none, (.str (.ofString "emacs.editing") 227), none, (.ref 68), .none, 0⟩), #[]⟩)
noncomputable def hd.o_109 : Params → Obj := (fun P => ⟨(.type "tuple"), none, (.seq #[] 0), #[]⟩)
noncomputable def hd.o_110 : Params → Obj := (fun P => ⟨.none, none, (.fields #[]), #[]⟩)
noncomputable def hd.o_111 : Params → Obj := (fun P => ⟨(.type "tuple"), none, (.seq #[(.str (.ofString "buffer") 271), (.str (.ofString "place") 272), (.str (.ofString "codes") 273)] 0), #[]⟩)
noncomputable def hd.o_112 : Params → Obj := (fun P => ⟨(.type "tuple"), none, (.seq #[] 0), #[]⟩)
noncomputable def hd.o_113 : Params → Obj := (fun P => ⟨.none, none, (.func ⟨(.ofString "text_in"), (.ofString "text_in"), hA.a6, (.stmts hA.b6), hA.s6, 0, [], .none, .none, .none, .none, none, .none, .none, 0⟩), #[]⟩)
noncomputable def hd.o_114 : Params → Obj := (fun P => ⟨(.type "code"), none, (.fields #[(.str (.ofString "text_in") 268), (.str (.ofString "text_in") 269), (.str (.ofString "/claim/cut.py") 270), (.int 26 0), (.int 3 0), (.int 0 0), (.int 0 0), (.int 3 0), (.ref 70), (.bool true), (.int 181 0), (.ref 71), .none, (.ref 72), (.ref 73), (.ref 74), (.int 274 0), (.int 26 0), (.str (.ofString "/claim/cut.py") 275)]), #[]⟩)
noncomputable def hd.o_115 : Params → Obj := (fun P => ⟨(.type "function"), none, (.func ⟨(.ofString "text_in"), (.ofString "text_in"), hA.a6, (.stmts hA.b6), hA.s6, 3, [], .none, .none, .none, (.str (.ofString "emacs.editing") 227), none, (.ref 75), .none, 0⟩), #[]⟩)
noncomputable def hd.o_116 : Params → Obj := (fun P => ⟨(.type "tuple"), none, (.seq #[] 0), #[]⟩)
noncomputable def hd.o_117 : Params → Obj := (fun P => ⟨.none, none, (.fields #[]), #[]⟩)
noncomputable def hd.o_118 : Params → Obj := (fun P => ⟨(.type "tuple"), none, (.seq #[(.str (.ofString "buffer") 280), (.str (.ofString "place") 281), (.str (.ofString "many") 282), (.str (.ofString "before_markers") 283)] 0), #[]⟩)
noncomputable def hd.o_119 : Params → Obj := (fun P => ⟨(.type "tuple"), none, (.seq #[] 0), #[]⟩)
noncomputable def hd.o_120 : Params → Obj := (fun P => ⟨.none, none, (.func ⟨(.ofString "hung_in"), (.ofString "hung_in"), hA.a7, (.stmts hA.b7), hA.s7, 0, [], .none, .none, .none, .none, none, .none, .none, 0⟩), #[]⟩)
noncomputable def hd.o_121 : Params → Obj := (fun P => ⟨(.type "code"), none, (.fields #[(.str (.ofString "hung_in") 277), (.str (.ofString "hung_in") 278), (.str (.ofString "/claim/cut.py") 279), (.int 33 0), (.int 4 0), (.int 0 0), (.int 0 0), (.int 3 0), (.ref 77), (.bool true), (.int 181 0), (.ref 78), .none, (.ref 79), (.ref 80), (.ref 81), (.int 284 0), (.int 33 0), (.str (.ofString "/claim/cut.py") 285)]), #[]⟩)
noncomputable def hd.o_122 : Params → Obj := (fun P => ⟨(.type "function"), none, (.func ⟨(.ofString "hung_in"), (.ofString "hung_in"), hA.a7, (.stmts hA.b7), hA.s7, 3, [], .none, .none, .none, (.str (.ofString "emacs.editing") 227), none, (.ref 82), .none, 0⟩), #[]⟩)
noncomputable def hd.o_123 : Params → Obj := (fun P => ⟨(.type "tuple"), none, (.seq #[] 0), #[]⟩)
noncomputable def hd.o_124 : Params → Obj := (fun P => ⟨.none, none, (.fields #[]), #[]⟩)
noncomputable def hd.o_125 : Params → Obj := (fun P => ⟨(.type "tuple"), none, (.seq #[(.str (.ofString "buffer") 290), (.str (.ofString "place") 291), (.str (.ofString "codes") 292), (.str (.ofString "before_markers") 293), (.str (.ofString "is_point_behind") 294)] 0), #[]⟩)
noncomputable def hd.o_126 : Params → Obj := (fun P => ⟨(.type "tuple"), none, (.seq #[] 0), #[]⟩)
noncomputable def hd.o_127 : Params → Obj := (fun P => ⟨.none, none, (.func ⟨(.ofString "put_in"), (.ofString "put_in"), hA.a8, (.stmts hA.b8), hA.s8, 0, [], .none, .none, .none, .none, none, .none, .none, 0⟩), #[]⟩)
noncomputable def hd.o_128 : Params → Obj := (fun P => ⟨(.type "code"), none, (.fields #[(.str (.ofString "put_in") 287), (.str (.ofString "put_in") 288), (.str (.ofString "/claim/cut.py") 289), (.int 38 0), (.int 5 0), (.int 0 0), (.int 0 0), (.int 3 0), (.ref 84), (.bool true), (.int 181 0), (.ref 85), .none, (.ref 86), (.ref 87), (.ref 88), (.int 295 0), (.int 38 0), (.str (.ofString "/claim/cut.py") 296)]), #[]⟩)
noncomputable def hd.o_129 : Params → Obj := (fun P => ⟨(.type "function"), none, (.func ⟨(.ofString "put_in"), (.ofString "put_in"), hA.a8, (.stmts hA.b8), hA.s8, 3, [], .none, .none, .none, (.str (.ofString "emacs.editing") 227), none, (.ref 89), .none, 0⟩), #[]⟩)
noncomputable def hd.o_130 : Params → Obj := (fun P => ⟨(.type "tuple"), none, (.seq #[(.bool false)] 0), #[]⟩)
noncomputable def hd.o_131 : Params → Obj := (fun P => ⟨(.type "tuple"), none, (.seq #[] 0), #[]⟩)
noncomputable def hd.o_132 : Params → Obj := (fun P => ⟨.none, none, (.fields #[]), #[]⟩)
noncomputable def hd.o_133 : Params → Obj := (fun P => ⟨(.type "tuple"), none, (.seq #[(.str (.ofString "buffer") 301), (.str (.ofString "place") 302), (.str (.ofString "codes") 303), (.str (.ofString "before_markers") 304)] 0), #[]⟩)
noncomputable def hd.o_134 : Params → Obj := (fun P => ⟨(.type "tuple"), none, (.seq #[] 0), #[]⟩)
noncomputable def hd.o_135 : Params → Obj := (fun P => ⟨.none, none, (.func ⟨(.ofString "insert_at"), (.ofString "insert_at"), hA.a9, (.stmts hA.b9), hA.s9, 0, [], .none, .none, .none, .none, none, .none, .none, 0⟩), #[]⟩)
noncomputable def hd.o_136 : Params → Obj := (fun P => ⟨(.type "code"), none, (.fields #[(.str (.ofString "insert_at") 298), (.str (.ofString "insert_at") 299), (.str (.ofString "/claim/cut.py") 300), (.int 50 0), (.int 4 0), (.int 0 0), (.int 0 0), (.int 3 0), (.ref 92), (.bool true), (.int 181 0), (.ref 93), .none, (.ref 94), (.ref 95), (.ref 96), (.int 305 0), (.int 50 0), (.str (.ofString "/claim/cut.py") 306)]), #[]⟩)
noncomputable def hd.o_137 : Params → Obj := (fun P => ⟨(.type "function"), none, (.func ⟨(.ofString "insert_at"), (.ofString "insert_at"), hA.a9, (.stmts hA.b9), hA.s9, 3, [], (.ref 91), .none, .none, (.str (.ofString "emacs.editing") 227), none, (.ref 97), .none, 0⟩), #[]⟩)
noncomputable def hd.o_138 : Params → Obj := (fun P => ⟨(.type "tuple"), none, (.seq #[] 0), #[]⟩)
noncomputable def hd.o_139 : Params → Obj := (fun P => ⟨.none, none, (.fields #[]), #[]⟩)
noncomputable def hd.o_140 : Params → Obj := (fun P => ⟨(.type "tuple"), none, (.seq #[(.str (.ofString "buffer") 315), (.str (.ofString "place") 316)] 0), #[]⟩)
noncomputable def hd.o_141 : Params → Obj := (fun P => ⟨(.type "tuple"), none, (.seq #[] 0), #[]⟩)
noncomputable def hd.o_142 : Params → Obj := (fun P => ⟨.none, none, (.func ⟨(.ofString "char_after"), (.ofString "char_after"), hA.a10, (.stmts hA.b10), hA.s10, 0, [], .none, .none, .none, .none, none, .none, .none, 0⟩), #[]⟩)
noncomputable def hd.o_143 : Params → Obj := (fun P => ⟨(.type "code"), none, (.fields #[(.str (.ofString "char_after") 312), (.str (.ofString "char_after") 313), (.str (.ofString "/claim/cut.py") 314), (.int 54 0), (.int 2 0), (.int 0 0), (.int 0 0), (.int 3 0), (.ref 99), (.bool true), (.int 181 0), (.ref 100), .none, (.ref 101), (.ref 102), (.ref 103), (.int 317 0), (.int 54 0), (.str (.ofString "/claim/cut.py") 318)]), #[]⟩)
noncomputable def hd.o_144 : Params → Obj := (fun P => ⟨(.type "function"), none, (.func ⟨(.ofString "char_after"), (.ofString "char_after"), hA.a10, (.stmts hA.b10), hA.s10, 3, [], .none, .none, .none, (.str (.ofString "emacs.positions") 308), none, (.ref 104), .none, 0⟩), #[]⟩)
noncomputable def hd.o_145 : Params → Obj := (fun P => ⟨(.type "tuple"), none, (.seq #[] 0), #[]⟩)
noncomputable def hd.o_146 : Params → Obj := (fun P => ⟨.none, none, (.fields #[]), #[]⟩)
noncomputable def hd.o_147 : Params → Obj := (fun P => ⟨(.type "tuple"), none, (.seq #[(.str (.ofString "buffer") 323), (.str (.ofString "place") 324)] 0), #[]⟩)
noncomputable def hd.o_148 : Params → Obj := (fun P => ⟨(.type "tuple"), none, (.seq #[] 0), #[]⟩)
noncomputable def hd.o_149 : Params → Obj := (fun P => ⟨.none, none, (.func ⟨(.ofString "char_before"), (.ofString "char_before"), hA.a11, (.stmts hA.b11), hA.s10, 0, [], .none, .none, .none, .none, none, .none, .none, 0⟩), #[]⟩)
noncomputable def hd.o_150 : Params → Obj := (fun P => ⟨(.type "code"), none, (.fields #[(.str (.ofString "char_before") 320), (.str (.ofString "char_before") 321), (.str (.ofString "/claim/cut.py") 322), (.int 56 0), (.int 2 0), (.int 0 0), (.int 0 0), (.int 3 0), (.ref 106), (.bool true), (.int 181 0), (.ref 107), .none, (.ref 108), (.ref 109), (.ref 110), (.int 325 0), (.int 56 0), (.str (.ofString "/claim/cut.py") 326)]), #[]⟩)
noncomputable def hd.o_151 : Params → Obj := (fun P => ⟨(.type "function"), none, (.func ⟨(.ofString "char_before"), (.ofString "char_before"), hA.a11, (.stmts hA.b11), hA.s10, 3, [], .none, .none, .none, (.str (.ofString "emacs.positions") 308), none, (.ref 111), .none, 0⟩), #[]⟩)
noncomputable def hd.o_152 : Params → Obj := (fun P => ⟨(.type "tuple"), none, (.seq #[] 0), #[]⟩)
noncomputable def hd.o_153 : Params → Obj := (fun P => ⟨.none, none, (.fields #[]), #[]⟩)
noncomputable def hd.o_154 : Params → Obj := (fun P => ⟨(.type "tuple"), none, (.seq #[(.str (.ofString "buffer") 331)] 0), #[]⟩)
noncomputable def hd.o_155 : Params → Obj := (fun P => ⟨(.type "tuple"), none, (.seq #[] 0), #[]⟩)
noncomputable def hd.o_156 : Params → Obj := (fun P => ⟨.none, none, (.func ⟨(.ofString "is_bob"), (.ofString "is_bob"), hA.a12, (.stmts hA.b12), hA.s12, 0, [], .none, .none, .none, .none, none, .none, .none, 0⟩), #[]⟩)
noncomputable def hd.o_157 : Params → Obj := (fun P => ⟨(.type "code"), none, (.fields #[(.str (.ofString "is_bob") 328), (.str (.ofString "is_bob") 329), (.str (.ofString "/claim/cut.py") 330), (.int 58 0), (.int 1 0), (.int 0 0), (.int 0 0), (.int 3 0), (.ref 113), (.bool true), (.int 181 0), (.ref 114), .none, (.ref 115), (.ref 116), (.ref 117), (.int 332 0), (.int 58 0), (.str (.ofString "/claim/cut.py") 333)]), #[]⟩)
noncomputable def hd.o_158 : Params → Obj := (fun P => ⟨(.type "function"), none, (.func ⟨(.ofString "is_bob"), (.ofString "is_bob"), hA.a12, (.stmts hA.b12), hA.s12, 3, [], .none, .none, .none, (.str (.ofString "emacs.positions") 308), none, (.ref 118), .none, 0⟩), #[]⟩)
noncomputable def hd.o_159 : Params → Obj := (fun P => ⟨(.type "tuple"), none, (.seq #[] 0), #[]⟩)
noncomputable def hd.o_160 : Params → Obj := (fun P => ⟨.none, none, (.fields #[]), #[]⟩)
noncomputable def hd.o_161 : Params → Obj := (fun P => ⟨(.type "tuple"), none, (.seq #[(.str (.ofString "buffer") 338)] 0), #[]⟩)
noncomputable def hd.o_162 : Params → Obj := (fun P => ⟨(.type "tuple"), none, (.seq #[] 0), #[]⟩)
noncomputable def hd.o_163 : Params → Obj := (fun P => ⟨.none, none, (.func ⟨(.ofString "is_eob"), (.ofString "is_eob"), hA.a13, (.stmts hA.b13), hA.s12, 0, [], .none, .none, .none, .none, none, .none, .none, 0⟩), #[]⟩)
noncomputable def hd.o_164 : Params → Obj := (fun P => ⟨(.type "code"), none, (.fields #[(.str (.ofString "is_eob") 335), (.str (.ofString "is_eob") 336), (.str (.ofString "/claim/cut.py") 337), (.int 60 0), (.int 1 0), (.int 0 0), (.int 0 0), (.int 3 0), (.ref 120), (.bool true), (.int 181 0), (.ref 121), .none, (.ref 122), (.ref 123), (.ref 124), (.int 339 0), (.int 60 0), (.str (.ofString "/claim/cut.py") 340)]), #[]⟩)
noncomputable def hd.o_165 : Params → Obj := (fun P => ⟨(.type "function"), none, (.func ⟨(.ofString "is_eob"), (.ofString "is_eob"), hA.a13, (.stmts hA.b13), hA.s12, 3, [], .none, .none, .none, (.str (.ofString "emacs.positions") 308), none, (.ref 125), .none, 0⟩), #[]⟩)
noncomputable def hd.o_166 : Params → Obj := (fun P => ⟨(.type "tuple"), none, (.seq #[] 0), #[]⟩)
noncomputable def hd.o_167 : Params → Obj := (fun P => ⟨.none, none, (.fields #[]), #[]⟩)
noncomputable def hd.o_168 : Params → Obj := (fun P => ⟨(.type "tuple"), none, (.seq #[(.str (.ofString "buffer") 345)] 0), #[]⟩)
noncomputable def hd.o_169 : Params → Obj := (fun P => ⟨(.type "tuple"), none, (.seq #[] 0), #[]⟩)
noncomputable def hd.o_170 : Params → Obj := (fun P => ⟨.none, none, (.func ⟨(.ofString "is_bol"), (.ofString "is_bol"), hA.a14, (.stmts hA.b14), hA.s14, 0, [], .none, .none, .none, .none, none, .none, .none, 0⟩), #[]⟩)
noncomputable def hd.o_171 : Params → Obj := (fun P => ⟨(.type "code"), none, (.fields #[(.str (.ofString "is_bol") 342), (.str (.ofString "is_bol") 343), (.str (.ofString "/claim/cut.py") 344), (.int 62 0), (.int 1 0), (.int 0 0), (.int 0 0), (.int 3 0), (.ref 127), (.bool true), (.int 181 0), (.ref 128), .none, (.ref 129), (.ref 130), (.ref 131), (.int 346 0), (.int 62 0), (.str (.ofString "/claim/cut.py") 347)]), #[]⟩)
noncomputable def hd.o_172 : Params → Obj := (fun P => ⟨(.type "function"), none, (.func ⟨(.ofString "is_bol"), (.ofString "is_bol"), hA.a14, (.stmts hA.b14), hA.s14, 3, [], .none, .none, .none, (.str (.ofString "emacs.positions") 308), none, (.ref 132), .none, 0⟩), #[]⟩)
noncomputable def hd.o_173 : Params → Obj := (fun P => ⟨(.type "tuple"), none, (.seq #[] 0), #[]⟩)
noncomputable def hd.o_174 : Params → Obj := (fun P => ⟨.none, none, (.fields #[]), #[]⟩)
noncomputable def hd.o_175 : Params → Obj := (fun P => ⟨(.type "tuple"), none, (.seq #[(.str (.ofString "buffer") 352)] 0), #[]⟩)
noncomputable def hd.o_176 : Params → Obj := (fun P => ⟨(.type "tuple"), none, (.seq #[] 0), #[]⟩)
noncomputable def hd.o_177 : Params → Obj := (fun P => ⟨.none, none, (.func ⟨(.ofString "is_eol"), (.ofString "is_eol"), hA.a15, (.stmts hA.b15), hA.s15, 0, [], .none, .none, .none, .none, none, .none, .none, 0⟩), #[]⟩)
noncomputable def hd.o_178 : Params → Obj := (fun P => ⟨(.type "code"), none, (.fields #[(.str (.ofString "is_eol") 349), (.str (.ofString "is_eol") 350), (.str (.ofString "/claim/cut.py") 351), (.int 64 0), (.int 1 0), (.int 0 0), (.int 0 0), (.int 3 0), (.ref 134), (.bool true), (.int 181 0), (.ref 135), .none, (.ref 136), (.ref 137), (.ref 138), (.int 353 0), (.int 64 0), (.str (.ofString "/claim/cut.py") 354)]), #[]⟩)
noncomputable def hd.o_179 : Params → Obj := (fun P => ⟨(.type "function"), none, (.func ⟨(.ofString "is_eol"), (.ofString "is_eol"), hA.a15, (.stmts hA.b15), hA.s15, 3, [], .none, .none, .none, (.str (.ofString "emacs.positions") 308), none, (.ref 139), .none, 0⟩), #[]⟩)
noncomputable def hd.o_180 : Params → Obj := (fun P => ⟨(.type "tuple"), none, (.seq #[] 0), #[]⟩)
noncomputable def hd.o_181 : Params → Obj := (fun P => ⟨.none, none, (.fields #[]), #[]⟩)
noncomputable def hd.o_182 : Params → Obj := (fun P => ⟨(.type "tuple"), none, (.seq #[(.str (.ofString "buffer") 359), (.str (.ofString "start") 360), (.str (.ofString "end") 361), (.str (.ofString "low") 362), (.str (.ofString "high") 363)] 0), #[]⟩)
noncomputable def hd.o_183 : Params → Obj := (fun P => ⟨(.type "tuple"), none, (.seq #[] 0), #[]⟩)
noncomputable def hd.o_184 : Params → Obj := (fun P => ⟨.none, none, (.func ⟨(.ofString "substring"), (.ofString "substring"), hA.a16, (.stmts hA.b16), hA.s16, 0, [], .none, .none, .none, .none, none, .none, .none, 0⟩), #[]⟩)
noncomputable def hd.o_185 : Params → Obj := (fun P => ⟨(.type "code"), none, (.fields #[(.str (.ofString "substring") 356), (.str (.ofString "substring") 357), (.str (.ofString "/claim/cut.py") 358), (.int 66 0), (.int 3 0), (.int 0 0), (.int 0 0), (.int 3 0), (.ref 141), (.bool true), (.int 181 0), (.ref 142), .none, (.ref 143), (.ref 144), (.ref 145), (.int 364 0), (.int 66 0), (.str (.ofString "/claim/cut.py") 365)]), #[]⟩)
noncomputable def hd.o_186 : Params → Obj := (fun P => ⟨(.type "function"), none, (.func ⟨(.ofString "substring"), (.ofString "substring"), hA.a16, (.stmts hA.b16), hA.s16, 3, [], .none, .none, .none, (.str (.ofString "emacs.positions") 308), none, (.ref 146), .none, 0⟩), #[]⟩)
noncomputable def hd.o_187 : Params → Obj := (fun P => ⟨(.type "dict"), none, (.dict #[⟨(PyData.keyHash P (.ofString "__name__")), (.str (.ofString "__name__") 165), (.str (.ofString "emacs.gap") 388)⟩, ⟨(PyData.keyHash P (.ofString "__doc__")), (.str (.ofString "__doc__") 166), .none⟩, ⟨(PyData.keyHash P (.ofString "__package__")), (.str (.ofString "__package__") 167), .none⟩, ⟨(PyData.keyHash P (.ofString "__loader__")), (.str (.ofString "__loader__") 168), (.builtin "__main__.__loader__#opaque")⟩, ⟨(PyData.keyHash P (.ofString "__spec__")), (.str (.ofString "__spec__") 169), .none⟩, ⟨(PyData.keyHash P (.ofString "__annotations__")), (.str (.ofString "__annotations__") 170), (.ref 6)⟩, ⟨(PyData.keyHash P (.ofString "__builtins__")), (.str (.ofString "__builtins__") 171), (.ref 4)⟩, ⟨(PyData.keyHash P (.ofString "__file__")), (.str (.ofString "__file__") 173), (.str (.ofString "/claim/cut.py") 172)⟩, ⟨(PyData.keyHash P (.ofString "__cached__")), (.str (.ofString "__cached__") 174), .none⟩, ⟨(PyData.keyHash P (.ofString "_wall")), (.str (.ofString "_wall") 193), (.ref 21)⟩, ⟨(PyData.keyHash P (.ofString "LispSignal")), (.str (.ofString "LispSignal") 226), (.ref 38)⟩, ⟨(PyData.keyHash P (.ofString "need_writable")), (.str (.ofString "need_writable") 235), (.ref 48)⟩, ⟨(PyData.keyHash P (.ofString "reached")), (.str (.ofString "reached") 246), (.ref 55)⟩, ⟨(PyData.keyHash P (.ofString "tell_ahead")), (.str (.ofString "tell_ahead") 256), (.ref 62)⟩, ⟨(PyData.keyHash P (.ofString "tell_behind")), (.str (.ofString "tell_behind") 267), (.ref 69)⟩, ⟨(PyData.keyHash P (.ofString "text_in")), (.str (.ofString "text_in") 276), (.ref 76)⟩, ⟨(PyData.keyHash P (.ofString "hung_in")), (.str (.ofString "hung_in") 286), (.ref 83)⟩, ⟨(PyData.keyHash P (.ofString "put_in")), (.str (.ofString "put_in") 297), (.ref 90)⟩, ⟨(PyData.keyHash P (.ofString "insert_at")), (.str (.ofString "insert_at") 307), (.ref 98)⟩, ⟨(PyData.keyHash P (.ofString "NEWLINE")), (.str (.ofString "NEWLINE") 311), (.int 10 310)⟩, ⟨(PyData.keyHash P (.ofString "char_after")), (.str (.ofString "char_after") 319), (.ref 105)⟩, ⟨(PyData.keyHash P (.ofString "char_before")), (.str (.ofString "char_before") 327), (.ref 112)⟩, ⟨(PyData.keyHash P (.ofString "is_bob")), (.str (.ofString "is_bob") 334), (.ref 119)⟩, ⟨(PyData.keyHash P (.ofString "is_eob")), (.str (.ofString "is_eob") 341), (.ref 126)⟩, ⟨(PyData.keyHash P (.ofString "is_bol")), (.str (.ofString "is_bol") 348), (.ref 133)⟩, ⟨(PyData.keyHash P (.ofString "is_eol")), (.str (.ofString "is_eol") 355), (.ref 140)⟩, ⟨(PyData.keyHash P (.ofString "substring")), (.str (.ofString "substring") 366), (.ref 147)⟩, ⟨(PyData.keyHash P (.ofString "folded")), (.str (.ofString "folded") 374), (.ref 154)⟩, ⟨(PyData.keyHash P (.ofString "compare_texts")), (.str (.ofString "compare_texts") 387), (.ref 161)⟩] 29), #[]⟩)
noncomputable def hd.o_188 : Params → Obj := (fun P => ⟨.none, none, (.fields #[(.int 1 0), (.int 0 0), (.ref 20), (.int 5 0), (.int 0 0), (.ref 27), (.int 11 0), (.int 0 0), (.ref 47), (.int 14 0), (.int 0 0), (.ref 54), (.int 19 0), (.int 0 0), (.ref 61), (.int 22 0), (.int 0 0), (.ref 68), (.int 26 0), (.int 0 0), (.ref 75), (.int 33 0), (.int 0 0), (.ref 82), (.int 38 0), (.int 0 0), (.ref 89), (.int 50 0), (.int 0 0), (.ref 97), (.int 54 0), (.int 0 0), (.ref 104), (.int 56 0), (.int 0 0), (.ref 111), (.int 58 0), (.int 0 0), (.ref 118), (.int 60 0), (.int 0 0), (.ref 125), (.int 62 0), (.int 0 0), (.ref 132), (.int 64 0), (.int 0 0), (.ref 139), (.int 66 0), (.int 0 0), (.ref 146), (.int 69 0), (.int 0 0), (.ref 153), (.int 71 0), (.int 0 0), (.ref 160)]), #[]⟩)
noncomputable def hd.o_189 : Params → Obj := (fun P => ⟨(.type "tuple"), none, (.seq #[] 0), #[]⟩)
noncomputable def hd.o_190 : Params → Obj := (fun P => ⟨.none, none, (.fields #[]), #[]⟩)
noncomputable def hd.o_191 : Params → Obj := (fun P => ⟨(.type "tuple"), none, (.seq #[(.str (.ofString "code") 370), (.str (.ofString "is_folded") 371)] 0), #[]⟩)
noncomputable def hd.o_192 : Params → Obj := (fun P => ⟨(.type "tuple"), none, (.seq #[] 0), #[]⟩)
noncomputable def hd.o_193 : Params → Obj := (fun P => ⟨.none, none, (.func ⟨(.ofString "folded"), (.ofString "folded"), hA.a17, (.stmts hA.b17), hA.s17, 0, [], .none, .none, .none, .none, none, .none, .none, 0⟩), #[]⟩)
noncomputable def hd.o_194 : Params → Obj := (fun P => ⟨(.type "code"), none, (.fields #[(.str (.ofString "folded") 367), (.str (.ofString "folded") 368), (.str (.ofString "/claim/cut.py") 369), (.int 69 0), (.int 2 0), (.int 0 0), (.int 0 0), (.int 3 0), (.ref 148), (.bool true), (.int 181 0), (.ref 149), .none, (.ref 150), (.ref 151), (.ref 152), (.int 372 0), (.int 69 0), (.str (.ofString "/claim/cut.py") 373)]), #[]⟩)
noncomputable def hd.o_195 : Params → Obj := (fun P => ⟨(.type "function"), none, (.func ⟨(.ofString "folded"), (.ofString "folded"), hA.a17, (.stmts hA.b17), hA.s17, 3, [], .none, .none, .none, (.str (.ofString "emacs.positions") 308), none, (.ref 153), .none, 0⟩), #[]⟩)
noncomputable def hd.o_196 : Params → Obj := (fun P => ⟨(.type "tuple"), none, (.seq #[] 0), #[]⟩)
noncomputable def hd.o_197 : Params → Obj := (fun P => ⟨.none, none, (.fields #[]), #[]⟩)
noncomputable def hd.o_198 : Params → Obj := (fun P => ⟨(.type "tuple"), none, (.seq #[(.str (.ofString "one") 378), (.str (.ofString "other") 379), (.str (.ofString "is_folded") 380), (.str (.ofString "at") 381), (.str (.ofString "left") 382), (.str (.ofString "right") 383), (.str (.ofString "many") 384)] 0), #[]⟩)
noncomputable def hd.o_199 : Params → Obj := (fun P => ⟨(.type "tuple"), none, (.seq #[] 0), #[]⟩)
noncomputable def hd.o_200 : Params → Obj := (fun P => ⟨.none, none, (.func ⟨(.ofString "compare_texts"), (.ofString "compare_texts"), hA.a18, (.stmts hA.b18), hA.s18, 0, [], .none, .none, .none, .none, none, .none, .none, 0⟩), #[]⟩)
noncomputable def hd.o_201 : Params → Obj := (fun P => ⟨(.type "code"), none, (.fields #[(.str (.ofString "compare_texts") 375), (.str (.ofString "compare_texts") 376), (.str (.ofString "/claim/cut.py") 377), (.int 71 0), (.int 3 0), (.int 0 0), (.int 0 0), (.int 3 0), (.ref 155), (.bool true), (.int 181 0), (.ref 156), .none, (.ref 157), (.ref 158), (.ref 159), (.int 385 0), (.int 71 0), (.str (.ofString "/claim/cut.py") 386)]), #[]⟩)
noncomputable def hd.o_202 : Params → Obj := (fun P => ⟨(.type "function"), none, (.func ⟨(.ofString "compare_texts"), (.ofString "compare_texts"), hA.a18, (.stmts hA.b18), hA.s18, 3, [], .none, .none, .none, (.str (.ofString "emacs.positions") 308), none, (.ref 160), .none, 0⟩), #[]⟩)
noncomputable def hd.o_203 : Params → Obj := (fun P => ⟨(.type "dict"), none, (.dict #[⟨(PyData.keyHash P (.ofString "__name__")), (.str (.ofString "__name__") 165), (.str (.ofString "emacs.gap") 388)⟩, ⟨(PyData.keyHash P (.ofString "__doc__")), (.str (.ofString "__doc__") 166), .none⟩, ⟨(PyData.keyHash P (.ofString "__package__")), (.str (.ofString "__package__") 167), .none⟩, ⟨(PyData.keyHash P (.ofString "__loader__")), (.str (.ofString "__loader__") 168), (.builtin "__main__.__loader__#opaque")⟩, ⟨(PyData.keyHash P (.ofString "__spec__")), (.str (.ofString "__spec__") 169), .none⟩, ⟨(PyData.keyHash P (.ofString "__annotations__")), (.str (.ofString "__annotations__") 170), (.ref 6)⟩, ⟨(PyData.keyHash P (.ofString "__builtins__")), (.str (.ofString "__builtins__") 171), (.ref 4)⟩, ⟨(PyData.keyHash P (.ofString "__file__")), (.str (.ofString "__file__") 173), (.str (.ofString "/claim/cut.py") 172)⟩, ⟨(PyData.keyHash P (.ofString "__cached__")), (.str (.ofString "__cached__") 174), .none⟩, ⟨(PyData.keyHash P (.ofString "_wall")), (.str (.ofString "_wall") 193), (.ref 21)⟩, ⟨(PyData.keyHash P (.ofString "LispSignal")), (.str (.ofString "LispSignal") 226), (.ref 38)⟩, ⟨(PyData.keyHash P (.ofString "need_writable")), (.str (.ofString "need_writable") 235), (.ref 48)⟩, ⟨(PyData.keyHash P (.ofString "reached")), (.str (.ofString "reached") 246), (.ref 55)⟩, ⟨(PyData.keyHash P (.ofString "tell_ahead")), (.str (.ofString "tell_ahead") 256), (.ref 62)⟩, ⟨(PyData.keyHash P (.ofString "tell_behind")), (.str (.ofString "tell_behind") 267), (.ref 69)⟩, ⟨(PyData.keyHash P (.ofString "text_in")), (.str (.ofString "text_in") 276), (.ref 76)⟩, ⟨(PyData.keyHash P (.ofString "hung_in")), (.str (.ofString "hung_in") 286), (.ref 83)⟩, ⟨(PyData.keyHash P (.ofString "put_in")), (.str (.ofString "put_in") 297), (.ref 90)⟩, ⟨(PyData.keyHash P (.ofString "insert_at")), (.str (.ofString "insert_at") 307), (.ref 98)⟩, ⟨(PyData.keyHash P (.ofString "NEWLINE")), (.str (.ofString "NEWLINE") 311), (.int 10 310)⟩, ⟨(PyData.keyHash P (.ofString "char_after")), (.str (.ofString "char_after") 319), (.ref 105)⟩, ⟨(PyData.keyHash P (.ofString "char_before")), (.str (.ofString "char_before") 327), (.ref 112)⟩, ⟨(PyData.keyHash P (.ofString "is_bob")), (.str (.ofString "is_bob") 334), (.ref 119)⟩, ⟨(PyData.keyHash P (.ofString "is_eob")), (.str (.ofString "is_eob") 341), (.ref 126)⟩, ⟨(PyData.keyHash P (.ofString "is_bol")), (.str (.ofString "is_bol") 348), (.ref 133)⟩, ⟨(PyData.keyHash P (.ofString "is_eol")), (.str (.ofString "is_eol") 355), (.ref 140)⟩, ⟨(PyData.keyHash P (.ofString "substring")), (.str (.ofString "substring") 366), (.ref 147)⟩, ⟨(PyData.keyHash P (.ofString "folded")), (.str (.ofString "folded") 374), (.ref 154)⟩, ⟨(PyData.keyHash P (.ofString "compare_texts")), (.str (.ofString "compare_texts") 387), (.ref 161)⟩, ⟨(PyData.keyHash P (.ofString "GapText")), (.str (.ofString "GapText") 506), (.ref 248)⟩] 30), #[]⟩)
noncomputable def hd.o_204 : Params → Obj := (fun P => ⟨.none, none, (.fields #[(.int 1 0), (.int 0 0), (.ref 20), (.int 5 0), (.int 0 0), (.ref 27), (.int 11 0), (.int 0 0), (.ref 47), (.int 14 0), (.int 0 0), (.ref 54), (.int 19 0), (.int 0 0), (.ref 61), (.int 22 0), (.int 0 0), (.ref 68), (.int 26 0), (.int 0 0), (.ref 75), (.int 33 0), (.int 0 0), (.ref 82), (.int 38 0), (.int 0 0), (.ref 89), (.int 50 0), (.int 0 0), (.ref 97), (.int 54 0), (.int 0 0), (.ref 104), (.int 56 0), (.int 0 0), (.ref 111), (.int 58 0), (.int 0 0), (.ref 118), (.int 60 0), (.int 0 0), (.ref 125), (.int 62 0), (.int 0 0), (.ref 132), (.int 64 0), (.int 0 0), (.ref 139), (.int 66 0), (.int 0 0), (.ref 146), (.int 69 0), (.int 0 0), (.ref 153), (.int 71 0), (.int 0 0), (.ref 160), (.int 81 0), (.int 0 0), (.ref 167)]), #[]⟩)
noncomputable def hd.o_205 : Params → Obj := (fun P => ⟨(.type "tuple"), none, (.seq #[] 0), #[]⟩)
noncomputable def hd.o_206 : Params → Obj := (fun P => ⟨(.type "builtin_function_or_method"), none, (.fields #[(.builtin "type.__prepare__"), (.type "type")]), #[]⟩)
noncomputable def hd.o_207 : Params → Obj := (fun P => ⟨(.type "dict"), none, (.dict #[⟨(PyData.keyHash P (.ofString "__module__")), (.str (.ofString "__module__") 397), (.str (.ofString "emacs.gap") 388)⟩, ⟨(PyData.keyHash P (.ofString "__qualname__")), (.str (.ofString "__qualname__") 399), (.str (.ofString "GapText") 398)⟩, ⟨(PyData.keyHash P (.ofString "__firstlineno__")), (.str (.ofString "__firstlineno__") 401), (.int 81 400)⟩, ⟨(PyData.keyHash P (.ofString "__init__")), (.str (.ofString "__init__") 410), (.ref 175)⟩, ⟨(PyData.keyHash P (.ofString "size")), (.str (.ofString "size") 417), (.ref 182)⟩, ⟨(PyData.keyHash P (.ofString "code")), (.str (.ofString "code") 425), (.ref 189)⟩, ⟨(PyData.keyHash P (.ofString "codes")), (.str (.ofString "codes") 435), (.ref 196)⟩, ⟨(PyData.keyHash P (.ofString "move_gap")), (.str (.ofString "move_gap") 444), (.ref 203)⟩, ⟨(PyData.keyHash P (.ofString "widen_gap")), (.str (.ofString "widen_gap") 453), (.ref 210)⟩, ⟨(PyData.keyHash P (.ofString "insert")), (.str (.ofString "insert") 462), (.ref 217)⟩, ⟨(PyData.keyHash P (.ofString "delete")), (.str (.ofString "delete") 471), (.ref 224)⟩, ⟨(PyData.keyHash P (.ofString "put")), (.str (.ofString "put") 480), (.ref 231)⟩, ⟨(PyData.keyHash P (.ofString "narrow_gap")), (.str (.ofString "narrow_gap") 487), (.ref 238)⟩, ⟨(PyData.keyHash P (.ofString "is_whole")), (.str (.ofString "is_whole") 494), (.ref 245)⟩, ⟨(PyData.keyHash P (.ofString "__static_attributes__")), (.str (.ofString "__static_attributes__") 499), (.ref 246)⟩] 15), #[]⟩)
noncomputable def hd.o_208 : Params → Obj := (fun P => ⟨(.type "tuple"), none, (.seq #[] 0), #[]⟩)
noncomputable def hd.o_209 : Params → Obj := (fun P => ⟨.none, none, (.fields #[(.int 83 0), (.int 4 0), (.ref 174), (.int 89 0), (.int 4 0), (.ref 181), (.int 92 0), (.int 4 0), (.ref 188), (.int 97 0), (.int 4 0), (.ref 195), (.int 105 0), (.int 4 0), (.ref 202), (.int 116 0), (.int 4 0), (.ref 209), (.int 122 0), (.int 4 0), (.ref 216), (.int 128 0), (.int 4 0), (.ref 223), (.int 131 0), (.int 4 0), (.ref 230), (.int 134 0), (.int 4 0), (.ref 237), (.int 137 0), (.int 4 0), (.ref 244)]), #[]⟩)
noncomputable def hd.o_210 : Params → Obj := (fun P => ⟨(.type "code"), none, (.fields #[(.str (.ofString "GapText") 392), (.str (.ofString "GapText") 393), (.str (.ofString "/claim/cut.py") 394), (.int 81 0), (.int 0 0), (.int 0 0), (.int 0 0), (.int 0 0), (.ref 165), (.bool false), (.int 181 0), (.ref 166), .none, .none, .none, .none, (.int 395 0), (.int 81 0), (.str (.ofString "/claim/cut.py") 396)]), #[]⟩)
noncomputable def hd.o_211 : Params → Obj := (fun P => ⟨(.type "frame"), none, .plain, #[(some (.ref 167)), (some (.ref 3)), (some (.ref 164)), none, (some (.str (.ofString "emacs.gap") 388)), none, (some (.ref 0))]⟩)
noncomputable def hd.o_212 : Params → Obj := (fun P => ⟨(.type "tuple"), none, (.seq #[] 0), #[]⟩)
noncomputable def hd.o_213 : Params → Obj := (fun P => ⟨.none, none, (.fields #[]), #[]⟩)
noncomputable def hd.o_214 : Params → Obj := (fun P => ⟨(.type "tuple"), none, (.seq #[(.str (.ofString "self") 405), (.str (.ofString "codes") 406), (.str (.ofString "room") 407)] 0), #[]⟩)
noncomputable def hd.o_215 : Params → Obj := (fun P => ⟨(.type "tuple"), none, (.seq #[] 0), #[]⟩)
noncomputable def hd.o_216 : Params → Obj := (fun P => ⟨.none, none, (.func ⟨(.ofString "__init__"), (.ofString "GapText.__init__"), hA.a19, (.stmts hA.b19), hA.s19, 0, [], .none, .none, .none, .none, none, .none, .none, 0⟩), #[]⟩)
noncomputable def hd.o_217 : Params → Obj := (fun P => ⟨(.type "code"), none, (.fields #[(.str (.ofString "__init__") 402), (.str (.ofString "GapText.__init__") 403), (.str (.ofString "/claim/cut.py") 404), (.int 83 0), (.int 3 0), (.int 0 0), (.int 0 0), (.int 3 0), (.ref 169), (.bool true), (.int 181 0), (.ref 170), .none, (.ref 171), (.ref 172), (.ref 173), (.int 408 0), (.int 83 0), (.str (.ofString "/claim/cut.py") 409)]), #[]⟩)
noncomputable def hd.o_218 : Params → Obj := (fun P => ⟨(.type "function"), none, (.func ⟨(.ofString "__init__"), (.ofString "GapText.__init__"), hA.a19, (.stmts hA.b19), hA.s19, 3, [], .none, .none, .none, (.str (.ofString "emacs.gap") 388), none, (.ref 174), .none, 0⟩), #[]⟩)
noncomputable def hd.o_219 : Params → Obj := (fun P => ⟨(.type "tuple"), none, (.seq #[] 0), #[]⟩)
noncomputable def hd.o_220 : Params → Obj := (fun P => ⟨.none, none, (.fields #[]), #[]⟩)
noncomputable def hd.o_221 : Params → Obj := (fun P => ⟨(.type "tuple"), none, (.seq #[(.str (.ofString "self") 414)] 0), #[]⟩)
noncomputable def hd.o_222 : Params → Obj := (fun P => ⟨(.type "tuple"), none, (.seq #[] 0), #[]⟩)
noncomputable def hd.o_223 : Params → Obj := (fun P => ⟨.none, none, (.func ⟨(.ofString "size"), (.ofString "GapText.size"), hA.a20, (.stmts hA.b20), hA.s20, 0, [], .none, .none, .none, .none, none, .none, .none, 0⟩), #[]⟩)
noncomputable def hd.o_224 : Params → Obj := (fun P => ⟨(.type "code"), none, (.fields #[(.str (.ofString "size") 411), (.str (.ofString "GapText.size") 412), (.str (.ofString "/claim/cut.py") 413), (.int 89 0), (.int 1 0), (.int 0 0), (.int 0 0), (.int 3 0), (.ref 176), (.bool true), (.int 181 0), (.ref 177), .none, (.ref 178), (.ref 179), (.ref 180), (.int 415 0), (.int 89 0), (.str (.ofString "/claim/cut.py") 416)]), #[]⟩)
noncomputable def hd.o_225 : Params → Obj := (fun P => ⟨(.type "function"), none, (.func ⟨(.ofString "size"), (.ofString "GapText.size"), hA.a20, (.stmts hA.b20), hA.s20, 3, [], .none, .none, .none, (.str (.ofString "emacs.gap") 388), none, (.ref 181), .none, 0⟩), #[]⟩)
noncomputable def hd.o_226 : Params → Obj := (fun P => ⟨(.type "tuple"), none, (.seq #[] 0), #[]⟩)
noncomputable def hd.o_227 : Params → Obj := (fun P => ⟨.none, none, (.fields #[]), #[]⟩)
noncomputable def hd.o_228 : Params → Obj := (fun P => ⟨(.type "tuple"), none, (.seq #[(.str (.ofString "self") 421), (.str (.ofString "at") 422)] 0), #[]⟩)
noncomputable def hd.o_229 : Params → Obj := (fun P => ⟨(.type "tuple"), none, (.seq #[] 0), #[]⟩)
noncomputable def hd.o_230 : Params → Obj := (fun P => ⟨.none, none, (.func ⟨(.ofString "code"), (.ofString "GapText.code"), hA.a21, (.stmts hA.b21), hA.s21, 0, [], .none, .none, .none, .none, none, .none, .none, 0⟩), #[]⟩)
noncomputable def hd.o_231 : Params → Obj := (fun P => ⟨(.type "code"), none, (.fields #[(.str (.ofString "code") 418), (.str (.ofString "GapText.code") 419), (.str (.ofString "/claim/cut.py") 420), (.int 92 0), (.int 2 0), (.int 0 0), (.int 0 0), (.int 3 0), (.ref 183), (.bool true), (.int 181 0), (.ref 184), .none, (.ref 185), (.ref 186), (.ref 187), (.int 423 0), (.int 92 0), (.str (.ofString "/claim/cut.py") 424)]), #[]⟩)
noncomputable def hd.o_232 : Params → Obj := (fun P => ⟨(.type "function"), none, (.func ⟨(.ofString "code"), (.ofString "GapText.code"), hA.a21, (.stmts hA.b21), hA.s21, 3, [], .none, .none, .none, (.str (.ofString "emacs.gap") 388), none, (.ref 188), .none, 0⟩), #[]⟩)
noncomputable def hd.o_233 : Params → Obj := (fun P => ⟨(.type "tuple"), none, (.seq #[] 0), #[]⟩)
noncomputable def hd.o_234 : Params → Obj := (fun P => ⟨.none, none, (.fields #[]), #[]⟩)
noncomputable def hd.o_235 : Params → Obj := (fun P => ⟨(.type "tuple"), none, (.seq #[(.str (.ofString "self") 429), (.str (.ofString "start") 430), (.str (.ofString "end") 431), (.str (.ofString "shift") 432)] 0), #[]⟩)
noncomputable def hd.o_236 : Params → Obj := (fun P => ⟨(.type "tuple"), none, (.seq #[] 0), #[]⟩)
noncomputable def hd.o_237 : Params → Obj := (fun P => ⟨.none, none, (.func ⟨(.ofString "codes"), (.ofString "GapText.codes"), hA.a22, (.stmts hA.b22), hA.s22, 0, [], .none, .none, .none, .none, none, .none, .none, 0⟩), #[]⟩)
noncomputable def hd.o_238 : Params → Obj := (fun P => ⟨(.type "code"), none, (.fields #[(.str (.ofString "codes") 426), (.str (.ofString "GapText.codes") 427), (.str (.ofString "/claim/cut.py") 428), (.int 97 0), (.int 3 0), (.int 0 0), (.int 0 0), (.int 3 0), (.ref 190), (.bool true), (.int 181 0), (.ref 191), .none, (.ref 192), (.ref 193), (.ref 194), (.int 433 0), (.int 97 0), (.str (.ofString "/claim/cut.py") 434)]), #[]⟩)
noncomputable def hd.o_239 : Params → Obj := (fun P => ⟨(.type "function"), none, (.func ⟨(.ofString "codes"), (.ofString "GapText.codes"), hA.a22, (.stmts hA.b22), hA.s22, 3, [], .none, .none, .none, (.str (.ofString "emacs.gap") 388), none, (.ref 195), .none, 0⟩), #[]⟩)
noncomputable def hd.o_240 : Params → Obj := (fun P => ⟨(.type "tuple"), none, (.seq #[] 0), #[]⟩)
noncomputable def hd.o_241 : Params → Obj := (fun P => ⟨.none, none, (.fields #[]), #[]⟩)
noncomputable def hd.o_242 : Params → Obj := (fun P => ⟨(.type "tuple"), none, (.seq #[(.str (.ofString "self") 439), (.str (.ofString "at") 440), (.str (.ofString "moved") 441)] 0), #[]⟩)
noncomputable def hd.o_243 : Params → Obj := (fun P => ⟨(.type "tuple"), none, (.seq #[] 0), #[]⟩)
noncomputable def hd.o_244 : Params → Obj := (fun P => ⟨.none, none, (.func ⟨(.ofString "move_gap"), (.ofString "GapText.move_gap"), hA.a23, (.stmts hA.b23), hA.s23, 0, [], .none, .none, .none, .none, none, .none, .none, 0⟩), #[]⟩)
noncomputable def hd.o_245 : Params → Obj := (fun P => ⟨(.type "code"), none, (.fields #[(.str (.ofString "move_gap") 436), (.str (.ofString "GapText.move_gap") 437), (.str (.ofString "/claim/cut.py") 438), (.int 105 0), (.int 2 0), (.int 0 0), (.int 0 0), (.int 3 0), (.ref 197), (.bool true), (.int 181 0), (.ref 198), .none, (.ref 199), (.ref 200), (.ref 201), (.int 442 0), (.int 105 0), (.str (.ofString "/claim/cut.py") 443)]), #[]⟩)
noncomputable def hd.o_246 : Params → Obj := (fun P => ⟨(.type "function"), none, (.func ⟨(.ofString "move_gap"), (.ofString "GapText.move_gap"), hA.a23, (.stmts hA.b23), hA.s23, 3, [], .none, .none, .none, (.str (.ofString "emacs.gap") 388), none, (.ref 202), .none, 0⟩), #[]⟩)
noncomputable def hd.o_247 : Params → Obj := (fun P => ⟨(.type "tuple"), none, (.seq #[] 0), #[]⟩)
noncomputable def hd.o_248 : Params → Obj := (fun P => ⟨.none, none, (.fields #[]), #[]⟩)
noncomputable def hd.o_249 : Params → Obj := (fun P => ⟨(.type "tuple"), none, (.seq #[(.str (.ofString "self") 448), (.str (.ofString "wanted") 449), (.str (.ofString "lack") 450)] 0), #[]⟩)
noncomputable def hd.o_250 : Params → Obj := (fun P => ⟨(.type "tuple"), none, (.seq #[] 0), #[]⟩)
noncomputable def hd.o_251 : Params → Obj := (fun P => ⟨.none, none, (.func ⟨(.ofString "widen_gap"), (.ofString "GapText.widen_gap"), hA.a24, (.stmts hA.b24), hA.s24, 0, [], .none, .none, .none, .none, none, .none, .none, 0⟩), #[]⟩)
noncomputable def hd.o_252 : Params → Obj := (fun P => ⟨(.type "code"), none, (.fields #[(.str (.ofString "widen_gap") 445), (.str (.ofString "GapText.widen_gap") 446), (.str (.ofString "/claim/cut.py") 447), (.int 116 0), (.int 2 0), (.int 0 0), (.int 0 0), (.int 3 0), (.ref 204), (.bool true), (.int 181 0), (.ref 205), .none, (.ref 206), (.ref 207), (.ref 208), (.int 451 0), (.int 116 0), (.str (.ofString "/claim/cut.py") 452)]), #[]⟩)
noncomputable def hd.o_253 : Params → Obj := (fun P => ⟨(.type "function"), none, (.func ⟨(.ofString "widen_gap"), (.ofString "GapText.widen_gap"), hA.a24, (.stmts hA.b24), hA.s24, 3, [], .none, .none, .none, (.str (.ofString "emacs.gap") 388), none, (.ref 209), .none, 0⟩), #[]⟩)
noncomputable def hd.o_254 : Params → Obj := (fun P => ⟨(.type "tuple"), none, (.seq #[] 0), #[]⟩)
noncomputable def hd.o_255 : Params → Obj := (fun P => ⟨.none, none, (.fields #[]), #[]⟩)
noncomputable def hd.o_256 : Params → Obj := (fun P => ⟨(.type "tuple"), none, (.seq #[(.str (.ofString "self") 457), (.str (.ofString "at") 458), (.str (.ofString "codes") 459)] 0), #[]⟩)
noncomputable def hd.o_257 : Params → Obj := (fun P => ⟨(.type "tuple"), none, (.seq #[] 0), #[]⟩)
noncomputable def hd.o_258 : Params → Obj := (fun P => ⟨.none, none, (.func ⟨(.ofString "insert"), (.ofString "GapText.insert"), hA.a25, (.stmts hA.b25), hA.s25, 0, [], .none, .none, .none, .none, none, .none, .none, 0⟩), #[]⟩)
noncomputable def hd.o_259 : Params → Obj := (fun P => ⟨(.type "code"), none, (.fields #[(.str (.ofString "insert") 454), (.str (.ofString "GapText.insert") 455), (.str (.ofString "/claim/cut.py") 456), (.int 122 0), (.int 3 0), (.int 0 0), (.int 0 0), (.int 3 0), (.ref 211), (.bool true), (.int 181 0), (.ref 212), .none, (.ref 213), (.ref 214), (.ref 215), (.int 460 0), (.int 122 0), (.str (.ofString "/claim/cut.py") 461)]), #[]⟩)
noncomputable def hd.o_260 : Params → Obj := (fun P => ⟨(.type "function"), none, (.func ⟨(.ofString "insert"), (.ofString "GapText.insert"), hA.a25, (.stmts hA.b25), hA.s25, 3, [], .none, .none, .none, (.str (.ofString "emacs.gap") 388), none, (.ref 216), .none, 0⟩), #[]⟩)
noncomputable def hd.o_261 : Params → Obj := (fun P => ⟨(.type "tuple"), none, (.seq #[] 0), #[]⟩)
noncomputable def hd.o_262 : Params → Obj := (fun P => ⟨.none, none, (.fields #[]), #[]⟩)
noncomputable def hd.o_263 : Params → Obj := (fun P => ⟨(.type "tuple"), none, (.seq #[(.str (.ofString "self") 466), (.str (.ofString "start") 467), (.str (.ofString "end") 468)] 0), #[]⟩)
noncomputable def hd.o_264 : Params → Obj := (fun P => ⟨(.type "tuple"), none, (.seq #[] 0), #[]⟩)
noncomputable def hd.o_265 : Params → Obj := (fun P => ⟨.none, none, (.func ⟨(.ofString "delete"), (.ofString "GapText.delete"), hA.a26, (.stmts hA.b26), hA.s26, 0, [], .none, .none, .none, .none, none, .none, .none, 0⟩), #[]⟩)
noncomputable def hd.o_266 : Params → Obj := (fun P => ⟨(.type "code"), none, (.fields #[(.str (.ofString "delete") 463), (.str (.ofString "GapText.delete") 464), (.str (.ofString "/claim/cut.py") 465), (.int 128 0), (.int 3 0), (.int 0 0), (.int 0 0), (.int 3 0), (.ref 218), (.bool true), (.int 181 0), (.ref 219), .none, (.ref 220), (.ref 221), (.ref 222), (.int 469 0), (.int 128 0), (.str (.ofString "/claim/cut.py") 470)]), #[]⟩)
noncomputable def hd.o_267 : Params → Obj := (fun P => ⟨(.type "function"), none, (.func ⟨(.ofString "delete"), (.ofString "GapText.delete"), hA.a26, (.stmts hA.b26), hA.s26, 3, [], .none, .none, .none, (.str (.ofString "emacs.gap") 388), none, (.ref 223), .none, 0⟩), #[]⟩)
noncomputable def hd.o_268 : Params → Obj := (fun P => ⟨(.type "tuple"), none, (.seq #[] 0), #[]⟩)
noncomputable def hd.o_269 : Params → Obj := (fun P => ⟨.none, none, (.fields #[]), #[]⟩)
noncomputable def hd.o_270 : Params → Obj := (fun P => ⟨(.type "tuple"), none, (.seq #[(.str (.ofString "self") 475), (.str (.ofString "at") 476), (.str (.ofString "code") 477)] 0), #[]⟩)
noncomputable def hd.o_271 : Params → Obj := (fun P => ⟨(.type "tuple"), none, (.seq #[] 0), #[]⟩)
noncomputable def hd.o_272 : Params → Obj := (fun P => ⟨.none, none, (.func ⟨(.ofString "put"), (.ofString "GapText.put"), hA.a27, (.stmts hA.b27), hA.s27, 0, [], .none, .none, .none, .none, none, .none, .none, 0⟩), #[]⟩)
noncomputable def hd.o_273 : Params → Obj := (fun P => ⟨(.type "code"), none, (.fields #[(.str (.ofString "put") 472), (.str (.ofString "GapText.put") 473), (.str (.ofString "/claim/cut.py") 474), (.int 131 0), (.int 3 0), (.int 0 0), (.int 0 0), (.int 3 0), (.ref 225), (.bool true), (.int 181 0), (.ref 226), .none, (.ref 227), (.ref 228), (.ref 229), (.int 478 0), (.int 131 0), (.str (.ofString "/claim/cut.py") 479)]), #[]⟩)
noncomputable def hd.o_274 : Params → Obj := (fun P => ⟨(.type "function"), none, (.func ⟨(.ofString "put"), (.ofString "GapText.put"), hA.a27, (.stmts hA.b27), hA.s27, 3, [], .none, .none, .none, (.str (.ofString "emacs.gap") 388), none, (.ref 230), .none, 0⟩), #[]⟩)
noncomputable def hd.o_275 : Params → Obj := (fun P => ⟨(.type "tuple"), none, (.seq #[] 0), #[]⟩)
noncomputable def hd.o_276 : Params → Obj := (fun P => ⟨.none, none, (.fields #[]), #[]⟩)
noncomputable def hd.o_277 : Params → Obj := (fun P => ⟨(.type "tuple"), none, (.seq #[(.str (.ofString "self") 484)] 0), #[]⟩)
noncomputable def hd.o_278 : Params → Obj := (fun P => ⟨(.type "tuple"), none, (.seq #[] 0), #[]⟩)
noncomputable def hd.o_279 : Params → Obj := (fun P => ⟨.none, none, (.func ⟨(.ofString "narrow_gap"), (.ofString "GapText.narrow_gap"), hA.a28, (.stmts hA.b28), hA.s28, 0, [], .none, .none, .none, .none, none, .none, .none, 0⟩), #[]⟩)
noncomputable def hd.o_280 : Params → Obj := (fun P => ⟨(.type "code"), none, (.fields #[(.str (.ofString "narrow_gap") 481), (.str (.ofString "GapText.narrow_gap") 482), (.str (.ofString "/claim/cut.py") 483), (.int 134 0), (.int 1 0), (.int 0 0), (.int 0 0), (.int 3 0), (.ref 232), (.bool true), (.int 181 0), (.ref 233), .none, (.ref 234), (.ref 235), (.ref 236), (.int 485 0), (.int 134 0), (.str (.ofString "/claim/cut.py") 486)]), #[]⟩)
noncomputable def hd.o_281 : Params → Obj := (fun P => ⟨(.type "function"), none, (.func ⟨(.ofString "narrow_gap"), (.ofString "GapText.narrow_gap"), hA.a28, (.stmts hA.b28), hA.s28, 3, [], .none, .none, .none, (.str (.ofString "emacs.gap") 388), none, (.ref 237), .none, 0⟩), #[]⟩)
noncomputable def hd.o_282 : Params → Obj := (fun P => ⟨(.type "tuple"), none, (.seq #[] 0), #[]⟩)
noncomputable def hd.o_283 : Params → Obj := (fun P => ⟨.none, none, (.fields #[]), #[]⟩)
noncomputable def hd.o_284 : Params → Obj := (fun P => ⟨(.type "tuple"), none, (.seq #[(.str (.ofString "self") 491)] 0), #[]⟩)
noncomputable def hd.o_285 : Params → Obj := (fun P => ⟨(.type "tuple"), none, (.seq #[] 0), #[]⟩)
noncomputable def hd.o_286 : Params → Obj := (fun P => ⟨.none, none, (.func ⟨(.ofString "is_whole"), (.ofString "GapText.is_whole"), hA.a29, (.stmts hA.b29), hA.s28, 0, [], .none, .none, .none, .none, none, .none, .none, 0⟩), #[]⟩)
noncomputable def hd.o_287 : Params → Obj := (fun P => ⟨(.type "code"), none, (.fields #[(.str (.ofString "is_whole") 488), (.str (.ofString "GapText.is_whole") 489), (.str (.ofString "/claim/cut.py") 490), (.int 137 0), (.int 1 0), (.int 0 0), (.int 0 0), (.int 3 0), (.ref 239), (.bool true), (.int 181 0), (.ref 240), .none, (.ref 241), (.ref 242), (.ref 243), (.int 492 0), (.int 137 0), (.str (.ofString "/claim/cut.py") 493)]), #[]⟩)
noncomputable def hd.o_288 : Params → Obj := (fun P => ⟨(.type "function"), none, (.func ⟨(.ofString "is_whole"), (.ofString "GapText.is_whole"), hA.a29, (.stmts hA.b29), hA.s28, 3, [], .none, .none, .none, (.str (.ofString "emacs.gap") 388), none, (.ref 244), .none, 0⟩), #[]⟩)
noncomputable def hd.o_289 : Params → Obj := (fun P => ⟨(.type "tuple"), none, (.seq #[(.str (.ofString "cells") 495), (.str (.ofString "gap_end") 496), (.str (.ofString "gap_start") 497), (.str (.ofString "room") 498)] 0), #[]⟩)
noncomputable def hd.o_290 : Params → Obj := (fun P => ⟨(.type "dict"), none, (.dict #[⟨(PyData.keyHash P (.ofString "__module__")), (.str (.ofString "__module__") 397), (.str (.ofString "emacs.gap") 388)⟩, ⟨(PyData.keyHash P (.ofString "__firstlineno__")), (.str (.ofString "__firstlineno__") 401), (.int 81 400)⟩, ⟨(PyData.keyHash P (.ofString "__init__")), (.str (.ofString "__init__") 410), (.ref 175)⟩, ⟨(PyData.keyHash P (.ofString "size")), (.str (.ofString "size") 417), (.ref 182)⟩, ⟨(PyData.keyHash P (.ofString "code")), (.str (.ofString "code") 425), (.ref 189)⟩, ⟨(PyData.keyHash P (.ofString "codes")), (.str (.ofString "codes") 435), (.ref 196)⟩, ⟨(PyData.keyHash P (.ofString "move_gap")), (.str (.ofString "move_gap") 444), (.ref 203)⟩, ⟨(PyData.keyHash P (.ofString "widen_gap")), (.str (.ofString "widen_gap") 453), (.ref 210)⟩, ⟨(PyData.keyHash P (.ofString "insert")), (.str (.ofString "insert") 462), (.ref 217)⟩, ⟨(PyData.keyHash P (.ofString "delete")), (.str (.ofString "delete") 471), (.ref 224)⟩, ⟨(PyData.keyHash P (.ofString "put")), (.str (.ofString "put") 480), (.ref 231)⟩, ⟨(PyData.keyHash P (.ofString "narrow_gap")), (.str (.ofString "narrow_gap") 487), (.ref 238)⟩, ⟨(PyData.keyHash P (.ofString "is_whole")), (.str (.ofString "is_whole") 494), (.ref 245)⟩, ⟨(PyData.keyHash P (.ofString "__static_attributes__")), (.str (.ofString "__static_attributes__") 499), (.ref 246)⟩, ⟨(PyData.keyHash P (.ofString "__dict__")), (.str (.ofString "__dict__") 501), (.ref 249)⟩, ⟨(PyData.keyHash P (.ofString "__weakref__")), (.str (.ofString "__weakref__") 503), (.ref 250)⟩, ⟨(PyData.keyHash P (.ofString "__doc__")), (.str (.ofString "__doc__") 504), .none⟩] 4), #[]⟩)
noncomputable def hd.o_291 : Params → Obj := (fun P => ⟨(.type "type"), none, (.cls ⟨(.ofString "GapText"), [(.type "object")], [(.ref 248), (.type "object")], 247, (.ofString "GapText"), true, [], [], false, none, false⟩), #[none, none, (some (.str (.ofString "GapText") 390)), (some (.str (.ofString "GapText") 398)), (some (.builtin "object.__new__")), (some (.bool true))]⟩)
noncomputable def hd.o_292 : Params → Obj := (fun P => ⟨(.type "getset_descriptor"), none, (.fields #[(.str (.ofString "__dict__") 500), (.ref 248), (.builtin "function.__dict__"), (.builtin "function.__dict__#set")]), #[]⟩)
noncomputable def hd.o_293 : Params → Obj := (fun P => ⟨(.type "getset_descriptor"), none, (.fields #[(.str (.ofString "__weakref__") 502), (.ref 248), (.builtin "ExceptionGroup.__weakref__"), .none]), #[]⟩)
noncomputable def hd.o_294 : Params → Obj := (fun P => ⟨(.type "super"), none, (.fields #[(.ref 248), (.ref 248), (.ref 248)]), #[]⟩)
noncomputable def hd.o_295 : Params → Obj := (fun P => ⟨(.type "builtin_function_or_method"), none, (.fields #[(.builtin "object.__init_subclass__"), (.ref 248)]), #[]⟩)
noncomputable def hd.o_296 : Params → Obj := (fun P => ⟨(.type "dict"), none, (.dict #[⟨(PyData.keyHash P (.ofString "__name__")), (.str (.ofString "__name__") 165), (.str (.ofString "emacs.markers") 507)⟩, ⟨(PyData.keyHash P (.ofString "__doc__")), (.str (.ofString "__doc__") 166), .none⟩, ⟨(PyData.keyHash P (.ofString "__package__")), (.str (.ofString "__package__") 167), .none⟩, ⟨(PyData.keyHash P (.ofString "__loader__")), (.str (.ofString "__loader__") 168), (.builtin "__main__.__loader__#opaque")⟩, ⟨(PyData.keyHash P (.ofString "__spec__")), (.str (.ofString "__spec__") 169), .none⟩, ⟨(PyData.keyHash P (.ofString "__annotations__")), (.str (.ofString "__annotations__") 170), (.ref 6)⟩, ⟨(PyData.keyHash P (.ofString "__builtins__")), (.str (.ofString "__builtins__") 171), (.ref 4)⟩, ⟨(PyData.keyHash P (.ofString "__file__")), (.str (.ofString "__file__") 173), (.str (.ofString "/claim/cut.py") 172)⟩, ⟨(PyData.keyHash P (.ofString "__cached__")), (.str (.ofString "__cached__") 174), .none⟩, ⟨(PyData.keyHash P (.ofString "_wall")), (.str (.ofString "_wall") 193), (.ref 21)⟩, ⟨(PyData.keyHash P (.ofString "LispSignal")), (.str (.ofString "LispSignal") 226), (.ref 38)⟩, ⟨(PyData.keyHash P (.ofString "need_writable")), (.str (.ofString "need_writable") 235), (.ref 48)⟩, ⟨(PyData.keyHash P (.ofString "reached")), (.str (.ofString "reached") 246), (.ref 55)⟩, ⟨(PyData.keyHash P (.ofString "tell_ahead")), (.str (.ofString "tell_ahead") 256), (.ref 62)⟩, ⟨(PyData.keyHash P (.ofString "tell_behind")), (.str (.ofString "tell_behind") 267), (.ref 69)⟩, ⟨(PyData.keyHash P (.ofString "text_in")), (.str (.ofString "text_in") 276), (.ref 76)⟩, ⟨(PyData.keyHash P (.ofString "hung_in")), (.str (.ofString "hung_in") 286), (.ref 83)⟩, ⟨(PyData.keyHash P (.ofString "put_in")), (.str (.ofString "put_in") 297), (.ref 90)⟩, ⟨(PyData.keyHash P (.ofString "insert_at")), (.str (.ofString "insert_at") 307), (.ref 98)⟩, ⟨(PyData.keyHash P (.ofString "NEWLINE")), (.str (.ofString "NEWLINE") 311), (.int 10 310)⟩, ⟨(PyData.keyHash P (.ofString "char_after")), (.str (.ofString "char_after") 319), (.ref 105)⟩, ⟨(PyData.keyHash P (.ofString "char_before")), (.str (.ofString "char_before") 327), (.ref 112)⟩, ⟨(PyData.keyHash P (.ofString "is_bob")), (.str (.ofString "is_bob") 334), (.ref 119)⟩, ⟨(PyData.keyHash P (.ofString "is_eob")), (.str (.ofString "is_eob") 341), (.ref 126)⟩, ⟨(PyData.keyHash P (.ofString "is_bol")), (.str (.ofString "is_bol") 348), (.ref 133)⟩, ⟨(PyData.keyHash P (.ofString "is_eol")), (.str (.ofString "is_eol") 355), (.ref 140)⟩, ⟨(PyData.keyHash P (.ofString "substring")), (.str (.ofString "substring") 366), (.ref 147)⟩, ⟨(PyData.keyHash P (.ofString "folded")), (.str (.ofString "folded") 374), (.ref 154)⟩, ⟨(PyData.keyHash P (.ofString "compare_texts")), (.str (.ofString "compare_texts") 387), (.ref 161)⟩, ⟨(PyData.keyHash P (.ofString "GapText")), (.str (.ofString "GapText") 506), (.ref 248)⟩] 30), #[]⟩)
noncomputable def hd.o_298 : Params → Obj := (fun P => ⟨(.type "dict"), none, (.dict #[⟨(PyData.keyHash P (.ofString "__name__")), (.str (.ofString "__name__") 165), (.str (.ofString "emacs.markers") 507)⟩, ⟨(PyData.keyHash P (.ofString "__doc__")), (.str (.ofString "__doc__") 166), .none⟩, ⟨(PyData.keyHash P (.ofString "__package__")), (.str (.ofString "__package__") 167), .none⟩, ⟨(PyData.keyHash P (.ofString "__loader__")), (.str (.ofString "__loader__") 168), (.builtin "__main__.__loader__#opaque")⟩, ⟨(PyData.keyHash P (.ofString "__spec__")), (.str (.ofString "__spec__") 169), .none⟩, ⟨(PyData.keyHash P (.ofString "__annotations__")), (.str (.ofString "__annotations__") 170), (.ref 6)⟩, ⟨(PyData.keyHash P (.ofString "__builtins__")), (.str (.ofString "__builtins__") 171), (.ref 4)⟩, ⟨(PyData.keyHash P (.ofString "__file__")), (.str (.ofString "__file__") 173), (.str (.ofString "/claim/cut.py") 172)⟩, ⟨(PyData.keyHash P (.ofString "__cached__")), (.str (.ofString "__cached__") 174), .none⟩, ⟨(PyData.keyHash P (.ofString "_wall")), (.str (.ofString "_wall") 193), (.ref 21)⟩, ⟨(PyData.keyHash P (.ofString "LispSignal")), (.str (.ofString "LispSignal") 226), (.ref 38)⟩, ⟨(PyData.keyHash P (.ofString "need_writable")), (.str (.ofString "need_writable") 235), (.ref 48)⟩, ⟨(PyData.keyHash P (.ofString "reached")), (.str (.ofString "reached") 246), (.ref 55)⟩, ⟨(PyData.keyHash P (.ofString "tell_ahead")), (.str (.ofString "tell_ahead") 256), (.ref 62)⟩, ⟨(PyData.keyHash P (.ofString "tell_behind")), (.str (.ofString "tell_behind") 267), (.ref 69)⟩, ⟨(PyData.keyHash P (.ofString "text_in")), (.str (.ofString "text_in") 276), (.ref 76)⟩, ⟨(PyData.keyHash P (.ofString "hung_in")), (.str (.ofString "hung_in") 286), (.ref 83)⟩, ⟨(PyData.keyHash P (.ofString "put_in")), (.str (.ofString "put_in") 297), (.ref 90)⟩, ⟨(PyData.keyHash P (.ofString "insert_at")), (.str (.ofString "insert_at") 307), (.ref 98)⟩, ⟨(PyData.keyHash P (.ofString "NEWLINE")), (.str (.ofString "NEWLINE") 311), (.int 10 310)⟩, ⟨(PyData.keyHash P (.ofString "char_after")), (.str (.ofString "char_after") 319), (.ref 105)⟩, ⟨(PyData.keyHash P (.ofString "char_before")), (.str (.ofString "char_before") 327), (.ref 112)⟩, ⟨(PyData.keyHash P (.ofString "is_bob")), (.str (.ofString "is_bob") 334), (.ref 119)⟩, ⟨(PyData.keyHash P (.ofString "is_eob")), (.str (.ofString "is_eob") 341), (.ref 126)⟩, ⟨(PyData.keyHash P (.ofString "is_bol")), (.str (.ofString "is_bol") 348), (.ref 133)⟩, ⟨(PyData.keyHash P (.ofString "is_eol")), (.str (.ofString "is_eol") 355), (.ref 140)⟩, ⟨(PyData.keyHash P (.ofString "substring")), (.str (.ofString "substring") 366), (.ref 147)⟩, ⟨(PyData.keyHash P (.ofString "folded")), (.str (.ofString "folded") 374), (.ref 154)⟩, ⟨(PyData.keyHash P (.ofString "compare_texts")), (.str (.ofString "compare_texts") 387), (.ref 161)⟩, ⟨(PyData.keyHash P (.ofString "GapText")), (.str (.ofString "GapText") 506), (.ref 248)⟩, ⟨(PyData.keyHash P (.ofString "Markers")), (.str (.ofString "Markers") 600), (.ref 318)⟩] 31), #[]⟩)
noncomputable def hd.o_299 : Params → Obj := (fun P => ⟨.none, none, (.fields #[(.int 1 0), (.int 0 0), (.ref 20), (.int 5 0), (.int 0 0), (.ref 27), (.int 11 0), (.int 0 0), (.ref 47), (.int 14 0), (.int 0 0), (.ref 54), (.int 19 0), (.int 0 0), (.ref 61), (.int 22 0), (.int 0 0), (.ref 68), (.int 26 0), (.int 0 0), (.ref 75), (.int 33 0), (.int 0 0), (.ref 82), (.int 38 0), (.int 0 0), (.ref 89), (.int 50 0), (.int 0 0), (.ref 97), (.int 54 0), (.int 0 0), (.ref 104), (.int 56 0), (.int 0 0), (.ref 111), (.int 58 0), (.int 0 0), (.ref 118), (.int 60 0), (.int 0 0), (.ref 125), (.int 62 0), (.int 0 0), (.ref 132), (.int 64 0), (.int 0 0), (.ref 139), (.int 66 0), (.int 0 0), (.ref 146), (.int 69 0), (.int 0 0), (.ref 153), (.int 71 0), (.int 0 0), (.ref 160), (.int 81 0), (.int 0 0), (.ref 167), (.int 140 0), (.int 0 0), (.ref 258)]), #[]⟩)
noncomputable def hd.o_300 : Params → Obj := (fun P => ⟨(.type "tuple"), none, (.seq #[] 0), #[]⟩)
noncomputable def hd.o_301 : Params → Obj := (fun P => ⟨(.type "builtin_function_or_method"), none, (.fields #[(.builtin "type.__prepare__"), (.type "type")]), #[]⟩)
noncomputable def hd.o_302 : Params → Obj := (fun P => ⟨(.type "dict"), none, (.dict #[⟨(PyData.keyHash P (.ofString "__module__")), (.str (.ofString "__module__") 516), (.str (.ofString "emacs.markers") 507)⟩, ⟨(PyData.keyHash P (.ofString "__qualname__")), (.str (.ofString "__qualname__") 518), (.str (.ofString "Markers") 517)⟩, ⟨(PyData.keyHash P (.ofString "__firstlineno__")), (.str (.ofString "__firstlineno__") 520), (.int 140 519)⟩, ⟨(PyData.keyHash P (.ofString "__init__")), (.str (.ofString "__init__") 527), (.ref 266)⟩, ⟨(PyData.keyHash P (.ofString "numbers")), (.str (.ofString "numbers") 534), (.ref 273)⟩, ⟨(PyData.keyHash P (.ofString "put")), (.str (.ofString "put") 543), (.ref 280)⟩, ⟨(PyData.keyHash P (.ofString "drop")), (.str (.ofString "drop") 551), (.ref 287)⟩, ⟨(PyData.keyHash P (.ofString "within")), (.str (.ofString "within") 560), (.ref 294)⟩, ⟨(PyData.keyHash P (.ofString "inserted")), (.str (.ofString "inserted") 572), (.ref 301)⟩, ⟨(PyData.keyHash P (.ofString "deleted")), (.str (.ofString "deleted") 581), (.ref 308)⟩, ⟨(PyData.keyHash P (.ofString "replaced")), (.str (.ofString "replaced") 591), (.ref 315)⟩, ⟨(PyData.keyHash P (.ofString "__static_attributes__")), (.str (.ofString "__static_attributes__") 593), (.ref 316)⟩] 12), #[]⟩)
noncomputable def hd.o_303 : Params → Obj := (fun P => ⟨(.type "tuple"), none, (.seq #[] 0), #[]⟩)
noncomputable def hd.o_304 : Params → Obj := (fun P => ⟨.none, none, (.fields #[(.int 142 0), (.int 4 0), (.ref 265), (.int 145 0), (.int 4 0), (.ref 272), (.int 148 0), (.int 4 0), (.ref 279), (.int 151 0), (.int 4 0), (.ref 286), (.int 154 0), (.int 4 0), (.ref 293), (.int 157 0), (.int 4 0), (.ref 300), (.int 163 0), (.int 4 0), (.ref 307), (.int 166 0), (.int 4 0), (.ref 314)]), #[]⟩)
noncomputable def hd.o_305 : Params → Obj := (fun P => ⟨(.type "code"), none, (.fields #[(.str (.ofString "Markers") 511), (.str (.ofString "Markers") 512), (.str (.ofString "/claim/cut.py") 513), (.int 140 0), (.int 0 0), (.int 0 0), (.int 0 0), (.int 0 0), (.ref 256), (.bool false), (.int 181 0), (.ref 257), .none, .none, .none, .none, (.int 514 0), (.int 140 0), (.str (.ofString "/claim/cut.py") 515)]), #[]⟩)
noncomputable def hd.o_306 : Params → Obj := (fun P => ⟨(.type "frame"), none, .plain, #[(some (.ref 258)), (some (.ref 3)), (some (.ref 255)), none, (some (.str (.ofString "emacs.markers") 507)), none, (some (.ref 0))]⟩)
noncomputable def hd.o_307 : Params → Obj := (fun P => ⟨(.type "tuple"), none, (.seq #[] 0), #[]⟩)
noncomputable def hd.o_308 : Params → Obj := (fun P => ⟨.none, none, (.fields #[]), #[]⟩)
noncomputable def hd.o_309 : Params → Obj := (fun P => ⟨(.type "tuple"), none, (.seq #[(.str (.ofString "self") 524)] 0), #[]⟩)
noncomputable def hd.o_310 : Params → Obj := (fun P => ⟨(.type "tuple"), none, (.seq #[] 0), #[]⟩)
noncomputable def hd.o_311 : Params → Obj := (fun P => ⟨.none, none, (.func ⟨(.ofString "__init__"), (.ofString "Markers.__init__"), hA.a30, (.stmts hA.b30), hA.s30, 0, [], .none, .none, .none, .none, none, .none, .none, 0⟩), #[]⟩)
noncomputable def hd.o_312 : Params → Obj := (fun P => ⟨(.type "code"), none, (.fields #[(.str (.ofString "__init__") 521), (.str (.ofString "Markers.__init__") 522), (.str (.ofString "/claim/cut.py") 523), (.int 142 0), (.int 1 0), (.int 0 0), (.int 0 0), (.int 3 0), (.ref 260), (.bool true), (.int 181 0), (.ref 261), .none, (.ref 262), (.ref 263), (.ref 264), (.int 525 0), (.int 142 0), (.str (.ofString "/claim/cut.py") 526)]), #[]⟩)
noncomputable def hd.o_313 : Params → Obj := (fun P => ⟨(.type "function"), none, (.func ⟨(.ofString "__init__"), (.ofString "Markers.__init__"), hA.a30, (.stmts hA.b30), hA.s30, 3, [], .none, .none, .none, (.str (.ofString "emacs.markers") 507), none, (.ref 265), .none, 0⟩), #[]⟩)
noncomputable def hd.o_314 : Params → Obj := (fun P => ⟨(.type "tuple"), none, (.seq #[] 0), #[]⟩)
noncomputable def hd.o_315 : Params → Obj := (fun P => ⟨.none, none, (.fields #[]), #[]⟩)
noncomputable def hd.o_316 : Params → Obj := (fun P => ⟨(.type "tuple"), none, (.seq #[(.str (.ofString "self") 531)] 0), #[]⟩)
noncomputable def hd.o_317 : Params → Obj := (fun P => ⟨(.type "tuple"), none, (.seq #[] 0), #[]⟩)
noncomputable def hd.o_318 : Params → Obj := (fun P => ⟨.none, none, (.func ⟨(.ofString "numbers"), (.ofString "Markers.numbers"), hA.a31, (.stmts hA.b31), hA.s31, 0, [], .none, .none, .none, .none, none, .none, .none, 0⟩), #[]⟩)
noncomputable def hd.o_319 : Params → Obj := (fun P => ⟨(.type "code"), none, (.fields #[(.str (.ofString "numbers") 528), (.str (.ofString "Markers.numbers") 529), (.str (.ofString "/claim/cut.py") 530), (.int 145 0), (.int 1 0), (.int 0 0), (.int 0 0), (.int 3 0), (.ref 267), (.bool true), (.int 181 0), (.ref 268), .none, (.ref 269), (.ref 270), (.ref 271), (.int 532 0), (.int 145 0), (.str (.ofString "/claim/cut.py") 533)]), #[]⟩)
noncomputable def hd.o_320 : Params → Obj := (fun P => ⟨(.type "function"), none, (.func ⟨(.ofString "numbers"), (.ofString "Markers.numbers"), hA.a31, (.stmts hA.b31), hA.s31, 3, [], .none, .none, .none, (.str (.ofString "emacs.markers") 507), none, (.ref 272), .none, 0⟩), #[]⟩)
noncomputable def hd.o_321 : Params → Obj := (fun P => ⟨(.type "tuple"), none, (.seq #[] 0), #[]⟩)
noncomputable def hd.o_322 : Params → Obj := (fun P => ⟨.none, none, (.fields #[]), #[]⟩)
noncomputable def hd.o_323 : Params → Obj := (fun P => ⟨(.type "tuple"), none, (.seq #[(.str (.ofString "self") 538), (.str (.ofString "marker") 539), (.str (.ofString "position") 540)] 0), #[]⟩)
noncomputable def hd.o_324 : Params → Obj := (fun P => ⟨(.type "tuple"), none, (.seq #[] 0), #[]⟩)
noncomputable def hd.o_325 : Params → Obj := (fun P => ⟨.none, none, (.func ⟨(.ofString "put"), (.ofString "Markers.put"), hA.a32, (.stmts hA.b32), hA.s32, 0, [], .none, .none, .none, .none, none, .none, .none, 0⟩), #[]⟩)
noncomputable def hd.o_326 : Params → Obj := (fun P => ⟨(.type "code"), none, (.fields #[(.str (.ofString "put") 535), (.str (.ofString "Markers.put") 536), (.str (.ofString "/claim/cut.py") 537), (.int 148 0), (.int 3 0), (.int 0 0), (.int 0 0), (.int 3 0), (.ref 274), (.bool true), (.int 181 0), (.ref 275), .none, (.ref 276), (.ref 277), (.ref 278), (.int 541 0), (.int 148 0), (.str (.ofString "/claim/cut.py") 542)]), #[]⟩)
noncomputable def hd.o_327 : Params → Obj := (fun P => ⟨(.type "function"), none, (.func ⟨(.ofString "put"), (.ofString "Markers.put"), hA.a32, (.stmts hA.b32), hA.s32, 3, [], .none, .none, .none, (.str (.ofString "emacs.markers") 507), none, (.ref 279), .none, 0⟩), #[]⟩)
noncomputable def hd.o_328 : Params → Obj := (fun P => ⟨(.type "tuple"), none, (.seq #[] 0), #[]⟩)
noncomputable def hd.o_329 : Params → Obj := (fun P => ⟨.none, none, (.fields #[]), #[]⟩)
noncomputable def hd.o_330 : Params → Obj := (fun P => ⟨(.type "tuple"), none, (.seq #[(.str (.ofString "self") 547), (.str (.ofString "marker") 548)] 0), #[]⟩)
noncomputable def hd.o_331 : Params → Obj := (fun P => ⟨(.type "tuple"), none, (.seq #[] 0), #[]⟩)
noncomputable def hd.o_332 : Params → Obj := (fun P => ⟨.none, none, (.func ⟨(.ofString "drop"), (.ofString "Markers.drop"), hA.a33, (.stmts hA.b33), hA.s33, 0, [], .none, .none, .none, .none, none, .none, .none, 0⟩), #[]⟩)
noncomputable def hd.o_333 : Params → Obj := (fun P => ⟨(.type "code"), none, (.fields #[(.str (.ofString "drop") 544), (.str (.ofString "Markers.drop") 545), (.str (.ofString "/claim/cut.py") 546), (.int 151 0), (.int 2 0), (.int 0 0), (.int 0 0), (.int 3 0), (.ref 281), (.bool true), (.int 181 0), (.ref 282), .none, (.ref 283), (.ref 284), (.ref 285), (.int 549 0), (.int 151 0), (.str (.ofString "/claim/cut.py") 550)]), #[]⟩)
noncomputable def hd.o_334 : Params → Obj := (fun P => ⟨(.type "function"), none, (.func ⟨(.ofString "drop"), (.ofString "Markers.drop"), hA.a33, (.stmts hA.b33), hA.s33, 3, [], .none, .none, .none, (.str (.ofString "emacs.markers") 507), none, (.ref 286), .none, 0⟩), #[]⟩)
noncomputable def hd.o_335 : Params → Obj := (fun P => ⟨(.type "tuple"), none, (.seq #[] 0), #[]⟩)
noncomputable def hd.o_336 : Params → Obj := (fun P => ⟨.none, none, (.fields #[]), #[]⟩)
noncomputable def hd.o_337 : Params → Obj := (fun P => ⟨(.type "tuple"), none, (.seq #[(.str (.ofString "self") 555), (.str (.ofString "start") 556), (.str (.ofString "end") 557)] 0), #[]⟩)
noncomputable def hd.o_338 : Params → Obj := (fun P => ⟨(.type "tuple"), none, (.seq #[] 0), #[]⟩)
noncomputable def hd.o_339 : Params → Obj := (fun P => ⟨.none, none, (.func ⟨(.ofString "within"), (.ofString "Markers.within"), hA.a34, (.stmts hA.b34), hA.s26, 0, [], .none, .none, .none, .none, none, .none, .none, 0⟩), #[]⟩)
noncomputable def hd.o_340 : Params → Obj := (fun P => ⟨(.type "code"), none, (.fields #[(.str (.ofString "within") 552), (.str (.ofString "Markers.within") 553), (.str (.ofString "/claim/cut.py") 554), (.int 154 0), (.int 3 0), (.int 0 0), (.int 0 0), (.int 3 0), (.ref 288), (.bool true), (.int 181 0), (.ref 289), .none, (.ref 290), (.ref 291), (.ref 292), (.int 558 0), (.int 154 0), (.str (.ofString "/claim/cut.py") 559)]), #[]⟩)
noncomputable def hd.o_341 : Params → Obj := (fun P => ⟨(.type "function"), none, (.func ⟨(.ofString "within"), (.ofString "Markers.within"), hA.a34, (.stmts hA.b34), hA.s26, 3, [], .none, .none, .none, (.str (.ofString "emacs.markers") 507), none, (.ref 293), .none, 0⟩), #[]⟩)
noncomputable def hd.o_342 : Params → Obj := (fun P => ⟨(.type "tuple"), none, (.seq #[] 0), #[]⟩)
noncomputable def hd.o_343 : Params → Obj := (fun P => ⟨.none, none, (.fields #[]), #[]⟩)
noncomputable def hd.o_344 : Params → Obj := (fun P => ⟨(.type "tuple"), none, (.seq #[(.str (.ofString "self") 564), (.str (.ofString "start") 565), (.str (.ofString "end") 566), (.str (.ofString "is_before") 567), (.str (.ofString "number") 568), (.str (.ofString "marker") 569)] 0), #[]⟩)
noncomputable def hd.o_345 : Params → Obj := (fun P => ⟨(.type "tuple"), none, (.seq #[] 0), #[]⟩)
noncomputable def hd.o_346 : Params → Obj := (fun P => ⟨.none, none, (.func ⟨(.ofString "inserted"), (.ofString "Markers.inserted"), hA.a35, (.stmts hA.b35), hA.s35, 0, [], .none, .none, .none, .none, none, .none, .none, 0⟩), #[]⟩)
noncomputable def hd.o_347 : Params → Obj := (fun P => ⟨(.type "code"), none, (.fields #[(.str (.ofString "inserted") 561), (.str (.ofString "Markers.inserted") 562), (.str (.ofString "/claim/cut.py") 563), (.int 157 0), (.int 4 0), (.int 0 0), (.int 0 0), (.int 3 0), (.ref 295), (.bool true), (.int 181 0), (.ref 296), .none, (.ref 297), (.ref 298), (.ref 299), (.int 570 0), (.int 157 0), (.str (.ofString "/claim/cut.py") 571)]), #[]⟩)
noncomputable def hd.o_348 : Params → Obj := (fun P => ⟨(.type "function"), none, (.func ⟨(.ofString "inserted"), (.ofString "Markers.inserted"), hA.a35, (.stmts hA.b35), hA.s35, 3, [], .none, .none, .none, (.str (.ofString "emacs.markers") 507), none, (.ref 300), .none, 0⟩), #[]⟩)
noncomputable def hd.o_349 : Params → Obj := (fun P => ⟨(.type "tuple"), none, (.seq #[] 0), #[]⟩)
noncomputable def hd.o_350 : Params → Obj := (fun P => ⟨.none, none, (.fields #[]), #[]⟩)
noncomputable def hd.o_351 : Params → Obj := (fun P => ⟨(.type "tuple"), none, (.seq #[(.str (.ofString "self") 576), (.str (.ofString "start") 577), (.str (.ofString "end") 578)] 0), #[]⟩)
noncomputable def hd.o_352 : Params → Obj := (fun P => ⟨(.type "tuple"), none, (.seq #[] 0), #[]⟩)
noncomputable def hd.o_353 : Params → Obj := (fun P => ⟨.none, none, (.func ⟨(.ofString "deleted"), (.ofString "Markers.deleted"), hA.a36, (.stmts hA.b36), hA.s26, 0, [], .none, .none, .none, .none, none, .none, .none, 0⟩), #[]⟩)
noncomputable def hd.o_354 : Params → Obj := (fun P => ⟨(.type "code"), none, (.fields #[(.str (.ofString "deleted") 573), (.str (.ofString "Markers.deleted") 574), (.str (.ofString "/claim/cut.py") 575), (.int 163 0), (.int 3 0), (.int 0 0), (.int 0 0), (.int 3 0), (.ref 302), (.bool true), (.int 181 0), (.ref 303), .none, (.ref 304), (.ref 305), (.ref 306), (.int 579 0), (.int 163 0), (.str (.ofString "/claim/cut.py") 580)]), #[]⟩)
noncomputable def hd.o_355 : Params → Obj := (fun P => ⟨(.type "function"), none, (.func ⟨(.ofString "deleted"), (.ofString "Markers.deleted"), hA.a36, (.stmts hA.b36), hA.s26, 3, [], .none, .none, .none, (.str (.ofString "emacs.markers") 507), none, (.ref 307), .none, 0⟩), #[]⟩)
noncomputable def hd.o_356 : Params → Obj := (fun P => ⟨(.type "tuple"), none, (.seq #[] 0), #[]⟩)
noncomputable def hd.o_357 : Params → Obj := (fun P => ⟨.none, none, (.fields #[]), #[]⟩)
noncomputable def hd.o_358 : Params → Obj := (fun P => ⟨(.type "tuple"), none, (.seq #[(.str (.ofString "self") 585), (.str (.ofString "start") 586), (.str (.ofString "end") 587), (.str (.ofString "many") 588)] 0), #[]⟩)
noncomputable def hd.o_359 : Params → Obj := (fun P => ⟨(.type "tuple"), none, (.seq #[] 0), #[]⟩)
noncomputable def hd.o_360 : Params → Obj := (fun P => ⟨.none, none, (.func ⟨(.ofString "replaced"), (.ofString "Markers.replaced"), hA.a37, (.stmts hA.b37), hA.s37, 0, [], .none, .none, .none, .none, none, .none, .none, 0⟩), #[]⟩)
noncomputable def hd.o_361 : Params → Obj := (fun P => ⟨(.type "code"), none, (.fields #[(.str (.ofString "replaced") 582), (.str (.ofString "Markers.replaced") 583), (.str (.ofString "/claim/cut.py") 584), (.int 166 0), (.int 4 0), (.int 0 0), (.int 0 0), (.int 3 0), (.ref 309), (.bool true), (.int 181 0), (.ref 310), .none, (.ref 311), (.ref 312), (.ref 313), (.int 589 0), (.int 166 0), (.str (.ofString "/claim/cut.py") 590)]), #[]⟩)
noncomputable def hd.o_362 : Params → Obj := (fun P => ⟨(.type "function"), none, (.func ⟨(.ofString "replaced"), (.ofString "Markers.replaced"), hA.a37, (.stmts hA.b37), hA.s37, 3, [], .none, .none, .none, (.str (.ofString "emacs.markers") 507), none, (.ref 314), .none, 0⟩), #[]⟩)
noncomputable def hd.o_363 : Params → Obj := (fun P => ⟨(.type "tuple"), none, (.seq #[(.str (.ofString "rows") 592)] 0), #[]⟩)
noncomputable def hd.o_364 : Params → Obj := (fun P => ⟨(.type "dict"), none, (.dict #[⟨(PyData.keyHash P (.ofString "__module__")), (.str (.ofString "__module__") 516), (.str (.ofString "emacs.markers") 507)⟩, ⟨(PyData.keyHash P (.ofString "__firstlineno__")), (.str (.ofString "__firstlineno__") 520), (.int 140 519)⟩, ⟨(PyData.keyHash P (.ofString "__init__")), (.str (.ofString "__init__") 527), (.ref 266)⟩, ⟨(PyData.keyHash P (.ofString "numbers")), (.str (.ofString "numbers") 534), (.ref 273)⟩, ⟨(PyData.keyHash P (.ofString "put")), (.str (.ofString "put") 543), (.ref 280)⟩, ⟨(PyData.keyHash P (.ofString "drop")), (.str (.ofString "drop") 551), (.ref 287)⟩, ⟨(PyData.keyHash P (.ofString "within")), (.str (.ofString "within") 560), (.ref 294)⟩, ⟨(PyData.keyHash P (.ofString "inserted")), (.str (.ofString "inserted") 572), (.ref 301)⟩, ⟨(PyData.keyHash P (.ofString "deleted")), (.str (.ofString "deleted") 581), (.ref 308)⟩, ⟨(PyData.keyHash P (.ofString "replaced")), (.str (.ofString "replaced") 591), (.ref 315)⟩, ⟨(PyData.keyHash P (.ofString "__static_attributes__")), (.str (.ofString "__static_attributes__") 593), (.ref 316)⟩, ⟨(PyData.keyHash P (.ofString "__dict__")), (.str (.ofString "__dict__") 595), (.ref 319)⟩, ⟨(PyData.keyHash P (.ofString "__weakref__")), (.str (.ofString "__weakref__") 597), (.ref 320)⟩, ⟨(PyData.keyHash P (.ofString "__doc__")), (.str (.ofString "__doc__") 598), .none⟩] 4), #[]⟩)
noncomputable def hd.o_365 : Params → Obj := (fun P => ⟨(.type "type"), none, (.cls ⟨(.ofString "Markers"), [(.type "object")], [(.ref 318), (.type "object")], 317, (.ofString "Markers"), true, [], [], false, none, false⟩), #[none, none, (some (.str (.ofString "Markers") 509)), (some (.str (.ofString "Markers") 517)), (some (.builtin "object.__new__")), (some (.bool true))]⟩)
noncomputable def hd.o_366 : Params → Obj := (fun P => ⟨(.type "getset_descriptor"), none, (.fields #[(.str (.ofString "__dict__") 594), (.ref 318), (.builtin "function.__dict__"), (.builtin "function.__dict__#set")]), #[]⟩)
noncomputable def hd.o_367 : Params → Obj := (fun P => ⟨(.type "getset_descriptor"), none, (.fields #[(.str (.ofString "__weakref__") 596), (.ref 318), (.builtin "ExceptionGroup.__weakref__"), .none]), #[]⟩)
noncomputable def hd.o_368 : Params → Obj := (fun P => ⟨(.type "super"), none, (.fields #[(.ref 318), (.ref 318), (.ref 318)]), #[]⟩)
noncomputable def hd.o_369 : Params → Obj := (fun P => ⟨(.type "builtin_function_or_method"), none, (.fields #[(.builtin "object.__init_subclass__"), (.ref 318)]), #[]⟩)
noncomputable def hd.o_370 : Params → Obj := (fun P => ⟨(.type "dict"), none, (.dict #[⟨(PyData.keyHash P (.ofString "__name__")), (.str (.ofString "__name__") 165), (.str (.ofString "emacs.buffer") 645)⟩, ⟨(PyData.keyHash P (.ofString "__doc__")), (.str (.ofString "__doc__") 166), .none⟩, ⟨(PyData.keyHash P (.ofString "__package__")), (.str (.ofString "__package__") 167), .none⟩, ⟨(PyData.keyHash P (.ofString "__loader__")), (.str (.ofString "__loader__") 168), (.builtin "__main__.__loader__#opaque")⟩, ⟨(PyData.keyHash P (.ofString "__spec__")), (.str (.ofString "__spec__") 169), .none⟩, ⟨(PyData.keyHash P (.ofString "__annotations__")), (.str (.ofString "__annotations__") 170), (.ref 6)⟩, ⟨(PyData.keyHash P (.ofString "__builtins__")), (.str (.ofString "__builtins__") 171), (.ref 4)⟩, ⟨(PyData.keyHash P (.ofString "__file__")), (.str (.ofString "__file__") 173), (.str (.ofString "/claim/cut.py") 172)⟩, ⟨(PyData.keyHash P (.ofString "__cached__")), (.str (.ofString "__cached__") 174), .none⟩, ⟨(PyData.keyHash P (.ofString "_wall")), (.str (.ofString "_wall") 193), (.ref 21)⟩, ⟨(PyData.keyHash P (.ofString "LispSignal")), (.str (.ofString "LispSignal") 226), (.ref 38)⟩, ⟨(PyData.keyHash P (.ofString "need_writable")), (.str (.ofString "need_writable") 235), (.ref 48)⟩, ⟨(PyData.keyHash P (.ofString "reached")), (.str (.ofString "reached") 246), (.ref 55)⟩, ⟨(PyData.keyHash P (.ofString "tell_ahead")), (.str (.ofString "tell_ahead") 256), (.ref 62)⟩, ⟨(PyData.keyHash P (.ofString "tell_behind")), (.str (.ofString "tell_behind") 267), (.ref 69)⟩, ⟨(PyData.keyHash P (.ofString "text_in")), (.str (.ofString "text_in") 276), (.ref 76)⟩, ⟨(PyData.keyHash P (.ofString "hung_in")), (.str (.ofString "hung_in") 286), (.ref 83)⟩, ⟨(PyData.keyHash P (.ofString "put_in")), (.str (.ofString "put_in") 297), (.ref 90)⟩, ⟨(PyData.keyHash P (.ofString "insert_at")), (.str (.ofString "insert_at") 307), (.ref 98)⟩, ⟨(PyData.keyHash P (.ofString "NEWLINE")), (.str (.ofString "NEWLINE") 311), (.int 10 310)⟩, ⟨(PyData.keyHash P (.ofString "char_after")), (.str (.ofString "char_after") 319), (.ref 105)⟩, ⟨(PyData.keyHash P (.ofString "char_before")), (.str (.ofString "char_before") 327), (.ref 112)⟩, ⟨(PyData.keyHash P (.ofString "is_bob")), (.str (.ofString "is_bob") 334), (.ref 119)⟩, ⟨(PyData.keyHash P (.ofString "is_eob")), (.str (.ofString "is_eob") 341), (.ref 126)⟩, ⟨(PyData.keyHash P (.ofString "is_bol")), (.str (.ofString "is_bol") 348), (.ref 133)⟩, ⟨(PyData.keyHash P (.ofString "is_eol")), (.str (.ofString "is_eol") 355), (.ref 140)⟩, ⟨(PyData.keyHash P (.ofString "substring")), (.str (.ofString "substring") 366), (.ref 147)⟩, ⟨(PyData.keyHash P (.ofString "folded")), (.str (.ofString "folded") 374), (.ref 154)⟩, ⟨(PyData.keyHash P (.ofString "compare_texts")), (.str (.ofString "compare_texts") 387), (.ref 161)⟩, ⟨(PyData.keyHash P (.ofString "GapText")), (.str (.ofString "GapText") 506), (.ref 248)⟩, ⟨(PyData.keyHash P (.ofString "Markers")), (.str (.ofString "Markers") 600), (.ref 318)⟩, ⟨(PyData.keyHash P (.ofString "Opaque")), (.str (.ofString "Opaque") 644), (.ref 353)⟩] 32), #[]⟩)
noncomputable def hd.o_371 : Params → Obj := (fun P => ⟨.none, none, (.fields #[(.int 1 0), (.int 0 0), (.ref 20), (.int 5 0), (.int 0 0), (.ref 27), (.int 11 0), (.int 0 0), (.ref 47), (.int 14 0), (.int 0 0), (.ref 54), (.int 19 0), (.int 0 0), (.ref 61), (.int 22 0), (.int 0 0), (.ref 68), (.int 26 0), (.int 0 0), (.ref 75), (.int 33 0), (.int 0 0), (.ref 82), (.int 38 0), (.int 0 0), (.ref 89), (.int 50 0), (.int 0 0), (.ref 97), (.int 54 0), (.int 0 0), (.ref 104), (.int 56 0), (.int 0 0), (.ref 111), (.int 58 0), (.int 0 0), (.ref 118), (.int 60 0), (.int 0 0), (.ref 125), (.int 62 0), (.int 0 0), (.ref 132), (.int 64 0), (.int 0 0), (.ref 139), (.int 66 0), (.int 0 0), (.ref 146), (.int 69 0), (.int 0 0), (.ref 153), (.int 71 0), (.int 0 0), (.ref 160), (.int 81 0), (.int 0 0), (.ref 167), (.int 140 0), (.int 0 0), (.ref 258), (.int 169 0), (.int 0 0), (.ref 328)]), #[]⟩)
noncomputable def hd.o_372 : Params → Obj := (fun P => ⟨(.type "tuple"), none, (.seq #[] 0), #[]⟩)
noncomputable def hd.o_373 : Params → Obj := (fun P => ⟨(.type "builtin_function_or_method"), none, (.fields #[(.builtin "type.__prepare__"), (.type "type")]), #[]⟩)
noncomputable def hd.o_374 : Params → Obj := (fun P => ⟨(.type "dict"), none, (.dict #[⟨(PyData.keyHash P (.ofString "__module__")), (.str (.ofString "__module__") 610), (.str (.ofString "emacs.objects") 601)⟩, ⟨(PyData.keyHash P (.ofString "__qualname__")), (.str (.ofString "__qualname__") 612), (.str (.ofString "Opaque") 611)⟩, ⟨(PyData.keyHash P (.ofString "__firstlineno__")), (.str (.ofString "__firstlineno__") 614), (.int 169 613)⟩, ⟨(PyData.keyHash P (.ofString "shown")), (.str (.ofString "shown") 621), (.ref 336)⟩, ⟨(PyData.keyHash P (.ofString "kind")), (.str (.ofString "kind") 628), (.ref 343)⟩, ⟨(PyData.keyHash P (.ofString "same_as")), (.str (.ofString "same_as") 636), (.ref 350)⟩, ⟨(PyData.keyHash P (.ofString "__static_attributes__")), (.str (.ofString "__static_attributes__") 637), (.ref 351)⟩] 7), #[]⟩)
noncomputable def hd.o_375 : Params → Obj := (fun P => ⟨(.type "tuple"), none, (.seq #[] 0), #[]⟩)
noncomputable def hd.o_376 : Params → Obj := (fun P => ⟨.none, none, (.fields #[(.int 171 0), (.int 4 0), (.ref 335), (.int 174 0), (.int 4 0), (.ref 342), (.int 177 0), (.int 4 0), (.ref 349)]), #[]⟩)
noncomputable def hd.o_377 : Params → Obj := (fun P => ⟨(.type "code"), none, (.fields #[(.str (.ofString "Opaque") 605), (.str (.ofString "Opaque") 606), (.str (.ofString "/claim/cut.py") 607), (.int 169 0), (.int 0 0), (.int 0 0), (.int 0 0), (.int 0 0), (.ref 326), (.bool false), (.int 181 0), (.ref 327), .none, .none, .none, .none, (.int 608 0), (.int 169 0), (.str (.ofString "/claim/cut.py") 609)]), #[]⟩)
noncomputable def hd.o_378 : Params → Obj := (fun P => ⟨(.type "frame"), none, .plain, #[(some (.ref 328)), (some (.ref 3)), (some (.ref 325)), none, (some (.str (.ofString "emacs.objects") 601)), none, (some (.ref 0))]⟩)
noncomputable def hd.o_379 : Params → Obj := (fun P => ⟨(.type "tuple"), none, (.seq #[] 0), #[]⟩)
noncomputable def hd.o_380 : Params → Obj := (fun P => ⟨.none, none, (.fields #[]), #[]⟩)
noncomputable def hd.o_381 : Params → Obj := (fun P => ⟨(.type "tuple"), none, (.seq #[(.str (.ofString "self") 618)] 0), #[]⟩)
noncomputable def hd.o_382 : Params → Obj := (fun P => ⟨(.type "tuple"), none, (.seq #[] 0), #[]⟩)
noncomputable def hd.o_383 : Params → Obj := (fun P => ⟨.none, none, (.func ⟨(.ofString "shown"), (.ofString "Opaque.shown"), hA.a38, (.stmts hA.b38), hA.s28, 0, [], .none, .none, .none, .none, none, .none, .none, 0⟩), #[]⟩)
noncomputable def hd.o_384 : Params → Obj := (fun P => ⟨(.type "code"), none, (.fields #[(.str (.ofString "shown") 615), (.str (.ofString "Opaque.shown") 616), (.str (.ofString "/claim/cut.py") 617), (.int 171 0), (.int 1 0), (.int 0 0), (.int 0 0), (.int 3 0), (.ref 330), (.bool true), (.int 181 0), (.ref 331), .none, (.ref 332), (.ref 333), (.ref 334), (.int 619 0), (.int 171 0), (.str (.ofString "/claim/cut.py") 620)]), #[]⟩)
noncomputable def hd.o_385 : Params → Obj := (fun P => ⟨(.type "function"), none, (.func ⟨(.ofString "shown"), (.ofString "Opaque.shown"), hA.a38, (.stmts hA.b38), hA.s28, 3, [], .none, .none, .none, (.str (.ofString "emacs.objects") 601), none, (.ref 335), .none, 0⟩), #[]⟩)
noncomputable def hd.o_386 : Params → Obj := (fun P => ⟨(.type "tuple"), none, (.seq #[] 0), #[]⟩)
noncomputable def hd.o_387 : Params → Obj := (fun P => ⟨.none, none, (.fields #[]), #[]⟩)
noncomputable def hd.o_388 : Params → Obj := (fun P => ⟨(.type "tuple"), none, (.seq #[(.str (.ofString "self") 625)] 0), #[]⟩)
noncomputable def hd.o_389 : Params → Obj := (fun P => ⟨(.type "tuple"), none, (.seq #[] 0), #[]⟩)
noncomputable def hd.o_390 : Params → Obj := (fun P => ⟨.none, none, (.func ⟨(.ofString "kind"), (.ofString "Opaque.kind"), hA.a39, (.stmts hA.b39), hA.s28, 0, [], .none, .none, .none, .none, none, .none, .none, 0⟩), #[]⟩)
noncomputable def hd.o_391 : Params → Obj := (fun P => ⟨(.type "code"), none, (.fields #[(.str (.ofString "kind") 622), (.str (.ofString "Opaque.kind") 623), (.str (.ofString "/claim/cut.py") 624), (.int 174 0), (.int 1 0), (.int 0 0), (.int 0 0), (.int 3 0), (.ref 337), (.bool true), (.int 181 0), (.ref 338), .none, (.ref 339), (.ref 340), (.ref 341), (.int 626 0), (.int 174 0), (.str (.ofString "/claim/cut.py") 627)]), #[]⟩)
noncomputable def hd.o_392 : Params → Obj := (fun P => ⟨(.type "function"), none, (.func ⟨(.ofString "kind"), (.ofString "Opaque.kind"), hA.a39, (.stmts hA.b39), hA.s28, 3, [], .none, .none, .none, (.str (.ofString "emacs.objects") 601), none, (.ref 342), .none, 0⟩), #[]⟩)
noncomputable def hd.o_393 : Params → Obj := (fun P => ⟨(.type "tuple"), none, (.seq #[] 0), #[]⟩)
noncomputable def hd.o_394 : Params → Obj := (fun P => ⟨.none, none, (.fields #[]), #[]⟩)
noncomputable def hd.o_395 : Params → Obj := (fun P => ⟨(.type "tuple"), none, (.seq #[(.str (.ofString "self") 632), (.str (.ofString "other") 633)] 0), #[]⟩)
noncomputable def hd.o_396 : Params → Obj := (fun P => ⟨(.type "tuple"), none, (.seq #[] 0), #[]⟩)
noncomputable def hd.o_397 : Params → Obj := (fun P => ⟨.none, none, (.func ⟨(.ofString "same_as"), (.ofString "Opaque.same_as"), hA.a40, (.stmts hA.b40), hA.s40, 0, [], .none, .none, .none, .none, none, .none, .none, 0⟩), #[]⟩)
noncomputable def hd.o_398 : Params → Obj := (fun P => ⟨(.type "code"), none, (.fields #[(.str (.ofString "same_as") 629), (.str (.ofString "Opaque.same_as") 630), (.str (.ofString "/claim/cut.py") 631), (.int 177 0), (.int 2 0), (.int 0 0), (.int 0 0), (.int 3 0), (.ref 344), (.bool true), (.int 181 0), (.ref 345), .none, (.ref 346), (.ref 347), (.ref 348), (.int 634 0), (.int 177 0), (.str (.ofString "/claim/cut.py") 635)]), #[]⟩)
noncomputable def hd.o_399 : Params → Obj := (fun P => ⟨(.type "function"), none, (.func ⟨(.ofString "same_as"), (.ofString "Opaque.same_as"), hA.a40, (.stmts hA.b40), hA.s40, 3, [], .none, .none, .none, (.str (.ofString "emacs.objects") 601), none, (.ref 349), .none, 0⟩), #[]⟩)
noncomputable def hd.o_400 : Params → Obj := (fun P => ⟨(.type "tuple"), none, (.seq #[] 0), #[]⟩)
noncomputable def hd.o_401 : Params → Obj := (fun P => ⟨(.type "dict"), none, (.dict #[⟨(PyData.keyHash P (.ofString "__module__")), (.str (.ofString "__module__") 610), (.str (.ofString "emacs.objects") 601)⟩, ⟨(PyData.keyHash P (.ofString "__firstlineno__")), (.str (.ofString "__firstlineno__") 614), (.int 169 613)⟩, ⟨(PyData.keyHash P (.ofString "shown")), (.str (.ofString "shown") 621), (.ref 336)⟩, ⟨(PyData.keyHash P (.ofString "kind")), (.str (.ofString "kind") 628), (.ref 343)⟩, ⟨(PyData.keyHash P (.ofString "same_as")), (.str (.ofString "same_as") 636), (.ref 350)⟩, ⟨(PyData.keyHash P (.ofString "__static_attributes__")), (.str (.ofString "__static_attributes__") 637), (.ref 351)⟩, ⟨(PyData.keyHash P (.ofString "__dict__")), (.str (.ofString "__dict__") 639), (.ref 354)⟩, ⟨(PyData.keyHash P (.ofString "__weakref__")), (.str (.ofString "__weakref__") 641), (.ref 355)⟩, ⟨(PyData.keyHash P (.ofString "__doc__")), (.str (.ofString "__doc__") 642), .none⟩] 4), #[]⟩)
noncomputable def hd.o_402 : Params → Obj := (fun P => ⟨(.type "type"), none, (.cls ⟨(.ofString "Opaque"), [(.type "object")], [(.ref 353), (.type "object")], 352, (.ofString "Opaque"), true, [], [], false, none, false⟩), #[none, none, (some (.str (.ofString "Opaque") 603)), (some (.str (.ofString "Opaque") 611)), (some (.builtin "object.__new__")), (some (.bool true))]⟩)
noncomputable def hd.o_403 : Params → Obj := (fun P => ⟨(.type "getset_descriptor"), none, (.fields #[(.str (.ofString "__dict__") 638), (.ref 353), (.builtin "function.__dict__"), (.builtin "function.__dict__#set")]), #[]⟩)
noncomputable def hd.o_404 : Params → Obj := (fun P => ⟨(.type "getset_descriptor"), none, (.fields #[(.str (.ofString "__weakref__") 640), (.ref 353), (.builtin "ExceptionGroup.__weakref__"), .none]), #[]⟩)
noncomputable def hd.o_405 : Params → Obj := (fun P => ⟨(.type "super"), none, (.fields #[(.ref 353), (.ref 353), (.ref 353)]), #[]⟩)
noncomputable def hd.o_406 : Params → Obj := (fun P => ⟨(.type "builtin_function_or_method"), none, (.fields #[(.builtin "object.__init_subclass__"), (.ref 353)]), #[]⟩)
noncomputable def hd.o_407 : Params → Obj := (fun P => ⟨(.type "dict"), none, (.dict #[⟨(PyData.keyHash P (.ofString "__name__")), (.str (.ofString "__name__") 165), (.str (.ofString "emacs.buffer") 645)⟩, ⟨(PyData.keyHash P (.ofString "__doc__")), (.str (.ofString "__doc__") 166), .none⟩, ⟨(PyData.keyHash P (.ofString "__package__")), (.str (.ofString "__package__") 167), .none⟩, ⟨(PyData.keyHash P (.ofString "__loader__")), (.str (.ofString "__loader__") 168), (.builtin "__main__.__loader__#opaque")⟩, ⟨(PyData.keyHash P (.ofString "__spec__")), (.str (.ofString "__spec__") 169), .none⟩, ⟨(PyData.keyHash P (.ofString "__annotations__")), (.str (.ofString "__annotations__") 170), (.ref 6)⟩, ⟨(PyData.keyHash P (.ofString "__builtins__")), (.str (.ofString "__builtins__") 171), (.ref 4)⟩, ⟨(PyData.keyHash P (.ofString "__file__")), (.str (.ofString "__file__") 173), (.str (.ofString "/claim/cut.py") 172)⟩, ⟨(PyData.keyHash P (.ofString "__cached__")), (.str (.ofString "__cached__") 174), .none⟩, ⟨(PyData.keyHash P (.ofString "_wall")), (.str (.ofString "_wall") 193), (.ref 21)⟩, ⟨(PyData.keyHash P (.ofString "LispSignal")), (.str (.ofString "LispSignal") 226), (.ref 38)⟩, ⟨(PyData.keyHash P (.ofString "need_writable")), (.str (.ofString "need_writable") 235), (.ref 48)⟩, ⟨(PyData.keyHash P (.ofString "reached")), (.str (.ofString "reached") 246), (.ref 55)⟩, ⟨(PyData.keyHash P (.ofString "tell_ahead")), (.str (.ofString "tell_ahead") 256), (.ref 62)⟩, ⟨(PyData.keyHash P (.ofString "tell_behind")), (.str (.ofString "tell_behind") 267), (.ref 69)⟩, ⟨(PyData.keyHash P (.ofString "text_in")), (.str (.ofString "text_in") 276), (.ref 76)⟩, ⟨(PyData.keyHash P (.ofString "hung_in")), (.str (.ofString "hung_in") 286), (.ref 83)⟩, ⟨(PyData.keyHash P (.ofString "put_in")), (.str (.ofString "put_in") 297), (.ref 90)⟩, ⟨(PyData.keyHash P (.ofString "insert_at")), (.str (.ofString "insert_at") 307), (.ref 98)⟩, ⟨(PyData.keyHash P (.ofString "NEWLINE")), (.str (.ofString "NEWLINE") 311), (.int 10 310)⟩, ⟨(PyData.keyHash P (.ofString "char_after")), (.str (.ofString "char_after") 319), (.ref 105)⟩, ⟨(PyData.keyHash P (.ofString "char_before")), (.str (.ofString "char_before") 327), (.ref 112)⟩, ⟨(PyData.keyHash P (.ofString "is_bob")), (.str (.ofString "is_bob") 334), (.ref 119)⟩, ⟨(PyData.keyHash P (.ofString "is_eob")), (.str (.ofString "is_eob") 341), (.ref 126)⟩, ⟨(PyData.keyHash P (.ofString "is_bol")), (.str (.ofString "is_bol") 348), (.ref 133)⟩, ⟨(PyData.keyHash P (.ofString "is_eol")), (.str (.ofString "is_eol") 355), (.ref 140)⟩, ⟨(PyData.keyHash P (.ofString "substring")), (.str (.ofString "substring") 366), (.ref 147)⟩, ⟨(PyData.keyHash P (.ofString "folded")), (.str (.ofString "folded") 374), (.ref 154)⟩, ⟨(PyData.keyHash P (.ofString "compare_texts")), (.str (.ofString "compare_texts") 387), (.ref 161)⟩, ⟨(PyData.keyHash P (.ofString "GapText")), (.str (.ofString "GapText") 506), (.ref 248)⟩, ⟨(PyData.keyHash P (.ofString "Markers")), (.str (.ofString "Markers") 600), (.ref 318)⟩, ⟨(PyData.keyHash P (.ofString "Opaque")), (.str (.ofString "Opaque") 644), (.ref 353)⟩, ⟨(PyData.keyHash P (.ofString "Buffer")), (.str (.ofString "Buffer") 783), (.ref 459)⟩] 33), #[]⟩)
noncomputable def hd.o_408 : Params → Obj := (fun P => ⟨.none, none, (.fields #[(.int 1 0), (.int 0 0), (.ref 20), (.int 5 0), (.int 0 0), (.ref 27), (.int 11 0), (.int 0 0), (.ref 47), (.int 14 0), (.int 0 0), (.ref 54), (.int 19 0), (.int 0 0), (.ref 61), (.int 22 0), (.int 0 0), (.ref 68), (.int 26 0), (.int 0 0), (.ref 75), (.int 33 0), (.int 0 0), (.ref 82), (.int 38 0), (.int 0 0), (.ref 89), (.int 50 0), (.int 0 0), (.ref 97), (.int 54 0), (.int 0 0), (.ref 104), (.int 56 0), (.int 0 0), (.ref 111), (.int 58 0), (.int 0 0), (.ref 118), (.int 60 0), (.int 0 0), (.ref 125), (.int 62 0), (.int 0 0), (.ref 132), (.int 64 0), (.int 0 0), (.ref 139), (.int 66 0), (.int 0 0), (.ref 146), (.int 69 0), (.int 0 0), (.ref 153), (.int 71 0), (.int 0 0), (.ref 160), (.int 81 0), (.int 0 0), (.ref 167), (.int 140 0), (.int 0 0), (.ref 258), (.int 169 0), (.int 0 0), (.ref 328), (.int 180 0), (.int 0 0), (.ref 363)]), #[]⟩)
noncomputable def hd.o_409 : Params → Obj := (fun P => ⟨(.type "type"), none, (.cls ⟨(.ofString "Opaque"), [(.type "object")], [(.ref 353), (.type "object")], 352, (.ofString "Opaque"), true, [], [(.ref 459)], false, none, false⟩), #[none, none, (some (.str (.ofString "Opaque") 603)), (some (.str (.ofString "Opaque") 611)), (some (.builtin "object.__new__")), (some (.bool true))]⟩)
noncomputable def hd.o_410 : Params → Obj := (fun P => ⟨(.type "tuple"), none, (.seq #[(.ref 353)] 0), #[]⟩)
noncomputable def hd.o_411 : Params → Obj := (fun P => ⟨(.type "builtin_function_or_method"), none, (.fields #[(.builtin "type.__prepare__"), (.type "type")]), #[]⟩)
noncomputable def hd.o_412 : Params → Obj := (fun P => ⟨(.type "dict"), none, (.dict #[⟨(PyData.keyHash P (.ofString "__module__")), (.str (.ofString "__module__") 654), (.str (.ofString "emacs.buffer") 645)⟩, ⟨(PyData.keyHash P (.ofString "__qualname__")), (.str (.ofString "__qualname__") 656), (.str (.ofString "Buffer") 655)⟩, ⟨(PyData.keyHash P (.ofString "__firstlineno__")), (.str (.ofString "__firstlineno__") 658), (.int 180 657)⟩, ⟨(PyData.keyHash P (.ofString "__init__")), (.str (.ofString "__init__") 669), (.ref 372)⟩, ⟨(PyData.keyHash P (.ofString "shown")), (.str (.ofString "shown") 676), (.ref 379)⟩, ⟨(PyData.keyHash P (.ofString "kind")), (.str (.ofString "kind") 683), (.ref 386)⟩, ⟨(PyData.keyHash P (.ofString "begin")), (.str (.ofString "begin") 690), (.ref 393)⟩, ⟨(PyData.keyHash P (.ofString "end")), (.str (.ofString "end") 697), (.ref 400)⟩, ⟨(PyData.keyHash P (.ofString "size")), (.str (.ofString "size") 704), (.ref 407)⟩, ⟨(PyData.keyHash P (.ofString "code_at")), (.str (.ofString "code_at") 712), (.ref 414)⟩, ⟨(PyData.keyHash P (.ofString "codes")), (.str (.ofString "codes") 721), (.ref 421)⟩, ⟨(PyData.keyHash P (.ofString "goto")), (.str (.ofString "goto") 729), (.ref 428)⟩, ⟨(PyData.keyHash P (.ofString "tick")), (.str (.ofString "tick") 736), (.ref 435)⟩, ⟨(PyData.keyHash P (.ofString "is_modified")), (.str (.ofString "is_modified") 743), (.ref 442)⟩, ⟨(PyData.keyHash P (.ofString "set_modified")), (.str (.ofString "set_modified") 751), (.ref 449)⟩, ⟨(PyData.keyHash P (.ofString "touch")), (.str (.ofString "touch") 759), (.ref 456)⟩, ⟨(PyData.keyHash P (.ofString "__static_attributes__")), (.str (.ofString "__static_attributes__") 780), (.ref 457)⟩] 17), #[]⟩)
noncomputable def hd.o_413 : Params → Obj := (fun P => ⟨(.type "tuple"), none, (.seq #[] 0), #[]⟩)
noncomputable def hd.o_414 : Params → Obj := (fun P => ⟨.none, none, (.fields #[(.int 182 0), (.int 4 0), (.ref 371), (.int 204 0), (.int 4 0), (.ref 378), (.int 207 0), (.int 4 0), (.ref 385), (.int 210 0), (.int 4 0), (.ref 392), (.int 213 0), (.int 4 0), (.ref 399), (.int 216 0), (.int 4 0), (.ref 406), (.int 219 0), (.int 4 0), (.ref 413), (.int 224 0), (.int 4 0), (.ref 420), (.int 227 0), (.int 4 0), (.ref 427), (.int 231 0), (.int 4 0), (.ref 434), (.int 234 0), (.int 4 0), (.ref 441), (.int 237 0), (.int 4 0), (.ref 448), (.int 240 0), (.int 4 0), (.ref 455)]), #[]⟩)
noncomputable def hd.o_415 : Params → Obj := (fun P => ⟨(.type "code"), none, (.fields #[(.str (.ofString "Buffer") 649), (.str (.ofString "Buffer") 650), (.str (.ofString "/claim/cut.py") 651), (.int 180 0), (.int 0 0), (.int 0 0), (.int 0 0), (.int 0 0), (.ref 361), (.bool false), (.int 181 0), (.ref 362), .none, .none, .none, .none, (.int 652 0), (.int 180 0), (.str (.ofString "/claim/cut.py") 653)]), #[]⟩)
noncomputable def hd.o_416 : Params → Obj := (fun P => ⟨(.type "frame"), none, .plain, #[(some (.ref 363)), (some (.ref 3)), (some (.ref 360)), none, (some (.str (.ofString "emacs.buffer") 645)), none, (some (.ref 0))]⟩)
noncomputable def hd.o_417 : Params → Obj := (fun P => ⟨(.type "tuple"), none, (.seq #[(.int 8 659)] 0), #[]⟩)
noncomputable def hd.o_418 : Params → Obj := (fun P => ⟨(.type "tuple"), none, (.seq #[] 0), #[]⟩)
noncomputable def hd.o_419 : Params → Obj := (fun P => ⟨.none, none, (.fields #[]), #[]⟩)
noncomputable def hd.o_420 : Params → Obj := (fun P => ⟨(.type "tuple"), none, (.seq #[(.str (.ofString "self") 663), (.str (.ofString "number") 664), (.str (.ofString "name") 665), (.str (.ofString "room") 666)] 0), #[]⟩)
noncomputable def hd.o_421 : Params → Obj := (fun P => ⟨(.type "tuple"), none, (.seq #[] 0), #[]⟩)
noncomputable def hd.o_422 : Params → Obj := (fun P => ⟨.none, none, (.func ⟨(.ofString "__init__"), (.ofString "Buffer.__init__"), hA.a41, (.stmts hA.b41), hA.s41, 0, [], .none, .none, .none, .none, none, .none, .none, 0⟩), #[]⟩)
noncomputable def hd.o_423 : Params → Obj := (fun P => ⟨(.type "code"), none, (.fields #[(.str (.ofString "__init__") 660), (.str (.ofString "Buffer.__init__") 661), (.str (.ofString "/claim/cut.py") 662), (.int 182 0), (.int 4 0), (.int 0 0), (.int 0 0), (.int 3 0), (.ref 366), (.bool true), (.int 181 0), (.ref 367), .none, (.ref 368), (.ref 369), (.ref 370), (.int 667 0), (.int 182 0), (.str (.ofString "/claim/cut.py") 668)]), #[]⟩)
noncomputable def hd.o_424 : Params → Obj := (fun P => ⟨(.type "function"), none, (.func ⟨(.ofString "__init__"), (.ofString "Buffer.__init__"), hA.a41, (.stmts hA.b41), hA.s41, 3, [], (.ref 365), .none, .none, (.str (.ofString "emacs.buffer") 645), none, (.ref 371), .none, 0⟩), #[]⟩)
noncomputable def hd.o_425 : Params → Obj := (fun P => ⟨(.type "tuple"), none, (.seq #[] 0), #[]⟩)
noncomputable def hd.o_426 : Params → Obj := (fun P => ⟨.none, none, (.fields #[]), #[]⟩)
noncomputable def hd.o_427 : Params → Obj := (fun P => ⟨(.type "tuple"), none, (.seq #[(.str (.ofString "self") 673)] 0), #[]⟩)
noncomputable def hd.o_428 : Params → Obj := (fun P => ⟨(.type "tuple"), none, (.seq #[] 0), #[]⟩)
noncomputable def hd.o_429 : Params → Obj := (fun P => ⟨.none, none, (.func ⟨(.ofString "shown"), (.ofString "Buffer.shown"), hA.a42, (.stmts hA.b42), hA.s28, 0, [], .none, .none, .none, .none, none, .none, .none, 0⟩), #[]⟩)
noncomputable def hd.o_430 : Params → Obj := (fun P => ⟨(.type "code"), none, (.fields #[(.str (.ofString "shown") 670), (.str (.ofString "Buffer.shown") 671), (.str (.ofString "/claim/cut.py") 672), (.int 204 0), (.int 1 0), (.int 0 0), (.int 0 0), (.int 3 0), (.ref 373), (.bool true), (.int 181 0), (.ref 374), .none, (.ref 375), (.ref 376), (.ref 377), (.int 674 0), (.int 204 0), (.str (.ofString "/claim/cut.py") 675)]), #[]⟩)
noncomputable def hd.o_431 : Params → Obj := (fun P => ⟨(.type "function"), none, (.func ⟨(.ofString "shown"), (.ofString "Buffer.shown"), hA.a42, (.stmts hA.b42), hA.s28, 3, [], .none, .none, .none, (.str (.ofString "emacs.buffer") 645), none, (.ref 378), .none, 0⟩), #[]⟩)
noncomputable def hd.o_432 : Params → Obj := (fun P => ⟨(.type "tuple"), none, (.seq #[] 0), #[]⟩)
noncomputable def hd.o_433 : Params → Obj := (fun P => ⟨.none, none, (.fields #[]), #[]⟩)
noncomputable def hd.o_434 : Params → Obj := (fun P => ⟨(.type "tuple"), none, (.seq #[(.str (.ofString "self") 680)] 0), #[]⟩)
noncomputable def hd.o_435 : Params → Obj := (fun P => ⟨(.type "tuple"), none, (.seq #[] 0), #[]⟩)
noncomputable def hd.o_436 : Params → Obj := (fun P => ⟨.none, none, (.func ⟨(.ofString "kind"), (.ofString "Buffer.kind"), hA.a43, (.stmts hA.b43), hA.s28, 0, [], .none, .none, .none, .none, none, .none, .none, 0⟩), #[]⟩)
noncomputable def hd.o_437 : Params → Obj := (fun P => ⟨(.type "code"), none, (.fields #[(.str (.ofString "kind") 677), (.str (.ofString "Buffer.kind") 678), (.str (.ofString "/claim/cut.py") 679), (.int 207 0), (.int 1 0), (.int 0 0), (.int 0 0), (.int 3 0), (.ref 380), (.bool true), (.int 181 0), (.ref 381), .none, (.ref 382), (.ref 383), (.ref 384), (.int 681 0), (.int 207 0), (.str (.ofString "/claim/cut.py") 682)]), #[]⟩)
noncomputable def hd.o_438 : Params → Obj := (fun P => ⟨(.type "function"), none, (.func ⟨(.ofString "kind"), (.ofString "Buffer.kind"), hA.a43, (.stmts hA.b43), hA.s28, 3, [], .none, .none, .none, (.str (.ofString "emacs.buffer") 645), none, (.ref 385), .none, 0⟩), #[]⟩)
noncomputable def hd.o_439 : Params → Obj := (fun P => ⟨(.type "tuple"), none, (.seq #[] 0), #[]⟩)
noncomputable def hd.o_440 : Params → Obj := (fun P => ⟨.none, none, (.fields #[]), #[]⟩)
noncomputable def hd.o_441 : Params → Obj := (fun P => ⟨(.type "tuple"), none, (.seq #[(.str (.ofString "self") 687)] 0), #[]⟩)
noncomputable def hd.o_442 : Params → Obj := (fun P => ⟨(.type "tuple"), none, (.seq #[] 0), #[]⟩)
noncomputable def hd.o_443 : Params → Obj := (fun P => ⟨.none, none, (.func ⟨(.ofString "begin"), (.ofString "Buffer.begin"), hA.a44, (.stmts hA.b44), hA.s30, 0, [], .none, .none, .none, .none, none, .none, .none, 0⟩), #[]⟩)
noncomputable def hd.o_444 : Params → Obj := (fun P => ⟨(.type "code"), none, (.fields #[(.str (.ofString "begin") 684), (.str (.ofString "Buffer.begin") 685), (.str (.ofString "/claim/cut.py") 686), (.int 210 0), (.int 1 0), (.int 0 0), (.int 0 0), (.int 3 0), (.ref 387), (.bool true), (.int 181 0), (.ref 388), .none, (.ref 389), (.ref 390), (.ref 391), (.int 688 0), (.int 210 0), (.str (.ofString "/claim/cut.py") 689)]), #[]⟩)
noncomputable def hd.o_445 : Params → Obj := (fun P => ⟨(.type "function"), none, (.func ⟨(.ofString "begin"), (.ofString "Buffer.begin"), hA.a44, (.stmts hA.b44), hA.s30, 3, [], .none, .none, .none, (.str (.ofString "emacs.buffer") 645), none, (.ref 392), .none, 0⟩), #[]⟩)
noncomputable def hd.o_446 : Params → Obj := (fun P => ⟨(.type "tuple"), none, (.seq #[] 0), #[]⟩)
noncomputable def hd.o_447 : Params → Obj := (fun P => ⟨.none, none, (.fields #[]), #[]⟩)
noncomputable def hd.o_448 : Params → Obj := (fun P => ⟨(.type "tuple"), none, (.seq #[(.str (.ofString "self") 694)] 0), #[]⟩)
noncomputable def hd.o_449 : Params → Obj := (fun P => ⟨(.type "tuple"), none, (.seq #[] 0), #[]⟩)
noncomputable def hd.o_450 : Params → Obj := (fun P => ⟨.none, none, (.func ⟨(.ofString "end"), (.ofString "Buffer.end"), hA.a45, (.stmts hA.b45), hA.s30, 0, [], .none, .none, .none, .none, none, .none, .none, 0⟩), #[]⟩)
noncomputable def hd.o_451 : Params → Obj := (fun P => ⟨(.type "code"), none, (.fields #[(.str (.ofString "end") 691), (.str (.ofString "Buffer.end") 692), (.str (.ofString "/claim/cut.py") 693), (.int 213 0), (.int 1 0), (.int 0 0), (.int 0 0), (.int 3 0), (.ref 394), (.bool true), (.int 181 0), (.ref 395), .none, (.ref 396), (.ref 397), (.ref 398), (.int 695 0), (.int 213 0), (.str (.ofString "/claim/cut.py") 696)]), #[]⟩)
noncomputable def hd.o_452 : Params → Obj := (fun P => ⟨(.type "function"), none, (.func ⟨(.ofString "end"), (.ofString "Buffer.end"), hA.a45, (.stmts hA.b45), hA.s30, 3, [], .none, .none, .none, (.str (.ofString "emacs.buffer") 645), none, (.ref 399), .none, 0⟩), #[]⟩)
noncomputable def hd.o_453 : Params → Obj := (fun P => ⟨(.type "tuple"), none, (.seq #[] 0), #[]⟩)
noncomputable def hd.o_454 : Params → Obj := (fun P => ⟨.none, none, (.fields #[]), #[]⟩)
noncomputable def hd.o_455 : Params → Obj := (fun P => ⟨(.type "tuple"), none, (.seq #[(.str (.ofString "self") 701)] 0), #[]⟩)
noncomputable def hd.o_456 : Params → Obj := (fun P => ⟨(.type "tuple"), none, (.seq #[] 0), #[]⟩)
noncomputable def hd.o_457 : Params → Obj := (fun P => ⟨.none, none, (.func ⟨(.ofString "size"), (.ofString "Buffer.size"), hA.a46, (.stmts hA.b46), hA.s30, 0, [], .none, .none, .none, .none, none, .none, .none, 0⟩), #[]⟩)
noncomputable def hd.o_458 : Params → Obj := (fun P => ⟨(.type "code"), none, (.fields #[(.str (.ofString "size") 698), (.str (.ofString "Buffer.size") 699), (.str (.ofString "/claim/cut.py") 700), (.int 216 0), (.int 1 0), (.int 0 0), (.int 0 0), (.int 3 0), (.ref 401), (.bool true), (.int 181 0), (.ref 402), .none, (.ref 403), (.ref 404), (.ref 405), (.int 702 0), (.int 216 0), (.str (.ofString "/claim/cut.py") 703)]), #[]⟩)
noncomputable def hd.o_459 : Params → Obj := (fun P => ⟨(.type "function"), none, (.func ⟨(.ofString "size"), (.ofString "Buffer.size"), hA.a46, (.stmts hA.b46), hA.s30, 3, [], .none, .none, .none, (.str (.ofString "emacs.buffer") 645), none, (.ref 406), .none, 0⟩), #[]⟩)
noncomputable def hd.o_460 : Params → Obj := (fun P => ⟨(.type "tuple"), none, (.seq #[] 0), #[]⟩)
noncomputable def hd.o_461 : Params → Obj := (fun P => ⟨.none, none, (.fields #[]), #[]⟩)
noncomputable def hd.o_462 : Params → Obj := (fun P => ⟨(.type "tuple"), none, (.seq #[(.str (.ofString "self") 708), (.str (.ofString "place") 709)] 0), #[]⟩)
noncomputable def hd.o_463 : Params → Obj := (fun P => ⟨(.type "tuple"), none, (.seq #[] 0), #[]⟩)
noncomputable def hd.o_464 : Params → Obj := (fun P => ⟨.none, none, (.func ⟨(.ofString "code_at"), (.ofString "Buffer.code_at"), hA.a47, (.stmts hA.b47), hA.s47, 0, [], .none, .none, .none, .none, none, .none, .none, 0⟩), #[]⟩)
noncomputable def hd.o_465 : Params → Obj := (fun P => ⟨(.type "code"), none, (.fields #[(.str (.ofString "code_at") 705), (.str (.ofString "Buffer.code_at") 706), (.str (.ofString "/claim/cut.py") 707), (.int 219 0), (.int 2 0), (.int 0 0), (.int 0 0), (.int 3 0), (.ref 408), (.bool true), (.int 181 0), (.ref 409), .none, (.ref 410), (.ref 411), (.ref 412), (.int 710 0), (.int 219 0), (.str (.ofString "/claim/cut.py") 711)]), #[]⟩)
noncomputable def hd.o_466 : Params → Obj := (fun P => ⟨(.type "function"), none, (.func ⟨(.ofString "code_at"), (.ofString "Buffer.code_at"), hA.a47, (.stmts hA.b47), hA.s47, 3, [], .none, .none, .none, (.str (.ofString "emacs.buffer") 645), none, (.ref 413), .none, 0⟩), #[]⟩)
noncomputable def hd.o_467 : Params → Obj := (fun P => ⟨(.type "tuple"), none, (.seq #[] 0), #[]⟩)
noncomputable def hd.o_468 : Params → Obj := (fun P => ⟨.none, none, (.fields #[]), #[]⟩)
noncomputable def hd.o_469 : Params → Obj := (fun P => ⟨(.type "tuple"), none, (.seq #[(.str (.ofString "self") 716), (.str (.ofString "start") 717), (.str (.ofString "end") 718)] 0), #[]⟩)
noncomputable def hd.o_470 : Params → Obj := (fun P => ⟨(.type "tuple"), none, (.seq #[] 0), #[]⟩)
noncomputable def hd.o_471 : Params → Obj := (fun P => ⟨.none, none, (.func ⟨(.ofString "codes"), (.ofString "Buffer.codes"), hA.a48, (.stmts hA.b48), hA.s48, 0, [], .none, .none, .none, .none, none, .none, .none, 0⟩), #[]⟩)
noncomputable def hd.o_472 : Params → Obj := (fun P => ⟨(.type "code"), none, (.fields #[(.str (.ofString "codes") 713), (.str (.ofString "Buffer.codes") 714), (.str (.ofString "/claim/cut.py") 715), (.int 224 0), (.int 3 0), (.int 0 0), (.int 0 0), (.int 3 0), (.ref 415), (.bool true), (.int 181 0), (.ref 416), .none, (.ref 417), (.ref 418), (.ref 419), (.int 719 0), (.int 224 0), (.str (.ofString "/claim/cut.py") 720)]), #[]⟩)
noncomputable def hd.o_473 : Params → Obj := (fun P => ⟨(.type "function"), none, (.func ⟨(.ofString "codes"), (.ofString "Buffer.codes"), hA.a48, (.stmts hA.b48), hA.s48, 3, [], .none, .none, .none, (.str (.ofString "emacs.buffer") 645), none, (.ref 420), .none, 0⟩), #[]⟩)
noncomputable def hd.o_474 : Params → Obj := (fun P => ⟨(.type "tuple"), none, (.seq #[] 0), #[]⟩)
noncomputable def hd.o_475 : Params → Obj := (fun P => ⟨.none, none, (.fields #[]), #[]⟩)
noncomputable def hd.o_476 : Params → Obj := (fun P => ⟨(.type "tuple"), none, (.seq #[(.str (.ofString "self") 725), (.str (.ofString "place") 726)] 0), #[]⟩)
noncomputable def hd.o_477 : Params → Obj := (fun P => ⟨(.type "tuple"), none, (.seq #[] 0), #[]⟩)
noncomputable def hd.o_478 : Params → Obj := (fun P => ⟨.none, none, (.func ⟨(.ofString "goto"), (.ofString "Buffer.goto"), hA.a49, (.stmts hA.b49), hA.s49, 0, [], .none, .none, .none, .none, none, .none, .none, 0⟩), #[]⟩)
noncomputable def hd.o_479 : Params → Obj := (fun P => ⟨(.type "code"), none, (.fields #[(.str (.ofString "goto") 722), (.str (.ofString "Buffer.goto") 723), (.str (.ofString "/claim/cut.py") 724), (.int 227 0), (.int 2 0), (.int 0 0), (.int 0 0), (.int 3 0), (.ref 422), (.bool true), (.int 181 0), (.ref 423), .none, (.ref 424), (.ref 425), (.ref 426), (.int 727 0), (.int 227 0), (.str (.ofString "/claim/cut.py") 728)]), #[]⟩)
noncomputable def hd.o_480 : Params → Obj := (fun P => ⟨(.type "function"), none, (.func ⟨(.ofString "goto"), (.ofString "Buffer.goto"), hA.a49, (.stmts hA.b49), hA.s49, 3, [], .none, .none, .none, (.str (.ofString "emacs.buffer") 645), none, (.ref 427), .none, 0⟩), #[]⟩)
noncomputable def hd.o_481 : Params → Obj := (fun P => ⟨(.type "tuple"), none, (.seq #[] 0), #[]⟩)
noncomputable def hd.o_482 : Params → Obj := (fun P => ⟨.none, none, (.fields #[]), #[]⟩)
noncomputable def hd.o_483 : Params → Obj := (fun P => ⟨(.type "tuple"), none, (.seq #[(.str (.ofString "self") 733)] 0), #[]⟩)
noncomputable def hd.o_484 : Params → Obj := (fun P => ⟨(.type "tuple"), none, (.seq #[] 0), #[]⟩)
noncomputable def hd.o_485 : Params → Obj := (fun P => ⟨.none, none, (.func ⟨(.ofString "tick"), (.ofString "Buffer.tick"), hA.a50, (.stmts hA.b50), hA.s28, 0, [], .none, .none, .none, .none, none, .none, .none, 0⟩), #[]⟩)
noncomputable def hd.o_486 : Params → Obj := (fun P => ⟨(.type "code"), none, (.fields #[(.str (.ofString "tick") 730), (.str (.ofString "Buffer.tick") 731), (.str (.ofString "/claim/cut.py") 732), (.int 231 0), (.int 1 0), (.int 0 0), (.int 0 0), (.int 3 0), (.ref 429), (.bool true), (.int 181 0), (.ref 430), .none, (.ref 431), (.ref 432), (.ref 433), (.int 734 0), (.int 231 0), (.str (.ofString "/claim/cut.py") 735)]), #[]⟩)
noncomputable def hd.o_487 : Params → Obj := (fun P => ⟨(.type "function"), none, (.func ⟨(.ofString "tick"), (.ofString "Buffer.tick"), hA.a50, (.stmts hA.b50), hA.s28, 3, [], .none, .none, .none, (.str (.ofString "emacs.buffer") 645), none, (.ref 434), .none, 0⟩), #[]⟩)
noncomputable def hd.o_488 : Params → Obj := (fun P => ⟨(.type "tuple"), none, (.seq #[] 0), #[]⟩)
noncomputable def hd.o_489 : Params → Obj := (fun P => ⟨.none, none, (.fields #[]), #[]⟩)
noncomputable def hd.o_490 : Params → Obj := (fun P => ⟨(.type "tuple"), none, (.seq #[(.str (.ofString "self") 740)] 0), #[]⟩)
noncomputable def hd.o_491 : Params → Obj := (fun P => ⟨(.type "tuple"), none, (.seq #[] 0), #[]⟩)
noncomputable def hd.o_492 : Params → Obj := (fun P => ⟨.none, none, (.func ⟨(.ofString "is_modified"), (.ofString "Buffer.is_modified"), hA.a51, (.stmts hA.b51), hA.s28, 0, [], .none, .none, .none, .none, none, .none, .none, 0⟩), #[]⟩)
noncomputable def hd.o_493 : Params → Obj := (fun P => ⟨(.type "code"), none, (.fields #[(.str (.ofString "is_modified") 737), (.str (.ofString "Buffer.is_modified") 738), (.str (.ofString "/claim/cut.py") 739), (.int 234 0), (.int 1 0), (.int 0 0), (.int 0 0), (.int 3 0), (.ref 436), (.bool true), (.int 181 0), (.ref 437), .none, (.ref 438), (.ref 439), (.ref 440), (.int 741 0), (.int 234 0), (.str (.ofString "/claim/cut.py") 742)]), #[]⟩)
noncomputable def hd.o_494 : Params → Obj := (fun P => ⟨(.type "function"), none, (.func ⟨(.ofString "is_modified"), (.ofString "Buffer.is_modified"), hA.a51, (.stmts hA.b51), hA.s28, 3, [], .none, .none, .none, (.str (.ofString "emacs.buffer") 645), none, (.ref 441), .none, 0⟩), #[]⟩)
noncomputable def hd.o_495 : Params → Obj := (fun P => ⟨(.type "tuple"), none, (.seq #[] 0), #[]⟩)
noncomputable def hd.o_496 : Params → Obj := (fun P => ⟨.none, none, (.fields #[]), #[]⟩)
noncomputable def hd.o_497 : Params → Obj := (fun P => ⟨(.type "tuple"), none, (.seq #[(.str (.ofString "self") 747), (.str (.ofString "is_so") 748)] 0), #[]⟩)
noncomputable def hd.o_498 : Params → Obj := (fun P => ⟨(.type "tuple"), none, (.seq #[] 0), #[]⟩)
noncomputable def hd.o_499 : Params → Obj := (fun P => ⟨.none, none, (.func ⟨(.ofString "set_modified"), (.ofString "Buffer.set_modified"), hA.a52, (.stmts hA.b52), hA.s52, 0, [], .none, .none, .none, .none, none, .none, .none, 0⟩), #[]⟩)
noncomputable def hd.o_500 : Params → Obj := (fun P => ⟨(.type "code"), none, (.fields #[(.str (.ofString "set_modified") 744), (.str (.ofString "Buffer.set_modified") 745), (.str (.ofString "/claim/cut.py") 746), (.int 237 0), (.int 2 0), (.int 0 0), (.int 0 0), (.int 3 0), (.ref 443), (.bool true), (.int 181 0), (.ref 444), .none, (.ref 445), (.ref 446), (.ref 447), (.int 749 0), (.int 237 0), (.str (.ofString "/claim/cut.py") 750)]), #[]⟩)
noncomputable def hd.o_501 : Params → Obj := (fun P => ⟨(.type "function"), none, (.func ⟨(.ofString "set_modified"), (.ofString "Buffer.set_modified"), hA.a52, (.stmts hA.b52), hA.s52, 3, [], .none, .none, .none, (.str (.ofString "emacs.buffer") 645), none, (.ref 448), .none, 0⟩), #[]⟩)
noncomputable def hd.o_502 : Params → Obj := (fun P => ⟨(.type "tuple"), none, (.seq #[] 0), #[]⟩)
noncomputable def hd.o_503 : Params → Obj := (fun P => ⟨.none, none, (.fields #[]), #[]⟩)
noncomputable def hd.o_504 : Params → Obj := (fun P => ⟨(.type "tuple"), none, (.seq #[(.str (.ofString "self") 755), (.str (.ofString "are_codes") 756)] 0), #[]⟩)
noncomputable def hd.o_505 : Params → Obj := (fun P => ⟨(.type "tuple"), none, (.seq #[] 0), #[]⟩)
noncomputable def hd.o_506 : Params → Obj := (fun P => ⟨.none, none, (.func ⟨(.ofString "touch"), (.ofString "Buffer.touch"), hA.a53, (.stmts hA.b53), hA.s53, 0, [], .none, .none, .none, .none, none, .none, .none, 0⟩), #[]⟩)
noncomputable def hd.o_507 : Params → Obj := (fun P => ⟨(.type "code"), none, (.fields #[(.str (.ofString "touch") 752), (.str (.ofString "Buffer.touch") 753), (.str (.ofString "/claim/cut.py") 754), (.int 240 0), (.int 2 0), (.int 0 0), (.int 0 0), (.int 3 0), (.ref 450), (.bool true), (.int 181 0), (.ref 451), .none, (.ref 452), (.ref 453), (.ref 454), (.int 757 0), (.int 240 0), (.str (.ofString "/claim/cut.py") 758)]), #[]⟩)
noncomputable def hd.o_508 : Params → Obj := (fun P => ⟨(.type "function"), none, (.func ⟨(.ofString "touch"), (.ofString "Buffer.touch"), hA.a53, (.stmts hA.b53), hA.s53, 3, [], .none, .none, .none, (.str (.ofString "emacs.buffer") 645), none, (.ref 455), .none, 0⟩), #[]⟩)
noncomputable def hd.o_509 : Params → Obj := (fun P => ⟨(.type "tuple"), none, (.seq #[(.str (.ofString "begv") 760), (.str (.ofString "codes_ticks") 761), (.str (.ofString "file") 762), (.str (.ofString "is_live") 763), (.str (.ofString "is_read_only") 764), (.str (.ofString "listeners") 765), (.str (.ofString "locals") 766), (.str (.ofString "mark") 767), (.str (.ofString "markers") 768), (.str (.ofString "name") 769), (.str (.ofString "number") 770), (.str (.ofString "overlays") 771), (.str (.ofString "point") 772), (.str (.ofString "props") 773), (.str (.ofString "saved_ticks") 774), (.str (.ofString "syntax") 775), (.str (.ofString "text") 776), (.str (.ofString "ticks") 777), (.str (.ofString "undo") 778), (.str (.ofString "zv") 779)] 0), #[]⟩)
noncomputable def hd.o_510 : Params → Obj := (fun P => ⟨(.type "dict"), none, (.dict #[⟨(PyData.keyHash P (.ofString "__module__")), (.str (.ofString "__module__") 654), (.str (.ofString "emacs.buffer") 645)⟩, ⟨(PyData.keyHash P (.ofString "__firstlineno__")), (.str (.ofString "__firstlineno__") 658), (.int 180 657)⟩, ⟨(PyData.keyHash P (.ofString "__init__")), (.str (.ofString "__init__") 669), (.ref 372)⟩, ⟨(PyData.keyHash P (.ofString "shown")), (.str (.ofString "shown") 676), (.ref 379)⟩, ⟨(PyData.keyHash P (.ofString "kind")), (.str (.ofString "kind") 683), (.ref 386)⟩, ⟨(PyData.keyHash P (.ofString "begin")), (.str (.ofString "begin") 690), (.ref 393)⟩, ⟨(PyData.keyHash P (.ofString "end")), (.str (.ofString "end") 697), (.ref 400)⟩, ⟨(PyData.keyHash P (.ofString "size")), (.str (.ofString "size") 704), (.ref 407)⟩, ⟨(PyData.keyHash P (.ofString "code_at")), (.str (.ofString "code_at") 712), (.ref 414)⟩, ⟨(PyData.keyHash P (.ofString "codes")), (.str (.ofString "codes") 721), (.ref 421)⟩, ⟨(PyData.keyHash P (.ofString "goto")), (.str (.ofString "goto") 729), (.ref 428)⟩, ⟨(PyData.keyHash P (.ofString "tick")), (.str (.ofString "tick") 736), (.ref 435)⟩, ⟨(PyData.keyHash P (.ofString "is_modified")), (.str (.ofString "is_modified") 743), (.ref 442)⟩, ⟨(PyData.keyHash P (.ofString "set_modified")), (.str (.ofString "set_modified") 751), (.ref 449)⟩, ⟨(PyData.keyHash P (.ofString "touch")), (.str (.ofString "touch") 759), (.ref 456)⟩, ⟨(PyData.keyHash P (.ofString "__static_attributes__")), (.str (.ofString "__static_attributes__") 780), (.ref 457)⟩, ⟨(PyData.keyHash P (.ofString "__doc__")), (.str (.ofString "__doc__") 781), .none⟩] 2), #[]⟩)
noncomputable def hd.o_511 : Params → Obj := (fun P => ⟨(.type "type"), none, (.cls ⟨(.ofString "Buffer"), [(.ref 353)], [(.ref 459), (.ref 353), (.type "object")], 458, (.ofString "Buffer"), true, [], [], false, none, false⟩), #[(some (.ref 358)), none, (some (.str (.ofString "Buffer") 647)), (some (.str (.ofString "Buffer") 655)), (some (.builtin "object.__new__")), (some (.bool true))]⟩)
noncomputable def hd.o_512 : Params → Obj := (fun P => ⟨(.type "super"), none, (.fields #[(.ref 459), (.ref 459), (.ref 459)]), #[]⟩)
noncomputable def hd.o_513 : Params → Obj := (fun P => ⟨(.type "builtin_function_or_method"), none, (.fields #[(.builtin "object.__init_subclass__"), (.ref 459)]), #[]⟩)
noncomputable def hd.o_603 : Params → Obj := (fun P => ⟨(.type "dict"), none, (.dict #[⟨(PyData.keyHash P (.ofString "__name__")), (.str (.ofString "__name__") 165), (.str (.ofString "law_ok0060_01") 797)⟩, ⟨(PyData.keyHash P (.ofString "__doc__")), (.str (.ofString "__doc__") 166), .none⟩, ⟨(PyData.keyHash P (.ofString "__package__")), (.str (.ofString "__package__") 167), .none⟩, ⟨(PyData.keyHash P (.ofString "__loader__")), (.str (.ofString "__loader__") 168), (.builtin "__main__.__loader__#opaque")⟩, ⟨(PyData.keyHash P (.ofString "__spec__")), (.str (.ofString "__spec__") 169), .none⟩, ⟨(PyData.keyHash P (.ofString "__annotations__")), (.str (.ofString "__annotations__") 170), (.ref 6)⟩, ⟨(PyData.keyHash P (.ofString "__builtins__")), (.str (.ofString "__builtins__") 171), (.ref 4)⟩, ⟨(PyData.keyHash P (.ofString "__file__")), (.str (.ofString "__file__") 173), (.str (.ofString "/claim/cut.py") 172)⟩, ⟨(PyData.keyHash P (.ofString "__cached__")), (.str (.ofString "__cached__") 174), .none⟩, ⟨(PyData.keyHash P (.ofString "_wall")), (.str (.ofString "_wall") 193), (.ref 21)⟩, ⟨(PyData.keyHash P (.ofString "LispSignal")), (.str (.ofString "LispSignal") 226), (.ref 38)⟩, ⟨(PyData.keyHash P (.ofString "need_writable")), (.str (.ofString "need_writable") 235), (.ref 48)⟩, ⟨(PyData.keyHash P (.ofString "reached")), (.str (.ofString "reached") 246), (.ref 55)⟩, ⟨(PyData.keyHash P (.ofString "tell_ahead")), (.str (.ofString "tell_ahead") 256), (.ref 62)⟩, ⟨(PyData.keyHash P (.ofString "tell_behind")), (.str (.ofString "tell_behind") 267), (.ref 69)⟩, ⟨(PyData.keyHash P (.ofString "text_in")), (.str (.ofString "text_in") 276), (.ref 76)⟩, ⟨(PyData.keyHash P (.ofString "hung_in")), (.str (.ofString "hung_in") 286), (.ref 83)⟩, ⟨(PyData.keyHash P (.ofString "put_in")), (.str (.ofString "put_in") 297), (.ref 90)⟩, ⟨(PyData.keyHash P (.ofString "insert_at")), (.str (.ofString "insert_at") 307), (.ref 98)⟩, ⟨(PyData.keyHash P (.ofString "NEWLINE")), (.str (.ofString "NEWLINE") 311), (.int 10 310)⟩, ⟨(PyData.keyHash P (.ofString "char_after")), (.str (.ofString "char_after") 319), (.ref 105)⟩, ⟨(PyData.keyHash P (.ofString "char_before")), (.str (.ofString "char_before") 327), (.ref 112)⟩, ⟨(PyData.keyHash P (.ofString "is_bob")), (.str (.ofString "is_bob") 334), (.ref 119)⟩, ⟨(PyData.keyHash P (.ofString "is_eob")), (.str (.ofString "is_eob") 341), (.ref 126)⟩, ⟨(PyData.keyHash P (.ofString "is_bol")), (.str (.ofString "is_bol") 348), (.ref 133)⟩, ⟨(PyData.keyHash P (.ofString "is_eol")), (.str (.ofString "is_eol") 355), (.ref 140)⟩, ⟨(PyData.keyHash P (.ofString "substring")), (.str (.ofString "substring") 366), (.ref 147)⟩, ⟨(PyData.keyHash P (.ofString "folded")), (.str (.ofString "folded") 374), (.ref 154)⟩, ⟨(PyData.keyHash P (.ofString "compare_texts")), (.str (.ofString "compare_texts") 387), (.ref 161)⟩, ⟨(PyData.keyHash P (.ofString "GapText")), (.str (.ofString "GapText") 506), (.ref 248)⟩, ⟨(PyData.keyHash P (.ofString "Markers")), (.str (.ofString "Markers") 600), (.ref 318)⟩, ⟨(PyData.keyHash P (.ofString "Opaque")), (.str (.ofString "Opaque") 644), (.ref 353)⟩, ⟨(PyData.keyHash P (.ofString "Buffer")), (.str (.ofString "Buffer") 783), (.ref 459)⟩, ⟨(PyData.keyHash P (.ofString "narrow")), (.str (.ofString "narrow") 796), (.ref 468)⟩, ⟨(PyData.keyHash P (.ofString "_law_deck")), (.str (.ofString "_law_deck") 804), (.ref 473)⟩, ⟨(PyData.keyHash P (.ofString "_law_draw")), (.str (.ofString "_law_draw") 813), (.ref 480)⟩, ⟨(PyData.keyHash P (.ofString "_law_told")), (.str (.ofString "_law_told") 821), (.ref 487)⟩, ⟨(PyData.keyHash P (.ofString "_law_is_point_right")), (.str (.ofString "_law_is_point_right") 835), (.ref 494)⟩, ⟨(PyData.keyHash P (.ofString "_law_compared")), (.str (.ofString "_law_compared") 844), (.ref 501)⟩, ⟨(PyData.keyHash P (.ofString "_law_small")), (.str (.ofString "_law_small") 850), (.ref 506)⟩, ⟨(PyData.keyHash P (.ofString "law")), (.str (.ofString "law") 856), (.ref 511)⟩] 41), #[]⟩)
noncomputable def hd.o_604 : Params → Obj := (fun P => ⟨.none, none, (.fields #[(.int 1 0), (.int 0 0), (.ref 20), (.int 5 0), (.int 0 0), (.ref 27), (.int 11 0), (.int 0 0), (.ref 47), (.int 14 0), (.int 0 0), (.ref 54), (.int 19 0), (.int 0 0), (.ref 61), (.int 22 0), (.int 0 0), (.ref 68), (.int 26 0), (.int 0 0), (.ref 75), (.int 33 0), (.int 0 0), (.ref 82), (.int 38 0), (.int 0 0), (.ref 89), (.int 50 0), (.int 0 0), (.ref 97), (.int 54 0), (.int 0 0), (.ref 104), (.int 56 0), (.int 0 0), (.ref 111), (.int 58 0), (.int 0 0), (.ref 118), (.int 60 0), (.int 0 0), (.ref 125), (.int 62 0), (.int 0 0), (.ref 132), (.int 64 0), (.int 0 0), (.ref 139), (.int 66 0), (.int 0 0), (.ref 146), (.int 69 0), (.int 0 0), (.ref 153), (.int 71 0), (.int 0 0), (.ref 160), (.int 81 0), (.int 0 0), (.ref 167), (.int 140 0), (.int 0 0), (.ref 258), (.int 169 0), (.int 0 0), (.ref 328), (.int 180 0), (.int 0 0), (.ref 363), (.int 245 0), (.int 0 0), (.ref 467), (.int 252 0), (.int 0 0), (.ref 472), (.int 254 0), (.int 0 0), (.ref 479), (.int 262 0), (.int 0 0), (.ref 486), (.int 267 0), (.int 0 0), (.ref 493), (.int 273 0), (.int 0 0), (.ref 500), (.int 280 0), (.int 0 0), (.ref 505), (.int 282 0), (.int 0 0), (.ref 510)]), #[]⟩)
noncomputable def hd.o_605 : Params → Obj := (fun P => ⟨(.type "tuple"), none, (.seq #[] 0), #[]⟩)
noncomputable def hd.o_606 : Params → Obj := (fun P => ⟨.none, none, (.fields #[]), #[]⟩)
noncomputable def hd.o_607 : Params → Obj := (fun P => ⟨(.type "tuple"), none, (.seq #[(.str (.ofString "buffer") 789), (.str (.ofString "start") 790), (.str (.ofString "end") 791), (.str (.ofString "low") 792), (.str (.ofString "high") 793)] 0), #[]⟩)
noncomputable def hd.o_608 : Params → Obj := (fun P => ⟨(.type "tuple"), none, (.seq #[] 0), #[]⟩)
noncomputable def hd.o_609 : Params → Obj := (fun P => ⟨.none, none, (.func ⟨(.ofString "narrow"), (.ofString "narrow"), hA.a54, (.stmts hA.b54), hA.s3, 0, [], .none, .none, .none, .none, none, .none, .none, 0⟩), #[]⟩)
noncomputable def hd.o_610 : Params → Obj := (fun P => ⟨(.type "code"), none, (.fields #[(.str (.ofString "narrow") 786), (.str (.ofString "narrow") 787), (.str (.ofString "/claim/cut.py") 788), (.int 245 0), (.int 3 0), (.int 0 0), (.int 0 0), (.int 3 0), (.ref 462), (.bool true), (.int 181 0), (.ref 463), .none, (.ref 464), (.ref 465), (.ref 466), (.int 794 0), (.int 245 0), (.str (.ofString "/claim/cut.py") 795)]), #[]⟩)
noncomputable def hd.o_611 : Params → Obj := (fun P => ⟨(.type "function"), none, (.func ⟨(.ofString "narrow"), (.ofString "narrow"), hA.a54, (.stmts hA.b54), hA.s3, 3, [], .none, .none, .none, (.str (.ofString "emacs.narrowing") 784), none, (.ref 467), .none, 0⟩), #[]⟩)
noncomputable def hd.o_612 : Params → Obj := (fun P => ⟨(.type "tuple"), none, (.seq #[] 0), #[]⟩)
noncomputable def hd.o_613 : Params → Obj := (fun P => ⟨.none, none, (.fields #[]), #[]⟩)
noncomputable def hd.o_614 : Params → Obj := (fun P => ⟨.none, none, (.func ⟨(.ofString "_law_deck"), (.ofString "_law_deck"), hA.a55, (.stmts hA.b55), hA.s55, 0, [], .none, .none, .none, .none, none, .none, .none, 0⟩), #[]⟩)
noncomputable def hd.o_615 : Params → Obj := (fun P => ⟨(.type "code"), none, (.fields #[(.str (.ofString "_law_deck") 799), (.str (.ofString "_law_deck") 800), (.str (.ofString "/claim/cut.py") 801), (.int 252 0), (.int 1 0), (.int 0 0), (.int 0 0), (.int 3 0), (.ref 469), (.bool true), (.int 181 0), (.ref 470), .none, .none, .none, (.ref 471), (.int 802 0), (.int 252 0), (.str (.ofString "/claim/cut.py") 803)]), #[]⟩)
noncomputable def hd.o_616 : Params → Obj := (fun P => ⟨(.type "function"), none, (.func ⟨(.ofString "_law_deck"), (.ofString "_law_deck"), hA.a55, (.stmts hA.b55), hA.s55, 3, [], .none, .none, .none, (.str (.ofString "law_ok0060_01") 797), none, (.ref 472), .none, 0⟩), #[]⟩)
noncomputable def hd.o_617 : Params → Obj := (fun P => ⟨(.type "tuple"), none, (.seq #[] 0), #[]⟩)
noncomputable def hd.o_618 : Params → Obj := (fun P => ⟨.none, none, (.fields #[]), #[]⟩)
noncomputable def hd.o_619 : Params → Obj := (fun P => ⟨(.type "tuple"), none, (.seq #[(.str (.ofString "deck") 808), (.str (.ofString "many") 809), (.str (.ofString "found") 810)] 0), #[]⟩)
noncomputable def hd.o_620 : Params → Obj := (fun P => ⟨(.type "tuple"), none, (.seq #[] 0), #[]⟩)
noncomputable def hd.o_621 : Params → Obj := (fun P => ⟨.none, none, (.func ⟨(.ofString "_law_draw"), (.ofString "_law_draw"), hA.a56, (.stmts hA.b56), hA.s56, 0, [], .none, .none, .none, .none, none, .none, .none, 0⟩), #[]⟩)
noncomputable def hd.o_622 : Params → Obj := (fun P => ⟨(.type "code"), none, (.fields #[(.str (.ofString "_law_draw") 805), (.str (.ofString "_law_draw") 806), (.str (.ofString "/claim/cut.py") 807), (.int 254 0), (.int 2 0), (.int 0 0), (.int 0 0), (.int 3 0), (.ref 474), (.bool true), (.int 181 0), (.ref 475), .none, (.ref 476), (.ref 477), (.ref 478), (.int 811 0), (.int 254 0), (.str (.ofString "/claim/cut.py") 812)]), #[]⟩)
noncomputable def hd.o_623 : Params → Obj := (fun P => ⟨(.type "function"), none, (.func ⟨(.ofString "_law_draw"), (.ofString "_law_draw"), hA.a56, (.stmts hA.b56), hA.s56, 3, [], .none, .none, .none, (.str (.ofString "law_ok0060_01") 797), none, (.ref 479), .none, 0⟩), #[]⟩)
noncomputable def hd.o_624 : Params → Obj := (fun P => ⟨(.type "tuple"), none, (.seq #[] 0), #[]⟩)
noncomputable def hd.o_625 : Params → Obj := (fun P => ⟨.none, none, (.fields #[]), #[]⟩)
noncomputable def hd.o_626 : Params → Obj := (fun P => ⟨(.type "tuple"), none, (.seq #[(.str (.ofString "deed") 817), (.str (.ofString "error") 818)] 0), #[]⟩)
noncomputable def hd.o_627 : Params → Obj := (fun P => ⟨(.type "tuple"), none, (.seq #[] 0), #[]⟩)
noncomputable def hd.o_628 : Params → Obj := (fun P => ⟨.none, none, (.func ⟨(.ofString "_law_told"), (.ofString "_law_told"), hA.a57, (.stmts hA.b57), hA.s57, 0, [], .none, .none, .none, .none, none, .none, .none, 0⟩), #[]⟩)
noncomputable def hd.o_629 : Params → Obj := (fun P => ⟨(.type "code"), none, (.fields #[(.str (.ofString "_law_told") 814), (.str (.ofString "_law_told") 815), (.str (.ofString "/claim/cut.py") 816), (.int 262 0), (.int 1 0), (.int 0 0), (.int 0 0), (.int 3 0), (.ref 481), (.bool true), (.int 181 0), (.ref 482), .none, (.ref 483), (.ref 484), (.ref 485), (.int 819 0), (.int 262 0), (.str (.ofString "/claim/cut.py") 820)]), #[]⟩)
noncomputable def hd.o_630 : Params → Obj := (fun P => ⟨(.type "function"), none, (.func ⟨(.ofString "_law_told"), (.ofString "_law_told"), hA.a57, (.stmts hA.b57), hA.s57, 3, [], .none, .none, .none, (.str (.ofString "law_ok0060_01") 797), none, (.ref 486), .none, 0⟩), #[]⟩)
noncomputable def hd.o_631 : Params → Obj := (fun P => ⟨(.type "tuple"), none, (.seq #[] 0), #[]⟩)
noncomputable def hd.o_632 : Params → Obj := (fun P => ⟨.none, none, (.fields #[]), #[]⟩)
noncomputable def hd.o_633 : Params → Obj := (fun P => ⟨(.type "tuple"), none, (.seq #[(.str (.ofString "buffer") 825), (.str (.ofString "signs") 826), (.str (.ofString "begin") 827), (.str (.ofString "last") 828), (.str (.ofString "point") 829), (.str (.ofString "ahead") 830), (.str (.ofString "behind") 831), (.str (.ofString "found") 832)] 0), #[]⟩)
noncomputable def hd.o_634 : Params → Obj := (fun P => ⟨(.type "tuple"), none, (.seq #[] 0), #[]⟩)
noncomputable def hd.o_635 : Params → Obj := (fun P => ⟨.none, none, (.func ⟨(.ofString "_law_is_point_right"), (.ofString "_law_is_point_right"), hA.a58, (.stmts hA.b58), hA.s58, 0, [], .none, .none, .none, .none, none, .none, .none, 0⟩), #[]⟩)
noncomputable def hd.o_636 : Params → Obj := (fun P => ⟨(.type "code"), none, (.fields #[(.str (.ofString "_law_is_point_right") 822), (.str (.ofString "_law_is_point_right") 823), (.str (.ofString "/claim/cut.py") 824), (.int 267 0), (.int 4 0), (.int 0 0), (.int 0 0), (.int 3 0), (.ref 488), (.bool true), (.int 181 0), (.ref 489), .none, (.ref 490), (.ref 491), (.ref 492), (.int 833 0), (.int 267 0), (.str (.ofString "/claim/cut.py") 834)]), #[]⟩)
noncomputable def hd.o_637 : Params → Obj := (fun P => ⟨(.type "function"), none, (.func ⟨(.ofString "_law_is_point_right"), (.ofString "_law_is_point_right"), hA.a58, (.stmts hA.b58), hA.s58, 3, [], .none, .none, .none, (.str (.ofString "law_ok0060_01") 797), none, (.ref 493), .none, 0⟩), #[]⟩)
noncomputable def hd.o_638 : Params → Obj := (fun P => ⟨(.type "tuple"), none, (.seq #[] 0), #[]⟩)
noncomputable def hd.o_639 : Params → Obj := (fun P => ⟨.none, none, (.fields #[]), #[]⟩)
noncomputable def hd.o_640 : Params → Obj := (fun P => ⟨(.type "tuple"), none, (.seq #[(.str (.ofString "one") 839), (.str (.ofString "other") 840), (.str (.ofString "same") 841)] 0), #[]⟩)
noncomputable def hd.o_641 : Params → Obj := (fun P => ⟨(.type "tuple"), none, (.seq #[] 0), #[]⟩)
noncomputable def hd.o_642 : Params → Obj := (fun P => ⟨.none, none, (.func ⟨(.ofString "_law_compared"), (.ofString "_law_compared"), hA.a59, (.stmts hA.b59), hA.s59, 0, [], .none, .none, .none, .none, none, .none, .none, 0⟩), #[]⟩)
noncomputable def hd.o_643 : Params → Obj := (fun P => ⟨(.type "code"), none, (.fields #[(.str (.ofString "_law_compared") 836), (.str (.ofString "_law_compared") 837), (.str (.ofString "/claim/cut.py") 838), (.int 273 0), (.int 2 0), (.int 0 0), (.int 0 0), (.int 3 0), (.ref 495), (.bool true), (.int 181 0), (.ref 496), .none, (.ref 497), (.ref 498), (.ref 499), (.int 842 0), (.int 273 0), (.str (.ofString "/claim/cut.py") 843)]), #[]⟩)
noncomputable def hd.o_644 : Params → Obj := (fun P => ⟨(.type "function"), none, (.func ⟨(.ofString "_law_compared"), (.ofString "_law_compared"), hA.a59, (.stmts hA.b59), hA.s59, 3, [], .none, .none, .none, (.str (.ofString "law_ok0060_01") 797), none, (.ref 500), .none, 0⟩), #[]⟩)
noncomputable def hd.o_645 : Params → Obj := (fun P => ⟨(.type "tuple"), none, (.seq #[] 0), #[]⟩)
noncomputable def hd.o_646 : Params → Obj := (fun P => ⟨.none, none, (.fields #[]), #[]⟩)
noncomputable def hd.o_647 : Params → Obj := (fun P => ⟨.none, none, (.func ⟨(.ofString "_law_small"), (.ofString "_law_small"), hA.a60, (.stmts hA.b60), hA.s60, 0, [], .none, .none, .none, .none, none, .none, .none, 0⟩), #[]⟩)
noncomputable def hd.o_648 : Params → Obj := (fun P => ⟨(.type "code"), none, (.fields #[(.str (.ofString "_law_small") 845), (.str (.ofString "_law_small") 846), (.str (.ofString "/claim/cut.py") 847), (.int 280 0), (.int 1 0), (.int 0 0), (.int 0 0), (.int 3 0), (.ref 502), (.bool true), (.int 181 0), (.ref 503), .none, .none, .none, (.ref 504), (.int 848 0), (.int 280 0), (.str (.ofString "/claim/cut.py") 849)]), #[]⟩)
noncomputable def hd.o_649 : Params → Obj := (fun P => ⟨(.type "function"), none, (.func ⟨(.ofString "_law_small"), (.ofString "_law_small"), hA.a60, (.stmts hA.b60), hA.s60, 3, [], .none, .none, .none, (.str (.ofString "law_ok0060_01") 797), none, (.ref 505), .none, 0⟩), #[]⟩)
noncomputable def hd.o_650 : Params → Obj := (fun P => ⟨(.type "tuple"), none, (.seq #[] 0), #[]⟩)
noncomputable def hd.o_651 : Params → Obj := (fun P => ⟨.none, none, (.fields #[]), #[]⟩)
noncomputable def hd.o_652 : Params → Obj := (fun P => ⟨.none, none, (.func ⟨(.ofString "law"), (.ofString "law"), hA.a61, (.stmts hA.b61), hA.s61, 0, [], .none, .none, .none, .none, none, .none, .none, 0⟩), #[]⟩)
noncomputable def hd.o_653 : Params → Obj := (fun P => ⟨(.type "code"), none, (.fields #[(.str (.ofString "law") 851), (.str (.ofString "law") 852), (.str (.ofString "/claim/cut.py") 853), (.int 282 0), (.int 1 0), (.int 0 0), (.int 0 0), (.int 3 0), (.ref 507), (.bool true), (.int 181 0), (.ref 508), .none, .none, .none, (.ref 509), (.int 854 0), (.int 282 0), (.str (.ofString "/claim/cut.py") 855)]), #[]⟩)
noncomputable def hd.o_654 : Params → Obj := (fun P => ⟨(.type "function"), none, (.func ⟨(.ofString "law"), (.ofString "law"), hA.a61, (.stmts hA.b61), hA.s61, 3, [], .none, .none, .none, (.str (.ofString "law_ok0060_01") 797), none, (.ref 510), .none, 0⟩), #[]⟩)
noncomputable def hd.heap_46 : Params → Heap := (fun P => ⟨⟨[(PySem.W.boot_o_0 P), (PySem.W.boot_o_1 P), (PySem.W.boot_o_2 P), (PySem.W.boot_o_3 P), (PySem.W.boot_o_4 P), (PySem.W.boot_o_5 P), (PySem.W.boot_o_6 P), (PySem.W.boot_o_7 P), (PySem.W.boot_o_8 P), (PySem.W.boot_o_9 P), (PySem.W.boot_o_10 P), (hd.o_43 P), (hd.o_44 P), (hd.o_45 P), (hd.o_46 P)]⟩, ⟨[], [], [], 0, [], [], false, #[], [], 0, false, false, false, 0, [2000, 10, 10], false, 0, true, [], [], 0, false⟩⟩)
noncomputable def hd.tree_47 : Params → BT := (fun P => (.node (PySem.W.boot_o_0 P) (.node (PySem.W.boot_o_1 P) (.node (PySem.W.boot_o_3 P) (.node (PySem.W.boot_o_7 P) .nil .nil) (.node (hd.o_43 P) .nil .nil)) (.node (PySem.W.boot_o_5 P) (.node (PySem.W.boot_o_9 P) .nil .nil) (.node (hd.o_45 P) .nil .nil))) (.node (PySem.W.boot_o_2 P) (.node (PySem.W.boot_o_4 P) (.node (PySem.W.boot_o_8 P) .nil .nil) (.node (hd.o_44 P) .nil .nil)) (.node (PySem.W.boot_o_6 P) (.node (PySem.W.boot_o_10 P) .nil .nil) (.node (hd.o_46 P) .nil .nil)))))
noncomputable def hd.tree_99 : Params → BT := (fun P => (.node (PySem.W.boot_o_0 P) (.node (PySem.W.boot_o_1 P) (.node (hd.o_50 P) (.node (PySem.W.boot_o_7 P) (.node (hd.o_52 P) (.node (hd.o_68 P) .nil .nil) (.node (hd.o_84 P) .nil .nil)) (.node (hd.o_60 P) (.node (hd.o_76 P) .nil .nil) (.node (hd.o_92 P) .nil .nil))) (.node (hd.o_43 P) (.node (hd.o_56 P) (.node (hd.o_72 P) .nil .nil) (.node (hd.o_88 P) .nil .nil)) (.node (hd.o_64 P) (.node (hd.o_80 P) .nil .nil) (.node (hd.o_96 P) .nil .nil)))) (.node (PySem.W.boot_o_5 P) (.node (PySem.W.boot_o_9 P) (.node (hd.o_54 P) (.node (hd.o_70 P) .nil .nil) (.node (hd.o_86 P) .nil .nil)) (.node (hd.o_62 P) (.node (hd.o_78 P) .nil .nil) (.node (hd.o_94 P) .nil .nil))) (.node (hd.o_45 P) (.node (hd.o_58 P) (.node (hd.o_74 P) .nil .nil) (.node (hd.o_90 P) .nil .nil)) (.node (hd.o_66 P) (.node (hd.o_82 P) .nil .nil) (.node (hd.o_98 P) .nil .nil))))) (.node (hd.o_49 P) (.node (PySem.W.boot_o_4 P) (.node (PySem.W.boot_o_8 P) (.node (hd.o_53 P) (.node (hd.o_69 P) .nil .nil) (.node (hd.o_85 P) .nil .nil)) (.node (hd.o_61 P) (.node (hd.o_77 P) .nil .nil) (.node (hd.o_93 P) .nil .nil))) (.node (hd.o_51 P) (.node (hd.o_57 P) (.node (hd.o_73 P) .nil .nil) (.node (hd.o_89 P) .nil .nil)) (.node (hd.o_65 P) (.node (hd.o_81 P) .nil .nil) (.node (hd.o_97 P) .nil .nil)))) (.node (PySem.W.boot_o_6 P) (.node (PySem.W.boot_o_10 P) (.node (hd.o_55 P) (.node (hd.o_71 P) .nil .nil) (.node (hd.o_87 P) .nil .nil)) (.node (hd.o_63 P) (.node (hd.o_79 P) .nil .nil) (.node (hd.o_95 P) .nil .nil))) (.node (hd.o_46 P) (.node (hd.o_59 P) (.node (hd.o_75 P) .nil .nil) (.node (hd.o_91 P) .nil .nil)) (.node (hd.o_67 P) (.node (hd.o_83 P) .nil .nil) (.node (hd.o_99 P) .nil .nil)))))))
noncomputable def hd.tree_186 : Params → BT := (fun P => (.node (PySem.W.boot_o_0 P) (.node (PySem.W.boot_o_1 P) (.node (hd.o_100 P) (.node (PySem.W.boot_o_7 P) (.node (hd.o_52 P) (.node (hd.o_68 P) (.node (hd.o_102 P) (.node (hd.o_166 P) .nil .nil) .nil) (.node (hd.o_134 P) .nil .nil)) (.node (hd.o_84 P) (.node (hd.o_118 P) (.node (hd.o_182 P) .nil .nil) .nil) (.node (hd.o_150 P) .nil .nil))) (.node (hd.o_60 P) (.node (hd.o_76 P) (.node (hd.o_110 P) (.node (hd.o_174 P) .nil .nil) .nil) (.node (hd.o_142 P) .nil .nil)) (.node (hd.o_92 P) (.node (hd.o_126 P) .nil .nil) (.node (hd.o_158 P) .nil .nil)))) (.node (hd.o_43 P) (.node (hd.o_56 P) (.node (hd.o_72 P) (.node (hd.o_106 P) (.node (hd.o_170 P) .nil .nil) .nil) (.node (hd.o_138 P) .nil .nil)) (.node (hd.o_88 P) (.node (hd.o_122 P) (.node (hd.o_186 P) .nil .nil) .nil) (.node (hd.o_154 P) .nil .nil))) (.node (hd.o_64 P) (.node (hd.o_80 P) (.node (hd.o_114 P) (.node (hd.o_178 P) .nil .nil) .nil) (.node (hd.o_146 P) .nil .nil)) (.node (hd.o_96 P) (.node (hd.o_130 P) .nil .nil) (.node (hd.o_162 P) .nil .nil))))) (.node (PySem.W.boot_o_5 P) (.node (PySem.W.boot_o_9 P) (.node (hd.o_54 P) (.node (hd.o_70 P) (.node (hd.o_104 P) (.node (hd.o_168 P) .nil .nil) .nil) (.node (hd.o_136 P) .nil .nil)) (.node (hd.o_86 P) (.node (hd.o_120 P) (.node (hd.o_184 P) .nil .nil) .nil) (.node (hd.o_152 P) .nil .nil))) (.node (hd.o_62 P) (.node (hd.o_78 P) (.node (hd.o_112 P) (.node (hd.o_176 P) .nil .nil) .nil) (.node (hd.o_144 P) .nil .nil)) (.node (hd.o_94 P) (.node (hd.o_128 P) .nil .nil) (.node (hd.o_160 P) .nil .nil)))) (.node (hd.o_45 P) (.node (hd.o_58 P) (.node (hd.o_74 P) (.node (hd.o_108 P) (.node (hd.o_172 P) .nil .nil) .nil) (.node (hd.o_140 P) .nil .nil)) (.node (hd.o_90 P) (.node (hd.o_124 P) .nil .nil) (.node (hd.o_156 P) .nil .nil))) (.node (hd.o_66 P) (.node (hd.o_82 P) (.node (hd.o_116 P) (.node (hd.o_180 P) .nil .nil) .nil) (.node (hd.o_148 P) .nil .nil)) (.node (hd.o_98 P) (.node (hd.o_132 P) .nil .nil) (.node (hd.o_164 P) .nil .nil)))))) (.node (hd.o_49 P) (.node (PySem.W.boot_o_4 P) (.node (PySem.W.boot_o_8 P) (.node (hd.o_53 P) (.node (hd.o_69 P) (.node (hd.o_103 P) (.node (hd.o_167 P) .nil .nil) .nil) (.node (hd.o_135 P) .nil .nil)) (.node (hd.o_85 P) (.node (hd.o_119 P) (.node (hd.o_183 P) .nil .nil) .nil) (.node (hd.o_151 P) .nil .nil))) (.node (hd.o_61 P) (.node (hd.o_77 P) (.node (hd.o_111 P) (.node (hd.o_175 P) .nil .nil) .nil) (.node (hd.o_143 P) .nil .nil)) (.node (hd.o_93 P) (.node (hd.o_127 P) .nil .nil) (.node (hd.o_159 P) .nil .nil)))) (.node (hd.o_101 P) (.node (hd.o_57 P) (.node (hd.o_73 P) (.node (hd.o_107 P) (.node (hd.o_171 P) .nil .nil) .nil) (.node (hd.o_139 P) .nil .nil)) (.node (hd.o_89 P) (.node (hd.o_123 P) .nil .nil) (.node (hd.o_155 P) .nil .nil))) (.node (hd.o_65 P) (.node (hd.o_81 P) (.node (hd.o_115 P) (.node (hd.o_179 P) .nil .nil) .nil) (.node (hd.o_147 P) .nil .nil)) (.node (hd.o_97 P) (.node (hd.o_131 P) .nil .nil) (.node (hd.o_163 P) .nil .nil))))) (.node (PySem.W.boot_o_6 P) (.node (PySem.W.boot_o_10 P) (.node (hd.o_55 P) (.node (hd.o_71 P) (.node (hd.o_105 P) (.node (hd.o_169 P) .nil .nil) .nil) (.node (hd.o_137 P) .nil .nil)) (.node (hd.o_87 P) (.node (hd.o_121 P) (.node (hd.o_185 P) .nil .nil) .nil) (.node (hd.o_153 P) .nil .nil))) (.node (hd.o_63 P) (.node (hd.o_79 P) (.node (hd.o_113 P) (.node (hd.o_177 P) .nil .nil) .nil) (.node (hd.o_145 P) .nil .nil)) (.node (hd.o_95 P) (.node (hd.o_129 P) .nil .nil) (.node (hd.o_161 P) .nil .nil)))) (.node (hd.o_46 P) (.node (hd.o_59 P) (.node (hd.o_75 P) (.node (hd.o_109 P) (.node (hd.o_173 P) .nil .nil) .nil) (.node (hd.o_141 P) .nil .nil)) (.node (hd.o_91 P) (.node (hd.o_125 P) .nil .nil) (.node (hd.o_157 P) .nil .nil))) (.node (hd.o_67 P) (.node (hd.o_83 P) (.node (hd.o_117 P) (.node (hd.o_181 P) .nil .nil) .nil) (.node (hd.o_149 P) .nil .nil)) (.node (hd.o_99 P) (.node (hd.o_133 P) .nil .nil) (.node (hd.o_165 P) .nil .nil))))))))
noncomputable def hd.tree_202 : Params → BT := (fun P => (.node (PySem.W.boot_o_0 P) (.node (PySem.W.boot_o_1 P) (.node (hd.o_187 P) (.node (PySem.W.boot_o_7 P) (.node (hd.o_52 P) (.node (hd.o_68 P) (.node (hd.o_102 P) (.node (hd.o_166 P) .nil .nil) .nil) (.node (hd.o_134 P) (.node (hd.o_200 P) .nil .nil) .nil)) (.node (hd.o_84 P) (.node (hd.o_118 P) (.node (hd.o_182 P) .nil .nil) .nil) (.node (hd.o_150 P) .nil .nil))) (.node (hd.o_60 P) (.node (hd.o_76 P) (.node (hd.o_110 P) (.node (hd.o_174 P) .nil .nil) .nil) (.node (hd.o_142 P) .nil .nil)) (.node (hd.o_92 P) (.node (hd.o_126 P) (.node (hd.o_192 P) .nil .nil) .nil) (.node (hd.o_158 P) .nil .nil)))) (.node (hd.o_43 P) (.node (hd.o_56 P) (.node (hd.o_72 P) (.node (hd.o_106 P) (.node (hd.o_170 P) .nil .nil) .nil) (.node (hd.o_138 P) .nil .nil)) (.node (hd.o_88 P) (.node (hd.o_122 P) (.node (hd.o_186 P) .nil .nil) .nil) (.node (hd.o_154 P) .nil .nil))) (.node (hd.o_64 P) (.node (hd.o_80 P) (.node (hd.o_114 P) (.node (hd.o_178 P) .nil .nil) .nil) (.node (hd.o_146 P) .nil .nil)) (.node (hd.o_96 P) (.node (hd.o_130 P) (.node (hd.o_196 P) .nil .nil) .nil) (.node (hd.o_162 P) .nil .nil))))) (.node (PySem.W.boot_o_5 P) (.node (PySem.W.boot_o_9 P) (.node (hd.o_54 P) (.node (hd.o_70 P) (.node (hd.o_104 P) (.node (hd.o_168 P) .nil .nil) .nil) (.node (hd.o_136 P) (.node (hd.o_202 P) .nil .nil) .nil)) (.node (hd.o_86 P) (.node (hd.o_120 P) (.node (hd.o_184 P) .nil .nil) .nil) (.node (hd.o_152 P) .nil .nil))) (.node (hd.o_62 P) (.node (hd.o_78 P) (.node (hd.o_112 P) (.node (hd.o_176 P) .nil .nil) .nil) (.node (hd.o_144 P) .nil .nil)) (.node (hd.o_94 P) (.node (hd.o_128 P) (.node (hd.o_194 P) .nil .nil) .nil) (.node (hd.o_160 P) .nil .nil)))) (.node (hd.o_45 P) (.node (hd.o_58 P) (.node (hd.o_74 P) (.node (hd.o_108 P) (.node (hd.o_172 P) .nil .nil) .nil) (.node (hd.o_140 P) .nil .nil)) (.node (hd.o_90 P) (.node (hd.o_124 P) (.node (hd.o_190 P) .nil .nil) .nil) (.node (hd.o_156 P) .nil .nil))) (.node (hd.o_66 P) (.node (hd.o_82 P) (.node (hd.o_116 P) (.node (hd.o_180 P) .nil .nil) .nil) (.node (hd.o_148 P) .nil .nil)) (.node (hd.o_98 P) (.node (hd.o_132 P) (.node (hd.o_198 P) .nil .nil) .nil) (.node (hd.o_164 P) .nil .nil)))))) (.node (hd.o_49 P) (.node (PySem.W.boot_o_4 P) (.node (PySem.W.boot_o_8 P) (.node (hd.o_53 P) (.node (hd.o_69 P) (.node (hd.o_103 P) (.node (hd.o_167 P) .nil .nil) .nil) (.node (hd.o_135 P) (.node (hd.o_201 P) .nil .nil) .nil)) (.node (hd.o_85 P) (.node (hd.o_119 P) (.node (hd.o_183 P) .nil .nil) .nil) (.node (hd.o_151 P) .nil .nil))) (.node (hd.o_61 P) (.node (hd.o_77 P) (.node (hd.o_111 P) (.node (hd.o_175 P) .nil .nil) .nil) (.node (hd.o_143 P) .nil .nil)) (.node (hd.o_93 P) (.node (hd.o_127 P) (.node (hd.o_193 P) .nil .nil) .nil) (.node (hd.o_159 P) .nil .nil)))) (.node (hd.o_188 P) (.node (hd.o_57 P) (.node (hd.o_73 P) (.node (hd.o_107 P) (.node (hd.o_171 P) .nil .nil) .nil) (.node (hd.o_139 P) .nil .nil)) (.node (hd.o_89 P) (.node (hd.o_123 P) (.node (hd.o_189 P) .nil .nil) .nil) (.node (hd.o_155 P) .nil .nil))) (.node (hd.o_65 P) (.node (hd.o_81 P) (.node (hd.o_115 P) (.node (hd.o_179 P) .nil .nil) .nil) (.node (hd.o_147 P) .nil .nil)) (.node (hd.o_97 P) (.node (hd.o_131 P) (.node (hd.o_197 P) .nil .nil) .nil) (.node (hd.o_163 P) .nil .nil))))) (.node (PySem.W.boot_o_6 P) (.node (PySem.W.boot_o_10 P) (.node (hd.o_55 P) (.node (hd.o_71 P) (.node (hd.o_105 P) (.node (hd.o_169 P) .nil .nil) .nil) (.node (hd.o_137 P) .nil .nil)) (.node (hd.o_87 P) (.node (hd.o_121 P) (.node (hd.o_185 P) .nil .nil) .nil) (.node (hd.o_153 P) .nil .nil))) (.node (hd.o_63 P) (.node (hd.o_79 P) (.node (hd.o_113 P) (.node (hd.o_177 P) .nil .nil) .nil) (.node (hd.o_145 P) .nil .nil)) (.node (hd.o_95 P) (.node (hd.o_129 P) (.node (hd.o_195 P) .nil .nil) .nil) (.node (hd.o_161 P) .nil .nil)))) (.node (hd.o_46 P) (.node (hd.o_59 P) (.node (hd.o_75 P) (.node (hd.o_109 P) (.node (hd.o_173 P) .nil .nil) .nil) (.node (hd.o_141 P) .nil .nil)) (.node (hd.o_91 P) (.node (hd.o_125 P) (.node (hd.o_191 P) .nil .nil) .nil) (.node (hd.o_157 P) .nil .nil))) (.node (hd.o_67 P) (.node (hd.o_83 P) (.node (hd.o_117 P) (.node (hd.o_181 P) .nil .nil) .nil) (.node (hd.o_149 P) .nil .nil)) (.node (hd.o_99 P) (.node (hd.o_133 P) (.node (hd.o_199 P) .nil .nil) .nil) (.node (hd.o_165 P) .nil .nil))))))))
noncomputable def hd.tree_295 : Params → BT := (fun P => (.node (PySem.W.boot_o_0 P) (.node (PySem.W.boot_o_1 P) (.node (hd.o_203 P) (.node (PySem.W.boot_o_7 P) (.node (hd.o_52 P) (.node (hd.o_68 P) (.node (hd.o_102 P) (.node (hd.o_166 P) .nil .nil) (.node (hd.o_234 P) .nil .nil)) (.node (hd.o_134 P) (.node (hd.o_200 P) .nil .nil) (.node (hd.o_266 P) .nil .nil))) (.node (hd.o_84 P) (.node (hd.o_118 P) (.node (hd.o_182 P) .nil .nil) (.node (hd.o_250 P) .nil .nil)) (.node (hd.o_150 P) (.node (hd.o_218 P) .nil .nil) (.node (hd.o_282 P) .nil .nil)))) (.node (hd.o_60 P) (.node (hd.o_76 P) (.node (hd.o_110 P) (.node (hd.o_174 P) .nil .nil) (.node (hd.o_242 P) .nil .nil)) (.node (hd.o_142 P) (.node (hd.o_210 P) .nil .nil) (.node (hd.o_274 P) .nil .nil))) (.node (hd.o_92 P) (.node (hd.o_126 P) (.node (hd.o_192 P) .nil .nil) (.node (hd.o_258 P) .nil .nil)) (.node (hd.o_158 P) (.node (hd.o_226 P) .nil .nil) (.node (hd.o_290 P) .nil .nil))))) (.node (hd.o_43 P) (.node (hd.o_56 P) (.node (hd.o_72 P) (.node (hd.o_106 P) (.node (hd.o_170 P) .nil .nil) (.node (hd.o_238 P) .nil .nil)) (.node (hd.o_138 P) (.node (hd.o_206 P) .nil .nil) (.node (hd.o_270 P) .nil .nil))) (.node (hd.o_88 P) (.node (hd.o_122 P) (.node (hd.o_186 P) .nil .nil) (.node (hd.o_254 P) .nil .nil)) (.node (hd.o_154 P) (.node (hd.o_222 P) .nil .nil) (.node (hd.o_286 P) .nil .nil)))) (.node (hd.o_64 P) (.node (hd.o_80 P) (.node (hd.o_114 P) (.node (hd.o_178 P) .nil .nil) (.node (hd.o_246 P) .nil .nil)) (.node (hd.o_146 P) (.node (hd.o_214 P) .nil .nil) (.node (hd.o_278 P) .nil .nil))) (.node (hd.o_96 P) (.node (hd.o_130 P) (.node (hd.o_196 P) .nil .nil) (.node (hd.o_262 P) .nil .nil)) (.node (hd.o_162 P) (.node (hd.o_230 P) .nil .nil) (.node (hd.o_294 P) .nil .nil)))))) (.node (PySem.W.boot_o_5 P) (.node (PySem.W.boot_o_9 P) (.node (hd.o_54 P) (.node (hd.o_70 P) (.node (hd.o_104 P) (.node (hd.o_168 P) .nil .nil) (.node (hd.o_236 P) .nil .nil)) (.node (hd.o_136 P) (.node (hd.o_202 P) .nil .nil) (.node (hd.o_268 P) .nil .nil))) (.node (hd.o_86 P) (.node (hd.o_120 P) (.node (hd.o_184 P) .nil .nil) (.node (hd.o_252 P) .nil .nil)) (.node (hd.o_152 P) (.node (hd.o_220 P) .nil .nil) (.node (hd.o_284 P) .nil .nil)))) (.node (hd.o_62 P) (.node (hd.o_78 P) (.node (hd.o_112 P) (.node (hd.o_176 P) .nil .nil) (.node (hd.o_244 P) .nil .nil)) (.node (hd.o_144 P) (.node (hd.o_212 P) .nil .nil) (.node (hd.o_276 P) .nil .nil))) (.node (hd.o_94 P) (.node (hd.o_128 P) (.node (hd.o_194 P) .nil .nil) (.node (hd.o_260 P) .nil .nil)) (.node (hd.o_160 P) (.node (hd.o_228 P) .nil .nil) (.node (hd.o_292 P) .nil .nil))))) (.node (hd.o_45 P) (.node (hd.o_58 P) (.node (hd.o_74 P) (.node (hd.o_108 P) (.node (hd.o_172 P) .nil .nil) (.node (hd.o_240 P) .nil .nil)) (.node (hd.o_140 P) (.node (hd.o_208 P) .nil .nil) (.node (hd.o_272 P) .nil .nil))) (.node (hd.o_90 P) (.node (hd.o_124 P) (.node (hd.o_190 P) .nil .nil) (.node (hd.o_256 P) .nil .nil)) (.node (hd.o_156 P) (.node (hd.o_224 P) .nil .nil) (.node (hd.o_288 P) .nil .nil)))) (.node (hd.o_66 P) (.node (hd.o_82 P) (.node (hd.o_116 P) (.node (hd.o_180 P) .nil .nil) (.node (hd.o_248 P) .nil .nil)) (.node (hd.o_148 P) (.node (hd.o_216 P) .nil .nil) (.node (hd.o_280 P) .nil .nil))) (.node (hd.o_98 P) (.node (hd.o_132 P) (.node (hd.o_198 P) .nil .nil) (.node (hd.o_264 P) .nil .nil)) (.node (hd.o_164 P) (.node (hd.o_232 P) .nil .nil) .nil)))))) (.node (hd.o_49 P) (.node (PySem.W.boot_o_4 P) (.node (PySem.W.boot_o_8 P) (.node (hd.o_53 P) (.node (hd.o_69 P) (.node (hd.o_103 P) (.node (hd.o_167 P) .nil .nil) (.node (hd.o_235 P) .nil .nil)) (.node (hd.o_135 P) (.node (hd.o_201 P) .nil .nil) (.node (hd.o_267 P) .nil .nil))) (.node (hd.o_85 P) (.node (hd.o_119 P) (.node (hd.o_183 P) .nil .nil) (.node (hd.o_251 P) .nil .nil)) (.node (hd.o_151 P) (.node (hd.o_219 P) .nil .nil) (.node (hd.o_283 P) .nil .nil)))) (.node (hd.o_61 P) (.node (hd.o_77 P) (.node (hd.o_111 P) (.node (hd.o_175 P) .nil .nil) (.node (hd.o_243 P) .nil .nil)) (.node (hd.o_143 P) (.node (hd.o_211 P) .nil .nil) (.node (hd.o_275 P) .nil .nil))) (.node (hd.o_93 P) (.node (hd.o_127 P) (.node (hd.o_193 P) .nil .nil) (.node (hd.o_259 P) .nil .nil)) (.node (hd.o_159 P) (.node (hd.o_227 P) .nil .nil) (.node (hd.o_291 P) .nil .nil))))) (.node (hd.o_204 P) (.node (hd.o_57 P) (.node (hd.o_73 P) (.node (hd.o_107 P) (.node (hd.o_171 P) .nil .nil) (.node (hd.o_239 P) .nil .nil)) (.node (hd.o_139 P) (.node (hd.o_207 P) .nil .nil) (.node (hd.o_271 P) .nil .nil))) (.node (hd.o_89 P) (.node (hd.o_123 P) (.node (hd.o_189 P) .nil .nil) (.node (hd.o_255 P) .nil .nil)) (.node (hd.o_155 P) (.node (hd.o_223 P) .nil .nil) (.node (hd.o_287 P) .nil .nil)))) (.node (hd.o_65 P) (.node (hd.o_81 P) (.node (hd.o_115 P) (.node (hd.o_179 P) .nil .nil) (.node (hd.o_247 P) .nil .nil)) (.node (hd.o_147 P) (.node (hd.o_215 P) .nil .nil) (.node (hd.o_279 P) .nil .nil))) (.node (hd.o_97 P) (.node (hd.o_131 P) (.node (hd.o_197 P) .nil .nil) (.node (hd.o_263 P) .nil .nil)) (.node (hd.o_163 P) (.node (hd.o_231 P) .nil .nil) (.node (hd.o_295 P) .nil .nil)))))) (.node (PySem.W.boot_o_6 P) (.node (PySem.W.boot_o_10 P) (.node (hd.o_55 P) (.node (hd.o_71 P) (.node (hd.o_105 P) (.node (hd.o_169 P) .nil .nil) (.node (hd.o_237 P) .nil .nil)) (.node (hd.o_137 P) (.node (hd.o_205 P) .nil .nil) (.node (hd.o_269 P) .nil .nil))) (.node (hd.o_87 P) (.node (hd.o_121 P) (.node (hd.o_185 P) .nil .nil) (.node (hd.o_253 P) .nil .nil)) (.node (hd.o_153 P) (.node (hd.o_221 P) .nil .nil) (.node (hd.o_285 P) .nil .nil)))) (.node (hd.o_63 P) (.node (hd.o_79 P) (.node (hd.o_113 P) (.node (hd.o_177 P) .nil .nil) (.node (hd.o_245 P) .nil .nil)) (.node (hd.o_145 P) (.node (hd.o_213 P) .nil .nil) (.node (hd.o_277 P) .nil .nil))) (.node (hd.o_95 P) (.node (hd.o_129 P) (.node (hd.o_195 P) .nil .nil) (.node (hd.o_261 P) .nil .nil)) (.node (hd.o_161 P) (.node (hd.o_229 P) .nil .nil) (.node (hd.o_293 P) .nil .nil))))) (.node (hd.o_46 P) (.node (hd.o_59 P) (.node (hd.o_75 P) (.node (hd.o_109 P) (.node (hd.o_173 P) .nil .nil) (.node (hd.o_241 P) .nil .nil)) (.node (hd.o_141 P) (.node (hd.o_209 P) .nil .nil) (.node (hd.o_273 P) .nil .nil))) (.node (hd.o_91 P) (.node (hd.o_125 P) (.node (hd.o_191 P) .nil .nil) (.node (hd.o_257 P) .nil .nil)) (.node (hd.o_157 P) (.node (hd.o_225 P) .nil .nil) (.node (hd.o_289 P) .nil .nil)))) (.node (hd.o_67 P) (.node (hd.o_83 P) (.node (hd.o_117 P) (.node (hd.o_181 P) .nil .nil) (.node (hd.o_249 P) .nil .nil)) (.node (hd.o_149 P) (.node (hd.o_217 P) .nil .nil) (.node (hd.o_281 P) .nil .nil))) (.node (hd.o_99 P) (.node (hd.o_133 P) (.node (hd.o_199 P) .nil .nil) (.node (hd.o_265 P) .nil .nil)) (.node (hd.o_165 P) (.node (hd.o_233 P) .nil .nil) .nil))))))))
noncomputable def hd.tree_296 : Params → BT := (fun P => (.node (PySem.W.boot_o_0 P) (.node (PySem.W.boot_o_1 P) (.node (hd.o_296 P) (.node (PySem.W.boot_o_7 P) (.node (hd.o_52 P) (.node (hd.o_68 P) (.node (hd.o_102 P) (.node (hd.o_166 P) .nil .nil) (.node (hd.o_234 P) .nil .nil)) (.node (hd.o_134 P) (.node (hd.o_200 P) .nil .nil) (.node (hd.o_266 P) .nil .nil))) (.node (hd.o_84 P) (.node (hd.o_118 P) (.node (hd.o_182 P) .nil .nil) (.node (hd.o_250 P) .nil .nil)) (.node (hd.o_150 P) (.node (hd.o_218 P) .nil .nil) (.node (hd.o_282 P) .nil .nil)))) (.node (hd.o_60 P) (.node (hd.o_76 P) (.node (hd.o_110 P) (.node (hd.o_174 P) .nil .nil) (.node (hd.o_242 P) .nil .nil)) (.node (hd.o_142 P) (.node (hd.o_210 P) .nil .nil) (.node (hd.o_274 P) .nil .nil))) (.node (hd.o_92 P) (.node (hd.o_126 P) (.node (hd.o_192 P) .nil .nil) (.node (hd.o_258 P) .nil .nil)) (.node (hd.o_158 P) (.node (hd.o_226 P) .nil .nil) (.node (hd.o_290 P) .nil .nil))))) (.node (hd.o_43 P) (.node (hd.o_56 P) (.node (hd.o_72 P) (.node (hd.o_106 P) (.node (hd.o_170 P) .nil .nil) (.node (hd.o_238 P) .nil .nil)) (.node (hd.o_138 P) (.node (hd.o_206 P) .nil .nil) (.node (hd.o_270 P) .nil .nil))) (.node (hd.o_88 P) (.node (hd.o_122 P) (.node (hd.o_186 P) .nil .nil) (.node (hd.o_254 P) .nil .nil)) (.node (hd.o_154 P) (.node (hd.o_222 P) .nil .nil) (.node (hd.o_286 P) .nil .nil)))) (.node (hd.o_64 P) (.node (hd.o_80 P) (.node (hd.o_114 P) (.node (hd.o_178 P) .nil .nil) (.node (hd.o_246 P) .nil .nil)) (.node (hd.o_146 P) (.node (hd.o_214 P) .nil .nil) (.node (hd.o_278 P) .nil .nil))) (.node (hd.o_96 P) (.node (hd.o_130 P) (.node (hd.o_196 P) .nil .nil) (.node (hd.o_262 P) .nil .nil)) (.node (hd.o_162 P) (.node (hd.o_230 P) .nil .nil) (.node (hd.o_294 P) .nil .nil)))))) (.node (PySem.W.boot_o_5 P) (.node (PySem.W.boot_o_9 P) (.node (hd.o_54 P) (.node (hd.o_70 P) (.node (hd.o_104 P) (.node (hd.o_168 P) .nil .nil) (.node (hd.o_236 P) .nil .nil)) (.node (hd.o_136 P) (.node (hd.o_202 P) .nil .nil) (.node (hd.o_268 P) .nil .nil))) (.node (hd.o_86 P) (.node (hd.o_120 P) (.node (hd.o_184 P) .nil .nil) (.node (hd.o_252 P) .nil .nil)) (.node (hd.o_152 P) (.node (hd.o_220 P) .nil .nil) (.node (hd.o_284 P) .nil .nil)))) (.node (hd.o_62 P) (.node (hd.o_78 P) (.node (hd.o_112 P) (.node (hd.o_176 P) .nil .nil) (.node (hd.o_244 P) .nil .nil)) (.node (hd.o_144 P) (.node (hd.o_212 P) .nil .nil) (.node (hd.o_276 P) .nil .nil))) (.node (hd.o_94 P) (.node (hd.o_128 P) (.node (hd.o_194 P) .nil .nil) (.node (hd.o_260 P) .nil .nil)) (.node (hd.o_160 P) (.node (hd.o_228 P) .nil .nil) (.node (hd.o_292 P) .nil .nil))))) (.node (hd.o_45 P) (.node (hd.o_58 P) (.node (hd.o_74 P) (.node (hd.o_108 P) (.node (hd.o_172 P) .nil .nil) (.node (hd.o_240 P) .nil .nil)) (.node (hd.o_140 P) (.node (hd.o_208 P) .nil .nil) (.node (hd.o_272 P) .nil .nil))) (.node (hd.o_90 P) (.node (hd.o_124 P) (.node (hd.o_190 P) .nil .nil) (.node (hd.o_256 P) .nil .nil)) (.node (hd.o_156 P) (.node (hd.o_224 P) .nil .nil) (.node (hd.o_288 P) .nil .nil)))) (.node (hd.o_66 P) (.node (hd.o_82 P) (.node (hd.o_116 P) (.node (hd.o_180 P) .nil .nil) (.node (hd.o_248 P) .nil .nil)) (.node (hd.o_148 P) (.node (hd.o_216 P) .nil .nil) (.node (hd.o_280 P) .nil .nil))) (.node (hd.o_98 P) (.node (hd.o_132 P) (.node (hd.o_198 P) .nil .nil) (.node (hd.o_264 P) .nil .nil)) (.node (hd.o_164 P) (.node (hd.o_232 P) .nil .nil) .nil)))))) (.node (hd.o_49 P) (.node (PySem.W.boot_o_4 P) (.node (PySem.W.boot_o_8 P) (.node (hd.o_53 P) (.node (hd.o_69 P) (.node (hd.o_103 P) (.node (hd.o_167 P) .nil .nil) (.node (hd.o_235 P) .nil .nil)) (.node (hd.o_135 P) (.node (hd.o_201 P) .nil .nil) (.node (hd.o_267 P) .nil .nil))) (.node (hd.o_85 P) (.node (hd.o_119 P) (.node (hd.o_183 P) .nil .nil) (.node (hd.o_251 P) .nil .nil)) (.node (hd.o_151 P) (.node (hd.o_219 P) .nil .nil) (.node (hd.o_283 P) .nil .nil)))) (.node (hd.o_61 P) (.node (hd.o_77 P) (.node (hd.o_111 P) (.node (hd.o_175 P) .nil .nil) (.node (hd.o_243 P) .nil .nil)) (.node (hd.o_143 P) (.node (hd.o_211 P) .nil .nil) (.node (hd.o_275 P) .nil .nil))) (.node (hd.o_93 P) (.node (hd.o_127 P) (.node (hd.o_193 P) .nil .nil) (.node (hd.o_259 P) .nil .nil)) (.node (hd.o_159 P) (.node (hd.o_227 P) .nil .nil) (.node (hd.o_291 P) .nil .nil))))) (.node (hd.o_204 P) (.node (hd.o_57 P) (.node (hd.o_73 P) (.node (hd.o_107 P) (.node (hd.o_171 P) .nil .nil) (.node (hd.o_239 P) .nil .nil)) (.node (hd.o_139 P) (.node (hd.o_207 P) .nil .nil) (.node (hd.o_271 P) .nil .nil))) (.node (hd.o_89 P) (.node (hd.o_123 P) (.node (hd.o_189 P) .nil .nil) (.node (hd.o_255 P) .nil .nil)) (.node (hd.o_155 P) (.node (hd.o_223 P) .nil .nil) (.node (hd.o_287 P) .nil .nil)))) (.node (hd.o_65 P) (.node (hd.o_81 P) (.node (hd.o_115 P) (.node (hd.o_179 P) .nil .nil) (.node (hd.o_247 P) .nil .nil)) (.node (hd.o_147 P) (.node (hd.o_215 P) .nil .nil) (.node (hd.o_279 P) .nil .nil))) (.node (hd.o_97 P) (.node (hd.o_131 P) (.node (hd.o_197 P) .nil .nil) (.node (hd.o_263 P) .nil .nil)) (.node (hd.o_163 P) (.node (hd.o_231 P) .nil .nil) (.node (hd.o_295 P) .nil .nil)))))) (.node (PySem.W.boot_o_6 P) (.node (PySem.W.boot_o_10 P) (.node (hd.o_55 P) (.node (hd.o_71 P) (.node (hd.o_105 P) (.node (hd.o_169 P) .nil .nil) (.node (hd.o_237 P) .nil .nil)) (.node (hd.o_137 P) (.node (hd.o_205 P) .nil .nil) (.node (hd.o_269 P) .nil .nil))) (.node (hd.o_87 P) (.node (hd.o_121 P) (.node (hd.o_185 P) .nil .nil) (.node (hd.o_253 P) .nil .nil)) (.node (hd.o_153 P) (.node (hd.o_221 P) .nil .nil) (.node (hd.o_285 P) .nil .nil)))) (.node (hd.o_63 P) (.node (hd.o_79 P) (.node (hd.o_113 P) (.node (hd.o_177 P) .nil .nil) (.node (hd.o_245 P) .nil .nil)) (.node (hd.o_145 P) (.node (hd.o_213 P) .nil .nil) (.node (hd.o_277 P) .nil .nil))) (.node (hd.o_95 P) (.node (hd.o_129 P) (.node (hd.o_195 P) .nil .nil) (.node (hd.o_261 P) .nil .nil)) (.node (hd.o_161 P) (.node (hd.o_229 P) .nil .nil) (.node (hd.o_293 P) .nil .nil))))) (.node (hd.o_46 P) (.node (hd.o_59 P) (.node (hd.o_75 P) (.node (hd.o_109 P) (.node (hd.o_173 P) .nil .nil) (.node (hd.o_241 P) .nil .nil)) (.node (hd.o_141 P) (.node (hd.o_209 P) .nil .nil) (.node (hd.o_273 P) .nil .nil))) (.node (hd.o_91 P) (.node (hd.o_125 P) (.node (hd.o_191 P) .nil .nil) (.node (hd.o_257 P) .nil .nil)) (.node (hd.o_157 P) (.node (hd.o_225 P) .nil .nil) (.node (hd.o_289 P) .nil .nil)))) (.node (hd.o_67 P) (.node (hd.o_83 P) (.node (hd.o_117 P) (.node (hd.o_181 P) .nil .nil) (.node (hd.o_249 P) .nil .nil)) (.node (hd.o_149 P) (.node (hd.o_217 P) .nil .nil) (.node (hd.o_281 P) .nil .nil))) (.node (hd.o_99 P) (.node (hd.o_133 P) (.node (hd.o_199 P) .nil .nil) (.node (hd.o_265 P) .nil .nil)) (.node (hd.o_165 P) (.node (hd.o_233 P) .nil .nil) .nil))))))))
noncomputable def hd.tree_369 : Params → BT := (fun P => (.node (PySem.W.boot_o_0 P) (.node (PySem.W.boot_o_1 P) (.node (hd.o_298 P) (.node (PySem.W.boot_o_7 P) (.node (hd.o_52 P) (.node (hd.o_68 P) (.node (hd.o_102 P) (.node (hd.o_166 P) (.node (hd.o_302 P) .nil .nil) .nil) (.node (hd.o_234 P) (.node (hd.o_366 P) .nil .nil) .nil)) (.node (hd.o_134 P) (.node (hd.o_200 P) (.node (hd.o_334 P) .nil .nil) .nil) (.node (hd.o_266 P) .nil .nil))) (.node (hd.o_84 P) (.node (hd.o_118 P) (.node (hd.o_182 P) (.node (hd.o_318 P) .nil .nil) .nil) (.node (hd.o_250 P) .nil .nil)) (.node (hd.o_150 P) (.node (hd.o_218 P) (.node (hd.o_350 P) .nil .nil) .nil) (.node (hd.o_282 P) .nil .nil)))) (.node (hd.o_60 P) (.node (hd.o_76 P) (.node (hd.o_110 P) (.node (hd.o_174 P) (.node (hd.o_310 P) .nil .nil) .nil) (.node (hd.o_242 P) .nil .nil)) (.node (hd.o_142 P) (.node (hd.o_210 P) (.node (hd.o_342 P) .nil .nil) .nil) (.node (hd.o_274 P) .nil .nil))) (.node (hd.o_92 P) (.node (hd.o_126 P) (.node (hd.o_192 P) (.node (hd.o_326 P) .nil .nil) .nil) (.node (hd.o_258 P) .nil .nil)) (.node (hd.o_158 P) (.node (hd.o_226 P) (.node (hd.o_358 P) .nil .nil) .nil) (.node (hd.o_290 P) .nil .nil))))) (.node (hd.o_43 P) (.node (hd.o_56 P) (.node (hd.o_72 P) (.node (hd.o_106 P) (.node (hd.o_170 P) (.node (hd.o_306 P) .nil .nil) .nil) (.node (hd.o_238 P) .nil .nil)) (.node (hd.o_138 P) (.node (hd.o_206 P) (.node (hd.o_338 P) .nil .nil) .nil) (.node (hd.o_270 P) .nil .nil))) (.node (hd.o_88 P) (.node (hd.o_122 P) (.node (hd.o_186 P) (.node (hd.o_322 P) .nil .nil) .nil) (.node (hd.o_254 P) .nil .nil)) (.node (hd.o_154 P) (.node (hd.o_222 P) (.node (hd.o_354 P) .nil .nil) .nil) (.node (hd.o_286 P) .nil .nil)))) (.node (hd.o_64 P) (.node (hd.o_80 P) (.node (hd.o_114 P) (.node (hd.o_178 P) (.node (hd.o_314 P) .nil .nil) .nil) (.node (hd.o_246 P) .nil .nil)) (.node (hd.o_146 P) (.node (hd.o_214 P) (.node (hd.o_346 P) .nil .nil) .nil) (.node (hd.o_278 P) .nil .nil))) (.node (hd.o_96 P) (.node (hd.o_130 P) (.node (hd.o_196 P) (.node (hd.o_330 P) .nil .nil) .nil) (.node (hd.o_262 P) .nil .nil)) (.node (hd.o_162 P) (.node (hd.o_230 P) (.node (hd.o_362 P) .nil .nil) .nil) (.node (hd.o_294 P) .nil .nil)))))) (.node (PySem.W.boot_o_5 P) (.node (PySem.W.boot_o_9 P) (.node (hd.o_54 P) (.node (hd.o_70 P) (.node (hd.o_104 P) (.node (hd.o_168 P) (.node (hd.o_304 P) .nil .nil) .nil) (.node (hd.o_236 P) (.node (hd.o_368 P) .nil .nil) .nil)) (.node (hd.o_136 P) (.node (hd.o_202 P) (.node (hd.o_336 P) .nil .nil) .nil) (.node (hd.o_268 P) .nil .nil))) (.node (hd.o_86 P) (.node (hd.o_120 P) (.node (hd.o_184 P) (.node (hd.o_320 P) .nil .nil) .nil) (.node (hd.o_252 P) .nil .nil)) (.node (hd.o_152 P) (.node (hd.o_220 P) (.node (hd.o_352 P) .nil .nil) .nil) (.node (hd.o_284 P) .nil .nil)))) (.node (hd.o_62 P) (.node (hd.o_78 P) (.node (hd.o_112 P) (.node (hd.o_176 P) (.node (hd.o_312 P) .nil .nil) .nil) (.node (hd.o_244 P) .nil .nil)) (.node (hd.o_144 P) (.node (hd.o_212 P) (.node (hd.o_344 P) .nil .nil) .nil) (.node (hd.o_276 P) .nil .nil))) (.node (hd.o_94 P) (.node (hd.o_128 P) (.node (hd.o_194 P) (.node (hd.o_328 P) .nil .nil) .nil) (.node (hd.o_260 P) .nil .nil)) (.node (hd.o_160 P) (.node (hd.o_228 P) (.node (hd.o_360 P) .nil .nil) .nil) (.node (hd.o_292 P) .nil .nil))))) (.node (hd.o_45 P) (.node (hd.o_58 P) (.node (hd.o_74 P) (.node (hd.o_108 P) (.node (hd.o_172 P) (.node (hd.o_308 P) .nil .nil) .nil) (.node (hd.o_240 P) .nil .nil)) (.node (hd.o_140 P) (.node (hd.o_208 P) (.node (hd.o_340 P) .nil .nil) .nil) (.node (hd.o_272 P) .nil .nil))) (.node (hd.o_90 P) (.node (hd.o_124 P) (.node (hd.o_190 P) (.node (hd.o_324 P) .nil .nil) .nil) (.node (hd.o_256 P) .nil .nil)) (.node (hd.o_156 P) (.node (hd.o_224 P) (.node (hd.o_356 P) .nil .nil) .nil) (.node (hd.o_288 P) .nil .nil)))) (.node (hd.o_66 P) (.node (hd.o_82 P) (.node (hd.o_116 P) (.node (hd.o_180 P) (.node (hd.o_316 P) .nil .nil) .nil) (.node (hd.o_248 P) .nil .nil)) (.node (hd.o_148 P) (.node (hd.o_216 P) (.node (hd.o_348 P) .nil .nil) .nil) (.node (hd.o_280 P) .nil .nil))) (.node (hd.o_98 P) (.node (hd.o_132 P) (.node (hd.o_198 P) (.node (hd.o_332 P) .nil .nil) .nil) (.node (hd.o_264 P) .nil .nil)) (.node (hd.o_164 P) (.node (hd.o_232 P) (.node (hd.o_364 P) .nil .nil) .nil) (.node (hd.o_300 P) .nil .nil))))))) (.node (hd.o_49 P) (.node (PySem.W.boot_o_4 P) (.node (PySem.W.boot_o_8 P) (.node (hd.o_53 P) (.node (hd.o_69 P) (.node (hd.o_103 P) (.node (hd.o_167 P) (.node (hd.o_303 P) .nil .nil) .nil) (.node (hd.o_235 P) (.node (hd.o_367 P) .nil .nil) .nil)) (.node (hd.o_135 P) (.node (hd.o_201 P) (.node (hd.o_335 P) .nil .nil) .nil) (.node (hd.o_267 P) .nil .nil))) (.node (hd.o_85 P) (.node (hd.o_119 P) (.node (hd.o_183 P) (.node (hd.o_319 P) .nil .nil) .nil) (.node (hd.o_251 P) .nil .nil)) (.node (hd.o_151 P) (.node (hd.o_219 P) (.node (hd.o_351 P) .nil .nil) .nil) (.node (hd.o_283 P) .nil .nil)))) (.node (hd.o_61 P) (.node (hd.o_77 P) (.node (hd.o_111 P) (.node (hd.o_175 P) (.node (hd.o_311 P) .nil .nil) .nil) (.node (hd.o_243 P) .nil .nil)) (.node (hd.o_143 P) (.node (hd.o_211 P) (.node (hd.o_343 P) .nil .nil) .nil) (.node (hd.o_275 P) .nil .nil))) (.node (hd.o_93 P) (.node (hd.o_127 P) (.node (hd.o_193 P) (.node (hd.o_327 P) .nil .nil) .nil) (.node (hd.o_259 P) .nil .nil)) (.node (hd.o_159 P) (.node (hd.o_227 P) (.node (hd.o_359 P) .nil .nil) .nil) (.node (hd.o_291 P) .nil .nil))))) (.node (hd.o_299 P) (.node (hd.o_57 P) (.node (hd.o_73 P) (.node (hd.o_107 P) (.node (hd.o_171 P) (.node (hd.o_307 P) .nil .nil) .nil) (.node (hd.o_239 P) .nil .nil)) (.node (hd.o_139 P) (.node (hd.o_207 P) (.node (hd.o_339 P) .nil .nil) .nil) (.node (hd.o_271 P) .nil .nil))) (.node (hd.o_89 P) (.node (hd.o_123 P) (.node (hd.o_189 P) (.node (hd.o_323 P) .nil .nil) .nil) (.node (hd.o_255 P) .nil .nil)) (.node (hd.o_155 P) (.node (hd.o_223 P) (.node (hd.o_355 P) .nil .nil) .nil) (.node (hd.o_287 P) .nil .nil)))) (.node (hd.o_65 P) (.node (hd.o_81 P) (.node (hd.o_115 P) (.node (hd.o_179 P) (.node (hd.o_315 P) .nil .nil) .nil) (.node (hd.o_247 P) .nil .nil)) (.node (hd.o_147 P) (.node (hd.o_215 P) (.node (hd.o_347 P) .nil .nil) .nil) (.node (hd.o_279 P) .nil .nil))) (.node (hd.o_97 P) (.node (hd.o_131 P) (.node (hd.o_197 P) (.node (hd.o_331 P) .nil .nil) .nil) (.node (hd.o_263 P) .nil .nil)) (.node (hd.o_163 P) (.node (hd.o_231 P) (.node (hd.o_363 P) .nil .nil) .nil) (.node (hd.o_295 P) .nil .nil)))))) (.node (PySem.W.boot_o_6 P) (.node (PySem.W.boot_o_10 P) (.node (hd.o_55 P) (.node (hd.o_71 P) (.node (hd.o_105 P) (.node (hd.o_169 P) (.node (hd.o_305 P) .nil .nil) .nil) (.node (hd.o_237 P) (.node (hd.o_369 P) .nil .nil) .nil)) (.node (hd.o_137 P) (.node (hd.o_205 P) (.node (hd.o_337 P) .nil .nil) .nil) (.node (hd.o_269 P) .nil .nil))) (.node (hd.o_87 P) (.node (hd.o_121 P) (.node (hd.o_185 P) (.node (hd.o_321 P) .nil .nil) .nil) (.node (hd.o_253 P) .nil .nil)) (.node (hd.o_153 P) (.node (hd.o_221 P) (.node (hd.o_353 P) .nil .nil) .nil) (.node (hd.o_285 P) .nil .nil)))) (.node (hd.o_63 P) (.node (hd.o_79 P) (.node (hd.o_113 P) (.node (hd.o_177 P) (.node (hd.o_313 P) .nil .nil) .nil) (.node (hd.o_245 P) .nil .nil)) (.node (hd.o_145 P) (.node (hd.o_213 P) (.node (hd.o_345 P) .nil .nil) .nil) (.node (hd.o_277 P) .nil .nil))) (.node (hd.o_95 P) (.node (hd.o_129 P) (.node (hd.o_195 P) (.node (hd.o_329 P) .nil .nil) .nil) (.node (hd.o_261 P) .nil .nil)) (.node (hd.o_161 P) (.node (hd.o_229 P) (.node (hd.o_361 P) .nil .nil) .nil) (.node (hd.o_293 P) .nil .nil))))) (.node (hd.o_46 P) (.node (hd.o_59 P) (.node (hd.o_75 P) (.node (hd.o_109 P) (.node (hd.o_173 P) (.node (hd.o_309 P) .nil .nil) .nil) (.node (hd.o_241 P) .nil .nil)) (.node (hd.o_141 P) (.node (hd.o_209 P) (.node (hd.o_341 P) .nil .nil) .nil) (.node (hd.o_273 P) .nil .nil))) (.node (hd.o_91 P) (.node (hd.o_125 P) (.node (hd.o_191 P) (.node (hd.o_325 P) .nil .nil) .nil) (.node (hd.o_257 P) .nil .nil)) (.node (hd.o_157 P) (.node (hd.o_225 P) (.node (hd.o_357 P) .nil .nil) .nil) (.node (hd.o_289 P) .nil .nil)))) (.node (hd.o_67 P) (.node (hd.o_83 P) (.node (hd.o_117 P) (.node (hd.o_181 P) (.node (hd.o_317 P) .nil .nil) .nil) (.node (hd.o_249 P) .nil .nil)) (.node (hd.o_149 P) (.node (hd.o_217 P) (.node (hd.o_349 P) .nil .nil) .nil) (.node (hd.o_281 P) .nil .nil))) (.node (hd.o_99 P) (.node (hd.o_133 P) (.node (hd.o_199 P) (.node (hd.o_333 P) .nil .nil) .nil) (.node (hd.o_265 P) .nil .nil)) (.node (hd.o_165 P) (.node (hd.o_233 P) (.node (hd.o_365 P) .nil .nil) .nil) (.node (hd.o_301 P) .nil .nil)))))))))
noncomputable def hd.tree_406 : Params → BT := (fun P => (.node (PySem.W.boot_o_0 P) (.node (PySem.W.boot_o_1 P) (.node (hd.o_370 P) (.node (PySem.W.boot_o_7 P) (.node (hd.o_52 P) (.node (hd.o_68 P) (.node (hd.o_102 P) (.node (hd.o_166 P) (.node (hd.o_302 P) .nil .nil) .nil) (.node (hd.o_234 P) (.node (hd.o_366 P) .nil .nil) .nil)) (.node (hd.o_134 P) (.node (hd.o_200 P) (.node (hd.o_334 P) .nil .nil) .nil) (.node (hd.o_266 P) (.node (hd.o_400 P) .nil .nil) .nil))) (.node (hd.o_84 P) (.node (hd.o_118 P) (.node (hd.o_182 P) (.node (hd.o_318 P) .nil .nil) .nil) (.node (hd.o_250 P) (.node (hd.o_384 P) .nil .nil) .nil)) (.node (hd.o_150 P) (.node (hd.o_218 P) (.node (hd.o_350 P) .nil .nil) .nil) (.node (hd.o_282 P) .nil .nil)))) (.node (hd.o_60 P) (.node (hd.o_76 P) (.node (hd.o_110 P) (.node (hd.o_174 P) (.node (hd.o_310 P) .nil .nil) .nil) (.node (hd.o_242 P) (.node (hd.o_376 P) .nil .nil) .nil)) (.node (hd.o_142 P) (.node (hd.o_210 P) (.node (hd.o_342 P) .nil .nil) .nil) (.node (hd.o_274 P) .nil .nil))) (.node (hd.o_92 P) (.node (hd.o_126 P) (.node (hd.o_192 P) (.node (hd.o_326 P) .nil .nil) .nil) (.node (hd.o_258 P) (.node (hd.o_392 P) .nil .nil) .nil)) (.node (hd.o_158 P) (.node (hd.o_226 P) (.node (hd.o_358 P) .nil .nil) .nil) (.node (hd.o_290 P) .nil .nil))))) (.node (hd.o_43 P) (.node (hd.o_56 P) (.node (hd.o_72 P) (.node (hd.o_106 P) (.node (hd.o_170 P) (.node (hd.o_306 P) .nil .nil) .nil) (.node (hd.o_238 P) (.node (hd.o_372 P) .nil .nil) .nil)) (.node (hd.o_138 P) (.node (hd.o_206 P) (.node (hd.o_338 P) .nil .nil) .nil) (.node (hd.o_270 P) (.node (hd.o_404 P) .nil .nil) .nil))) (.node (hd.o_88 P) (.node (hd.o_122 P) (.node (hd.o_186 P) (.node (hd.o_322 P) .nil .nil) .nil) (.node (hd.o_254 P) (.node (hd.o_388 P) .nil .nil) .nil)) (.node (hd.o_154 P) (.node (hd.o_222 P) (.node (hd.o_354 P) .nil .nil) .nil) (.node (hd.o_286 P) .nil .nil)))) (.node (hd.o_64 P) (.node (hd.o_80 P) (.node (hd.o_114 P) (.node (hd.o_178 P) (.node (hd.o_314 P) .nil .nil) .nil) (.node (hd.o_246 P) (.node (hd.o_380 P) .nil .nil) .nil)) (.node (hd.o_146 P) (.node (hd.o_214 P) (.node (hd.o_346 P) .nil .nil) .nil) (.node (hd.o_278 P) .nil .nil))) (.node (hd.o_96 P) (.node (hd.o_130 P) (.node (hd.o_196 P) (.node (hd.o_330 P) .nil .nil) .nil) (.node (hd.o_262 P) (.node (hd.o_396 P) .nil .nil) .nil)) (.node (hd.o_162 P) (.node (hd.o_230 P) (.node (hd.o_362 P) .nil .nil) .nil) (.node (hd.o_294 P) .nil .nil)))))) (.node (PySem.W.boot_o_5 P) (.node (PySem.W.boot_o_9 P) (.node (hd.o_54 P) (.node (hd.o_70 P) (.node (hd.o_104 P) (.node (hd.o_168 P) (.node (hd.o_304 P) .nil .nil) .nil) (.node (hd.o_236 P) (.node (hd.o_368 P) .nil .nil) .nil)) (.node (hd.o_136 P) (.node (hd.o_202 P) (.node (hd.o_336 P) .nil .nil) .nil) (.node (hd.o_268 P) (.node (hd.o_402 P) .nil .nil) .nil))) (.node (hd.o_86 P) (.node (hd.o_120 P) (.node (hd.o_184 P) (.node (hd.o_320 P) .nil .nil) .nil) (.node (hd.o_252 P) (.node (hd.o_386 P) .nil .nil) .nil)) (.node (hd.o_152 P) (.node (hd.o_220 P) (.node (hd.o_352 P) .nil .nil) .nil) (.node (hd.o_284 P) .nil .nil)))) (.node (hd.o_62 P) (.node (hd.o_78 P) (.node (hd.o_112 P) (.node (hd.o_176 P) (.node (hd.o_312 P) .nil .nil) .nil) (.node (hd.o_244 P) (.node (hd.o_378 P) .nil .nil) .nil)) (.node (hd.o_144 P) (.node (hd.o_212 P) (.node (hd.o_344 P) .nil .nil) .nil) (.node (hd.o_276 P) .nil .nil))) (.node (hd.o_94 P) (.node (hd.o_128 P) (.node (hd.o_194 P) (.node (hd.o_328 P) .nil .nil) .nil) (.node (hd.o_260 P) (.node (hd.o_394 P) .nil .nil) .nil)) (.node (hd.o_160 P) (.node (hd.o_228 P) (.node (hd.o_360 P) .nil .nil) .nil) (.node (hd.o_292 P) .nil .nil))))) (.node (hd.o_45 P) (.node (hd.o_58 P) (.node (hd.o_74 P) (.node (hd.o_108 P) (.node (hd.o_172 P) (.node (hd.o_308 P) .nil .nil) .nil) (.node (hd.o_240 P) (.node (hd.o_374 P) .nil .nil) .nil)) (.node (hd.o_140 P) (.node (hd.o_208 P) (.node (hd.o_340 P) .nil .nil) .nil) (.node (hd.o_272 P) (.node (hd.o_406 P) .nil .nil) .nil))) (.node (hd.o_90 P) (.node (hd.o_124 P) (.node (hd.o_190 P) (.node (hd.o_324 P) .nil .nil) .nil) (.node (hd.o_256 P) (.node (hd.o_390 P) .nil .nil) .nil)) (.node (hd.o_156 P) (.node (hd.o_224 P) (.node (hd.o_356 P) .nil .nil) .nil) (.node (hd.o_288 P) .nil .nil)))) (.node (hd.o_66 P) (.node (hd.o_82 P) (.node (hd.o_116 P) (.node (hd.o_180 P) (.node (hd.o_316 P) .nil .nil) .nil) (.node (hd.o_248 P) (.node (hd.o_382 P) .nil .nil) .nil)) (.node (hd.o_148 P) (.node (hd.o_216 P) (.node (hd.o_348 P) .nil .nil) .nil) (.node (hd.o_280 P) .nil .nil))) (.node (hd.o_98 P) (.node (hd.o_132 P) (.node (hd.o_198 P) (.node (hd.o_332 P) .nil .nil) .nil) (.node (hd.o_264 P) (.node (hd.o_398 P) .nil .nil) .nil)) (.node (hd.o_164 P) (.node (hd.o_232 P) (.node (hd.o_364 P) .nil .nil) .nil) (.node (hd.o_300 P) .nil .nil))))))) (.node (hd.o_49 P) (.node (PySem.W.boot_o_4 P) (.node (PySem.W.boot_o_8 P) (.node (hd.o_53 P) (.node (hd.o_69 P) (.node (hd.o_103 P) (.node (hd.o_167 P) (.node (hd.o_303 P) .nil .nil) .nil) (.node (hd.o_235 P) (.node (hd.o_367 P) .nil .nil) .nil)) (.node (hd.o_135 P) (.node (hd.o_201 P) (.node (hd.o_335 P) .nil .nil) .nil) (.node (hd.o_267 P) (.node (hd.o_401 P) .nil .nil) .nil))) (.node (hd.o_85 P) (.node (hd.o_119 P) (.node (hd.o_183 P) (.node (hd.o_319 P) .nil .nil) .nil) (.node (hd.o_251 P) (.node (hd.o_385 P) .nil .nil) .nil)) (.node (hd.o_151 P) (.node (hd.o_219 P) (.node (hd.o_351 P) .nil .nil) .nil) (.node (hd.o_283 P) .nil .nil)))) (.node (hd.o_61 P) (.node (hd.o_77 P) (.node (hd.o_111 P) (.node (hd.o_175 P) (.node (hd.o_311 P) .nil .nil) .nil) (.node (hd.o_243 P) (.node (hd.o_377 P) .nil .nil) .nil)) (.node (hd.o_143 P) (.node (hd.o_211 P) (.node (hd.o_343 P) .nil .nil) .nil) (.node (hd.o_275 P) .nil .nil))) (.node (hd.o_93 P) (.node (hd.o_127 P) (.node (hd.o_193 P) (.node (hd.o_327 P) .nil .nil) .nil) (.node (hd.o_259 P) (.node (hd.o_393 P) .nil .nil) .nil)) (.node (hd.o_159 P) (.node (hd.o_227 P) (.node (hd.o_359 P) .nil .nil) .nil) (.node (hd.o_291 P) .nil .nil))))) (.node (hd.o_371 P) (.node (hd.o_57 P) (.node (hd.o_73 P) (.node (hd.o_107 P) (.node (hd.o_171 P) (.node (hd.o_307 P) .nil .nil) .nil) (.node (hd.o_239 P) (.node (hd.o_373 P) .nil .nil) .nil)) (.node (hd.o_139 P) (.node (hd.o_207 P) (.node (hd.o_339 P) .nil .nil) .nil) (.node (hd.o_271 P) (.node (hd.o_405 P) .nil .nil) .nil))) (.node (hd.o_89 P) (.node (hd.o_123 P) (.node (hd.o_189 P) (.node (hd.o_323 P) .nil .nil) .nil) (.node (hd.o_255 P) (.node (hd.o_389 P) .nil .nil) .nil)) (.node (hd.o_155 P) (.node (hd.o_223 P) (.node (hd.o_355 P) .nil .nil) .nil) (.node (hd.o_287 P) .nil .nil)))) (.node (hd.o_65 P) (.node (hd.o_81 P) (.node (hd.o_115 P) (.node (hd.o_179 P) (.node (hd.o_315 P) .nil .nil) .nil) (.node (hd.o_247 P) (.node (hd.o_381 P) .nil .nil) .nil)) (.node (hd.o_147 P) (.node (hd.o_215 P) (.node (hd.o_347 P) .nil .nil) .nil) (.node (hd.o_279 P) .nil .nil))) (.node (hd.o_97 P) (.node (hd.o_131 P) (.node (hd.o_197 P) (.node (hd.o_331 P) .nil .nil) .nil) (.node (hd.o_263 P) (.node (hd.o_397 P) .nil .nil) .nil)) (.node (hd.o_163 P) (.node (hd.o_231 P) (.node (hd.o_363 P) .nil .nil) .nil) (.node (hd.o_295 P) .nil .nil)))))) (.node (PySem.W.boot_o_6 P) (.node (PySem.W.boot_o_10 P) (.node (hd.o_55 P) (.node (hd.o_71 P) (.node (hd.o_105 P) (.node (hd.o_169 P) (.node (hd.o_305 P) .nil .nil) .nil) (.node (hd.o_237 P) (.node (hd.o_369 P) .nil .nil) .nil)) (.node (hd.o_137 P) (.node (hd.o_205 P) (.node (hd.o_337 P) .nil .nil) .nil) (.node (hd.o_269 P) (.node (hd.o_403 P) .nil .nil) .nil))) (.node (hd.o_87 P) (.node (hd.o_121 P) (.node (hd.o_185 P) (.node (hd.o_321 P) .nil .nil) .nil) (.node (hd.o_253 P) (.node (hd.o_387 P) .nil .nil) .nil)) (.node (hd.o_153 P) (.node (hd.o_221 P) (.node (hd.o_353 P) .nil .nil) .nil) (.node (hd.o_285 P) .nil .nil)))) (.node (hd.o_63 P) (.node (hd.o_79 P) (.node (hd.o_113 P) (.node (hd.o_177 P) (.node (hd.o_313 P) .nil .nil) .nil) (.node (hd.o_245 P) (.node (hd.o_379 P) .nil .nil) .nil)) (.node (hd.o_145 P) (.node (hd.o_213 P) (.node (hd.o_345 P) .nil .nil) .nil) (.node (hd.o_277 P) .nil .nil))) (.node (hd.o_95 P) (.node (hd.o_129 P) (.node (hd.o_195 P) (.node (hd.o_329 P) .nil .nil) .nil) (.node (hd.o_261 P) (.node (hd.o_395 P) .nil .nil) .nil)) (.node (hd.o_161 P) (.node (hd.o_229 P) (.node (hd.o_361 P) .nil .nil) .nil) (.node (hd.o_293 P) .nil .nil))))) (.node (hd.o_46 P) (.node (hd.o_59 P) (.node (hd.o_75 P) (.node (hd.o_109 P) (.node (hd.o_173 P) (.node (hd.o_309 P) .nil .nil) .nil) (.node (hd.o_241 P) (.node (hd.o_375 P) .nil .nil) .nil)) (.node (hd.o_141 P) (.node (hd.o_209 P) (.node (hd.o_341 P) .nil .nil) .nil) (.node (hd.o_273 P) .nil .nil))) (.node (hd.o_91 P) (.node (hd.o_125 P) (.node (hd.o_191 P) (.node (hd.o_325 P) .nil .nil) .nil) (.node (hd.o_257 P) (.node (hd.o_391 P) .nil .nil) .nil)) (.node (hd.o_157 P) (.node (hd.o_225 P) (.node (hd.o_357 P) .nil .nil) .nil) (.node (hd.o_289 P) .nil .nil)))) (.node (hd.o_67 P) (.node (hd.o_83 P) (.node (hd.o_117 P) (.node (hd.o_181 P) (.node (hd.o_317 P) .nil .nil) .nil) (.node (hd.o_249 P) (.node (hd.o_383 P) .nil .nil) .nil)) (.node (hd.o_149 P) (.node (hd.o_217 P) (.node (hd.o_349 P) .nil .nil) .nil) (.node (hd.o_281 P) .nil .nil))) (.node (hd.o_99 P) (.node (hd.o_133 P) (.node (hd.o_199 P) (.node (hd.o_333 P) .nil .nil) .nil) (.node (hd.o_265 P) (.node (hd.o_399 P) .nil .nil) .nil)) (.node (hd.o_165 P) (.node (hd.o_233 P) (.node (hd.o_365 P) .nil .nil) .nil) (.node (hd.o_301 P) .nil .nil)))))))))
noncomputable def hd.tree_513 : Params → BT := (fun P => (.node (PySem.W.boot_o_0 P) (.node (PySem.W.boot_o_1 P) (.node (hd.o_407 P) (.node (PySem.W.boot_o_7 P) (.node (hd.o_52 P) (.node (hd.o_68 P) (.node (hd.o_102 P) (.node (hd.o_166 P) (.node (hd.o_302 P) .nil .nil) (.node (hd.o_435 P) .nil .nil)) (.node (hd.o_234 P) (.node (hd.o_366 P) .nil .nil) (.node (hd.o_499 P) .nil .nil))) (.node (hd.o_134 P) (.node (hd.o_200 P) (.node (hd.o_334 P) .nil .nil) (.node (hd.o_467 P) .nil .nil)) (.node (hd.o_266 P) (.node (hd.o_400 P) .nil .nil) .nil))) (.node (hd.o_84 P) (.node (hd.o_118 P) (.node (hd.o_182 P) (.node (hd.o_318 P) .nil .nil) (.node (hd.o_451 P) .nil .nil)) (.node (hd.o_250 P) (.node (hd.o_384 P) .nil .nil) .nil)) (.node (hd.o_150 P) (.node (hd.o_218 P) (.node (hd.o_350 P) .nil .nil) (.node (hd.o_483 P) .nil .nil)) (.node (hd.o_282 P) (.node (hd.o_419 P) .nil .nil) .nil)))) (.node (hd.o_60 P) (.node (hd.o_76 P) (.node (hd.o_110 P) (.node (hd.o_174 P) (.node (hd.o_310 P) .nil .nil) (.node (hd.o_443 P) .nil .nil)) (.node (hd.o_242 P) (.node (hd.o_376 P) .nil .nil) (.node (hd.o_507 P) .nil .nil))) (.node (hd.o_142 P) (.node (hd.o_210 P) (.node (hd.o_342 P) .nil .nil) (.node (hd.o_475 P) .nil .nil)) (.node (hd.o_274 P) (.node (hd.o_411 P) .nil .nil) .nil))) (.node (hd.o_92 P) (.node (hd.o_126 P) (.node (hd.o_192 P) (.node (hd.o_326 P) .nil .nil) (.node (hd.o_459 P) .nil .nil)) (.node (hd.o_258 P) (.node (hd.o_392 P) .nil .nil) .nil)) (.node (hd.o_158 P) (.node (hd.o_226 P) (.node (hd.o_358 P) .nil .nil) (.node (hd.o_491 P) .nil .nil)) (.node (hd.o_290 P) (.node (hd.o_427 P) .nil .nil) .nil))))) (.node (hd.o_43 P) (.node (hd.o_56 P) (.node (hd.o_72 P) (.node (hd.o_106 P) (.node (hd.o_170 P) (.node (hd.o_306 P) .nil .nil) (.node (hd.o_439 P) .nil .nil)) (.node (hd.o_238 P) (.node (hd.o_372 P) .nil .nil) (.node (hd.o_503 P) .nil .nil))) (.node (hd.o_138 P) (.node (hd.o_206 P) (.node (hd.o_338 P) .nil .nil) (.node (hd.o_471 P) .nil .nil)) (.node (hd.o_270 P) (.node (hd.o_404 P) .nil .nil) .nil))) (.node (hd.o_88 P) (.node (hd.o_122 P) (.node (hd.o_186 P) (.node (hd.o_322 P) .nil .nil) (.node (hd.o_455 P) .nil .nil)) (.node (hd.o_254 P) (.node (hd.o_388 P) .nil .nil) .nil)) (.node (hd.o_154 P) (.node (hd.o_222 P) (.node (hd.o_354 P) .nil .nil) (.node (hd.o_487 P) .nil .nil)) (.node (hd.o_286 P) (.node (hd.o_423 P) .nil .nil) .nil)))) (.node (hd.o_64 P) (.node (hd.o_80 P) (.node (hd.o_114 P) (.node (hd.o_178 P) (.node (hd.o_314 P) .nil .nil) (.node (hd.o_447 P) .nil .nil)) (.node (hd.o_246 P) (.node (hd.o_380 P) .nil .nil) (.node (hd.o_511 P) .nil .nil))) (.node (hd.o_146 P) (.node (hd.o_214 P) (.node (hd.o_346 P) .nil .nil) (.node (hd.o_479 P) .nil .nil)) (.node (hd.o_278 P) (.node (hd.o_415 P) .nil .nil) .nil))) (.node (hd.o_96 P) (.node (hd.o_130 P) (.node (hd.o_196 P) (.node (hd.o_330 P) .nil .nil) (.node (hd.o_463 P) .nil .nil)) (.node (hd.o_262 P) (.node (hd.o_396 P) .nil .nil) .nil)) (.node (hd.o_162 P) (.node (hd.o_230 P) (.node (hd.o_362 P) .nil .nil) (.node (hd.o_495 P) .nil .nil)) (.node (hd.o_294 P) (.node (hd.o_431 P) .nil .nil) .nil)))))) (.node (PySem.W.boot_o_5 P) (.node (PySem.W.boot_o_9 P) (.node (hd.o_54 P) (.node (hd.o_70 P) (.node (hd.o_104 P) (.node (hd.o_168 P) (.node (hd.o_304 P) .nil .nil) (.node (hd.o_437 P) .nil .nil)) (.node (hd.o_236 P) (.node (hd.o_368 P) .nil .nil) (.node (hd.o_501 P) .nil .nil))) (.node (hd.o_136 P) (.node (hd.o_202 P) (.node (hd.o_336 P) .nil .nil) (.node (hd.o_469 P) .nil .nil)) (.node (hd.o_268 P) (.node (hd.o_409 P) .nil .nil) .nil))) (.node (hd.o_86 P) (.node (hd.o_120 P) (.node (hd.o_184 P) (.node (hd.o_320 P) .nil .nil) (.node (hd.o_453 P) .nil .nil)) (.node (hd.o_252 P) (.node (hd.o_386 P) .nil .nil) .nil)) (.node (hd.o_152 P) (.node (hd.o_220 P) (.node (hd.o_352 P) .nil .nil) (.node (hd.o_485 P) .nil .nil)) (.node (hd.o_284 P) (.node (hd.o_421 P) .nil .nil) .nil)))) (.node (hd.o_62 P) (.node (hd.o_78 P) (.node (hd.o_112 P) (.node (hd.o_176 P) (.node (hd.o_312 P) .nil .nil) (.node (hd.o_445 P) .nil .nil)) (.node (hd.o_244 P) (.node (hd.o_378 P) .nil .nil) (.node (hd.o_509 P) .nil .nil))) (.node (hd.o_144 P) (.node (hd.o_212 P) (.node (hd.o_344 P) .nil .nil) (.node (hd.o_477 P) .nil .nil)) (.node (hd.o_276 P) (.node (hd.o_413 P) .nil .nil) .nil))) (.node (hd.o_94 P) (.node (hd.o_128 P) (.node (hd.o_194 P) (.node (hd.o_328 P) .nil .nil) (.node (hd.o_461 P) .nil .nil)) (.node (hd.o_260 P) (.node (hd.o_394 P) .nil .nil) .nil)) (.node (hd.o_160 P) (.node (hd.o_228 P) (.node (hd.o_360 P) .nil .nil) (.node (hd.o_493 P) .nil .nil)) (.node (hd.o_292 P) (.node (hd.o_429 P) .nil .nil) .nil))))) (.node (hd.o_45 P) (.node (hd.o_58 P) (.node (hd.o_74 P) (.node (hd.o_108 P) (.node (hd.o_172 P) (.node (hd.o_308 P) .nil .nil) (.node (hd.o_441 P) .nil .nil)) (.node (hd.o_240 P) (.node (hd.o_374 P) .nil .nil) (.node (hd.o_505 P) .nil .nil))) (.node (hd.o_140 P) (.node (hd.o_208 P) (.node (hd.o_340 P) .nil .nil) (.node (hd.o_473 P) .nil .nil)) (.node (hd.o_272 P) (.node (hd.o_406 P) .nil .nil) .nil))) (.node (hd.o_90 P) (.node (hd.o_124 P) (.node (hd.o_190 P) (.node (hd.o_324 P) .nil .nil) (.node (hd.o_457 P) .nil .nil)) (.node (hd.o_256 P) (.node (hd.o_390 P) .nil .nil) .nil)) (.node (hd.o_156 P) (.node (hd.o_224 P) (.node (hd.o_356 P) .nil .nil) (.node (hd.o_489 P) .nil .nil)) (.node (hd.o_288 P) (.node (hd.o_425 P) .nil .nil) .nil)))) (.node (hd.o_66 P) (.node (hd.o_82 P) (.node (hd.o_116 P) (.node (hd.o_180 P) (.node (hd.o_316 P) .nil .nil) (.node (hd.o_449 P) .nil .nil)) (.node (hd.o_248 P) (.node (hd.o_382 P) .nil .nil) (.node (hd.o_513 P) .nil .nil))) (.node (hd.o_148 P) (.node (hd.o_216 P) (.node (hd.o_348 P) .nil .nil) (.node (hd.o_481 P) .nil .nil)) (.node (hd.o_280 P) (.node (hd.o_417 P) .nil .nil) .nil))) (.node (hd.o_98 P) (.node (hd.o_132 P) (.node (hd.o_198 P) (.node (hd.o_332 P) .nil .nil) (.node (hd.o_465 P) .nil .nil)) (.node (hd.o_264 P) (.node (hd.o_398 P) .nil .nil) .nil)) (.node (hd.o_164 P) (.node (hd.o_232 P) (.node (hd.o_364 P) .nil .nil) (.node (hd.o_497 P) .nil .nil)) (.node (hd.o_300 P) (.node (hd.o_433 P) .nil .nil) .nil))))))) (.node (hd.o_49 P) (.node (PySem.W.boot_o_4 P) (.node (PySem.W.boot_o_8 P) (.node (hd.o_53 P) (.node (hd.o_69 P) (.node (hd.o_103 P) (.node (hd.o_167 P) (.node (hd.o_303 P) .nil .nil) (.node (hd.o_436 P) .nil .nil)) (.node (hd.o_235 P) (.node (hd.o_367 P) .nil .nil) (.node (hd.o_500 P) .nil .nil))) (.node (hd.o_135 P) (.node (hd.o_201 P) (.node (hd.o_335 P) .nil .nil) (.node (hd.o_468 P) .nil .nil)) (.node (hd.o_267 P) (.node (hd.o_401 P) .nil .nil) .nil))) (.node (hd.o_85 P) (.node (hd.o_119 P) (.node (hd.o_183 P) (.node (hd.o_319 P) .nil .nil) (.node (hd.o_452 P) .nil .nil)) (.node (hd.o_251 P) (.node (hd.o_385 P) .nil .nil) .nil)) (.node (hd.o_151 P) (.node (hd.o_219 P) (.node (hd.o_351 P) .nil .nil) (.node (hd.o_484 P) .nil .nil)) (.node (hd.o_283 P) (.node (hd.o_420 P) .nil .nil) .nil)))) (.node (hd.o_61 P) (.node (hd.o_77 P) (.node (hd.o_111 P) (.node (hd.o_175 P) (.node (hd.o_311 P) .nil .nil) (.node (hd.o_444 P) .nil .nil)) (.node (hd.o_243 P) (.node (hd.o_377 P) .nil .nil) (.node (hd.o_508 P) .nil .nil))) (.node (hd.o_143 P) (.node (hd.o_211 P) (.node (hd.o_343 P) .nil .nil) (.node (hd.o_476 P) .nil .nil)) (.node (hd.o_275 P) (.node (hd.o_412 P) .nil .nil) .nil))) (.node (hd.o_93 P) (.node (hd.o_127 P) (.node (hd.o_193 P) (.node (hd.o_327 P) .nil .nil) (.node (hd.o_460 P) .nil .nil)) (.node (hd.o_259 P) (.node (hd.o_393 P) .nil .nil) .nil)) (.node (hd.o_159 P) (.node (hd.o_227 P) (.node (hd.o_359 P) .nil .nil) (.node (hd.o_492 P) .nil .nil)) (.node (hd.o_291 P) (.node (hd.o_428 P) .nil .nil) .nil))))) (.node (hd.o_408 P) (.node (hd.o_57 P) (.node (hd.o_73 P) (.node (hd.o_107 P) (.node (hd.o_171 P) (.node (hd.o_307 P) .nil .nil) (.node (hd.o_440 P) .nil .nil)) (.node (hd.o_239 P) (.node (hd.o_373 P) .nil .nil) (.node (hd.o_504 P) .nil .nil))) (.node (hd.o_139 P) (.node (hd.o_207 P) (.node (hd.o_339 P) .nil .nil) (.node (hd.o_472 P) .nil .nil)) (.node (hd.o_271 P) (.node (hd.o_405 P) .nil .nil) .nil))) (.node (hd.o_89 P) (.node (hd.o_123 P) (.node (hd.o_189 P) (.node (hd.o_323 P) .nil .nil) (.node (hd.o_456 P) .nil .nil)) (.node (hd.o_255 P) (.node (hd.o_389 P) .nil .nil) .nil)) (.node (hd.o_155 P) (.node (hd.o_223 P) (.node (hd.o_355 P) .nil .nil) (.node (hd.o_488 P) .nil .nil)) (.node (hd.o_287 P) (.node (hd.o_424 P) .nil .nil) .nil)))) (.node (hd.o_65 P) (.node (hd.o_81 P) (.node (hd.o_115 P) (.node (hd.o_179 P) (.node (hd.o_315 P) .nil .nil) (.node (hd.o_448 P) .nil .nil)) (.node (hd.o_247 P) (.node (hd.o_381 P) .nil .nil) (.node (hd.o_512 P) .nil .nil))) (.node (hd.o_147 P) (.node (hd.o_215 P) (.node (hd.o_347 P) .nil .nil) (.node (hd.o_480 P) .nil .nil)) (.node (hd.o_279 P) (.node (hd.o_416 P) .nil .nil) .nil))) (.node (hd.o_97 P) (.node (hd.o_131 P) (.node (hd.o_197 P) (.node (hd.o_331 P) .nil .nil) (.node (hd.o_464 P) .nil .nil)) (.node (hd.o_263 P) (.node (hd.o_397 P) .nil .nil) .nil)) (.node (hd.o_163 P) (.node (hd.o_231 P) (.node (hd.o_363 P) .nil .nil) (.node (hd.o_496 P) .nil .nil)) (.node (hd.o_295 P) (.node (hd.o_432 P) .nil .nil) .nil)))))) (.node (PySem.W.boot_o_6 P) (.node (PySem.W.boot_o_10 P) (.node (hd.o_55 P) (.node (hd.o_71 P) (.node (hd.o_105 P) (.node (hd.o_169 P) (.node (hd.o_305 P) .nil .nil) (.node (hd.o_438 P) .nil .nil)) (.node (hd.o_237 P) (.node (hd.o_369 P) .nil .nil) (.node (hd.o_502 P) .nil .nil))) (.node (hd.o_137 P) (.node (hd.o_205 P) (.node (hd.o_337 P) .nil .nil) (.node (hd.o_470 P) .nil .nil)) (.node (hd.o_269 P) (.node (hd.o_403 P) .nil .nil) .nil))) (.node (hd.o_87 P) (.node (hd.o_121 P) (.node (hd.o_185 P) (.node (hd.o_321 P) .nil .nil) (.node (hd.o_454 P) .nil .nil)) (.node (hd.o_253 P) (.node (hd.o_387 P) .nil .nil) .nil)) (.node (hd.o_153 P) (.node (hd.o_221 P) (.node (hd.o_353 P) .nil .nil) (.node (hd.o_486 P) .nil .nil)) (.node (hd.o_285 P) (.node (hd.o_422 P) .nil .nil) .nil)))) (.node (hd.o_63 P) (.node (hd.o_79 P) (.node (hd.o_113 P) (.node (hd.o_177 P) (.node (hd.o_313 P) .nil .nil) (.node (hd.o_446 P) .nil .nil)) (.node (hd.o_245 P) (.node (hd.o_379 P) .nil .nil) (.node (hd.o_510 P) .nil .nil))) (.node (hd.o_145 P) (.node (hd.o_213 P) (.node (hd.o_345 P) .nil .nil) (.node (hd.o_478 P) .nil .nil)) (.node (hd.o_277 P) (.node (hd.o_414 P) .nil .nil) .nil))) (.node (hd.o_95 P) (.node (hd.o_129 P) (.node (hd.o_195 P) (.node (hd.o_329 P) .nil .nil) (.node (hd.o_462 P) .nil .nil)) (.node (hd.o_261 P) (.node (hd.o_395 P) .nil .nil) .nil)) (.node (hd.o_161 P) (.node (hd.o_229 P) (.node (hd.o_361 P) .nil .nil) (.node (hd.o_494 P) .nil .nil)) (.node (hd.o_293 P) (.node (hd.o_430 P) .nil .nil) .nil))))) (.node (hd.o_46 P) (.node (hd.o_59 P) (.node (hd.o_75 P) (.node (hd.o_109 P) (.node (hd.o_173 P) (.node (hd.o_309 P) .nil .nil) (.node (hd.o_442 P) .nil .nil)) (.node (hd.o_241 P) (.node (hd.o_375 P) .nil .nil) (.node (hd.o_506 P) .nil .nil))) (.node (hd.o_141 P) (.node (hd.o_209 P) (.node (hd.o_341 P) .nil .nil) (.node (hd.o_474 P) .nil .nil)) (.node (hd.o_273 P) (.node (hd.o_410 P) .nil .nil) .nil))) (.node (hd.o_91 P) (.node (hd.o_125 P) (.node (hd.o_191 P) (.node (hd.o_325 P) .nil .nil) (.node (hd.o_458 P) .nil .nil)) (.node (hd.o_257 P) (.node (hd.o_391 P) .nil .nil) .nil)) (.node (hd.o_157 P) (.node (hd.o_225 P) (.node (hd.o_357 P) .nil .nil) (.node (hd.o_490 P) .nil .nil)) (.node (hd.o_289 P) (.node (hd.o_426 P) .nil .nil) .nil)))) (.node (hd.o_67 P) (.node (hd.o_83 P) (.node (hd.o_117 P) (.node (hd.o_181 P) (.node (hd.o_317 P) .nil .nil) (.node (hd.o_450 P) .nil .nil)) (.node (hd.o_249 P) (.node (hd.o_383 P) .nil .nil) .nil)) (.node (hd.o_149 P) (.node (hd.o_217 P) (.node (hd.o_349 P) .nil .nil) (.node (hd.o_482 P) .nil .nil)) (.node (hd.o_281 P) (.node (hd.o_418 P) .nil .nil) .nil))) (.node (hd.o_99 P) (.node (hd.o_133 P) (.node (hd.o_199 P) (.node (hd.o_333 P) .nil .nil) (.node (hd.o_466 P) .nil .nil)) (.node (hd.o_265 P) (.node (hd.o_399 P) .nil .nil) .nil)) (.node (hd.o_165 P) (.node (hd.o_233 P) (.node (hd.o_365 P) .nil .nil) (.node (hd.o_498 P) .nil .nil)) (.node (hd.o_301 P) (.node (hd.o_434 P) .nil .nil) .nil)))))))))
noncomputable def hd.tree_654 : Params → BT := (fun P => (.node (PySem.W.boot_o_0 P) (.node (PySem.W.boot_o_1 P) (.node (hd.o_603 P) (.node (PySem.W.boot_o_7 P) (.node (hd.o_52 P) (.node (hd.o_68 P) (.node (hd.o_102 P) (.node (hd.o_166 P) (.node (hd.o_302 P) (.node (hd.o_654 P) .nil .nil) .nil) (.node (hd.o_435 P) .nil .nil)) (.node (hd.o_234 P) (.node (hd.o_366 P) .nil .nil) (.node (hd.o_499 P) .nil .nil))) (.node (hd.o_134 P) (.node (hd.o_200 P) (.node (hd.o_334 P) .nil .nil) (.node (hd.o_467 P) .nil .nil)) (.node (hd.o_266 P) (.node (hd.o_400 P) .nil .nil) (.node (hd.o_622 P) .nil .nil)))) (.node (hd.o_84 P) (.node (hd.o_118 P) (.node (hd.o_182 P) (.node (hd.o_318 P) .nil .nil) (.node (hd.o_451 P) .nil .nil)) (.node (hd.o_250 P) (.node (hd.o_384 P) .nil .nil) (.node (hd.o_606 P) .nil .nil))) (.node (hd.o_150 P) (.node (hd.o_218 P) (.node (hd.o_350 P) .nil .nil) (.node (hd.o_483 P) .nil .nil)) (.node (hd.o_282 P) (.node (hd.o_419 P) .nil .nil) (.node (hd.o_638 P) .nil .nil))))) (.node (hd.o_60 P) (.node (hd.o_76 P) (.node (hd.o_110 P) (.node (hd.o_174 P) (.node (hd.o_310 P) .nil .nil) (.node (hd.o_443 P) .nil .nil)) (.node (hd.o_242 P) (.node (hd.o_376 P) .nil .nil) (.node (hd.o_507 P) .nil .nil))) (.node (hd.o_142 P) (.node (hd.o_210 P) (.node (hd.o_342 P) .nil .nil) (.node (hd.o_475 P) .nil .nil)) (.node (hd.o_274 P) (.node (hd.o_411 P) .nil .nil) (.node (hd.o_630 P) .nil .nil)))) (.node (hd.o_92 P) (.node (hd.o_126 P) (.node (hd.o_192 P) (.node (hd.o_326 P) .nil .nil) (.node (hd.o_459 P) .nil .nil)) (.node (hd.o_258 P) (.node (hd.o_392 P) .nil .nil) (.node (hd.o_614 P) .nil .nil))) (.node (hd.o_158 P) (.node (hd.o_226 P) (.node (hd.o_358 P) .nil .nil) (.node (hd.o_491 P) .nil .nil)) (.node (hd.o_290 P) (.node (hd.o_427 P) .nil .nil) (.node (hd.o_646 P) .nil .nil)))))) (.node (hd.o_43 P) (.node (hd.o_56 P) (.node (hd.o_72 P) (.node (hd.o_106 P) (.node (hd.o_170 P) (.node (hd.o_306 P) .nil .nil) (.node (hd.o_439 P) .nil .nil)) (.node (hd.o_238 P) (.node (hd.o_372 P) .nil .nil) (.node (hd.o_503 P) .nil .nil))) (.node (hd.o_138 P) (.node (hd.o_206 P) (.node (hd.o_338 P) .nil .nil) (.node (hd.o_471 P) .nil .nil)) (.node (hd.o_270 P) (.node (hd.o_404 P) .nil .nil) (.node (hd.o_626 P) .nil .nil)))) (.node (hd.o_88 P) (.node (hd.o_122 P) (.node (hd.o_186 P) (.node (hd.o_322 P) .nil .nil) (.node (hd.o_455 P) .nil .nil)) (.node (hd.o_254 P) (.node (hd.o_388 P) .nil .nil) (.node (hd.o_610 P) .nil .nil))) (.node (hd.o_154 P) (.node (hd.o_222 P) (.node (hd.o_354 P) .nil .nil) (.node (hd.o_487 P) .nil .nil)) (.node (hd.o_286 P) (.node (hd.o_423 P) .nil .nil) (.node (hd.o_642 P) .nil .nil))))) (.node (hd.o_64 P) (.node (hd.o_80 P) (.node (hd.o_114 P) (.node (hd.o_178 P) (.node (hd.o_314 P) .nil .nil) (.node (hd.o_447 P) .nil .nil)) (.node (hd.o_246 P) (.node (hd.o_380 P) .nil .nil) (.node (hd.o_511 P) .nil .nil))) (.node (hd.o_146 P) (.node (hd.o_214 P) (.node (hd.o_346 P) .nil .nil) (.node (hd.o_479 P) .nil .nil)) (.node (hd.o_278 P) (.node (hd.o_415 P) .nil .nil) (.node (hd.o_634 P) .nil .nil)))) (.node (hd.o_96 P) (.node (hd.o_130 P) (.node (hd.o_196 P) (.node (hd.o_330 P) .nil .nil) (.node (hd.o_463 P) .nil .nil)) (.node (hd.o_262 P) (.node (hd.o_396 P) .nil .nil) (.node (hd.o_618 P) .nil .nil))) (.node (hd.o_162 P) (.node (hd.o_230 P) (.node (hd.o_362 P) .nil .nil) (.node (hd.o_495 P) .nil .nil)) (.node (hd.o_294 P) (.node (hd.o_431 P) .nil .nil) (.node (hd.o_650 P) .nil .nil))))))) (.node (PySem.W.boot_o_5 P) (.node (PySem.W.boot_o_9 P) (.node (hd.o_54 P) (.node (hd.o_70 P) (.node (hd.o_104 P) (.node (hd.o_168 P) (.node (hd.o_304 P) .nil .nil) (.node (hd.o_437 P) .nil .nil)) (.node (hd.o_236 P) (.node (hd.o_368 P) .nil .nil) (.node (hd.o_501 P) .nil .nil))) (.node (hd.o_136 P) (.node (hd.o_202 P) (.node (hd.o_336 P) .nil .nil) (.node (hd.o_469 P) .nil .nil)) (.node (hd.o_268 P) (.node (hd.o_409 P) .nil .nil) (.node (hd.o_624 P) .nil .nil)))) (.node (hd.o_86 P) (.node (hd.o_120 P) (.node (hd.o_184 P) (.node (hd.o_320 P) .nil .nil) (.node (hd.o_453 P) .nil .nil)) (.node (hd.o_252 P) (.node (hd.o_386 P) .nil .nil) (.node (hd.o_608 P) .nil .nil))) (.node (hd.o_152 P) (.node (hd.o_220 P) (.node (hd.o_352 P) .nil .nil) (.node (hd.o_485 P) .nil .nil)) (.node (hd.o_284 P) (.node (hd.o_421 P) .nil .nil) (.node (hd.o_640 P) .nil .nil))))) (.node (hd.o_62 P) (.node (hd.o_78 P) (.node (hd.o_112 P) (.node (hd.o_176 P) (.node (hd.o_312 P) .nil .nil) (.node (hd.o_445 P) .nil .nil)) (.node (hd.o_244 P) (.node (hd.o_378 P) .nil .nil) (.node (hd.o_509 P) .nil .nil))) (.node (hd.o_144 P) (.node (hd.o_212 P) (.node (hd.o_344 P) .nil .nil) (.node (hd.o_477 P) .nil .nil)) (.node (hd.o_276 P) (.node (hd.o_413 P) .nil .nil) (.node (hd.o_632 P) .nil .nil)))) (.node (hd.o_94 P) (.node (hd.o_128 P) (.node (hd.o_194 P) (.node (hd.o_328 P) .nil .nil) (.node (hd.o_461 P) .nil .nil)) (.node (hd.o_260 P) (.node (hd.o_394 P) .nil .nil) (.node (hd.o_616 P) .nil .nil))) (.node (hd.o_160 P) (.node (hd.o_228 P) (.node (hd.o_360 P) .nil .nil) (.node (hd.o_493 P) .nil .nil)) (.node (hd.o_292 P) (.node (hd.o_429 P) .nil .nil) (.node (hd.o_648 P) .nil .nil)))))) (.node (hd.o_45 P) (.node (hd.o_58 P) (.node (hd.o_74 P) (.node (hd.o_108 P) (.node (hd.o_172 P) (.node (hd.o_308 P) .nil .nil) (.node (hd.o_441 P) .nil .nil)) (.node (hd.o_240 P) (.node (hd.o_374 P) .nil .nil) (.node (hd.o_505 P) .nil .nil))) (.node (hd.o_140 P) (.node (hd.o_208 P) (.node (hd.o_340 P) .nil .nil) (.node (hd.o_473 P) .nil .nil)) (.node (hd.o_272 P) (.node (hd.o_406 P) .nil .nil) (.node (hd.o_628 P) .nil .nil)))) (.node (hd.o_90 P) (.node (hd.o_124 P) (.node (hd.o_190 P) (.node (hd.o_324 P) .nil .nil) (.node (hd.o_457 P) .nil .nil)) (.node (hd.o_256 P) (.node (hd.o_390 P) .nil .nil) (.node (hd.o_612 P) .nil .nil))) (.node (hd.o_156 P) (.node (hd.o_224 P) (.node (hd.o_356 P) .nil .nil) (.node (hd.o_489 P) .nil .nil)) (.node (hd.o_288 P) (.node (hd.o_425 P) .nil .nil) (.node (hd.o_644 P) .nil .nil))))) (.node (hd.o_66 P) (.node (hd.o_82 P) (.node (hd.o_116 P) (.node (hd.o_180 P) (.node (hd.o_316 P) .nil .nil) (.node (hd.o_449 P) .nil .nil)) (.node (hd.o_248 P) (.node (hd.o_382 P) .nil .nil) (.node (hd.o_513 P) .nil .nil))) (.node (hd.o_148 P) (.node (hd.o_216 P) (.node (hd.o_348 P) .nil .nil) (.node (hd.o_481 P) .nil .nil)) (.node (hd.o_280 P) (.node (hd.o_417 P) .nil .nil) (.node (hd.o_636 P) .nil .nil)))) (.node (hd.o_98 P) (.node (hd.o_132 P) (.node (hd.o_198 P) (.node (hd.o_332 P) .nil .nil) (.node (hd.o_465 P) .nil .nil)) (.node (hd.o_264 P) (.node (hd.o_398 P) .nil .nil) (.node (hd.o_620 P) .nil .nil))) (.node (hd.o_164 P) (.node (hd.o_232 P) (.node (hd.o_364 P) .nil .nil) (.node (hd.o_497 P) .nil .nil)) (.node (hd.o_300 P) (.node (hd.o_433 P) .nil .nil) (.node (hd.o_652 P) .nil .nil)))))))) (.node (hd.o_49 P) (.node (PySem.W.boot_o_4 P) (.node (PySem.W.boot_o_8 P) (.node (hd.o_53 P) (.node (hd.o_69 P) (.node (hd.o_103 P) (.node (hd.o_167 P) (.node (hd.o_303 P) .nil .nil) (.node (hd.o_436 P) .nil .nil)) (.node (hd.o_235 P) (.node (hd.o_367 P) .nil .nil) (.node (hd.o_500 P) .nil .nil))) (.node (hd.o_135 P) (.node (hd.o_201 P) (.node (hd.o_335 P) .nil .nil) (.node (hd.o_468 P) .nil .nil)) (.node (hd.o_267 P) (.node (hd.o_401 P) .nil .nil) (.node (hd.o_623 P) .nil .nil)))) (.node (hd.o_85 P) (.node (hd.o_119 P) (.node (hd.o_183 P) (.node (hd.o_319 P) .nil .nil) (.node (hd.o_452 P) .nil .nil)) (.node (hd.o_251 P) (.node (hd.o_385 P) .nil .nil) (.node (hd.o_607 P) .nil .nil))) (.node (hd.o_151 P) (.node (hd.o_219 P) (.node (hd.o_351 P) .nil .nil) (.node (hd.o_484 P) .nil .nil)) (.node (hd.o_283 P) (.node (hd.o_420 P) .nil .nil) (.node (hd.o_639 P) .nil .nil))))) (.node (hd.o_61 P) (.node (hd.o_77 P) (.node (hd.o_111 P) (.node (hd.o_175 P) (.node (hd.o_311 P) .nil .nil) (.node (hd.o_444 P) .nil .nil)) (.node (hd.o_243 P) (.node (hd.o_377 P) .nil .nil) (.node (hd.o_508 P) .nil .nil))) (.node (hd.o_143 P) (.node (hd.o_211 P) (.node (hd.o_343 P) .nil .nil) (.node (hd.o_476 P) .nil .nil)) (.node (hd.o_275 P) (.node (hd.o_412 P) .nil .nil) (.node (hd.o_631 P) .nil .nil)))) (.node (hd.o_93 P) (.node (hd.o_127 P) (.node (hd.o_193 P) (.node (hd.o_327 P) .nil .nil) (.node (hd.o_460 P) .nil .nil)) (.node (hd.o_259 P) (.node (hd.o_393 P) .nil .nil) (.node (hd.o_615 P) .nil .nil))) (.node (hd.o_159 P) (.node (hd.o_227 P) (.node (hd.o_359 P) .nil .nil) (.node (hd.o_492 P) .nil .nil)) (.node (hd.o_291 P) (.node (hd.o_428 P) .nil .nil) (.node (hd.o_647 P) .nil .nil)))))) (.node (hd.o_604 P) (.node (hd.o_57 P) (.node (hd.o_73 P) (.node (hd.o_107 P) (.node (hd.o_171 P) (.node (hd.o_307 P) .nil .nil) (.node (hd.o_440 P) .nil .nil)) (.node (hd.o_239 P) (.node (hd.o_373 P) .nil .nil) (.node (hd.o_504 P) .nil .nil))) (.node (hd.o_139 P) (.node (hd.o_207 P) (.node (hd.o_339 P) .nil .nil) (.node (hd.o_472 P) .nil .nil)) (.node (hd.o_271 P) (.node (hd.o_405 P) .nil .nil) (.node (hd.o_627 P) .nil .nil)))) (.node (hd.o_89 P) (.node (hd.o_123 P) (.node (hd.o_189 P) (.node (hd.o_323 P) .nil .nil) (.node (hd.o_456 P) .nil .nil)) (.node (hd.o_255 P) (.node (hd.o_389 P) .nil .nil) (.node (hd.o_611 P) .nil .nil))) (.node (hd.o_155 P) (.node (hd.o_223 P) (.node (hd.o_355 P) .nil .nil) (.node (hd.o_488 P) .nil .nil)) (.node (hd.o_287 P) (.node (hd.o_424 P) .nil .nil) (.node (hd.o_643 P) .nil .nil))))) (.node (hd.o_65 P) (.node (hd.o_81 P) (.node (hd.o_115 P) (.node (hd.o_179 P) (.node (hd.o_315 P) .nil .nil) (.node (hd.o_448 P) .nil .nil)) (.node (hd.o_247 P) (.node (hd.o_381 P) .nil .nil) (.node (hd.o_512 P) .nil .nil))) (.node (hd.o_147 P) (.node (hd.o_215 P) (.node (hd.o_347 P) .nil .nil) (.node (hd.o_480 P) .nil .nil)) (.node (hd.o_279 P) (.node (hd.o_416 P) .nil .nil) (.node (hd.o_635 P) .nil .nil)))) (.node (hd.o_97 P) (.node (hd.o_131 P) (.node (hd.o_197 P) (.node (hd.o_331 P) .nil .nil) (.node (hd.o_464 P) .nil .nil)) (.node (hd.o_263 P) (.node (hd.o_397 P) .nil .nil) (.node (hd.o_619 P) .nil .nil))) (.node (hd.o_163 P) (.node (hd.o_231 P) (.node (hd.o_363 P) .nil .nil) (.node (hd.o_496 P) .nil .nil)) (.node (hd.o_295 P) (.node (hd.o_432 P) .nil .nil) (.node (hd.o_651 P) .nil .nil))))))) (.node (PySem.W.boot_o_6 P) (.node (PySem.W.boot_o_10 P) (.node (hd.o_55 P) (.node (hd.o_71 P) (.node (hd.o_105 P) (.node (hd.o_169 P) (.node (hd.o_305 P) .nil .nil) (.node (hd.o_438 P) .nil .nil)) (.node (hd.o_237 P) (.node (hd.o_369 P) .nil .nil) (.node (hd.o_502 P) .nil .nil))) (.node (hd.o_137 P) (.node (hd.o_205 P) (.node (hd.o_337 P) .nil .nil) (.node (hd.o_470 P) .nil .nil)) (.node (hd.o_269 P) (.node (hd.o_403 P) .nil .nil) (.node (hd.o_625 P) .nil .nil)))) (.node (hd.o_87 P) (.node (hd.o_121 P) (.node (hd.o_185 P) (.node (hd.o_321 P) .nil .nil) (.node (hd.o_454 P) .nil .nil)) (.node (hd.o_253 P) (.node (hd.o_387 P) .nil .nil) (.node (hd.o_609 P) .nil .nil))) (.node (hd.o_153 P) (.node (hd.o_221 P) (.node (hd.o_353 P) .nil .nil) (.node (hd.o_486 P) .nil .nil)) (.node (hd.o_285 P) (.node (hd.o_422 P) .nil .nil) (.node (hd.o_641 P) .nil .nil))))) (.node (hd.o_63 P) (.node (hd.o_79 P) (.node (hd.o_113 P) (.node (hd.o_177 P) (.node (hd.o_313 P) .nil .nil) (.node (hd.o_446 P) .nil .nil)) (.node (hd.o_245 P) (.node (hd.o_379 P) .nil .nil) (.node (hd.o_510 P) .nil .nil))) (.node (hd.o_145 P) (.node (hd.o_213 P) (.node (hd.o_345 P) .nil .nil) (.node (hd.o_478 P) .nil .nil)) (.node (hd.o_277 P) (.node (hd.o_414 P) .nil .nil) (.node (hd.o_633 P) .nil .nil)))) (.node (hd.o_95 P) (.node (hd.o_129 P) (.node (hd.o_195 P) (.node (hd.o_329 P) .nil .nil) (.node (hd.o_462 P) .nil .nil)) (.node (hd.o_261 P) (.node (hd.o_395 P) .nil .nil) (.node (hd.o_617 P) .nil .nil))) (.node (hd.o_161 P) (.node (hd.o_229 P) (.node (hd.o_361 P) .nil .nil) (.node (hd.o_494 P) .nil .nil)) (.node (hd.o_293 P) (.node (hd.o_430 P) .nil .nil) (.node (hd.o_649 P) .nil .nil)))))) (.node (hd.o_46 P) (.node (hd.o_59 P) (.node (hd.o_75 P) (.node (hd.o_109 P) (.node (hd.o_173 P) (.node (hd.o_309 P) .nil .nil) (.node (hd.o_442 P) .nil .nil)) (.node (hd.o_241 P) (.node (hd.o_375 P) .nil .nil) (.node (hd.o_506 P) .nil .nil))) (.node (hd.o_141 P) (.node (hd.o_209 P) (.node (hd.o_341 P) .nil .nil) (.node (hd.o_474 P) .nil .nil)) (.node (hd.o_273 P) (.node (hd.o_410 P) .nil .nil) (.node (hd.o_629 P) .nil .nil)))) (.node (hd.o_91 P) (.node (hd.o_125 P) (.node (hd.o_191 P) (.node (hd.o_325 P) .nil .nil) (.node (hd.o_458 P) .nil .nil)) (.node (hd.o_257 P) (.node (hd.o_391 P) .nil .nil) (.node (hd.o_613 P) .nil .nil))) (.node (hd.o_157 P) (.node (hd.o_225 P) (.node (hd.o_357 P) .nil .nil) (.node (hd.o_490 P) .nil .nil)) (.node (hd.o_289 P) (.node (hd.o_426 P) .nil .nil) (.node (hd.o_645 P) .nil .nil))))) (.node (hd.o_67 P) (.node (hd.o_83 P) (.node (hd.o_117 P) (.node (hd.o_181 P) (.node (hd.o_317 P) .nil .nil) (.node (hd.o_450 P) .nil .nil)) (.node (hd.o_249 P) (.node (hd.o_383 P) .nil .nil) (.node (hd.o_605 P) .nil .nil))) (.node (hd.o_149 P) (.node (hd.o_217 P) (.node (hd.o_349 P) .nil .nil) (.node (hd.o_482 P) .nil .nil)) (.node (hd.o_281 P) (.node (hd.o_418 P) .nil .nil) (.node (hd.o_637 P) .nil .nil)))) (.node (hd.o_99 P) (.node (hd.o_133 P) (.node (hd.o_199 P) (.node (hd.o_333 P) .nil .nil) (.node (hd.o_466 P) .nil .nil)) (.node (hd.o_265 P) (.node (hd.o_399 P) .nil .nil) (.node (hd.o_621 P) .nil .nil))) (.node (hd.o_165 P) (.node (hd.o_233 P) (.node (hd.o_365 P) .nil .nil) (.node (hd.o_498 P) .nil .nil)) (.node (hd.o_301 P) (.node (hd.o_434 P) .nil .nil) (.node (hd.o_653 P) .nil .nil))))))))))
noncomputable def hd.heap_655 : Params → Heap := (fun P => ⟨⟨[(PySem.W.boot_o_0 P), (PySem.W.boot_o_1 P), (hd.o_49 P), (hd.o_603 P), (PySem.W.boot_o_4 P), (PySem.W.boot_o_5 P), (PySem.W.boot_o_6 P), (PySem.W.boot_o_7 P), (PySem.W.boot_o_8 P), (PySem.W.boot_o_9 P), (PySem.W.boot_o_10 P), (hd.o_43 P), (hd.o_604 P), (hd.o_45 P), (hd.o_46 P), (hd.o_52 P), (hd.o_53 P), (hd.o_54 P), (hd.o_55 P), (hd.o_56 P), (hd.o_57 P), (hd.o_58 P), (hd.o_59 P), (hd.o_60 P), (hd.o_61 P), (hd.o_62 P), (hd.o_63 P), (hd.o_64 P), (hd.o_65 P), (hd.o_66 P), (hd.o_67 P), (hd.o_68 P), (hd.o_69 P), (hd.o_70 P), (hd.o_71 P), (hd.o_72 P), (hd.o_73 P), (hd.o_74 P), (hd.o_75 P), (hd.o_76 P), (hd.o_77 P), (hd.o_78 P), (hd.o_79 P), (hd.o_80 P), (hd.o_81 P), (hd.o_82 P), (hd.o_83 P), (hd.o_84 P), (hd.o_85 P), (hd.o_86 P), (hd.o_87 P), (hd.o_88 P), (hd.o_89 P), (hd.o_90 P), (hd.o_91 P), (hd.o_92 P), (hd.o_93 P), (hd.o_94 P), (hd.o_95 P), (hd.o_96 P), (hd.o_97 P), (hd.o_98 P), (hd.o_99 P), (hd.o_102 P), (hd.o_103 P), (hd.o_104 P), (hd.o_105 P), (hd.o_106 P), (hd.o_107 P), (hd.o_108 P), (hd.o_109 P), (hd.o_110 P), (hd.o_111 P), (hd.o_112 P), (hd.o_113 P), (hd.o_114 P), (hd.o_115 P), (hd.o_116 P), (hd.o_117 P), (hd.o_118 P), (hd.o_119 P), (hd.o_120 P), (hd.o_121 P), (hd.o_122 P), (hd.o_123 P), (hd.o_124 P), (hd.o_125 P), (hd.o_126 P), (hd.o_127 P), (hd.o_128 P), (hd.o_129 P), (hd.o_130 P), (hd.o_131 P), (hd.o_132 P), (hd.o_133 P), (hd.o_134 P), (hd.o_135 P), (hd.o_136 P), (hd.o_137 P), (hd.o_138 P), (hd.o_139 P), (hd.o_140 P), (hd.o_141 P), (hd.o_142 P), (hd.o_143 P), (hd.o_144 P), (hd.o_145 P), (hd.o_146 P), (hd.o_147 P), (hd.o_148 P), (hd.o_149 P), (hd.o_150 P), (hd.o_151 P), (hd.o_152 P), (hd.o_153 P), (hd.o_154 P), (hd.o_155 P), (hd.o_156 P), (hd.o_157 P), (hd.o_158 P), (hd.o_159 P), (hd.o_160 P), (hd.o_161 P), (hd.o_162 P), (hd.o_163 P), (hd.o_164 P), (hd.o_165 P), (hd.o_166 P), (hd.o_167 P), (hd.o_168 P), (hd.o_169 P), (hd.o_170 P), (hd.o_171 P), (hd.o_172 P), (hd.o_173 P), (hd.o_174 P), (hd.o_175 P), (hd.o_176 P), (hd.o_177 P), (hd.o_178 P), (hd.o_179 P), (hd.o_180 P), (hd.o_181 P), (hd.o_182 P), (hd.o_183 P), (hd.o_184 P), (hd.o_185 P), (hd.o_186 P), (hd.o_189 P), (hd.o_190 P), (hd.o_191 P), (hd.o_192 P), (hd.o_193 P), (hd.o_194 P), (hd.o_195 P), (hd.o_196 P), (hd.o_197 P), (hd.o_198 P), (hd.o_199 P), (hd.o_200 P), (hd.o_201 P), (hd.o_202 P), (hd.o_205 P), (hd.o_206 P), (hd.o_207 P), (hd.o_208 P), (hd.o_209 P), (hd.o_210 P), (hd.o_211 P), (hd.o_212 P), (hd.o_213 P), (hd.o_214 P), (hd.o_215 P), (hd.o_216 P), (hd.o_217 P), (hd.o_218 P), (hd.o_219 P), (hd.o_220 P), (hd.o_221 P), (hd.o_222 P), (hd.o_223 P), (hd.o_224 P), (hd.o_225 P), (hd.o_226 P), (hd.o_227 P), (hd.o_228 P), (hd.o_229 P), (hd.o_230 P), (hd.o_231 P), (hd.o_232 P), (hd.o_233 P), (hd.o_234 P), (hd.o_235 P), (hd.o_236 P), (hd.o_237 P), (hd.o_238 P), (hd.o_239 P), (hd.o_240 P), (hd.o_241 P), (hd.o_242 P), (hd.o_243 P), (hd.o_244 P), (hd.o_245 P), (hd.o_246 P), (hd.o_247 P), (hd.o_248 P), (hd.o_249 P), (hd.o_250 P), (hd.o_251 P), (hd.o_252 P), (hd.o_253 P), (hd.o_254 P), (hd.o_255 P), (hd.o_256 P), (hd.o_257 P), (hd.o_258 P), (hd.o_259 P), (hd.o_260 P), (hd.o_261 P), (hd.o_262 P), (hd.o_263 P), (hd.o_264 P), (hd.o_265 P), (hd.o_266 P), (hd.o_267 P), (hd.o_268 P), (hd.o_269 P), (hd.o_270 P), (hd.o_271 P), (hd.o_272 P), (hd.o_273 P), (hd.o_274 P), (hd.o_275 P), (hd.o_276 P), (hd.o_277 P), (hd.o_278 P), (hd.o_279 P), (hd.o_280 P), (hd.o_281 P), (hd.o_282 P), (hd.o_283 P), (hd.o_284 P), (hd.o_285 P), (hd.o_286 P), (hd.o_287 P), (hd.o_288 P), (hd.o_289 P), (hd.o_290 P), (hd.o_291 P), (hd.o_292 P), (hd.o_293 P), (hd.o_294 P), (hd.o_295 P), (hd.o_300 P), (hd.o_301 P), (hd.o_302 P), (hd.o_303 P), (hd.o_304 P), (hd.o_305 P), (hd.o_306 P), (hd.o_307 P), (hd.o_308 P), (hd.o_309 P), (hd.o_310 P), (hd.o_311 P), (hd.o_312 P), (hd.o_313 P), (hd.o_314 P), (hd.o_315 P), (hd.o_316 P), (hd.o_317 P), (hd.o_318 P), (hd.o_319 P), (hd.o_320 P), (hd.o_321 P), (hd.o_322 P), (hd.o_323 P), (hd.o_324 P), (hd.o_325 P), (hd.o_326 P), (hd.o_327 P), (hd.o_328 P), (hd.o_329 P), (hd.o_330 P), (hd.o_331 P), (hd.o_332 P), (hd.o_333 P), (hd.o_334 P), (hd.o_335 P), (hd.o_336 P), (hd.o_337 P), (hd.o_338 P), (hd.o_339 P), (hd.o_340 P), (hd.o_341 P), (hd.o_342 P), (hd.o_343 P), (hd.o_344 P), (hd.o_345 P), (hd.o_346 P), (hd.o_347 P), (hd.o_348 P), (hd.o_349 P), (hd.o_350 P), (hd.o_351 P), (hd.o_352 P), (hd.o_353 P), (hd.o_354 P), (hd.o_355 P), (hd.o_356 P), (hd.o_357 P), (hd.o_358 P), (hd.o_359 P), (hd.o_360 P), (hd.o_361 P), (hd.o_362 P), (hd.o_363 P), (hd.o_364 P), (hd.o_365 P), (hd.o_366 P), (hd.o_367 P), (hd.o_368 P), (hd.o_369 P), (hd.o_372 P), (hd.o_373 P), (hd.o_374 P), (hd.o_375 P), (hd.o_376 P), (hd.o_377 P), (hd.o_378 P), (hd.o_379 P), (hd.o_380 P), (hd.o_381 P), (hd.o_382 P), (hd.o_383 P), (hd.o_384 P), (hd.o_385 P), (hd.o_386 P), (hd.o_387 P), (hd.o_388 P), (hd.o_389 P), (hd.o_390 P), (hd.o_391 P), (hd.o_392 P), (hd.o_393 P), (hd.o_394 P), (hd.o_395 P), (hd.o_396 P), (hd.o_397 P), (hd.o_398 P), (hd.o_399 P), (hd.o_400 P), (hd.o_401 P), (hd.o_409 P), (hd.o_403 P), (hd.o_404 P), (hd.o_405 P), (hd.o_406 P), (hd.o_410 P), (hd.o_411 P), (hd.o_412 P), (hd.o_413 P), (hd.o_414 P), (hd.o_415 P), (hd.o_416 P), (hd.o_417 P), (hd.o_418 P), (hd.o_419 P), (hd.o_420 P), (hd.o_421 P), (hd.o_422 P), (hd.o_423 P), (hd.o_424 P), (hd.o_425 P), (hd.o_426 P), (hd.o_427 P), (hd.o_428 P), (hd.o_429 P), (hd.o_430 P), (hd.o_431 P), (hd.o_432 P), (hd.o_433 P), (hd.o_434 P), (hd.o_435 P), (hd.o_436 P), (hd.o_437 P), (hd.o_438 P), (hd.o_439 P), (hd.o_440 P), (hd.o_441 P), (hd.o_442 P), (hd.o_443 P), (hd.o_444 P), (hd.o_445 P), (hd.o_446 P), (hd.o_447 P), (hd.o_448 P), (hd.o_449 P), (hd.o_450 P), (hd.o_451 P), (hd.o_452 P), (hd.o_453 P), (hd.o_454 P), (hd.o_455 P), (hd.o_456 P), (hd.o_457 P), (hd.o_458 P), (hd.o_459 P), (hd.o_460 P), (hd.o_461 P), (hd.o_462 P), (hd.o_463 P), (hd.o_464 P), (hd.o_465 P), (hd.o_466 P), (hd.o_467 P), (hd.o_468 P), (hd.o_469 P), (hd.o_470 P), (hd.o_471 P), (hd.o_472 P), (hd.o_473 P), (hd.o_474 P), (hd.o_475 P), (hd.o_476 P), (hd.o_477 P), (hd.o_478 P), (hd.o_479 P), (hd.o_480 P), (hd.o_481 P), (hd.o_482 P), (hd.o_483 P), (hd.o_484 P), (hd.o_485 P), (hd.o_486 P), (hd.o_487 P), (hd.o_488 P), (hd.o_489 P), (hd.o_490 P), (hd.o_491 P), (hd.o_492 P), (hd.o_493 P), (hd.o_494 P), (hd.o_495 P), (hd.o_496 P), (hd.o_497 P), (hd.o_498 P), (hd.o_499 P), (hd.o_500 P), (hd.o_501 P), (hd.o_502 P), (hd.o_503 P), (hd.o_504 P), (hd.o_505 P), (hd.o_506 P), (hd.o_507 P), (hd.o_508 P), (hd.o_509 P), (hd.o_510 P), (hd.o_511 P), (hd.o_512 P), (hd.o_513 P), (hd.o_605 P), (hd.o_606 P), (hd.o_607 P), (hd.o_608 P), (hd.o_609 P), (hd.o_610 P), (hd.o_611 P), (hd.o_612 P), (hd.o_613 P), (hd.o_614 P), (hd.o_615 P), (hd.o_616 P), (hd.o_617 P), (hd.o_618 P), (hd.o_619 P), (hd.o_620 P), (hd.o_621 P), (hd.o_622 P), (hd.o_623 P), (hd.o_624 P), (hd.o_625 P), (hd.o_626 P), (hd.o_627 P), (hd.o_628 P), (hd.o_629 P), (hd.o_630 P), (hd.o_631 P), (hd.o_632 P), (hd.o_633 P), (hd.o_634 P), (hd.o_635 P), (hd.o_636 P), (hd.o_637 P), (hd.o_638 P), (hd.o_639 P), (hd.o_640 P), (hd.o_641 P), (hd.o_642 P), (hd.o_643 P), (hd.o_644 P), (hd.o_645 P), (hd.o_646 P), (hd.o_647 P), (hd.o_648 P), (hd.o_649 P), (hd.o_650 P), (hd.o_651 P), (hd.o_652 P), (hd.o_653 P), (hd.o_654 P)]⟩, ⟨[], [], [], 0, [], [], false, #[], [], 0, false, false, false, 0, [2000, 10, 10], false, 0, true, [], [], 0, false⟩⟩)
noncomputable def hd.heap_39 : Params → Frag := by
  refine (?f : ?x = (fun P : Params => ([(nat_lit 2, hd.o_49 P), (nat_lit 3, hd.o_603 P), (nat_lit 15, hd.o_52 P), (nat_lit 17, hd.o_54 P), (nat_lit 18, hd.o_55 P), (nat_lit 20, hd.o_57 P), (nat_lit 21, hd.o_58 P), (nat_lit 22, hd.o_59 P), (nat_lit 29, hd.o_66 P), (nat_lit 31, hd.o_68 P), (nat_lit 32, hd.o_69 P), (nat_lit 34, hd.o_71 P), (nat_lit 35, hd.o_72 P), (nat_lit 36, hd.o_73 P), (nat_lit 37, hd.o_74 P), (nat_lit 38, hd.o_75 P), (nat_lit 39, hd.o_76 P), (nat_lit 42, hd.o_79 P), (nat_lit 44, hd.o_81 P), (nat_lit 45, hd.o_82 P), (nat_lit 47, hd.o_84 P), (nat_lit 48, hd.o_85 P), (nat_lit 49, hd.o_86 P), (nat_lit 51, hd.o_88 P), (nat_lit 52, hd.o_89 P), (nat_lit 54, hd.o_91 P), (nat_lit 55, hd.o_92 P), (nat_lit 56, hd.o_93 P), (nat_lit 58, hd.o_95 P), (nat_lit 59, hd.o_96 P), (nat_lit 61, hd.o_98 P), (nat_lit 62, hd.o_99 P), (nat_lit 63, hd.o_102 P), (nat_lit 65, hd.o_104 P), (nat_lit 66, hd.o_105 P), (nat_lit 68, hd.o_107 P), (nat_lit 69, hd.o_108 P), (nat_lit 70, hd.o_109 P), (nat_lit 72, hd.o_111 P), (nat_lit 73, hd.o_112 P), (nat_lit 75, hd.o_114 P), (nat_lit 76, hd.o_115 P), (nat_lit 77, hd.o_116 P), (nat_lit 79, hd.o_118 P), (nat_lit 80, hd.o_119 P), (nat_lit 82, hd.o_121 P), (nat_lit 83, hd.o_122 P), (nat_lit 84, hd.o_123 P), (nat_lit 86, hd.o_125 P), (nat_lit 87, hd.o_126 P), (nat_lit 89, hd.o_128 P), (nat_lit 90, hd.o_129 P), (nat_lit 91, hd.o_130 P), (nat_lit 92, hd.o_131 P), (nat_lit 94, hd.o_133 P), (nat_lit 95, hd.o_134 P), (nat_lit 97, hd.o_136 P), (nat_lit 98, hd.o_137 P), (nat_lit 99, hd.o_138 P), (nat_lit 101, hd.o_140 P), (nat_lit 102, hd.o_141 P), (nat_lit 104, hd.o_143 P), (nat_lit 105, hd.o_144 P), (nat_lit 106, hd.o_145 P), (nat_lit 108, hd.o_147 P), (nat_lit 109, hd.o_148 P), (nat_lit 111, hd.o_150 P), (nat_lit 112, hd.o_151 P), (nat_lit 113, hd.o_152 P), (nat_lit 115, hd.o_154 P), (nat_lit 116, hd.o_155 P), (nat_lit 118, hd.o_157 P), (nat_lit 119, hd.o_158 P), (nat_lit 120, hd.o_159 P), (nat_lit 122, hd.o_161 P), (nat_lit 123, hd.o_162 P), (nat_lit 125, hd.o_164 P), (nat_lit 126, hd.o_165 P), (nat_lit 127, hd.o_166 P), (nat_lit 129, hd.o_168 P), (nat_lit 130, hd.o_169 P), (nat_lit 132, hd.o_171 P), (nat_lit 133, hd.o_172 P), (nat_lit 134, hd.o_173 P), (nat_lit 136, hd.o_175 P), (nat_lit 137, hd.o_176 P), (nat_lit 139, hd.o_178 P), (nat_lit 140, hd.o_179 P), (nat_lit 141, hd.o_180 P), (nat_lit 143, hd.o_182 P), (nat_lit 144, hd.o_183 P), (nat_lit 146, hd.o_185 P), (nat_lit 147, hd.o_186 P), (nat_lit 148, hd.o_189 P), (nat_lit 150, hd.o_191 P), (nat_lit 151, hd.o_192 P), (nat_lit 153, hd.o_194 P), (nat_lit 154, hd.o_195 P), (nat_lit 155, hd.o_196 P), (nat_lit 157, hd.o_198 P), (nat_lit 158, hd.o_199 P), (nat_lit 160, hd.o_201 P), (nat_lit 161, hd.o_202 P), (nat_lit 169, hd.o_212 P), (nat_lit 171, hd.o_214 P), (nat_lit 172, hd.o_215 P), (nat_lit 174, hd.o_217 P), (nat_lit 175, hd.o_218 P), (nat_lit 176, hd.o_219 P), (nat_lit 178, hd.o_221 P), (nat_lit 179, hd.o_222 P), (nat_lit 181, hd.o_224 P), (nat_lit 182, hd.o_225 P), (nat_lit 183, hd.o_226 P), (nat_lit 185, hd.o_228 P), (nat_lit 186, hd.o_229 P), (nat_lit 188, hd.o_231 P), (nat_lit 189, hd.o_232 P), (nat_lit 190, hd.o_233 P), (nat_lit 192, hd.o_235 P), (nat_lit 193, hd.o_236 P), (nat_lit 195, hd.o_238 P), (nat_lit 196, hd.o_239 P), (nat_lit 197, hd.o_240 P), (nat_lit 199, hd.o_242 P), (nat_lit 200, hd.o_243 P), (nat_lit 202, hd.o_245 P), (nat_lit 203, hd.o_246 P), (nat_lit 204, hd.o_247 P), (nat_lit 206, hd.o_249 P), (nat_lit 207, hd.o_250 P), (nat_lit 209, hd.o_252 P), (nat_lit 210, hd.o_253 P), (nat_lit 211, hd.o_254 P), (nat_lit 213, hd.o_256 P), (nat_lit 214, hd.o_257 P), (nat_lit 216, hd.o_259 P), (nat_lit 217, hd.o_260 P), (nat_lit 218, hd.o_261 P), (nat_lit 220, hd.o_263 P), (nat_lit 221, hd.o_264 P), (nat_lit 223, hd.o_266 P), (nat_lit 224, hd.o_267 P), (nat_lit 225, hd.o_268 P), (nat_lit 227, hd.o_270 P), (nat_lit 228, hd.o_271 P), (nat_lit 230, hd.o_273 P), (nat_lit 231, hd.o_274 P), (nat_lit 232, hd.o_275 P), (nat_lit 234, hd.o_277 P), (nat_lit 235, hd.o_278 P), (nat_lit 237, hd.o_280 P), (nat_lit 238, hd.o_281 P), (nat_lit 239, hd.o_282 P), (nat_lit 241, hd.o_284 P), (nat_lit 242, hd.o_285 P), (nat_lit 244, hd.o_287 P), (nat_lit 245, hd.o_288 P), (nat_lit 246, hd.o_289 P), (nat_lit 247, hd.o_290 P), (nat_lit 248, hd.o_291 P), (nat_lit 249, hd.o_292 P), (nat_lit 250, hd.o_293 P), (nat_lit 260, hd.o_307 P), (nat_lit 262, hd.o_309 P), (nat_lit 263, hd.o_310 P), (nat_lit 265, hd.o_312 P), (nat_lit 266, hd.o_313 P), (nat_lit 267, hd.o_314 P), (nat_lit 269, hd.o_316 P), (nat_lit 270, hd.o_317 P), (nat_lit 272, hd.o_319 P), (nat_lit 273, hd.o_320 P), (nat_lit 274, hd.o_321 P), (nat_lit 276, hd.o_323 P), (nat_lit 277, hd.o_324 P), (nat_lit 279, hd.o_326 P), (nat_lit 280, hd.o_327 P), (nat_lit 281, hd.o_328 P), (nat_lit 283, hd.o_330 P), (nat_lit 284, hd.o_331 P), (nat_lit 286, hd.o_333 P), (nat_lit 287, hd.o_334 P), (nat_lit 288, hd.o_335 P), (nat_lit 290, hd.o_337 P), (nat_lit 291, hd.o_338 P), (nat_lit 293, hd.o_340 P), (nat_lit 294, hd.o_341 P), (nat_lit 295, hd.o_342 P), (nat_lit 297, hd.o_344 P), (nat_lit 298, hd.o_345 P), (nat_lit 300, hd.o_347 P), (nat_lit 301, hd.o_348 P), (nat_lit 302, hd.o_349 P), (nat_lit 304, hd.o_351 P), (nat_lit 305, hd.o_352 P), (nat_lit 307, hd.o_354 P), (nat_lit 308, hd.o_355 P), (nat_lit 309, hd.o_356 P), (nat_lit 311, hd.o_358 P), (nat_lit 312, hd.o_359 P), (nat_lit 314, hd.o_361 P), (nat_lit 315, hd.o_362 P), (nat_lit 316, hd.o_363 P), (nat_lit 317, hd.o_364 P), (nat_lit 318, hd.o_365 P), (nat_lit 319, hd.o_366 P), (nat_lit 320, hd.o_367 P), (nat_lit 330, hd.o_379 P), (nat_lit 332, hd.o_381 P), (nat_lit 333, hd.o_382 P), (nat_lit 335, hd.o_384 P), (nat_lit 336, hd.o_385 P), (nat_lit 337, hd.o_386 P), (nat_lit 339, hd.o_388 P), (nat_lit 340, hd.o_389 P), (nat_lit 342, hd.o_391 P), (nat_lit 343, hd.o_392 P), (nat_lit 344, hd.o_393 P), (nat_lit 346, hd.o_395 P), (nat_lit 347, hd.o_396 P), (nat_lit 349, hd.o_398 P), (nat_lit 350, hd.o_399 P), (nat_lit 351, hd.o_400 P), (nat_lit 352, hd.o_401 P), (nat_lit 353, hd.o_409 P), (nat_lit 354, hd.o_403 P), (nat_lit 355, hd.o_404 P), (nat_lit 358, hd.o_410 P), (nat_lit 365, hd.o_417 P), (nat_lit 366, hd.o_418 P), (nat_lit 368, hd.o_420 P), (nat_lit 369, hd.o_421 P), (nat_lit 371, hd.o_423 P), (nat_lit 372, hd.o_424 P), (nat_lit 373, hd.o_425 P), (nat_lit 375, hd.o_427 P), (nat_lit 376, hd.o_428 P), (nat_lit 378, hd.o_430 P), (nat_lit 379, hd.o_431 P), (nat_lit 380, hd.o_432 P), (nat_lit 382, hd.o_434 P), (nat_lit 383, hd.o_435 P), (nat_lit 385, hd.o_437 P), (nat_lit 386, hd.o_438 P), (nat_lit 387, hd.o_439 P), (nat_lit 389, hd.o_441 P), (nat_lit 390, hd.o_442 P), (nat_lit 392, hd.o_444 P), (nat_lit 393, hd.o_445 P), (nat_lit 394, hd.o_446 P), (nat_lit 396, hd.o_448 P), (nat_lit 397, hd.o_449 P), (nat_lit 399, hd.o_451 P), (nat_lit 400, hd.o_452 P), (nat_lit 401, hd.o_453 P), (nat_lit 403, hd.o_455 P), (nat_lit 404, hd.o_456 P), (nat_lit 406, hd.o_458 P), (nat_lit 407, hd.o_459 P), (nat_lit 408, hd.o_460 P), (nat_lit 410, hd.o_462 P), (nat_lit 411, hd.o_463 P), (nat_lit 413, hd.o_465 P), (nat_lit 414, hd.o_466 P), (nat_lit 415, hd.o_467 P), (nat_lit 417, hd.o_469 P), (nat_lit 418, hd.o_470 P), (nat_lit 420, hd.o_472 P), (nat_lit 421, hd.o_473 P), (nat_lit 422, hd.o_474 P), (nat_lit 424, hd.o_476 P), (nat_lit 425, hd.o_477 P), (nat_lit 427, hd.o_479 P), (nat_lit 428, hd.o_480 P), (nat_lit 429, hd.o_481 P), (nat_lit 431, hd.o_483 P), (nat_lit 432, hd.o_484 P), (nat_lit 434, hd.o_486 P), (nat_lit 435, hd.o_487 P), (nat_lit 436, hd.o_488 P), (nat_lit 438, hd.o_490 P), (nat_lit 439, hd.o_491 P), (nat_lit 441, hd.o_493 P), (nat_lit 442, hd.o_494 P), (nat_lit 443, hd.o_495 P), (nat_lit 445, hd.o_497 P), (nat_lit 446, hd.o_498 P), (nat_lit 448, hd.o_500 P), (nat_lit 449, hd.o_501 P), (nat_lit 450, hd.o_502 P), (nat_lit 452, hd.o_504 P), (nat_lit 453, hd.o_505 P), (nat_lit 455, hd.o_507 P), (nat_lit 456, hd.o_508 P), (nat_lit 457, hd.o_509 P), (nat_lit 458, hd.o_510 P), (nat_lit 459, hd.o_511 P), (nat_lit 462, hd.o_605 P), (nat_lit 464, hd.o_607 P), (nat_lit 465, hd.o_608 P), (nat_lit 467, hd.o_610 P), (nat_lit 468, hd.o_611 P), (nat_lit 469, hd.o_612 P), (nat_lit 472, hd.o_615 P), (nat_lit 473, hd.o_616 P), (nat_lit 474, hd.o_617 P), (nat_lit 476, hd.o_619 P), (nat_lit 477, hd.o_620 P), (nat_lit 479, hd.o_622 P), (nat_lit 480, hd.o_623 P), (nat_lit 481, hd.o_624 P), (nat_lit 483, hd.o_626 P), (nat_lit 484, hd.o_627 P), (nat_lit 486, hd.o_629 P), (nat_lit 487, hd.o_630 P), (nat_lit 488, hd.o_631 P), (nat_lit 490, hd.o_633 P), (nat_lit 491, hd.o_634 P), (nat_lit 493, hd.o_636 P), (nat_lit 494, hd.o_637 P), (nat_lit 495, hd.o_638 P), (nat_lit 497, hd.o_640 P), (nat_lit 498, hd.o_641 P), (nat_lit 500, hd.o_643 P), (nat_lit 501, hd.o_644 P), (nat_lit 502, hd.o_645 P), (nat_lit 505, hd.o_648 P), (nat_lit 506, hd.o_649 P), (nat_lit 507, hd.o_650 P), (nat_lit 510, hd.o_653 P), (nat_lit 511, hd.o_654 P)] : Frag)) → Params → Frag) ?h
  case h => conv => rhs; delta hd.o_49 hd.o_603 hd.o_52 hd.o_54 hd.o_55 hd.o_57 hd.o_58 hd.o_59 hd.o_66 hd.o_68 hd.o_69 hd.o_71 hd.o_72 hd.o_73 hd.o_74 hd.o_75 hd.o_76 hd.o_79 hd.o_81 hd.o_82 hd.o_84 hd.o_85 hd.o_86 hd.o_88 hd.o_89 hd.o_91 hd.o_92 hd.o_93 hd.o_95 hd.o_96 hd.o_98 hd.o_99 hd.o_102 hd.o_104 hd.o_105 hd.o_107 hd.o_108 hd.o_109 hd.o_111 hd.o_112 hd.o_114 hd.o_115 hd.o_116 hd.o_118 hd.o_119 hd.o_121 hd.o_122 hd.o_123 hd.o_125 hd.o_126 hd.o_128 hd.o_129 hd.o_130 hd.o_131 hd.o_133 hd.o_134 hd.o_136 hd.o_137 hd.o_138 hd.o_140 hd.o_141 hd.o_143 hd.o_144 hd.o_145 hd.o_147 hd.o_148 hd.o_150 hd.o_151 hd.o_152 hd.o_154 hd.o_155 hd.o_157 hd.o_158 hd.o_159 hd.o_161 hd.o_162 hd.o_164 hd.o_165 hd.o_166 hd.o_168 hd.o_169 hd.o_171 hd.o_172 hd.o_173 hd.o_175 hd.o_176 hd.o_178 hd.o_179 hd.o_180 hd.o_182 hd.o_183 hd.o_185 hd.o_186 hd.o_189 hd.o_191 hd.o_192 hd.o_194 hd.o_195 hd.o_196 hd.o_198 hd.o_199 hd.o_201 hd.o_202 hd.o_212 hd.o_214 hd.o_215 hd.o_217 hd.o_218 hd.o_219 hd.o_221 hd.o_222 hd.o_224 hd.o_225 hd.o_226 hd.o_228 hd.o_229 hd.o_231 hd.o_232 hd.o_233 hd.o_235 hd.o_236 hd.o_238 hd.o_239 hd.o_240 hd.o_242 hd.o_243 hd.o_245 hd.o_246 hd.o_247 hd.o_249 hd.o_250 hd.o_252 hd.o_253 hd.o_254 hd.o_256 hd.o_257 hd.o_259 hd.o_260 hd.o_261 hd.o_263 hd.o_264 hd.o_266 hd.o_267 hd.o_268 hd.o_270 hd.o_271 hd.o_273 hd.o_274 hd.o_275 hd.o_277 hd.o_278 hd.o_280 hd.o_281 hd.o_282 hd.o_284 hd.o_285 hd.o_287 hd.o_288 hd.o_289 hd.o_290 hd.o_291 hd.o_292 hd.o_293 hd.o_307 hd.o_309 hd.o_310 hd.o_312 hd.o_313 hd.o_314 hd.o_316 hd.o_317 hd.o_319 hd.o_320 hd.o_321 hd.o_323 hd.o_324 hd.o_326 hd.o_327 hd.o_328 hd.o_330 hd.o_331 hd.o_333 hd.o_334 hd.o_335 hd.o_337 hd.o_338 hd.o_340 hd.o_341 hd.o_342 hd.o_344 hd.o_345 hd.o_347 hd.o_348 hd.o_349 hd.o_351 hd.o_352 hd.o_354 hd.o_355 hd.o_356 hd.o_358 hd.o_359 hd.o_361 hd.o_362 hd.o_363 hd.o_364 hd.o_365 hd.o_366 hd.o_367 hd.o_379 hd.o_381 hd.o_382 hd.o_384 hd.o_385 hd.o_386 hd.o_388 hd.o_389 hd.o_391 hd.o_392 hd.o_393 hd.o_395 hd.o_396 hd.o_398 hd.o_399 hd.o_400 hd.o_401 hd.o_409 hd.o_403 hd.o_404 hd.o_410 hd.o_417 hd.o_418 hd.o_420 hd.o_421 hd.o_423 hd.o_424 hd.o_425 hd.o_427 hd.o_428 hd.o_430 hd.o_431 hd.o_432 hd.o_434 hd.o_435 hd.o_437 hd.o_438 hd.o_439 hd.o_441 hd.o_442 hd.o_444 hd.o_445 hd.o_446 hd.o_448 hd.o_449 hd.o_451 hd.o_452 hd.o_453 hd.o_455 hd.o_456 hd.o_458 hd.o_459 hd.o_460 hd.o_462 hd.o_463 hd.o_465 hd.o_466 hd.o_467 hd.o_469 hd.o_470 hd.o_472 hd.o_473 hd.o_474 hd.o_476 hd.o_477 hd.o_479 hd.o_480 hd.o_481 hd.o_483 hd.o_484 hd.o_486 hd.o_487 hd.o_488 hd.o_490 hd.o_491 hd.o_493 hd.o_494 hd.o_495 hd.o_497 hd.o_498 hd.o_500 hd.o_501 hd.o_502 hd.o_504 hd.o_505 hd.o_507 hd.o_508 hd.o_509 hd.o_510 hd.o_511 hd.o_605 hd.o_607 hd.o_608 hd.o_610 hd.o_611 hd.o_612 hd.o_615 hd.o_616 hd.o_617 hd.o_619 hd.o_620 hd.o_622 hd.o_623 hd.o_624 hd.o_626 hd.o_627 hd.o_629 hd.o_630 hd.o_631 hd.o_633 hd.o_634 hd.o_636 hd.o_637 hd.o_638 hd.o_640 hd.o_641 hd.o_643 hd.o_644 hd.o_645 hd.o_648 hd.o_649 hd.o_650 hd.o_653 hd.o_654; delta hA.a0 hA.b0 hA.s0 hA.a1 hA.b1 hA.s1 hA.a2 hA.b2 hA.s2 hA.a3 hA.b3 hA.s3 hA.a4 hA.b4 hA.s4 hA.a5 hA.b5 hA.s5 hA.a6 hA.b6 hA.s6 hA.a7 hA.b7 hA.s7 hA.a8 hA.b8 hA.s8 hA.a9 hA.b9 hA.s9 hA.a10 hA.b10 hA.s10 hA.a11 hA.b11 hA.a12 hA.b12 hA.s12 hA.a13 hA.b13 hA.a14 hA.b14 hA.s14 hA.a15 hA.b15 hA.s15 hA.a16 hA.b16 hA.s16 hA.a17 hA.b17 hA.s17 hA.a18 hA.b18 hA.s18 hA.a19 hA.b19 hA.s19 hA.a20 hA.b20 hA.s20 hA.a21 hA.b21 hA.s21 hA.a22 hA.b22 hA.s22 hA.a23 hA.b23 hA.s23 hA.a24 hA.b24 hA.s24 hA.a25 hA.b25 hA.s25 hA.a26 hA.b26 hA.s26 hA.a27 hA.b27 hA.s27 hA.a28 hA.b28 hA.s28 hA.a29 hA.b29 hA.a30 hA.b30 hA.s30 hA.a31 hA.b31 hA.s31 hA.a32 hA.b32 hA.s32 hA.a33 hA.b33 hA.s33 hA.a34 hA.b34 hA.a35 hA.b35 hA.s35 hA.a36 hA.b36 hA.a37 hA.b37 hA.s37 hA.a38 hA.b38 hA.a39 hA.b39 hA.a40 hA.b40 hA.s40 hA.a41 hA.b41 hA.s41 hA.a42 hA.b42 hA.a43 hA.b43 hA.a44 hA.b44 hA.a45 hA.b45 hA.a46 hA.b46 hA.a47 hA.b47 hA.s47 hA.a48 hA.b48 hA.s48 hA.a49 hA.b49 hA.s49 hA.a50 hA.b50 hA.a51 hA.b51 hA.a52 hA.b52 hA.s52 hA.a53 hA.b53 hA.s53 hA.a54 hA.b54 hA.a55 hA.b55 hA.s55 hA.a56 hA.b56 hA.s56 hA.a57 hA.b57 hA.s57 hA.a58 hA.b58 hA.s58 hA.a59 hA.b59 hA.s59 hA.a60 hA.b60 hA.s60 hA.a61 hA.b61 hA.s61; zeta
  case f => exact fun _ => ?x
noncomputable abbrev hd.ads : List Addr := [2, 3, 15, 17, 18, 20, 21, 22, 29, 31, 32, 34, 35, 36, 37, 38, 39, 42, 44, 45, 47, 48, 49, 51, 52, 54, 55, 56, 58, 59, 61, 62, 63, 65, 66, 68, 69, 70, 72, 73, 75, 76, 77, 79, 80, 82, 83, 84, 86, 87, 89, 90, 91, 92, 94, 95, 97, 98, 99, 101, 102, 104, 105, 106, 108, 109, 111, 112, 113, 115, 116, 118, 119, 120, 122, 123, 125, 126, 127, 129, 130, 132, 133, 134, 136, 137, 139, 140, 141, 143, 144, 146, 147, 148, 150, 151, 153, 154, 155, 157, 158, 160, 161, 169, 171, 172, 174, 175, 176, 178, 179, 181, 182, 183, 185, 186, 188, 189, 190, 192, 193, 195, 196, 197, 199, 200, 202, 203, 204, 206, 207, 209, 210, 211, 213, 214, 216, 217, 218, 220, 221, 223, 224, 225, 227, 228, 230, 231, 232, 234, 235, 237, 238, 239, 241, 242, 244, 245, 246, 247, 248, 249, 250, 260, 262, 263, 265, 266, 267, 269, 270, 272, 273, 274, 276, 277, 279, 280, 281, 283, 284, 286, 287, 288, 290, 291, 293, 294, 295, 297, 298, 300, 301, 302, 304, 305, 307, 308, 309, 311, 312, 314, 315, 316, 317, 318, 319, 320, 330, 332, 333, 335, 336, 337, 339, 340, 342, 343, 344, 346, 347, 349, 350, 351, 352, 353, 354, 355, 358, 365, 366, 368, 369, 371, 372, 373, 375, 376, 378, 379, 380, 382, 383, 385, 386, 387, 389, 390, 392, 393, 394, 396, 397, 399, 400, 401, 403, 404, 406, 407, 408, 410, 411, 413, 414, 415, 417, 418, 420, 421, 422, 424, 425, 427, 428, 429, 431, 432, 434, 435, 436, 438, 439, 441, 442, 443, 445, 446, 448, 449, 450, 452, 453, 455, 456, 457, 458, 459, 462, 464, 465, 467, 468, 469, 472, 473, 474, 476, 477, 479, 480, 481, 483, 484, 486, 487, 488, 490, 491, 493, 494, 495, 497, 498, 500, 501, 502, 505, 506, 507, 510, 511]
theorem hd.ads_ok : ∀ P, hd.ads = (hd.heap_39 P).map (·.1) := fun P => by kernel_rfl!
noncomputable abbrev hd.p : Program := PySem.Challenge.rw_ok0060_01.row.toRowW.prog
noncomputable def hd.vbody : List Stmt := by
  refine (?f : ?x = [hA.t0, hA.t2, hA.t4, hA.t5, hA.t6, hA.t7, hA.t8, hA.t9, hA.t10, hA.t13, hA.t14, hA.t15, hA.t16, hA.t17, hA.t18, hA.t19, hA.t20, hA.t21, hA.t22, hA.t24, hA.t26, hA.t28, hA.t30, hA.t32, hA.t34, hA.t35, hA.t36, hA.t37, hA.t38, hA.t39, hA.t40] → List Stmt) ?h
  case h => conv => rhs; delta hA.t0 hA.t2 hA.t4 hA.t5 hA.t6 hA.t7 hA.t8 hA.t9 hA.t10 hA.t13 hA.t14 hA.t15 hA.t16 hA.t17 hA.t18 hA.t19 hA.t20 hA.t21 hA.t22 hA.t24 hA.t26 hA.t28 hA.t30 hA.t32 hA.t34 hA.t35 hA.t36 hA.t37 hA.t38 hA.t39 hA.t40
  case f => exact fun _ => ?x
noncomputable def hd.view_39 : Program := by
  refine (?f : ?x = ({ hd.p with main := { hd.p.main with body := hd.vbody } } : Program) → Program) ?h
  case h => conv => rhs; delta hd.vbody
  case f => exact fun _ => ?x
noncomputable def hd.env : Env := { scope := hd.p.main.scope, locals := mainNs, globals := mainNs, cells := [], code := .ref 13, frame := some 14 }
noncomputable def hd.sts_49 : List Stmt := [hA.t0, hA.t1, hA.t2, hA.t3, hA.t4, hA.t5, hA.t6]
noncomputable def hd.sts_100 : List Stmt := [hA.t7, hA.t8, hA.t9, hA.t10, hA.t11, hA.t12, hA.t13, hA.t14, hA.t15, hA.t16, hA.t17, hA.t18, hA.t19, hA.t20]
noncomputable def hd.sts_187 : List Stmt := [hA.t21, hA.t22, hA.t23]
noncomputable def hd.sts_203 : List Stmt := [hA.t24]
noncomputable def hd.sts_296 : List Stmt := [hA.t25]
noncomputable def hd.sts_298 : List Stmt := [hA.t26]
noncomputable def hd.sts_370 : List Stmt := [hA.t27, hA.t28, hA.t29]
noncomputable def hd.sts_407 : List Stmt := [hA.t30]
noncomputable def hd.sts_603 : List Stmt := [hA.t31, hA.t32, hA.t33, hA.t34, hA.t35, hA.t36, hA.t37, hA.t38, hA.t39, hA.t40]
noncomputable abbrev hd.lf : Life := ⟨[], [], [], 0, [], [], false, #[], [], 0, false, false, false, 0, [2000, 10, 10], false, 0, true, [], [], 0, false⟩
noncomputable abbrev hd.dr : Drawn := ⟨0, 0, 0, 0⟩
noncomputable abbrev hd.q0 : Pos := ⟨0, 0, 0, 0⟩
noncomputable abbrev hd.bE : List Stmt := behindTheImports hd.p
noncomputable abbrev hd.cE : Code := .body hd.bE hd.env
noncomputable abbrev hd.an : Option Value := some (.ref 6)
noncomputable abbrev hd.St (t : BT) (n k : Nat) (os : OsState) : SharedT := ⟨t, n, hd.lf, ⟨[]⟩, hd.dr, k, os⟩
noncomputable abbrev hd.Th (l : List Stmt) (q : Pos) : Thread := piecesOf l hd.env hd.cE q [topFrame hd.q0]
theorem hd.pre (w : World) (os : OsState) : topGo treeTable hd.p w 11 hd.an 12 ⟨boot_heap w.params, ⟨[]⟩, boot_drawn, boot_toks, os⟩ (topStub hd.p) =
    some (⟨hd.heap_46 w.params, ⟨[]⟩, hd.dr, 187, os⟩, ⟨denote treeTable (.body hd.bE hd.env), hd.cE, hd.q0, [topFrame hd.q0]⟩) := by kernel_rfl!
theorem hd.blk (w : World) (os : OsState) : segRun treeTable hd.p w 11 hd.an 1 1 ⟨hd.heap_46 w.params, ⟨[]⟩, hd.dr, 187, os⟩ (blockOf hd.bE hd.env hd.cE hd.q0 [topFrame hd.q0]) =
    some (.next, (hd.St (hd.tree_47 w.params) 15 187 os).abs, hd.cE, ⟨0, 0, 0, 0⟩) := by kernel_rfl!
theorem hd.p0 (w : World) (os : OsState) : segRunT treeTable hd.p w 11 hd.an 1 372 (hd.St (hd.tree_47 w.params) 15 187 os) (hd.Th hd.sts_49 ⟨0, 0, 0, 0⟩) =
    some (.next, (hd.St (hd.tree_99 w.params) 63 257 os), hd.cE, ⟨19, 0, 21, 50⟩) := by kernel_rfl!
theorem hd.p1 (w : World) (os : OsState) : segRunT treeTable hd.p w 11 hd.an 1 390 (hd.St (hd.tree_99 w.params) 63 257 os) (hd.Th hd.sts_100 ⟨19, 0, 21, 50⟩) =
    some (.next, (hd.St (hd.tree_186 w.params) 148 367 os), hd.cE, ⟨66, 0, 68, 34⟩) := by kernel_rfl!
theorem hd.p2 (w : World) (os : OsState) : segRunT treeTable hd.p w 11 hd.an 1 75 (hd.St (hd.tree_186 w.params) 148 367 os) (hd.Th hd.sts_187 ⟨66, 0, 68, 34⟩) =
    some (.next, (hd.St (hd.tree_202 w.params) 162 390 os), hd.cE, ⟨80, 0, 80, 8⟩) := by kernel_rfl!
theorem hd.p3 (w : World) (os : OsState) : segRunT treeTable hd.p w 11 hd.an 1 551 (hd.St (hd.tree_202 w.params) 162 390 os) (hd.Th hd.sts_203 ⟨80, 0, 80, 8⟩) =
    some (.next, (hd.St (hd.tree_295 w.params) 253 507 os), hd.cE, ⟨81, 0, 138, 16⟩) := by kernel_rfl!
theorem hd.p4 (w : World) (os : OsState) : segRunT treeTable hd.p w 11 hd.an 1 10 (hd.St (hd.tree_295 w.params) 253 507 os) (hd.Th hd.sts_296 ⟨81, 0, 138, 16⟩) =
    some (.next, (hd.St (hd.tree_296 w.params) 253 509 os), hd.cE, ⟨139, 0, 139, 8⟩) := by kernel_rfl!
theorem hd.p5 (w : World) (os : OsState) : segRunT treeTable hd.p w 11 hd.an 1 454 (hd.St (hd.tree_296 w.params) 253 509 os) (hd.Th hd.sts_298 ⟨139, 0, 139, 8⟩) =
    some (.next, (hd.St (hd.tree_369 w.params) 323 601 os), hd.cE, ⟨140, 0, 167, 16⟩) := by kernel_rfl!
theorem hd.p6 (w : World) (os : OsState) : segRunT treeTable hd.p w 11 hd.an 1 302 (hd.St (hd.tree_369 w.params) 323 601 os) (hd.Th hd.sts_370 ⟨140, 0, 167, 16⟩) =
    some (.next, (hd.St (hd.tree_406 w.params) 358 647 os), hd.cE, ⟨179, 0, 179, 8⟩) := by kernel_rfl!
theorem hd.p7 (w : World) (os : OsState) : segRunT treeTable hd.p w 11 hd.an 1 647 (hd.St (hd.tree_406 w.params) 358 647 os) (hd.Th hd.sts_407 ⟨179, 0, 179, 8⟩) =
    some (.next, (hd.St (hd.tree_513 w.params) 462 784 os), hd.cE, ⟨180, 0, 243, 41⟩) := by kernel_rfl!
theorem hd.p8 (w : World) (os : OsState) : segRunT treeTable hd.p w 11 hd.an 1 258 (hd.St (hd.tree_513 w.params) 462 784 os) (hd.Th hd.sts_603 ⟨180, 0, 243, 41⟩) =
    some (.next, (hd.St (hd.tree_654 w.params) 512 857 os), hd.cE, ⟨282, 0, 311, 15⟩) := by kernel_rfl!
theorem hd.fin (w : World) (os : OsState) : topRun treeTable hd.p w 11 hd.an 2 (hd.St (hd.tree_654 w.params) 512 857 os).abs ⟨doneF .next, hd.cE, ⟨282, 0, 311, 15⟩, [topFrame hd.q0]⟩ =
    some ⟨hd.heap_655 w.params, ⟨[]⟩, hd.dr, 857, os⟩ := by kernel_rfl!
theorem hd.bE_eq : hd.bE = hd.sts_49 ++ (hd.sts_100 ++ (hd.sts_187 ++ (hd.sts_203 ++ (hd.sts_296 ++ (hd.sts_298 ++ (hd.sts_370 ++ (hd.sts_407 ++ (hd.sts_603 ++ [])))))))) := by kernel_rfl!
theorem hd.rest (w : World) (os : OsState) : topRun treeTable hd.p w 11 hd.an (372 + (390 + (75 + (551 + (10 + (454 + (302 + (647 + (258 + 2))))))))) (hd.St (hd.tree_47 w.params) 15 187 os).abs (restOf (hd.sts_49 ++ (hd.sts_100 ++ (hd.sts_187 ++ (hd.sts_203 ++ (hd.sts_296 ++ (hd.sts_298 ++ (hd.sts_370 ++ (hd.sts_407 ++ (hd.sts_603 ++ []))))))))) hd.env hd.cE ⟨0, 0, 0, 0⟩ [topFrame hd.q0]) =
    some ⟨hd.heap_655 w.params, ⟨[]⟩, hd.dr, 857, os⟩ :=
  (piece_app (segRun_of (hd.p0 w os)) (piece_app (segRun_of (hd.p1 w os)) (piece_app (segRun_of (hd.p2 w os)) (piece_app (segRun_of (hd.p3 w os)) (piece_app (segRun_of (hd.p4 w os)) (piece_app (segRun_of (hd.p5 w os)) (piece_app (segRun_of (hd.p6 w os)) (piece_app (segRun_of (hd.p7 w os)) (piece_app (segRun_of (hd.p8 w os)) (piece_nil (hd.fin w os)))))))))))
theorem hd.run (w : World) (os : OsState) : topRun treeTable hd.p w 11 hd.an (12 + (1 + (372 + (390 + (75 + (551 + (10 + (454 + (302 + (647 + (258 + 2))))))))))) ⟨boot_heap w.params, ⟨[]⟩, boot_drawn, boot_toks, os⟩ (topStub hd.p) =
    some ⟨hd.heap_655 w.params, ⟨[]⟩, hd.dr, 857, os⟩ :=
  go_top (hd.pre w os) (piece_block (hd.blk w os) ((congrArg (fun l => topRun treeTable hd.p w 11 hd.an (372 + (390 + (75 + (551 + (10 + (454 + (302 + (647 + (258 + 2))))))))) (hd.St (hd.tree_47 w.params) 15 187 os).abs (restOf l hd.env hd.cE ⟨0, 0, 0, 0⟩ [topFrame hd.q0])) hd.bE_eq).trans (hd.rest w os)))
theorem hd.open1 : opening hd.p = plainProg hd.p.main.scope.names := by kernel_rfl!
theorem hd.open2 : ∀ s, fenceModules? hd.p s = some s := fun s => by kernel_rfl!
theorem hd.size (w : World) : ((boot_heap w.params).isNs mainGlobals && (⟨[]⟩ : Array GenState).size == 0, (boot_heap w.params).objs.size, (boot_heap w.params).nsMap mainGlobals "__annotations__") = (true, 11, hd.an) := by kernel_rfl!
noncomputable abbrev hd.lo : List PySem.Str := [.ofString "insert_at", .ofString "Buffer"]
noncomputable abbrev hd.r : OpenRow := PySem.Challenge.rw_ok0060_01.row
noncomputable abbrev hd.H : Hook := kmHook hd.heap_39 hd.ads hd.ads_ok [508]
noncomputable abbrev hd.Sf (w : World) (os : OsState) : Shared := ⟨hd.heap_655 w.params, ⟨[]⟩, hd.dr, 857, os⟩
noncomputable abbrev hd.Xt : Shared → Bool := fun s => xlAt hd.view_39 [] s && recOk (RowW.records hd.r.toRowW) s
theorem hd.look0 (w : World) (os : OsState) : (staticsOk (importedModules hd.p.main.body) (boot_heap w.params) (hd.heap_655 w.params) && namesBound hd.p (hd.heap_655 w.params) && gensDone (hd.Sf w os) && laidKept (boot_heap w.params) (hd.heap_655 w.params)) = true := by kernel_rfl!
theorem hd.see1 (w : World) (os : OsState) : seen ((recsOf hd.view_39).map (·.name)) (ownsOf hd.view_39) [] { (hd.Sf w os) with gens := #[] } = expectedOf hd.view_39 := by kernel_rfl!
theorem hd.see2 (w : World) (os : OsState) : (hd.Sf w os).heap.bltView = bltViewBooted := by kernel_rfl!
theorem hd.see3 (w : World) (os : OsState) : ((hd.Sf w os).heap.keysOk (looseW hd.view_39 hd.lo) ((recsOf hd.view_39).map (·.name)) ((litsOf hd.view_39).map (·.1)) ((clssOf hd.view_39 (looseW hd.view_39 hd.lo)).map (·.name)) && (hd.Sf w os).heap.accountedOkI (importedModules hd.p.main.body) && (hd.Sf w os).heap.isNs mainGlobals && (hd.Sf w os).heap.isNs builtinsNs && tablesOk hd.view_39 (hd.Sf w os).heap && hd.Xt (hd.Sf w os) && (if true then (hd.Sf w os).gens.size == 0 else !leftWithCleanup (hd.Sf w os).gens)) = true := by kernel_rfl!
theorem hd.see4 (w : World) (os : OsState) : tabsOk hd.view_39 (hd.Sf w os) = true := by kernel_rfl!
theorem hd.see5 (w : World) (os : OsState) : pinSeenD hd.view_39 (drecsOf hd.view_39) (hd.Sf w os) = pinGoodD (drecsOf hd.view_39) := by kernel_rfl!
theorem hd.see6 (w : World) (os : OsState) : plainSeenE hd.view_39 (looseW hd.view_39 hd.lo) (hd.Sf w os) = plainGoodE hd.view_39 (looseW hd.view_39 hd.lo) := by kernel_rfl!
theorem hd.see7 (w : World) (os : OsState) : plainSeenD hd.view_39 hd.lo (hd.Sf w os) = plainGoodD hd.view_39 hd.lo := by kernel_rfl!
theorem hd.see8 (w : World) (os : OsState) : wideSeen hd.view_39 (hd.Sf w os) = wideGood hd.view_39 := by kernel_rfl!
theorem hd.see9 (w : World) (os : OsState) : clsSeenW hd.view_39 hd.lo (hd.Sf w os) = clsGoodW hd.view_39 hd.lo := by kernel_rfl!
theorem hd.look1 (w : World) (os : OsState) : openSeen hd.view_39 hd.lo (importedModules hd.p.main.body) hd.Xt true (hd.Sf w os) = openGood hd.view_39 hd.lo :=
  looks_pair (hd.see1 w os) (looks_pair (hd.see2 w os) (looks_pair (hd.see3 w os) (looks_pair (hd.see4 w os) (looks_pair (hd.see5 w os) (looks_pair (hd.see6 w os) (looks_pair (hd.see7 w os) (looks_pair (hd.see8 w os) (hd.see9 w os))))))))
theorem hd.look2 (w : World) (os : OsState) : hd.H.obs (hd.Sf w os) = hd.H.val w := by kernel_rfl!
theorem hd.left : LeftO hd.p hd.view_39 hd.lo hd.Xt hd.H.obs hd.H.val 6226 :=
  LeftO.of_pieces (boot_open hd.open1 (by decide) hd.open2) hd.size hd.run (by decide)
    (fun w => funext fun os => looks_pair (hd.look0 w os) (looks_pair (hd.look1 w os) (hd.look2 w os)))
theorem hd.said : PySem.Challenge.rw_ok0060_01.wellSaid = true := by kernel_rfl!
theorem hd.wit : (PySem.Challenge.rw_ok0060_01.row).toRowW.promised := by w_witness2
end
theorem apart_HdE : ∀ x : Nat, x = x := by
  w_top off
  k_with_none
  first | (walk1; done) | exact fun _ => rfl
section
set_option linter.defProp false in
noncomputable def top := fun walk => holds_law hd.said (fun said => holds_open (r := PySem.Challenge.rw_ok0060_01.row) (q := hd.view_39) (loose := [PySem.Str.ofString "insert_at", PySem.Str.ofString "Buffer"])
  (Xt := fun s => xlAt hd.view_39 [] s && recOk (RowW.records (PySem.Challenge.rw_ok0060_01.row).toRowW) s) (XP := XL hd.view_39 [])
  (Yf := Hook.obs (kmHook hd.heap_39 hd.ads hd.ads_ok [508])) (Ya := Hook.val (kmHook hd.heap_39 hd.ads hd.ads_ok [508])) (YP := Hook.says (kmHook hd.heap_39 hd.ads hd.ads_ok [508])) (N := 6226) hd.left
  (Hook.of _) (Hook.keeps _) (fun s e => xl_of s (Bool.and_eq_true_iff.mp e).1) XL.keeps (by rfl) (by rfl) (by rfl) (fun s e => recFacts_of (Bool.and_eq_true_iff.mp e).2) (by rfl)
  said (by decide +kernel) ⟨rfl, rfl, rfl, rfl, rfl, by decide +kernel⟩ hd.wit walk)
end
local macro_rules | `(tactic| walk_at $s:str) => `(tactic| k_extra $s)
theorem apart_P0 : ∀ x : Nat, x = x := by
  w_top off
  k_with_none
  first | (walk1; done) | exact fun _ => rfl
section
noncomputable abbrev prog := PySem.Challenge.rw_ok0060_01.row.prog

/-- the deck: nonnegative ints, sixteen at most -/
noncomputable def Deck (vs : List Value) : Prop := ∃ ns, IntsAre vs ns ∧ (∀ x ∈ ns, 0 ≤ x) ∧ ns.length ≤ 16

theorem ints_cons {vs : List Value} {ns : List Int} (hi : IntsAre vs ns) (h : decide (ns = []) = false) : ∃ x t vr nr, vs = .int x t :: vr ∧ ns = x :: nr ∧ IntsAre vr nr := by
  cases hi with
  | nil => simp at h
  | cons k t r => exact ⟨_, _, _, _, rfl, rfl, r⟩
theorem pop0_K {prog : Program} {w : World} {A : Around} {E : Value → Shared → Prop} {s : Shared} {h₀ : Heap} {L D : Addr} {m : PySem.Str → Option Value} {news news' : List (Addr × Obj)} {n : Nat} {u : Tok} {vr : List Value} {v : Value} {Q : Value → Shared → Prop}
    (F : Fr h₀ L s.heap m) (N : News h₀ L s.heap news) (U : Upd D (PySem.W.listOf (v :: vr).toArray n) (PySem.W.listOf vr.toArray (n + 1)) news news')
    (hz : vr.length ≤ 1000) (h : ∀ h', Fr h₀ L h' m → News h₀ L h' news' → Q v { s with heap := h' }) : wpAny (model prog w) A (call (.builtin "list.pop") [.ref D, .int 0 u]) Q E s := by
  refine kl_popAt (k := 0) (p := []) (q := vr) (y := v) F N rfl ?_ rfl U ?_ h
  · unfold seqIndex?
    simp
  · rw [sizeLine_eq]; simp; omega
theorem nn_set0 {x y : Int} {l : List Int} (h : ∀ a ∈ x :: l, 0 ≤ a) (hy : 0 ≤ y) : ∀ a ∈ (x :: l).set (Int.toNat 0) y, 0 ≤ a := by
  intro a ha
  have : (x :: l).set (Int.toNat 0) y = y :: l := rfl
  rw [this] at ha
  rcases List.mem_cons.mp ha with rfl | ha
  · exact hy
  · exact h a (.tail _ ha)

section
local macro_rules | `(tactic| units_room) => `(tactic| ktr_units)
local macro_rules | `(tactic| k_units) => `(tactic| ktr_units)
local macro_rules | `(tactic| k_room) => `(tactic| ktr_room)
local macro_rules | `(tactic| k_all) => `(tactic| assumption)

theorem draw_spec (w : World) (p : Program) (loose : List PySem.Str) (mean : ExcName → Option Value) (mg mb : PySem.Str → Option Value)
  (dp un : Nat) (gd : Option (List Code)) (cn : PySem.Str) (cs : Scope) (a : Addr) (ccd : Value) (cl : List (PySem.Str × Addr)) (outer : List Env) (A₀ : Around) (base h₀ : Heap) (L : Addr) (m : PySem.Str → Option Value) (s : Shared)
  (d : Addr) (vs : List Value) (ns : List Int) (n : Nat) (many : Int) (tk : Tok) (rest : List (Addr × Obj)) (Q E : Value → Shared → Prop)
  (B : Below A₀ base outer h₀) (F : Fr h₀ L s.heap m) (X : (hd.heap_39 w.params).In h₀) (N : News h₀ L s.heap ((d, PySem.W.listOf vs.toArray n) :: rest)) (hr : ∀ p ∈ rest, p.1 ≠ d) (T : Top p loose mean mg mb h₀) (hk : cs.kind = .function)
  (hi : IntsAre vs ns) (h0 : ∀ x ∈ ns, 0 ≤ x) (hlen : ns.length ≤ 16) (h1 : 1 ≤ many) (h2 : many ≤ 100) (hdp : dp + 20 < recursionLimit) (hun : un + 200 < cLine)
  (hret : ∀ r t vs' n' h' tk', 0 ≤ r → r < many → Deck vs' → Fr h₀ L h' m → News h₀ L h' ((d, PySem.W.listOf vs'.toArray n') :: rest) → Q (.int r t) {s with heap := h', toks := tk'}) :
  wpAny (model prog w) (ktrTop dp un gd cn cs L a ccd cl outer) (call (.ref 480) [.ref d, .int many tk]) Q E s := by
  k_with_none
  k_with "subscriptTail" => (k_here; (with_reducible rename decide (_ = ([] : List Int)) = false => hnn); (obtain ⟨x9, t9, vr9, nr9, e9, q1_e9', hi9⟩ := ints_cons (by assumption) hnn); subst e9; subst q1_e9'; clear hnn; walk_at "subscriptTail")
  k_with "call builtin:list.pop" => (k_here; (with_reducible show wpAny _ _ (call (Value.builtin _) [Value.ref _, Value.int _ _]) _ _ _); k_dflt (refine' pop0_K ?q2F ?q2N ?q2U ?q2z ?_; (case q2F => k_asm); (case q2N => k_asm); (case q2U => k_upd); (case q2z => (simp only [List.length_cons] at *; omega))); kl_rest)
  have dummy : PySem.Challenge.rw_ok0060_01 = PySem.Challenge.rw_ok0060_01 ∧ hd.heap_39 = hd.heap_39 := by
    k_fill
    exact ⟨rfl, rfl⟩
  clear dummy
  k_with "exec While BoolOp cons nil" => k_while (fun _ k => (∀ x ∈ k, 0 ≤ x) ∧ k.length ≤ 16) (fun _ k => k.length) "deck"
  refine wpAny_call ?_
  k_dflt cell_enter
  k_steps
  all_goals k_with_none
  · rename News h₀ L _ _ => kN9
    exact hret _ _ _ _ _ _ (Int.le_refl 0) (by omega) ⟨_, by assumption, by assumption, by assumption⟩ (by assumption) (fun p hp => kN9 p (.tail _ (.tail _ hp)))
  · rename decide (_ :: _ = []) = true => hbad
    simp at hbad
  · rename News h₀ L _ _ => kN9
    rename ∀ x ∈ _ :: _, 0 ≤ x => hnn
    have hx := hnn _ (.head _)
    refine hret _ _ _ _ _ _ ?_ ?_ ⟨_, by assumption, ?_, ?_⟩ (by assumption) (fun p hp => kN9 p (.tail _ (.tail _ hp)))
    · exact Int.fmod_nonneg_of_pos _ (by omega)
    · exact Int.fmod_lt_of_pos _ (by omega)
    · exact nn_set0 hnn (by rw [Int.fdiv_eq_ediv_of_nonneg _ (by omega)]; exact Int.ediv_nonneg hx (by omega))
    · simp only [List.length_set]; assumption
end
end
theorem apart_P1 : ∀ x : Nat, x = x := by
  w_top off
  k_with_none
  first | (walk1; done) | exact fun _ => rfl
section
theorem news_mv {h₀ h : Heap} {L d : Addr} {o o' : Obj} {news : List (Addr × Obj)} {f : Obj → List (Addr × Obj)} (U : UpdF d o news f) :
    ∃ rest, (∀ p ∈ rest, p.1 ≠ d) ∧ (News h₀ L h news → News h₀ L h ((d, o) :: rest)) ∧ ∀ h' o', News h₀ L h' ((d, o') :: rest) → News h₀ L h' (f o') := by
  obtain ⟨pre, post, rfl, hf, a, b⟩ := U.split
  refine ⟨pre ++ post, ?_, ?_, ?_⟩
  · intro p hp
    rcases List.mem_append.mp hp with hp | hp
    · exact a p hp
    · exact b p hp
  · intro N p hp
    refine N p ?_
    simp only [List.mem_append, List.mem_cons] at hp ⊢
    rcases hp with h | h | h
    · exact .inr (.inl h)
    · exact .inl h
    · exact .inr (.inr h)
  · intro h' o' N p hp
    refine N p ?_
    rw [hf] at hp
    simp only [List.mem_append, List.mem_cons] at hp ⊢
    rcases hp with h | h | h
    · exact .inr (.inl h)
    · exact .inl h
    · exact .inr (.inr h)

theorem draw_use {w : World} {p : Program} {loose : List PySem.Str} {mean : ExcName → Option Value} {mg mb : PySem.Str → Option Value}
  {dp un : Nat} {gd : Option (List Code)} {cn : PySem.Str} {cs : Scope} {a : Addr} {ccd : Value} {cl : List (PySem.Str × Addr)} {outer : List Env} {A₀ : Around} {base h₀ : Heap} {L : Addr} {m : PySem.Str → Option Value} {s : Shared}
  {d : Addr} {vs : List Value} {n : Nat} {many : Int} {tk : Tok} {news : List (Addr × Obj)} {f : Obj → List (Addr × Obj)} {Q E : Value → Shared → Prop}
  (B : Below A₀ base outer h₀) (F : Fr h₀ L s.heap m) (X : (hd.heap_39 w.params).In h₀) (N : News h₀ L s.heap news) (U : UpdF d (PySem.W.listOf vs.toArray n) news f) (T : Top p loose mean mg mb h₀) (hk : cs.kind = .function)
  (hD : Deck vs) (h1 : 1 ≤ many) (h2 : many ≤ 100) (hdp : dp + 20 < recursionLimit) (hun : un + 200 < cLine)
  (hret : ∀ r t vs' n' h' tk', 0 ≤ r → r < many → Deck vs' → Fr h₀ L h' m → News h₀ L h' (f (PySem.W.listOf vs'.toArray n')) → Q (.int r t) {s with heap := h', toks := tk'}) :
  wpAny (model prog w) (ktrTop dp un gd cn cs L a ccd cl outer) (call (.ref 480) [.ref d, .int many tk]) Q E s := by
  obtain ⟨rest, hr, mv, bk⟩ := news_mv (h₀ := h₀) (h := s.heap) (L := L) (o' := PySem.W.listOf vs.toArray n) U
  obtain ⟨ns, hi, h0, hl⟩ := hD
  exact draw_spec w p loose mean mg mb dp un gd cn cs a ccd cl outer A₀ base h₀ L m s d vs ns n many tk rest Q E B F X (mv N) hr T hk hi h0 hl h1 h2 hdp hun
    fun r t vs' n' h' tk' a b D' F' N' => hret r t vs' n' h' tk' a b D' F' (bk _ _ N')

section
variable {prog : Program} {w : World} {A : Around} {h₀ : Heap} {L : Addr} {m : PySem.Str → Option Value} {env : Env} {elt : PySem.Expr} {x : PySem.Str} {scope : Scope} {cl : List (PySem.Str × Addr)} {s : Shared} {Fin : List Value → List (Addr × Obj) → Prop}
noncomputable def DrawEl (menu : Int → Prop) (f : Obj → List (Addr × Obj)) (y : Value) (news' : List (Addr × Obj)) : Prop := ∃ r t vs' c', menu r ∧ y = .int r t ∧ Deck vs' ∧ news' = f (PySem.W.listOf vs'.toArray c')
theorem comp_draw (f : Obj → List (Addr × Obj)) (menu : Int → Prop) {n : Nat} {P : Nat → Value → Prop} {vs₀ : List Value} {c₀ : Nat} (hD₀ : Deck vs₀)
  (turn : ∀ v I oI C oC D m₂ ys h tk vs c (E' : Value → Shared → Prop), Deck vs → LCg.NsObj oC m₂ → m₂ x = some v → Fr h₀ L h m → News h₀ L h ((I, oI) :: (C, oC) :: (D, LCg.lst ys) :: f (PySem.W.listOf vs.toArray c)) → LCg.Off3 I C D (f (PySem.W.listOf vs.toArray c)) → ((@Ne Nat I C) ∧ (@Ne Nat I D) ∧ (@Ne Nat C D)) →
     wpAny (model prog w) A (eval elt (compEnvC scope cl C env)) (LCg.CompEnd h₀ L m { s with heap := h, toks := tk } I oI C oC D (LCg.lst ys) (fun _ => True) (DrawEl menu f)) E' { s with heap := h, toks := tk })
  (fin : ∀ ys ks vs c, IntsAre ys ks → ks.length = n → (∀ k ∈ ks, menu k) → Deck vs → Fin ys (f (PySem.W.listOf vs.toArray c))) :
  LCg.CompRest prog w A h₀ L m env elt x scope cl s (fun _ => True) P Fin n 0 [] (f (PySem.W.listOf vs₀.toArray c₀)) := by
  have key : ∀ (j i : Nat) (ys : List Value) (ks : List Int) (vs : List Value) (c : Nat), i + j = n → IntsAre ys ks → ks.length = i → (∀ k ∈ ks, menu k) → Deck vs → LCg.CompRest prog w A h₀ L m env elt x scope cl s (fun _ => True) P Fin j i ys (f (PySem.W.listOf vs.toArray c)) := by
    intro j
    induction j with
    | zero =>
      intro i ys ks vs c hi hy hl hm hD
      exact LCg.CompRest.zero (fin ys ks vs c hy (by omega) hm hD)
    | succ j ih =>
      intro i ys ks vs c hi hy hl hm hD
      refine LCg.CompRest.succ ?_
      intro v I oI C oC D m₂ h tk E' hv hC hx F N off ne
      refine wpAny_mono (turn v I oI C oC D m₂ ys h tk vs c E' hD hC hx F N off ne) (fun y s₂ hq => ?_) fun _ _ e => e
      obtain ⟨h', tk', nw, e, F', N', off', hS, r, t, vs', c', hr, hy', hD', hn⟩ := hq
      rw [hn] at N' off'
      refine ⟨h', tk', _, e, F', N', off', hS, ?_⟩
      rw [hy']
      refine ih (i + 1) _ (ks ++ [r]) _ _ (by omega) (IntsAre.append hy (.cons r t .nil)) (by simp [hl]) ?_ hD'
      intro k hk
      rcases List.mem_append.mp hk with hk | hk
      · exact hm k hk
      · rw [List.mem_singleton.mp hk]; exact hr
  exact key n 0 [] [] vs₀ c₀ (by omega) .nil rfl (by simp) hD₀

theorem UpdF.eq {d : Addr} {o : Obj} : ∀ {l : List (Addr × Obj)} {f : Obj → List (Addr × Obj)}, UpdF d o l f → l = f o
  | _, _, .head _ => rfl
  | _, _, .tail _ r => by rw [UpdF.eq r]
theorem comp_drawU {f : Obj → List (Addr × Obj)} (menu : Int → Prop) {n : Nat} {P : Nat → Value → Prop} {d : Addr} {vs₀ : List Value} {c₀ : Nat} {news : List (Addr × Obj)} (hD₀ : Deck vs₀) (U : UpdF d (PySem.W.listOf vs₀.toArray c₀) news f)
  (turn : ∀ v I oI C oC D m₂ ys h tk vs c (E' : Value → Shared → Prop), Deck vs → LCg.NsObj oC m₂ → m₂ x = some v → Fr h₀ L h m → News h₀ L h ((I, oI) :: (C, oC) :: (D, LCg.lst ys) :: f (PySem.W.listOf vs.toArray c)) → LCg.Off3 I C D (f (PySem.W.listOf vs.toArray c)) → ((@Ne Nat I C) ∧ (@Ne Nat I D) ∧ (@Ne Nat C D)) →
     wpAny (model prog w) A (eval elt (compEnvC scope cl C env)) (LCg.CompEnd h₀ L m { s with heap := h, toks := tk } I oI C oC D (LCg.lst ys) (fun _ => True) (DrawEl menu f)) E' { s with heap := h, toks := tk })
  (fin : ∀ ys ks vs c, IntsAre ys ks → ks.length = n → (∀ k ∈ ks, menu k) → Deck vs → Fin ys (f (PySem.W.listOf vs.toArray c))) :
  LCg.CompRest prog w A h₀ L m env elt x scope cl s (fun _ => True) P Fin n 0 [] news := by
  rw [UpdF.eq U]
  exact comp_draw f menu hD₀ turn fin
end
theorem deck_of {ys : List Value} {ws : List Int} (h : IntsAre ys (List.map (fun k : Int => (if k < 0 then -k else k).fmod (10 ^ Int.toNat 30)) (List.take 16 ws))) : Deck ys := by
  refine ⟨_, h, ?_, ?_⟩
  · intro x hx
    obtain ⟨k, _, rfl⟩ := List.mem_map.mp hx
    exact Int.fmod_nonneg_of_pos _ (by decide)
  · simp; omega

noncomputable def Letter (k : Int) : Prop := 0 ≤ k ∧ k < 128
theorem drawEnd {h₀ : Heap} {L I C D : Addr} {m : PySem.Str → Option Value} {s₁ : Shared} {oI oC oD : Obj} {menu : Int → Prop} {f : Obj → List (Addr × Obj)} {h' : Heap} {tk : Nat} {nw : List (Addr × Obj)} {vs : List Value} {c : Nat} {r : Int} {t : Tok}
    (F : Fr h₀ L h' m) (N : News h₀ L h' nw) (hD : Deck vs) (sub : ∀ p ∈ (I, oI) :: (C, oC) :: (D, oD) :: f (PySem.W.listOf vs.toArray c), p ∈ nw) (off : LCg.Off3 I C D (f (PySem.W.listOf vs.toArray c))) (hm : menu r) :
    LCg.CompEnd h₀ L m s₁ I oI C oC D oD (fun _ => True) (DrawEl menu f) (.int r t) { s₁ with heap := h', toks := tk } :=
  LCg.CompEnd.intro F N (f (PySem.W.listOf vs.toArray c)) sub off trivial ⟨r, t, vs, c, hm, rfl, hD, rfl⟩
end
theorem apart_PSl : ∀ x : Nat, x = x := by
  w_top off
  k_with_none
  first | (walk1; done) | exact fun _ => rfl
section
section
variable {prog : Program} {w : World} {A : Around} {E : Value → Shared → Prop} {s : Shared}

theorem sliceBounds_at {x y : Int} {n : Nat} (h0 : 0 ≤ x) (h1 : x ≤ y) (h2 : y ≤ n) : sliceBounds (some x) (some y) none n = (x, y, 1) := by
  simp only [sliceBounds, Option.getD_none]
  have a1 : ¬ (x < 0) := by omega
  have a2 : ¬ (y < 0) := by omega
  simp only [a1, a2, if_false, show (1 : Int) > 0 by decide, if_true]
  congr 1
  · omega
  · congr 1
    omega

theorem setSlice_raw {l sl b : Addr} {items its2 : Array Value} {n : Nat} {vl vu : Value} {x y : Int} {Q : Unit → Shared → Prop} (ho : s.heap.get? l = some (listOf items n))
    (hs : s.heap.IsSliceOf sl vl vu .none) (pl : IsPart vl (some x)) (pu : IsPart vu (some y)) (h0 : 0 ≤ x) (h1 : x ≤ y) (h2 : y ≤ items.size) (hb : s.heap.IsList b its2)
    (hne : l ≠ b) (hz : items.size + its2.size ≤ sizeLine)
    (hQ : Q () { s with heap := s.heap.update l (Obj.mapSeq fun xs => xs.extract 0 x.toNat ++ its2 ++ xs.extract y.toNat xs.size) }) :
    wpAny (model prog w) A (setItem (.ref l) (.ref sl) (.ref b)) Q E s := by
  have hl : s.heap.IsList l items := PySem.IsL.isList (n := n) ho
  obtain ⟨o, ho', hc, ne, hd⟩ := id hl
  obtain ⟨ob, hob, hcb, nb, hdb⟩ := id hb
  obtain ⟨os, hos, hcs, hds⟩ := id hs
  have hTs : s.TypeIs (.ref sl) "slice" := ⟨os, hos, hcs⟩
  unfold setItem
  try with_reducible refine wpAny_holding ?_
  first | refine wpAny_bind (wpAny_pure ?_) | skip
  refine wpAny_bind (wpAny_sequenceKey hl.typeIs (by decide) ?_)
  refine wpAny_bind (wpAny_callSpecial?_slot (name := Str.ofString "__setitem__") hl.typeIs slot_list_setitem
    (wpAny_call_entry slot_list_setitem hl.typeIs entry_list_setitem ?_ (args_list_setitem _ _ _)))
  show wpAny _ _ (Builtin.List.listSubscript? (.ref sl) >>= _) _ _ s
  refine wpAny_bind ?_
  unfold Builtin.List.listSubscript?
  refine wpAny_bind (wpAny_specialOf hTs slice_no_index ?_)
  simp only [Option.isNone_none, if_true]
  refine wpAny_pure ?_
  show wpAny _ _ (typeOf (.ref sl) >>= _) _ _ s
  refine wpAny_bind (wpAny_typeOf hTs ?_)
  rw [if_neg (by decide)]
  rw [listSliceParts_eq]
  refine wpAny_bind (wpAny_bind (wpAny_field hos hds (x := .none) rfl (wpAny_bind (wpAny_listPart .none ?_))))
  rw [if_neg (show ¬ ((rawPart none == rawInt 0) = true) from Bool.false_ne_true)]
  refine wpAny_bind (wpAny_field hos hds (x := vl) rfl (wpAny_bind (wpAny_listPart pl ?_)))
  refine wpAny_bind (wpAny_field hos hds (x := vu) rfl (wpAny_bind (wpAny_listPart pu (wpAny_pure ?_))))
  have hne' : ¬ (Builtin.List.listSameRef (.ref l) (.ref b) = true) := by
    show ¬ ((l == b) = true)
    simpa using hne
  rw [if_neg hne']
  have hTb : s.TypeIs (.ref b) "list" := ⟨ob, hob, hcb⟩
  refine wpAny_bind (m := Builtin.List.listAllItems (.ref b) "must assign iterable to extended slice") ?_
  unfold Builtin.List.listAllItems
  refine wpAny_bind (wpAny_typeOf hTb ?_)
  rw [if_pos (by decide)]
  unfold Builtin.List.listItems
  refine wpAny_bind (wpAny_seqItems hob hdb (wpAny_pure ?_))
  refine wpAny_bind (wpAny_bind (wpAny_seqItems ho rfl (wpAny_pure ?_)))
  refine wpAny_bind (wpAny_of_eq (sliceIndices_raw (some x) (some y) none items.size (by simp)) ?_)
  rw [sliceBounds_at h0 h1 h2]
  dsimp only
  rw [if_pos (by decide)]
  refine wpAny_bind (wpAny_rule ?_)
  rw [if_neg (by unfold Builtin.List.listTooLong; simp; omega)]
  have e : (max x y).toNat = y.toNat := by rw [Int.max_eq_right h1]
  refine wpAny_bind (listUpdate_at ho rfl ?_ (by omega) ?_)
  · refine wpAny_bind (wpAny_letGo ?_)
    rw [← e] at hQ
    exact wpAny_pure ⟨.none, rfl, wpAny_pure hQ⟩
  · simp only [Array.size_append, Array.size_extract]
    have e9 : x.toNat ≤ items.size := by omega
    have e8 : x.toNat ≤ y.toNat := Int.toNat_le_toNat h1
    have e7 : y.toNat ≤ items.size := by omega
    clear hQ
    rw [e, Nat.min_self, Nat.sub_zero, Nat.min_eq_left e9]
    omega

theorem setSlice_K {l b : Addr} {h₀ : Heap} {L : Addr} {m : PySem.Str → Option Value} {vs ws : List Value} {n n2 : Nat} {x y : Int} {tx ty : Tok} {news : List (Addr × Obj)} {f : Obj → List (Addr × Obj)} {Q : Unit → Shared → Prop}
    (F : Fr h₀ L s.heap m) (N : News h₀ L s.heap news) (U : UpdF l (listOf vs.toArray n) news f) (hb : (b, listOf ws.toArray n2) ∈ news) (hne : l ≠ b) (h0 : 0 ≤ x) (h1 : x ≤ y) (h2 : y ≤ vs.length) (hz : vs.length + ws.length ≤ sizeLine)
    (h : ∀ n' h', Fr h₀ L h' m → News h₀ L h' (f (listOf (vs.take x.toNat ++ ws ++ vs.drop y.toNat).toArray n')) → Q () { s with heap := h' }) :
    wpAny (model prog w) A (setItem (.ref l) (.ref s.heap.objs.size) (.ref b)) Q E { s with heap := s.heap.push { cls := .type "slice", data := .fields #[.int x tx, .int y ty, .none] } } := by
  obtain ⟨pre, post, rfl, hf, a, c⟩ := U.split
  have F1 := F.push { cls := .type "slice", data := .fields #[.int x tx, .int y ty, .none] }
  have N1 : News h₀ L (s.heap.push { cls := .type "slice", data := .fields #[.int x tx, .int y ty, .none] }) (pre ++ (l, listOf vs.toArray n) :: post) := N.grown fun _ _ e => Heap.get?_push_of_some _ e
  have z := N1 (l, listOf vs.toArray n) (List.mem_append.mpr (.inr (.head _)))
  refine setSlice_raw (items := vs.toArray) (its2 := ws.toArray) z.1 (Heap.IsSliceOf.new ..) (.int x tx) (.int y ty) h0 h1 (by simpa using h2) (PySem.IsL.isList (n := n2) (N1 _ hb).1) hne (by simpa using hz) ?_
  refine h (if (vs.take x.toNat ++ ws ++ vs.drop y.toNat).toArray.size == vs.toArray.size then n else n + 1) _ (F1.change (Heap.SameBut.update ..) z.2.1 z.2.2) ?_
  rw [hf]
  refine ki_turn _ N1 a c ?_ rfl
  apply Array.toList_inj.mp
  simp only [Array.toList_append, Array.toList_extract, List.size_toArray, List.extract_eq_take_drop, List.drop_zero, Nat.sub_zero]
  congr 1
  rw [List.take_of_length_le (by simp)]

theorem setSlice_M {l b : Addr} {h₀ hp : Heap} {L : Addr} {m : PySem.Str → Option Value} {vs ws : List Value} {n n2 : Nat} {x y : Int} {tx ty : Tok} {news : List (Addr × Obj)} {f : Obj → List (Addr × Obj)} {Q : Unit → Shared → Prop} {s : Shared} {tk : Nat}
    (F : Fr h₀ L hp m) (N : News h₀ L hp news) (U : UpdF l (listOf vs.toArray n) news f) (hb : (b, listOf ws.toArray n2) ∈ news) (hne : l ≠ b) (h0 : 0 ≤ x) (h1 : x ≤ y) (h2 : y ≤ vs.length) (hz : vs.length + ws.length ≤ sizeLine)
    (h : ∀ n' h', Fr h₀ L h' m → News h₀ L h' (f (listOf (vs.take x.toNat ++ ws ++ vs.drop y.toNat).toArray n')) → Q () { s with heap := h', toks := tk }) :
    wpAny (model prog w) A (setItem (.ref l) (.ref hp.objs.size) (.ref b)) Q E { s with heap := hp.push { cls := .type "slice", data := .fields #[.int x tx, .int y ty, .none] }, toks := tk } :=
  setSlice_K (s := { s with heap := hp, toks := tk }) F N U hb hne h0 h1 h2 hz h

theorem ints_app {vs ws : List Value} {ns ms : List Int} (h : IntsAre vs ns) (h2 : IntsAre ws ms) : IntsAre (vs ++ ws) (ns ++ ms) := IntsAre.append h h2
theorem setSlice_I {l b : Addr} {h₀ hp : Heap} {L : Addr} {m : PySem.Str → Option Value} {vs ws : List Value} {ns ms : List Int} {n n2 : Nat} {x y : Int} {tx ty : Tok} {news : List (Addr × Obj)} {f : Obj → List (Addr × Obj)} {Q : Unit → Shared → Prop} {s : Shared} {tk : Nat}
    (F : Fr h₀ L hp m) (N : News h₀ L hp news) (U : UpdF l (listOf vs.toArray n) news f) (hb : (b, listOf ws.toArray n2) ∈ news) (hi : IntsAre vs ns) (hj : IntsAre ws ms) (hne : l ≠ b) (h0 : 0 ≤ x) (h1 : x ≤ y) (h2 : y ≤ ns.length) (hz : ns.length + ms.length ≤ sizeLine)
    (h : ∀ us zs n' h', IntsAre us zs → zs = ns.take x.toNat ++ ms ++ ns.drop y.toNat → (zs.length : Int) = x + ms.length + (ns.length - y) → Fr h₀ L h' m → News h₀ L h' (f (listOf us.toArray n')) → Q () { s with heap := h', toks := tk }) :
    wpAny (model prog w) A (setItem (.ref l) (.ref hp.objs.size) (.ref b)) Q E { s with heap := hp.push { cls := .type "slice", data := .fields #[.int x tx, .int y ty, .none] }, toks := tk } := by
  have e1 := hi.length
  have e2 := hj.length
  refine setSlice_M (s := s) F N U hb hne h0 h1 (by omega) (by omega) fun n' h' F' N' => ?_
  refine h _ _ n' h' (ints_app (ints_app (hi.take x.toNat) hj) (hi.drop y.toNat)) rfl ?_ F' N'
  simp only [List.length_append, List.length_take, List.length_drop]
  rw [Nat.min_eq_left (by omega)]
  omega
end
end
theorem apart_PLt : ∀ x : Nat, x = x := by
  w_top off
  k_with_none
  first | (walk1; done) | exact fun _ => rfl
section
open PySem.AutoSeq1 (wpAny_loadPart')
open PySem.MeetsSeq PySem.MeetsSeq2 PySem.MeetsSeq3
noncomputable def lexLt : List Int → List Int → Bool
  | a :: as, b :: bs => if a = b then lexLt as bs else decide (a < b)
  | [], [] => false
  | [], _ :: _ => true
  | _ :: _, [] => false
theorem lexLt_nil (l : List Int) : lexLt [] l = decide (0 < l.length) := by cases l <;> simp [lexLt]
theorem lt_loop (l b : Addr) (vs us : List Value) (ns ms : List Int) (hi : IntsAre vs ns) (hj : IntsAre us ms) (n n2 : Nat) (dd dd2 : Option Addr) (sl sl2 : Array (Option Value)) (k : Nat) :
    ∀ i : Nat, vs.length - i = k → i ≤ vs.length → i ≤ us.length → Meets (Builtin.«list.__eq__.loop» ⟨[.ref l, .ref b, rawInt i, rawInt 0], []⟩)
      (fun A R s => s.heap.get? l = some { cls := .type "list", dict := dd, data := .seq vs.toArray n, slots := sl } ∧ s.heap.get? b = some { cls := .type "list", dict := dd2, data := .seq us.toArray n2, slots := sl2 } ∧
        R (.ok (.ret (.bool (lexLt (ns.drop i) (ms.drop i))))) s) := by
  have e1 := hi.length
  have e2 := hj.length
  induction k with
  | zero =>
    intro i hk hle hle2 prog w A R s h
    obtain ⟨hp, g, d, tk, os⟩ := s; obtain ⟨hl, hb, h⟩ := h
    wp_walk using wpAny_loadPart' hl, wpAny_loadPart' hb
    have hi1 : vs.toArray[((i : Nat) : Int).toNat]? = none := by simp; omega
    rw [hi1]
    wp_walk using wpAny_loadPart' hl, wpAny_loadPart' hb
    have hd : ns.drop i = [] := by apply List.drop_eq_nil_of_le; omega
    rw [hd, lexLt_nil] at h
    have e3 : decide (0 < (ms.drop i).length) = decide (vs.toArray.size < us.toArray.size) := by
      rw [decide_eq_decide]; simp; omega
    rw [e3] at h
    exact h
  | succ k ih =>
    intro i hk hle hle2 prog w A R s h
    obtain ⟨hp, g, d, tk, os⟩ := s; obtain ⟨hl, hb, h⟩ := h
    wp_walk using wpAny_loadPart' hl, wpAny_loadPart' hb
    have hlt : i < vs.length := by omega
    have hc : ((i : Int) + 1) = ((i + 1 : Nat) : Int) := by push_cast; rfl
    obtain ⟨x, tx, hx2, hx1⟩ := IntsAre.at hi i vs[i] (List.getElem?_eq_getElem hlt)
    have hi1 : vs.toArray[((i : Nat) : Int).toNat]? = some (.int x tx) := by
      simp only [Int.toNat_natCast, List.getElem?_toArray]; rw [List.getElem?_eq_getElem hlt, hx2]
    have hdx : ns.drop i = x :: ns.drop (i + 1) := by
      obtain ⟨q1, q2⟩ := List.getElem?_eq_some_iff.mp hx1
      rw [List.drop_eq_getElem_cons q1, q2]
    by_cases hlt2 : i < us.length
    · obtain ⟨y, ty, hy2, hy1⟩ := IntsAre.at hj i us[i] (List.getElem?_eq_getElem hlt2)
      have hi2 : us.toArray[((i : Nat) : Int).toNat]? = some (.int y ty) := by
        simp only [Int.toNat_natCast, List.getElem?_toArray]; rw [List.getElem?_eq_getElem hlt2, hy2]
      have hdy : ms.drop i = y :: ms.drop (i + 1) := by
        obtain ⟨q1, q2⟩ := List.getElem?_eq_some_iff.mp hy1
        rw [List.drop_eq_getElem_cons q1, q2]
      rw [hdx, hdy, lexLt] at h
      rw [hi1, hi2]
      refine wpAny_bind (EqGives.int x y tx ty prog w _ _ _ _ ?_)
      by_cases hxy : x = y
      · rw [if_pos hxy] at h
        have hb' : (x == y) = true := by simpa using hxy
        rw [hb']
        wp_walk
        rw [hc]
        exact ⟨plainId_quiet plain_eq_loop _, codeAny_builtin entry_eq_loop (by
          rw [Around.under_plainId plain_eq_loop _]
          exact ih (i + 1) (by omega) (by omega) (by omega) prog w A R _ ⟨hl, hb, h⟩)⟩
      · rw [if_neg hxy] at h
        have hb' : (x == y) = false := by simpa using hxy
        rw [hb']
        wp_walk using wpAny_loadPart' hl, wpAny_loadPart' hb
        rw [hi1, hi2]
        refine wpAny_bind (wpAny_lt_int ?_)
        wp_walk
        exact h
    · have hi2 : us.toArray[((i : Nat) : Int).toNat]? = none := by simp; omega
      have hdy : ms.drop i = [] := by apply List.drop_eq_nil_of_le; omega
      rw [hdx, hdy, lexLt] at h
      rw [hi1, hi2]
      wp_walk using wpAny_loadPart' hl, wpAny_loadPart' hb
      have e3 : false = decide (vs.toArray.size < us.toArray.size) := by
        symm; rw [decide_eq_false_iff_not]; simp; omega
      rw [e3] at h
      exact h
theorem list_lt (l b : Addr) (vs us : List Value) (ns ms : List Int) (hi : IntsAre vs ns) (hj : IntsAre us ms) (n n2 : Nat) (dd dd2 : Option Addr) (sl sl2 : Array (Option Value)) :
    Meets (Builtin.«list.__lt__» ⟨[.ref l, .ref b], []⟩)
      (fun A R s => s.heap.get? l = some { cls := .type "list", dict := dd, data := .seq vs.toArray n, slots := sl } ∧ s.heap.get? b = some { cls := .type "list", dict := dd2, data := .seq us.toArray n2, slots := sl2 } ∧
        R (.ok (.ret (.bool (lexLt ns ms)))) s) := by
  intro prog w A R s h
  obtain ⟨hp, g, d, tk, os⟩ := s; obtain ⟨hl, hb, h⟩ := h
  have f3 := AutoSeq1.sub_list_list
  wp_walk using wpAny_loadPart' hl, wpAny_loadPart' hb
  exact ⟨plainId_quiet plain_eq_loop _, codeAny_builtin entry_eq_loop (by
    rw [Around.under_plainId plain_eq_loop _]
    exact lt_loop l b vs us ns ms hi hj n n2 dd dd2 sl sl2 _ 0 rfl (Nat.zero_le _) (Nat.zero_le _) prog w A R _ ⟨hl, hb, by simpa using h⟩)⟩
theorem lt_intsK {prog : Program} {w : World} {A : Around} {E : Value → Shared → Prop} {s : Shared} {a b : Addr} {vs us : List Value} {ns ms : List Int} {Q : Value → Shared → Prop} (hl : s.heap.IsList a vs.toArray) (hi : IntsAre vs ns) (hl' : s.heap.IsList b us.toArray) (hi' : IntsAre us ms) (hu : A.units + 64 < cLine)
    (h : Q (.bool (lexLt ns ms)) s) : wpAny (model prog w) A (compareOp .Lt (.ref a) (.ref b)) Q E s := by
  obtain ⟨⟨cls, dd, data, sl⟩, ho, hc, n, hd⟩ := id hl
  obtain ⟨⟨cls2, dd2, data2, sl2⟩, ho2, hc2, n2, hd2⟩ := id hl'
  simp only at hc hd hc2 hd2
  subst hc hd hc2 hd2
  exact richCompare_meets_room (op := .Lt) ⟨_, ho, rfl⟩ ⟨_, ho2, rfl⟩ F.slot_list_lt F.entry_list_lt (F.args_list_lt_2 _ _) (list_lt a b vs us ns ms hi hi' n n2 dd dd2 sl sl2)
    ⟨ho, ho2, show Value.bool (lexLt ns ms) ≠ Value.notImplemented ∧ Q (.bool (lexLt ns ms)) s from ⟨(fun x => nomatch x), h⟩⟩ (by omega)
end
theorem apart_PExA : ∀ x : Nat, x = x := by
  w_top off
  k_with_none
  first | (walk1; done) | exact fun _ => rfl
section
noncomputable abbrev excBm : List Value := [.type "Exception", .type "BaseException", .type "object"]
section
variable {prog : Program} {w : World} {A : Around} {E : Value → Shared → Prop} {h : Heap} {g : Array GenState} {d : Drawn} {t : Nat} {os : OsState}
variable {nm q : PySem.Str} {C N x : Addr} {bs : List Value} {sn : List PySem.Str} {sub : List Value} {ab : Bool} {col : Option Bool} {dd : Option Addr} {k0 k1 k2 k3 k5 : Option Value} {newId : String}
  {mN mA : PySem.Str → Option Value} {name : PySem.Str} {v : Value}
theorem exc_load_entry {tk : Tok} {Q : Fin → Shared → Prop}
    (hC : h.get? C = some (excClassObj nm q C N bs excBm true sn sub ab col dd k0 k1 k2 k3 k5 newId)) (hn : h.Ns N mN) (hna : mN name = none)
    (hB : typeLookup (.type "Exception") name = pure none) (I : h.Inst x C mA) (hv : mA name = some v) (hq : Q (.done (.ret v)) ⟨h, g, d, t, os⟩) :
    wpAny (model prog w) A (Builtin.«object.__getattribute__» ⟨[.ref x, .str name tk], []⟩) Q E ⟨h, g, d, t, os⟩ := by
  obtain ⟨o, hx, hc, hnc, hd⟩ := I
  rcases hd with ⟨_, hmA⟩ | ⟨dx, hdx, hne, hns⟩
  · rw [hmA name] at hv; cases hv
  repeat (any_goals (first | assumption | (with_reducible refine wpAny_loadPart_at hx ?_; rw [hc]) | (with_reducible refine wpAny_typeLookup_exc hC hn F.attrBase_Exception.mro hB ?_; rw [hna]) | wp_step))
  split
  · rename_i c hcd
    exact absurd hcd (hnc c)
  unfold instanceDict
  repeat (first | (with_reducible refine wpAny_loadPart_at hx ?_; rw [hc]) | with_reducible refine wpAny_loadPart_at hC ?_ | wp_step)
  rw [hdx]
  repeat (first | (with_reducible refine wpAny_nsGet hns.ns ?_; rw [hv]) | wp_step)
  exact hq
theorem exc_check_ga {M : Model} {nameV : Value} {o : Obj} {Q : Unit → Shared → Prop} (hC : h.get? C = some (excClassObj nm q C N bs excBm true sn sub ab col dd k0 k1 k2 k3 k5 newId))
    (hx : h.get? x = some o) (hc : o.cls = .ref C) (hq : Q () ⟨h, g, d, t, os⟩) : wpAny M A (checkBuiltinCall "BaseException.__getattribute__" ⟨[.ref x, nameV], []⟩) Q E ⟨h, g, d, t, os⟩ := by
  have hk : builtinKind "BaseException.__getattribute__" = some .slot := by decide +kernel
  have hsplit : splitId "BaseException.__getattribute__" = some ("BaseException", "__getattribute__") := by decide +kernel
  have hcB : (Value.ref C :: excBm).contains (.type "BaseException") = true := by rw [List.contains_cons]; simp [excBm]
  have ha := F.args_bexc_ga (.ref x) nameV
  simp only [checkBuiltinCall, hk, hsplit]
  refine wpAny_bind ?_
  · unfold isInstance
    repeat (first | (with_reducible refine wpAny_loadPart_at hx ?_; rw [hc]) | (with_reducible refine wpAny_isSubtype_exc hC ?_; rw [hcB]) | wp_step)
    exact hq
theorem exc_load_attr {expr : Bool} {Q : Value → Shared → Prop}
    (hC : h.get? C = some (excClassObj nm q C N bs excBm true sn sub ab col dd k0 k1 k2 k3 k5 newId)) (hn : h.Ns N mN) (hga : mN "__getattribute__" = none) (hgb : mN "__getattr__" = none) (hna : mN name = none)
    (hB : typeLookup (.type "Exception") name = pure none) (I : h.Inst x C mA) (hv : mA name = some v) (hh : handedOut v = pure v) (hq : Q v ⟨h, g, d, t + 1, os⟩) :
    wpAny (model prog w) A (getAttr (.ref x) name expr) Q E ⟨h, g, d, t, os⟩ := by
  obtain ⟨o, hx, hc, _⟩ := id I
  have f3 := F.attrBase_Exception.ga.bind (.ref x)
  have hx0 : (expr && onTheHeap (Value.builtin "BaseException.__getattribute__")) = false := by cases expr <;> rfl
  have hx2 : (Value.builtin "BaseException.__getattribute__" == Value.builtin "object.__getattribute__") = false := by decide +kernel
  have hx1 : (onTheHeap (Value.ref C) && Value.builtin "BaseException.__getattribute__" == Value.builtin "object.__getattribute__") = false := by rw [hx2]; rfl
  unfold getAttr getAttrBy
  repeat (any_goals (first | assumption | (with_reducible refine wpAny_loadPart_at hx ?_; rw [hc]) | (with_reducible refine wpAny_typeLookup_exc hC hn F.attrBase_Exception.mro F.attrBase_Exception.ga.lookup ?_; rw [hga]) | (with_reducible refine wpAny_typeLookup_exc hC hn F.attrBase_Exception.mro F.attrBase_Exception.noGetattr ?_; rw [hgb]) | wp_step))
  refine codeAny_call_builtin F.attrBase_Exception.ga.plain F.entry_bexc_ga (exc_check_ga hC hx hc (exc_load_entry hC hn hna hB I hv ?_))
  repeat (any_goals (first | assumption | wp_step))
end
end
theorem apart_PExB : ∀ x : Nat, x = x := by
  w_top off
  k_with_none
  first | (walk1; done) | exact fun _ => rfl
section
theorem dict_mapFields (o : Obj) (f : Array Value → Array Value) : (o.mapFields f).dict = o.dict := by
  obtain ⟨c, d, dt, sl⟩ := o
  cases dt <;> rfl
/-- an exception with a dict of its own and a traceback whose flight field is fl -/
noncomputable def TrD (h base : Heap) (e : Addr) (cls : Value) (dx : Addr) (fl : Value) : Prop :=
  ∃ oe vs T oT ts, h.get? e = some oe ∧ (oe.cls = cls ∧ oe.dict = some dx) ∧ oe.data = .fields vs ∧ vs[1]? = some (.ref T) ∧ base.get? T = none ∧ T ≠ e ∧ h.get? T = some oT ∧ oT.data = .fields ts ∧ ts[3]? = some fl
noncomputable def FlyD (base : Heap) (l : List Env) (e : Addr) (cls : Value) (dx : Addr) (fl : Value) (h : Heap) : Prop :=
  base.StaysIn h ∧ base.get? e = none ∧ h.FunFrames base l ∧ TrD h base e cls dx fl
section
variable {M : Model} {A : Around} {E : Value → Shared → Prop} {s : Shared} {base : Heap} {env : Env} {outer l : List Env} {L e dx : Addr} {cls fl : Value} {Q : Unit → Shared → Prop}
theorem entryD {oe : Obj} {vs : Array Value} {head : Value} {had : Bool} (hfr : A.frames = some (env :: outer)) (hl : s.heap.FunFrames base (env :: outer)) (hf : env.frame = some L)
    (he : s.heap.get? e = some oe) (hkb : base.StaysIn s.heap) (hen : base.get? e = none) (hd : oe.data = .fields vs) (hsz : 1 < vs.size) (hdx : oe.dict = some dx)
    (h : ∀ h', FlyD base (env :: outer) e oe.cls dx (rawInt L) h' → s.heap.UpToSlots h' → Q () { s with heap := h' }) :
    wpAny M A (do let a ← frameOf env; let pl ← entryPlaceOf L had; let b ← EntryCells.newEntry head a .none (rawInt L) .none pl; setField (.ref e) 1 b) Q E s := by
  have hne : e ∉ (env :: outer).filterMap (·.frame) := by
    intro hm
    obtain ⟨_, o, ho, hnf⟩ := hl.mem hm
    rw [he] at ho
    cases ho
    exact hnf vs hd
  refine wpAny_bind (wpAny_frameOf_fun hfr hl hf fun h₁ hs₁ => wpAny_bind (wpAny_entryPlaceOf fun pl hpl => ?_))
  unfold EntryCells.newEntry newFields
  refine wpAny_bind (wpAny_newObj_type ?_ (hpl.sizeOk5 _ _ _ _ _))
  generalize hot : ({ cls := .type "traceback", dict := none, data := .fields ([head, .ref L, .none, rawInt L, .none] ++ (if pl.isEmpty then List.replicate 6 Value.none else pl)).toArray } : Obj) = ot
  have hotd : ot.data = .fields ([head, .ref L, .none, rawInt L, .none] ++ (if pl.isEmpty then List.replicate 6 Value.none else pl)).toArray := by rw [← hot]
  have hof : ot.isFreed = false := by rw [← hot]; rfl
  have e1 : h₁.get? e = some oe := (hs₁.2.1 e hne).trans he
  have b1 : base.StaysIn h₁ := fun b o hb => (hs₁.2.1 b fun hm => by rw [(hl.mem hm).1] at hb; cases hb).trans (hkb b o hb)
  have e2 : (h₁.push ot).get? e = some oe := Heap.get?_push_of_some _ e1
  have hTe : h₁.objs.size ≠ e := Nat.ne_of_gt (Heap.lt_size e1)
  have d3 := Obj.data_mapFields hd (·.setIfInBounds 1 (Value.ref h₁.objs.size))
  have e3 := Heap.get?_update_self (Obj.mapFields (·.setIfInBounds 1 (Value.ref h₁.objs.size))) e2 (Obj.isFreed_of_fields d3)
  have t3 := (Heap.get?_update_other (h₁.push ot) (Obj.mapFields (·.setIfInBounds 1 (Value.ref h₁.objs.size))) (Ne.symm hTe)).trans (Heap.get?_push_size h₁ hof)
  have keep : ∀ b o, b ≠ e → h₁.get? b = some o → ((h₁.push ot).update e (Obj.mapFields (·.setIfInBounds 1 (Value.ref h₁.objs.size)))).get? b = some o := by
    intro b o hbe hb
    rw [Heap.get?_update_other _ _ (Ne.symm hbe)]
    exact Heap.get?_push_of_some _ hb
  have notE : ∀ b o, s.heap.get? b = some o → (∀ ws, o.data ≠ .fields ws) → b ≠ e := by
    intro b o hb hnf q
    rw [q, he] at hb
    cases hb
    exact hnf vs hd
  have ups : s.heap.UpToSlots ((h₁.push ot).update e (Obj.mapFields (·.setIfInBounds 1 (Value.ref h₁.objs.size)))) := by
    intro b o hb hnf
    obtain ⟨sl, hs⟩ := hs₁.2.2 b o hb
    exact ⟨sl, keep b _ (notE b o hb hnf) hs⟩
  refine wpAny_setField e2 hd hsz (h _ ⟨?_, hen, ?_, ?_⟩ ups)
  · exact fun b o hb => keep b o (fun q => by rw [q, hen] at hb; cases hb) (b1 b o hb)
  · refine hl.of_keeps fun b o hb hnf => ?_
    obtain ⟨sl, hs⟩ := ups b o hb hnf
    exact ⟨_, hs, rfl⟩
  · refine ⟨_, _, h₁.objs.size, _, _, e3, ⟨Obj.cls_mapFields _ _, (dict_mapFields _ _).trans hdx⟩, d3, by simp [hsz], b1.fresh, hTe, t3, hotd, ?_⟩
    simp
theorem note_firstD {oe : Obj} {vs : Array Value} (hfr : A.frames = some (env :: outer)) (hl : s.heap.FunFrames base (env :: outer)) (hf : env.frame = some L)
    (he : s.heap.get? e = some oe) (hkb : base.StaysIn s.heap) (hen : base.get? e = none) (hd : oe.data = .fields vs) (h1 : vs[1]? = some .none) (hdx : oe.dict = some dx)
    (h : ∀ h', FlyD base (env :: outer) e oe.cls dx (rawInt L) h' → s.heap.UpToSlots h' → Q () { s with heap := h' }) : wpAny M A (noteFrame (.ref e) env) Q E s := by
  unfold noteFrame
  simp only [hf]
  refine wpAny_bind (wpAny_field he hd h1 ?_)
  rw [if_neg (by decide)]
  exact entryD hfr hl hf he hkb hen hd (Array.getElem?_eq_some_iff.mp h1).1 hdx h
theorem note_nextD (hfr : A.frames = some (env :: outer)) (hf : env.frame = some L) (hx : FlyD base (env :: outer) e cls dx .none s.heap)
    (h : ∀ h', FlyD base (env :: outer) e cls dx (rawInt L) h' → s.heap.UpToSlots h' → Q () { s with heap := h' }) : wpAny M A (noteFrame (.ref e) env) Q E s := by
  obtain ⟨hkb, hen, hl, oe, vs, T, oT, ts, he, ⟨hc, hdx⟩, hd, h1, hnT, hTe, hT, hdT, h3⟩ := hx
  subst hc
  unfold noteFrame
  simp only [hf]
  refine wpAny_bind (wpAny_field he hd h1 ?_)
  rw [if_pos (show (Value.ref T != Value.none) = true from by simp)]
  refine wpAny_bind (wpAny_field hT hdT h3 ?_)
  rw [if_neg (show ¬ ((Value.none == rawInt L) = true) from by simp [rawInt])]
  refine wpAny_bind (wpAny_setField hT hdT (Array.getElem?_eq_some_iff.mp h3).1 ?_)
  have oth : ∀ b, b ≠ T → (s.heap.update T (Obj.mapFields (·.setIfInBounds 3 Value.none))).get? b = s.heap.get? b := fun b hb => Heap.get?_update_other _ _ (Ne.symm hb)
  have notT : ∀ b o, s.heap.get? b = some o → (∀ ws, o.data ≠ .fields ws) → b ≠ T := by
    intro b o hb hnf q
    rw [q, hT] at hb
    cases hb
    exact hnf ts hdT
  have ups : s.heap.UpToSlots (s.heap.update T (Obj.mapFields (·.setIfInBounds 3 Value.none))) := fun b o hb hnf => ⟨o.slots, (oth b (notT b o hb hnf)).trans hb⟩
  refine entryD hfr (hl.of_keeps fun b o hb hnf => ⟨o, (oth b (notT b o hb hnf)).trans hb, rfl⟩) hf ((oth e (Ne.symm hTe)).trans he)
    (fun b o hb => (oth b fun q => by rw [q, hnT] at hb; cases hb).trans (hkb b o hb)) hen hd (Array.getElem?_eq_some_iff.mp h1).1 hdx fun h' x y => h h' x (ups.trans y)
theorem flightD (hx : FlyD base l e cls dx fl s.heap)
    (h : ∀ h', FlyD base l e cls dx .none h' → s.heap.UpToSlots h' → Q () { s with heap := h' }) : wpAny M A (setFlight (.ref e) none) Q E s := by
  obtain ⟨hkb, hen, hl, oe, vs, T, oT, ts, he, hc, hd, h1, hnT, hTe, hT, hdT, h3⟩ := hx
  have hs3 : 3 < ts.size := (Array.getElem?_eq_some_iff.mp h3).1
  have oth : ∀ b, b ≠ T → (s.heap.update T (Obj.mapFields (·.setIfInBounds 3 ((none : Option Addr).elim Value.none fun f => rawInt f)))).get? b = s.heap.get? b :=
    fun b hb => Heap.get?_update_other _ _ (Ne.symm hb)
  have notT : ∀ b o, s.heap.get? b = some o → (∀ ws, o.data ≠ .fields ws) → b ≠ T := by
    intro b o hb hnf q
    rw [q, hT] at hb
    cases hb
    exact hnf ts hdT
  unfold setFlight
  refine wpAny_bind (wpAny_field he hd h1 ?_)
  rw [if_pos (show (Value.ref T != Value.none) = true from by simp)]
  refine wpAny_setField hT hdT hs3 (h _ ⟨?_, hen, ?_, ?_⟩ fun b o hb hnf => ⟨o.slots, (oth b (notT b o hb hnf)).trans hb⟩)
  · exact fun b o hb => (oth b fun q => by rw [q, hnT] at hb; cases hb).trans (hkb b o hb)
  · exact hl.of_keeps fun b o hb hnf => ⟨o, (oth b (notT b o hb hnf)).trans hb, rfl⟩
  · exact ⟨oe, vs, T, _, _, (oth e (Ne.symm hTe)).trans he, hc, hd, h1, hnT, hTe, Heap.get?_update_self _ hT (Obj.isFreed_of_fields (Obj.data_mapFields hdT _)), Obj.data_mapFields hdT _, by simp [hs3]⟩
theorem FlyD.pop (x : FlyD base (env :: l) e cls dx fl s.heap) : FlyD base l e cls dx fl s.heap := ⟨x.1, x.2.1, x.2.2.1.2.2, x.2.2.2⟩
end
end
theorem apart_PExC : ∀ x : Nat, x = x := by
  w_top off
  k_with_none
  first | (walk1; done) | exact fun _ => rfl
section
theorem fr_mem {env : Env} {outer : List Env} {L b : Addr} (hf : env.frame = some L) (hm : b ∈ (env :: outer).filterMap (·.frame)) : b = L ∨ b ∈ outer.filterMap (·.frame) := by
  rw [List.filterMap_cons, hf] at hm
  exact List.mem_cons.mp hm
/-- an exception with a dict is on its way out of the frames l; G is the ground of the frame that it left -/
noncomputable def RaisedD (base G : Heap) (l : List Env) (e : Addr) (cls : Value) (dx : Addr) (news : List (Addr × Obj)) (h : Heap) : Prop :=
  ∃ B, base.StaysIn B ∧ (∀ b o, G.get? b = some o → b ∉ l.filterMap (·.frame) → B.get? b = some o) ∧ (∀ q ∈ news, B.get? q.1 = some q.2 ∧ G.get? q.1 = none ∧ base.get? q.1 = none) ∧ FlyD B l e cls dx .none h
section
variable {M : Model} {A : Around} {E : Value → Shared → Prop} {s' : Shared} {base g g₂ : Heap} {env : Env} {outer : List Env} {L e dx : Addr} {m : PySem.Str → Option Value} {Q : Unit → Shared → Prop} {news news' : List (Addr × Obj)}
theorem leave_raiseD {oe : Obj} {vs : Array Value} (K : Below A base outer g) (F : Fr g L s'.heap m) (N : News g L s'.heap news) (hf : env.frame = some L) (hk : env.scope.kind = .function)
    (he : (e, oe) ∈ news) (hd : oe.data = .fields vs) (h1 : vs[1]? = some .none) (hdx : oe.dict = some dx) (hs : ∀ q ∈ news', q ∈ news ∧ q.1 ≠ e)
    (hQ : ∀ h', RaisedD base g outer e oe.cls dx news' h' → g.UpToSlots h' → Q () { s' with heap := h' }) :
    wpAny M (A.deeper env) (leaving env (.ref e)) Q E s' := by
  have K' := pushX K F hf hk
  obtain ⟨e0, eL, eg⟩ := N _ he
  have eb : base.get? e = none := fresh_of_stays K.stays eg
  have hin : ∀ env' ∈ env :: outer, ∀ b, env'.frame = some b → b ∈ e :: (env :: outer).filterMap (·.frame) :=
    fun env' he' b hb => List.mem_cons_of_mem _ (List.mem_filterMap.mpr ⟨env', he', hb⟩)
  have st : base.StaysIn (hideAll s'.heap (e :: (env :: outer).filterMap (·.frame))) := by
    intro b o q
    refine hideAll_get _ (K'.stays b o q) fun hm => ?_
    rcases List.mem_cons.mp hm with z | hm
    · rw [z, eb] at q; cases q
    · rw [(K'.frames.mem hm).1] at q; cases q
  have sg : ∀ b o, g.get? b = some o → b ∉ outer.filterMap (·.frame) → (hideAll s'.heap (e :: (env :: outer).filterMap (·.frame))).get? b = some o := by
    intro b o q nm
    refine hideAll_get _ (F.keep b o q) fun hm => ?_
    rcases List.mem_cons.mp hm with z | hm
    · rw [z, eg] at q; cases q
    · rcases fr_mem hf hm with z | z
      · rw [z, kts_self F] at q; cases q
      · exact nm z
  have sn : ∀ q ∈ news', (hideAll s'.heap (e :: (env :: outer).filterMap (·.frame))).get? q.1 = some q.2 ∧ g.get? q.1 = none ∧ base.get? q.1 = none := by
    intro q hq
    obtain ⟨hq, hqe⟩ := hs q hq
    obtain ⟨n1, n2, n3⟩ := N q hq
    refine ⟨hideAll_get _ n1 fun hm => ?_, n3, fresh_of_stays K.stays n3⟩
    rcases List.mem_cons.mp hm with z | hm
    · exact hqe z
    · rcases fr_mem hf hm with z | z
      · exact n2 z
      · obtain ⟨_, o, ho, _⟩ := K.frames.mem z
        rw [n3] at ho; cases ho
  unfold leaving
  refine wpAny_bind (note_firstD K'.stack (funFrames_hide K'.frames hin) hf e0 (fun b o q => of_hideAll _ q) (hideAll_none _ (.head _)) hd h1 hdx fun h₁ x u => ?_)
  refine flightD x fun h₂ y u₂ => ?_
  exact hQ h₂ ⟨_, st, sg, sn, ⟨y.1, y.2.1, y.2.2.1.2.2, y.2.2.2⟩⟩ (((Heap.UpToSlots.of_keeps F.keep).trans u).trans u₂)
theorem leave_onD {cls : Value} (K : Below A base outer g) (F : Fr g L g₂ m) (hf : env.frame = some L) (R : RaisedD base g₂ (env :: outer) e cls dx news s'.heap) (hsm : g₂.UpToSlots s'.heap)
    (hQ : ∀ h', RaisedD base g outer e cls dx news h' → g.UpToSlots h' → Q () { s' with heap := h' }) :
    wpAny M (A.deeper env) (leaving env (.ref e)) Q E s' := by
  obtain ⟨B, hB, hBG, hl, hfl⟩ := R
  unfold leaving
  refine wpAny_bind (note_nextD (Around.frames_deeper K.stack) hf hfl fun h₁ x u => flightD x fun h₂ y u₂ => ?_)
  refine hQ h₂ ⟨B, hB, fun b o q nm => hBG b o (F.keep b o q) fun hm => ?_, fun q hq => ⟨(hl q hq).1, kts_none F.keep (hl q hq).2.1, (hl q hq).2.2⟩, ⟨y.1, y.2.1, y.2.2.1.2.2, y.2.2.2⟩⟩ ((Heap.UpToSlots.of_keeps F.keep).trans ((hsm.trans u).trans u₂))
  rcases fr_mem hf hm with z | z
  · rw [z, kts_self F] at q; cases q
  · exact nm z
end
section
variable {prog : Program} {w : World} {A₀ A : Around} {s : Shared} {base h₀ : Heap} {env : Env} {L : Addr} {m : PySem.Str → Option Value} {news : List (Addr × Obj)} {K : Frag} {p : Program} {loose : List PySem.Str} {mean : ExcName → Option Value} {mg mb : PySem.Str → Option Value}
    {R : Result → Shared → Prop} {name qual : PySem.Str} {params : Arguments} {body : List Stmt} {scope : Scope} {dV kV doc pm cdv ct oc : Value} {an od : Option Addr} {osl : Array (Option Value)} {f : Addr} {args : Args} {binds : List (PySem.Str × Value)}
/-- a def that catches, called from the first frame (which may have cells) -/
theorem enterT (B : Below A₀ base [] h₀) (F : Fr h₀ L s.heap m) (X₀ : K.In h₀) (N : News h₀ L s.heap news) (T : Top p loose mean mg mb h₀) (hA : A.frames = some [env]) (hf : env.frame = some L) (hke : env.scope.kind = .function)
    (ho : K.lookup f = some ⟨oc, od, .func (fnOf name qual params body scope dV kV doc pm an cdv ct), osl⟩) (hcd : codeIn K cdv qual = true) (hroom : A.depth < recursionLimit)
    (hbind : BindsTo s (fnOf name qual params body scope dV kV doc pm an cdv ct) args binds) (hloc : ∀ y ∈ binds, scope.names.lookup y.1 = some .local)
    (h : ∀ g L' h₁, Fr h₀ L g m → Fr g L' h₁ (fun y => binds.reverse.lookup y) → News g L' h₁ news → Below A base [env] g → K.In g → Top p loose mean mg mb g →
      wpAny (model prog w) (A.deeper (envOf qual scope L' f cdv)) (execs body (envOf qual scope L' f cdv))
        (fun fl s' => LeaveS0 [L] h₀ L m g R (match fl with | .ret v => v | _ => .none) s')
        (fun e s' => wpAny (model prog w) (A.deeper (envOf qual scope L' f cdv)) (leaving (envOf qual scope L' f cdv) e) (fun _ s'' => R (.error e) s'') (fun e' s'' => R (.error e') s'') s')
        { s with heap := h₁, toks := s.toks + binds.length })
    (hco : scope.isCoroutine = false) (hgen : scope.isGenerator = false) (hk : scope.kind = .function)
    (hcell : ∀ x ∈ scope.names, x.2 ≠ .cell) : codeAny (model prog w) A (.call (.ref f) args) R s := by
  have X := X₀.keeps F.keep
  refine codeAny_call_def (fd := fnOf name qual params body scope dV kV doc pm an cdv ct) (body := body) (binds := binds) hroom (X _ _ ho) rfl (T.nolimit.keeps F.keep) (codeRec_of X hcd) rfl hbind hcell hloc (fun h₁ hns hk₁ => ?_) hco hgen hk
  obtain ⟨FG, BG, st, lv⟩ := groundX (R := R) B F N hA hf hke
  refine wpAny_mono (h _ s.heap.objs.size h₁ FG ⟨hns, fun b o e => hk₁ b o (of_hideAll _ e), Nat.le_of_eq (hideAll_size _ _)⟩
    (fun p hp => ⟨hk₁ _ _ (N p hp).1, Nat.ne_of_lt (Heap.lt_size (N p hp).1), hideAll_none _ (List.mem_map_of_mem hp)⟩) BG (X₀.keeps st) (T.keeps st)) (fun fl s' hl => ?_) fun _ _ y => y
  obtain ⟨g', L', m', news', T', F', N', k⟩ := hl
  obtain ⟨oL, es, ep, hLg, hLd, hLk, hLf⟩ := FG.ns
  have nL : h₀.get? L = none := kts_self F
  obtain ⟨sl, hs⟩ := T'.up hLg
  have old : ∀ b o, h₀.get? b = some o → g'.get? b = some o := fun b o e => T'.other b o (st b o e) fun q => by
    rw [List.mem_singleton.mp q, nL] at e; cases e
  refine k ⟨⟨_, es, ep, F'.keep _ _ hs, hLd, hLk, hLf⟩, fun b o e => F'.keep b o (old b o e), F.above⟩ fun p hp => ⟨(N' p hp).1, fun q => ?_, ?_⟩
  · have := (N' p hp).2.2
    rw [q, hs] at this; cases this
  · cases q : h₀.get? p.1 with
    | none => rfl
    | some o =>
      have := (N' p hp).2.2
      rw [old _ _ q] at this; cases this
end
section
variable {prog : Program} {w : World} {A₀ : Around} {E : Value → Shared → Prop} {s' : Shared} {base g g₀ G : Heap} {outer : List Env} {L a e dx C : Addr} {m : PySem.Str → Option Value} {name : PySem.Str} {scope : Scope} {cd : Value}
  {n : PySem.Str} {b₀ : Stmt} {suite : List Stmt} {pos np : Pos} {rest : List ExceptHandler} {Q : Flow → Shared → Prop} {news : List (Addr × Obj)} {KF : Frag}
  {p : Program} {loose : List PySem.Str} {mean : ExcName → Option Value} {mg mb : PySem.Str → Option Value} {x : PySem.Str}
theorem caughtD (R : RaisedD base G (envOf name scope L a cd :: outer) e (.ref C) dx news s'.heap) (F : Fr g L G m) (K : Below A₀ base outer g) (hsm : G.UpToSlots s'.heap) (XB : KF.In base) (TB : Top p loose mean mg mb base)
    (T0 : KtsTurn (outer.filterMap (·.frame)) g₀ g)
    (ex : nsIn KF mainGlobals x = some (some (.ref C))) (q : ktsIn KF C "BaseException" = true)
    (k : ∀ h' g' oe ws tk, KtsTurn (outer.filterMap (·.frame)) g₀ g' → Fr g' L h' (fun y => if y = n then some (.ref e) else m y) → News g' L h' ((e, oe) :: news) → oe.cls = .ref C → oe.dict = some dx → oe.data = .fields ws → Below A₀ base outer g' → KF.In g' → Top p loose mean mg mb g' →
      wpAny (model prog w) ((A₀.deeper (envOf name scope L a cd)).mark (some (.ref e))) (execs (b₀ :: suite) (envOf name scope L a cd))
        (fun f s₄ => wpAny (model prog w) (A₀.deeper (envOf name scope L a cd)) (do bindName (envOf name scope L a cd) n .none; unbindBehindTheSuite (envOf name scope L a cd) n pos) (fun _ s₅ => Q f s₅) E s₄)
        (AsSuiteRaised (model prog w) ((A₀.deeper (envOf name scope L a cd)).mark (some (.ref e))) (envOf name scope L a cd) n pos (notedBy (model prog w) ((A₀.deeper (envOf name scope L a cd)).mark (some (.ref e))) (envOf name scope L a cd) (cameBackBy (model prog w) (A₀.deeper (envOf name scope L a cd)) (envOf name scope L a cd) E)))
        { s' with heap := h', toks := tk })
    (hk : scope.kind = .function := by rfl) (hlo : (envOf name scope L a cd).kindOf n = some .local := by rfl) (hx : (envOf name scope L a cd).kindOf x = some .globalImplicit := by rfl) (hd : (x == ("__debug__" : PySem.Str)) = false := by decide) :
    wpAny (model prog w) (A₀.deeper (envOf name scope L a cd)) (noteFrame (.ref e) (envOf name scope L a cd))
      (fun _ s₂ => wpAny (model prog w) (A₀.deeper (envOf name scope L a cd)) (setFlight (.ref e) none) (fun _ s₃ =>
        wpAny (model prog w) (A₀.deeper (envOf name scope L a cd)) (handleBy (.ref e) (envOf name scope L a cd) (.ExceptHandler (some (.Name x np)) (some n) (b₀ :: suite) pos :: rest)) Q E s₃) E s₂) E s' := by
  obtain ⟨B, hB, hBG, hl, hfl⟩ := R
  have hL : B.get? L = none := by
    obtain ⟨_, ⟨L', _, hf, hn', _⟩, _⟩ := hfl.2.2.1
    obtain rfl : L = L' := Option.some.inj hf
    exact hn'
  refine note_nextD (Around.frames_deeper K.stack) rfl hfl fun h₄ x₄ u₄ => ?_
  refine flightD x₄ fun h₅ x₅ u₅ => ?_
  have hsm₅ := hsm.trans (u₄.trans u₅)
  obtain ⟨g₅, T₅, F₅, K₅⟩ := kts_ground K F hBG x₅.1 hsm₅
  have X₅ : KF.In g₅ := XB.keeps K₅.stays
  have P₅ : TopRead p loose mg mb g₅ := topRead_of (TB.keeps K₅.stays)
  obtain ⟨oe, vs, _, _, _, heo, ⟨hec, _⟩, _⟩ := id x₅.2.2.2
  obtain ⟨nm, q', N, bs, bm, hdct, sn, sub, ab, col, dd, k0, k1, k2, k3, k5, newId, hC, hbase, hbT⟩ := kts_cls X₅ q
  have hC₅ := F₅.keep _ _ hC
  refine wpAny_handleBy_cons (codeAny_handlers_test (name_K F₅ X₅ P₅ ex ?_ hk hx hd)) (by intro q; cases q)
  refine wpAny_excMatches_sub_self hC₅ heo hec hbase (codeAny_handlers_suite_as ?_)
  refine flightD x₅ fun h₆ x₆ u₆ => ?_
  have hsm₆ := hsm₅.trans u₆
  obtain ⟨g₆, T₆, F₆, K₆⟩ := kts_ground K F hBG x₆.1 hsm₆
  obtain ⟨oe', ws, _, _, _, heo', ⟨hec', hed'⟩, hew', _⟩ := id x₆.2.2.2
  have ne₆ : g₆.get? e = none := T₆.none_ _ (kts_fresh F hBG x₆.2.1 fun o ho hm => by
    obtain ⟨_, o', ho', hd⟩ := K.frames.mem hm
    rw [ho] at ho'
    cases ho'
    obtain ⟨sl, hs⟩ := hsm₆ _ _ (F.keep _ _ ho) hd
    rw [heo'] at hs
    cases hs
    exact hd _ hew')
  have Nl : News g₆ L h₆ news := fun q hq => ⟨x₆.1 _ _ (hl q hq).1, (fun z => by have := (hl q hq).1; rw [z, hL] at this; cases this), T₆.none_ _ (kts_none F.keep (hl q hq).2.1)⟩
  have N₆ := News.more F₆ Nl heo' (fun es n q => by rw [hew'] at q; cases q) ne₆
  refine stN F₆ N₆ (fun h₇ F₇ N₇ => ?_) hk hlo
  exact k h₇ g₆ oe' ws _ (T0.trans T₆) F₇ N₇ hec' hed' hew' K₆ (XB.keeps K₆.stays) (TB.keeps K₆.stays)
end
end
theorem apart_PExD : ∀ x : Nat, x = x := by
  w_top off
  k_with_none
  first | (walk1; done) | exact fun _ => rfl
section
open PySem.Builtin PySem.Builtin.ObjectAttr
section
variable {prog : Program} {w : World} {A : Around} {E : Value → Shared → Prop} {h : Heap} {g : Array GenState} {d : Drawn} {t : Nat} {os : OsState}
variable {nm q : PySem.Str} {C N x : Addr} {bs bm : List Value} {sn : List PySem.Str} {sub : List Value} {ab : Bool} {col : Option Bool} {dd : Option Addr} {k0 k1 k2 k3 k5 : Option Value} {B newId sa owner : String}
  {mN : PySem.Str → Option Value} {name : PySem.Str} {v : Value} {o : Obj}
/-- the first attribute of an object that has no dict yet: its dict is made -/
theorem first_entry {tk : Tok} {Q : Fin → Shared → Prop} (SF : StoreFacts B bm sa owner)
    (hC : h.get? C = some (excClassObj nm q C N bs bm true sn sub ab col dd k0 k1 k2 k3 k5 newId)) (hn : h.Ns N mN) (hna : mN name = none)
    (hB : typeLookup (.type B) name = pure none) (hx : h.get? x = some o) (hc : o.cls = .ref C) (hnc : ∀ c, o.data ≠ .cls c) (hdn : o.dict = none)
    (hq : ∀ h' tk', h'.get? x = some { o with dict := some h.objs.size } → h'.Ns1 h.objs.size (fun y => if y = name then some v else none) →
      (∀ b ob, b ≠ x → h.get? b = some ob → h'.get? b = some ob) → Q (.done (.ret .none)) ⟨h', g, d, tk', os⟩) :
    wpAny (model prog w) A (Builtin.«object.__setattr__» ⟨[.ref x, .str name tk, v], []⟩) Q E ⟨h, g, d, t, os⟩ := by
  have hpass := SF.passes (.ref x)
  unfold Builtin.«object.__setattr__»
  repeat (first | rw [refuse_eq] | (rw [refuseLoop_ref, hpass]) | (with_reducible refine wpAny_loadPart_at hx ?_; rw [hc]) | with_reducible refine wpAny_mroOf_exc hC ?_ | (with_reducible refine wpAny_typeLookup_exc hC hn SF.mro hB ?_; rw [hna]) | wp_step)
  rw [hdn, if_neg (by simp [typeHasDict])]
  split
  · rename_i hcd
    cases hcd
  split
  · rename_i c hcd
    exact absurd hcd (hnc c)
  have g1 : (h.push { cls := .type "dict", data := .dict #[] }).get? x = some o := Heap.get?_push_of_some _ hx
  have hne : x ≠ h.objs.size := Nat.ne_of_lt (Heap.lt_size hx)
  refine wpAny_bind (wpAny_alloc' (wpAny_bind (wpAny_update' g1 (wpAny_pure ?_))))
  have g2 : ((h.push { cls := .type "dict", data := .dict #[] }).update x fun o => { cls := o.cls, dict := some h.objs.size, data := o.data, slots := o.slots }).get? h.objs.size
      = some { cls := .type "dict", data := .dict #[] } := (Heap.get?_update_ne _ _ _ _ hne.symm).trans (Heap.get?_push_at rfl rfl)
  show wpAny _ _ (storeInDict h.objs.size (.str name tk) name v) _ _ _
  unfold storeInDict newKeyGuard
  refine wpAny_bind (wpAny_pure (wpAny_bind (wpAny_nsSet1 (Heap.Ns1.of_empty ⟨_, #[], _, g2, rfl, fun e he => absurd he (by simp), fun _ => rfl⟩) fun h' hn' hs => ?_)))
  obtain ⟨oD, esD, epD, hoD, hdD, hcD⟩ := hn'.count (Within.cons name v Within.nil)
  refine wpAny_bind (wpAny_lookBehind hoD (by rw [hdD]; exact pastItsLine_dict (Nat.le_trans hcD (by rw [List.length_cons, List.length_nil, sizeLine_eq]; omega))) ?_)
  wp_walk
  refine hq h' _ ?_ hn' fun b ob hbx hb => ?_
  · refine (hs.2 x hne).trans (Heap.get?_update_self _ g1 ?_)
    have hfr := (Heap.get?_some_iff.mp hx).2
    obtain ⟨oc, od, odt, osl⟩ := o
    cases odt <;> first | rfl | exact hfr
  · exact (hs.2 b (Nat.ne_of_lt (Heap.lt_size hb))).trans ((Heap.get?_update_ne _ _ _ _ hbx).trans (Heap.get?_push_of_some _ hb))
theorem first_attr {Q : Unit → Shared → Prop} (SF : StoreFacts B bm sa owner)
    (hC : h.get? C = some (excClassObj nm q C N bs bm true sn sub ab col dd k0 k1 k2 k3 k5 newId)) (hn : h.Ns N mN) (hns : mN "__setattr__" = none) (hna : mN name = none)
    (hB : typeLookup (.type B) name = pure none) (hx : h.get? x = some o) (hc : o.cls = .ref C) (hnc : ∀ c, o.data ≠ .cls c) (hdn : o.dict = none)
    (hq : ∀ h' tk', h'.get? x = some { o with dict := some h.objs.size } → h'.Ns1 h.objs.size (fun y => if y = name then some v else none) →
      (∀ b ob, b ≠ x → h.get? b = some ob → h'.get? b = some ob) → Q () ⟨h', g, d, tk', os⟩) :
    wpAny (model prog w) A (setAttr (.ref x) name v) Q E ⟨h, g, d, t, os⟩ := by
  have f3 := SF.slot.bind (.ref x)
  unfold setAttr callSpecial? specialOf
  repeat (any_goals (first | assumption | (with_reducible refine wpAny_loadPart_at hx ?_; rw [hc]) | (with_reducible refine wpAny_typeLookup_exc hC hn SF.mro SF.slot.lookup ?_; rw [hns]) | wp_step))
  refine codeAny_call_builtin SF.slot.plain SF.entry (wpAny_check_sa SF hC hx hc (first_entry SF hC hn hna hB hx hc hnc hdn fun h' tk' a b c => ?_))
  repeat (any_goals (first | assumption | wp_step))
  exact hq h' tk' a b c
end
end
theorem apart_PExE : ∀ x : Nat, x = x := by
  w_top off
  k_with_none
  first | (walk1; done) | exact fun _ => rfl
section
theorem ns_some_of {K : Frag} {h : Heap} {N : Addr} {mg : PySem.Str → Option Value} {n : PySem.Str} {v : Value} (X : K.In h) (G : h.Ns N mg) (e : nsIn K N n = some (some v)) : mg n = some v := by
  obtain ⟨o, es, ep, ho, hd, _, hf⟩ := G
  unfold nsIn at e
  split at e
  · rename_i c d es' n' sl q
    have := X _ _ q
    rw [ho] at this
    cases this
    cases hd
    split at e
    · rename_i en he
      cases e
      rw [← hf]
      unfold nsFind findBy
      rw [← Array.find?_toList, he]
      rfl
    · split at e <;> cases e
  · cases e
/-- LispSignal, as the text's top leaves it -/
structure Sig (K : Frag) (nm q : PySem.Str) (N : Addr) (bs : List Value) (sn : List PySem.Str) (sub : List Value) (ab : Bool) (col : Option Bool) (dd : Option Addr) (k0 k1 k2 k3 k5 : Option Value) : Prop where
  obj : K.lookup 38 = some (excClassObj nm q 38 N bs [.type "Exception", .type "BaseException", .type "object"] true sn sub ab col dd k0 k1 k2 k3 k5 "Exception.__new__")
  ok : nsOkIn K N = true
  init : nsIn K N "__init__" = some (some (.ref 35))
  sa : nsIn K N "__setattr__" = some none
  ga : nsIn K N "__getattribute__" = some none
  gb : nsIn K N "__getattr__" = some none
  sy : nsIn K N "symbol" = some none
  da : nsIn K N "data" = some none
theorem cls38 (P : PySem.Params) : ∃ nm q N bs sn sub ab col dd k0 k1 k2 k3 k5, Sig (hd.heap_39 P) nm q N bs sn sub ab col dd k0 k1 k2 k3 k5 := by
  refine' ⟨_, _, _, _, _, _, _, _, _, _, _, _, _, _, ⟨?h, ?a, ?b, ?c, ?d, ?e, ?f, ?g⟩⟩
  case h => with_unfolding_all exact rfl
  all_goals with_unfolding_all exact rfl
noncomputable def NsD (o : Obj) (m : PySem.Str → Option Value) : Prop := ∃ es ep, o.data = .dict es ep ∧ StrKeys es ∧ UniqKeys es ∧ ∀ name, nsFind es name = m name
theorem NsD.at {o : Obj} {m : PySem.Str → Option Value} {h : Heap} {a : Addr} (x : NsD o m) (e : h.get? a = some o) : h.Ns1 a m := let ⟨es, ep, r⟩ := x; ⟨o, es, ep, e, r⟩
theorem NsD.of {m : PySem.Str → Option Value} {h : Heap} {a : Addr} (x : h.Ns1 a m) : ∃ o, h.get? a = some o ∧ NsD o m := let ⟨o, es, ep, e, r⟩ := x; ⟨o, e, es, ep, r⟩
theorem sy_none : typeLookup (.type "Exception") "symbol" = pure none := by rw [typeLookup_type, builtinLookup_eq_fast]; kernel_rfl
theorem da_none : typeLookup (.type "Exception") "data" = pure none := by rw [typeLookup_type, builtinLookup_eq_fast]; kernel_rfl
section
variable {prog : Program} {w : World} {A : Around} {E : Value → Shared → Prop} {s : Shared} {h₀ : Heap} {L e dx : Addr} {m : PySem.Str → Option Value} {news : List (Addr × Obj)} {f : Obj → List (Addr × Obj)} {oe oD : Obj} {K : Frag} {vs : Array Value}
  {nm q : PySem.Str} {N : Addr} {bs : List Value} {sn : List PySem.Str} {sub : List Value} {ab : Bool} {col : Option Bool} {dd : Option Addr} {k0 k1 k2 k3 k5 : Option Value} {v v' : Value}
theorem set_firstK (S : Sig K nm q N bs sn sub ab col dd k0 k1 k2 k3 k5) (F : Fr h₀ L s.heap m) (X : K.In h₀) (Nw : News h₀ L s.heap news) (U : UpdF e oe news f) (hc : oe.cls = .ref 38) (hd : oe.data = .fields vs) (hdn : oe.dict = none) {Q : Unit → Shared → Prop}
    (h : ∀ h' dx oD tk', Fr h₀ L h' m → News h₀ L h' ((dx, oD) :: f { oe with dict := some dx }) → NsD oD (fun y => if y = "symbol" then some v else none) → (∀ p ∈ news, @LT.lt Nat _ p.1 dx) → Q () { s with heap := h', toks := tk' }) :
    wpAny (model prog w) A (setAttr (.ref e) "symbol" v) Q E s := by
  have Xs := X.keeps F.keep
  have hN : s.heap.Ns N (s.heap.nsMap N) := .of_isNs (isNs_of_in Xs S.ok)
  obtain ⟨pre, post, hl, hf, hp1, hp2⟩ := U.split
  have he := Nw (e, oe) (by rw [hl]; simp)
  obtain ⟨hp, g, d, t, os⟩ := s
  refine first_attr PySem.F.store_Exception (Xs _ _ S.obj) hN (ns_none_of Xs hN S.sa) (ns_none_of Xs hN S.sy) sy_none he.1 hc (fun c q => by rw [hd] at q; cases q) hdn fun h' tk' a b c => ?_
  have hLs : @LT.lt Nat _ L hp.objs.size := F.ns.lt
  obtain ⟨oD, o1, o2⟩ := NsD.of b
  refine h h' hp.objs.size oD tk' ⟨?_, fun b ob hb => c b ob (fun q => by rw [q, he.2.2] at hb; cases hb) (F.keep b ob hb), F.above⟩ (fun p hp' => ?_) o2 (fun p hp' => Heap.lt_size (Nw p hp').1)
  · obtain ⟨oL, es, ep, hL, r⟩ := F.ns
    exact ⟨oL, es, ep, c _ _ (fun q => he.2.1 q.symm) hL, r⟩
  · rcases List.mem_cons.mp hp' with rfl | hp'
    · exact ⟨o1, Nat.ne_of_gt hLs, none_at_size F⟩
    · rw [hf] at hp'
      rcases List.mem_append.mp hp' with hp' | hp'
      · have n := Nw p (by rw [hl]; exact List.mem_append_left _ hp')
        exact ⟨c _ _ (hp1 p hp') n.1, n.2⟩
      · rcases List.mem_cons.mp hp' with rfl | hp'
        · exact ⟨a, he.2⟩
        · have n := Nw p (by rw [hl]; exact List.mem_append_right _ (.tail _ hp'))
          exact ⟨c _ _ (hp2 p hp') n.1, n.2⟩
theorem set_nextK (S : Sig K nm q N bs sn sub ab col dd k0 k1 k2 k3 k5) (F : Fr h₀ L s.heap m) (X : K.In h₀) (Nw : News h₀ L s.heap news) (U : UpdF dx oD news f) (hm : (e, oe) ∈ news) (hne : e ≠ dx) (hc : oe.cls = .ref 38) (hd : oe.data = .fields vs) (hdn : oe.dict = some dx)
    (hD : NsD oD (fun y => if y = "symbol" then some v else none)) {Q : Unit → Shared → Prop}
    (h : ∀ h' oD' tk', Fr h₀ L h' m → News h₀ L h' (f oD') → NsD oD' (fun y => if y = "data" then some v' else if y = "symbol" then some v else none) → Q () { s with heap := h', toks := tk' }) :
    wpAny (model prog w) A (setAttr (.ref e) "data" v') Q E s := by
  have Xs := X.keeps F.keep
  have hN : s.heap.Ns N (s.heap.nsMap N) := .of_isNs (isNs_of_in Xs S.ok)
  obtain ⟨pre, post, hl, hf, hp1, hp2⟩ := U.split
  have he := Nw _ hm
  have hdx := Nw (dx, oD) (by rw [hl]; simp)
  have hC := Xs _ _ S.obj
  obtain ⟨hp, g, d, t, os⟩ := s
  have hxC : e ≠ 38 := fun q => by
    have := he.2.2
    rw [q, X _ _ S.obj] at this
    cases this
  refine store_attr PySem.F.store_Exception hC hN (ns_none_of Xs hN S.sa) (ns_none_of Xs hN S.da) da_none hxC
    ⟨oe, he.1, hc, (fun c q => by rw [hd] at q; cases q), .inr ⟨dx, hdn, fun q => hne q.symm, hD.at hdx.1⟩⟩ (fun h' tk' a kb c => ?_)
  obtain ⟨o₁, c1, c2, c3, c4, c5⟩ := c oe he.1
  have c6 := c5 dx hdn
  have e1 : o₁ = oe := by
    obtain ⟨p1, p2, p3, p4⟩ := o₁
    obtain ⟨q1, q2, q3, q4⟩ := oe
    simp only at c2 c3 c4 c6 hdn
    subst c2 c3 c4
    rw [c6, hdn]
  have kp : ∀ b ob, b ≠ dx → hp.get? b = some ob → h'.get? b = some ob := by
    intro b ob hb hob
    by_cases hbe : b = e
    · subst hbe
      have := he.1
      simp only at this
      rw [this] at hob
      cases hob
      rw [c1, e1]
    · exact kb b ob hbe (fun o₀ d₀ x y => by
        have := he.1
        simp only at this
        rw [this] at x
        cases x
        rw [hdn] at y
        cases y
        exact hb) hob
  obtain ⟨o2, a1, a2, a3, a4⟩ := a
  have e2 : o2 = oe := by rw [c1] at a1; cases a1; exact e1
  subst e2
  rcases a4 with ⟨z, _⟩ | ⟨d', z, z2, z3⟩
  · rw [hdn] at z; cases z
  rw [hdn] at z
  cases z
  obtain ⟨oD', o1, o2⟩ := NsD.of z3
  refine h h' oD' tk' ⟨?_, fun b ob hb => kp b ob (fun q => by rw [q, hdx.2.2] at hb; cases hb) (F.keep b ob hb), F.above⟩ (fun p hp' => ?_) o2
  · obtain ⟨oL, es, ep, hL, r⟩ := F.ns
    exact ⟨oL, es, ep, kp _ _ (fun q => hdx.2.1 q.symm) hL, r⟩
  · rw [hf] at hp'
    rcases List.mem_append.mp hp' with hp' | hp'
    · have n := Nw p (by rw [hl]; exact List.mem_append_left _ hp')
      exact ⟨kp _ _ (hp1 p hp') n.1, n.2⟩
    · rcases List.mem_cons.mp hp' with rfl | hp'
      · exact ⟨o1, hdx.2⟩
      · have n := Nw p (by rw [hl]; exact List.mem_append_right _ (.tail _ hp'))
        exact ⟨kp _ _ (hp2 p hp') n.1, n.2⟩
theorem get_symbolK (S : Sig K nm q N bs sn sub ab col dd k0 k1 k2 k3 k5) (F : Fr h₀ L s.heap m) (X : K.In h₀) (Nw : News h₀ L s.heap news) (hm : (e, oe) ∈ news) (hm2 : (dx, oD) ∈ news) (hne : e ≠ dx) (hc : oe.cls = .ref 38) (hd : oe.data = .fields vs) (hdn : oe.dict = some dx)
    {mD : PySem.Str → Option Value} (hD : NsD oD mD) {sy : PySem.Str} {tk : Tok} (hv : mD "symbol" = some (.str sy tk)) {expr : Bool} {Q : Value → Shared → Prop} (h : ∀ tk', Q (.str sy tk) { s with toks := tk' }) :
    wpAny (model prog w) A (getAttr (.ref e) "symbol" expr) Q E s := by
  have Xs := X.keeps F.keep
  have hN : s.heap.Ns N (s.heap.nsMap N) := .of_isNs (isNs_of_in Xs S.ok)
  have he := Nw _ hm
  have hdx := Nw _ hm2
  obtain ⟨hp, g, d, t, os⟩ := s
  exact exc_load_attr (Xs _ _ S.obj) hN (ns_none_of Xs hN S.ga) (ns_none_of Xs hN S.gb) (ns_none_of Xs hN S.sy) sy_none
    ⟨oe, he.1, hc, (fun c q => by rw [hd] at q; cases q), .inr ⟨dx, hdn, fun q => hne q.symm, hD.at hdx.1⟩⟩ hv rfl (h _)
end
end
theorem apart_PAst : ∀ x : Nat, x = x := by
  w_top off
  k_with_none
  first | (walk1; done) | exact fun _ => rfl
section
noncomputable def lastS : List Stmt → Stmt → Stmt
  | [], d => d
  | s :: r, _ => lastS r s
noncomputable def bodyOf : Stmt → List Stmt
  | .FunctionDef _ _ b _ _ _ _ _ _ _ => b
  | .For _ _ b _ _ => b
  | .If _ b _ _ => b
  | _ => []
noncomputable def scopeOf : Stmt → Scope
  | .FunctionDef _ _ _ _ _ _ sc _ _ _ => sc
  | _ => default
noncomputable def nthS : List Stmt → Nat → Stmt
  | [], _ => .Pass default
  | s :: _, 0 => s
  | _ :: r, n + 1 => nthS r n
noncomputable def lamOf : Stmt → Arguments × PySem.Expr × Scope
  | .If (.Compare (.Call _ [.Lambda a b sc _] _ _) _ _ _) _ _ _ => (a, b, sc)
  | _ => default
noncomputable def lamPosOf : Stmt → Pos
  | .If (.Compare (.Call _ [.Lambda _ _ _ q] _ _) _ _ _) _ _ _ => q
  | _ => default
noncomputable def lawStmt : Stmt := lastS PySem.Challenge.pw_ok0060_01.main.body (.Pass default)
noncomputable def lapStmt : Stmt := nthS (bodyOf lawStmt) 6
noncomputable def dropS : Nat → List Stmt → List Stmt
  | 0, l => l
  | _, [] => []
  | n + 1, _ :: r => dropS n r
@[reducible] noncomputable def lawScopeS : { x : Scope // x = scopeOf lawStmt } := by
  refine' ⟨_, ?h⟩
  case h =>
    conv => rhs; whnf
@[reducible] noncomputable def lawBodyS : { x : List Stmt // x = bodyOf lawStmt } := by
  refine' ⟨_, ?h⟩
  case h =>
    conv => rhs; whnf
@[reducible] noncomputable def restS : { x : List Stmt // x = dropS 4 (bodyOf lawStmt) } := by
  refine' ⟨_, ?h⟩
  case h =>
    conv => rhs; whnf
@[reducible] noncomputable def lapBodyS : { x : List Stmt // x = bodyOf lapStmt } := by
  refine' ⟨_, ?h⟩
  case h =>
    conv => rhs; whnf
@[reducible] noncomputable def lamBodyS : { x : PySem.Expr // x = (lamOf (nthS (bodyOf lapStmt) 5)).2.1 } := by
  refine' ⟨_, ?h⟩
  case h =>
    conv => rhs; whnf
@[reducible] noncomputable def lamScopeS : { x : Scope // x = (lamOf (nthS (bodyOf lapStmt) 5)).2.2 } := by
  refine' ⟨_, ?h⟩
  case h =>
    conv => rhs; whnf
@[reducible] noncomputable def lamArgsS : { x : Arguments // x = (lamOf (nthS (bodyOf lapStmt) 5)).1 } := by
  refine' ⟨_, ?h⟩
  case h =>
    conv => rhs; whnf
@[reducible] noncomputable def lamPosS : { x : Pos // x = lamPosOf (nthS (bodyOf lapStmt) 5) } := by
  refine' ⟨_, ?h⟩
  case h =>
    conv => rhs; whnf
@[reducible] noncomputable def lamPos : Pos := lamPosS.1
@[reducible] noncomputable def lawScope : Scope := lawScopeS.1
@[reducible] noncomputable def lawRest : List Stmt := restS.1
@[reducible] noncomputable def lapBody : List Stmt := lapBodyS.1
@[reducible] noncomputable def lamBody : PySem.Expr := lamBodyS.1
@[reducible] noncomputable def lamScope : Scope := lamScopeS.1
@[reducible] noncomputable def lamArgs : Arguments := lamArgsS.1
noncomputable def takeS : Nat → List Stmt → List Stmt
  | 0, _ => []
  | _, [] => []
  | n + 1, s :: r => s :: takeS n r
@[reducible] noncomputable def lapAS : { x : List Stmt // x = takeS 6 lapBody } := by
  refine' ⟨[_, _, _, _, _, _], ?h⟩
  case h => exact rfl
@[reducible] noncomputable def lapBS : { x : List Stmt // x = dropS 6 lapBody } := by
  refine' ⟨_, ?h⟩
  case h =>
    conv => rhs; whnf
@[reducible] noncomputable def lapA : List Stmt := lapAS.1
@[reducible] noncomputable def lapB : List Stmt := lapBS.1
@[reducible] noncomputable def plBodyS : { x : List Stmt // x = bodyOf (nthS (bodyOf lawStmt) 5) } := by
  refine' ⟨_, ?h⟩
  case h =>
    conv => rhs; whnf
@[reducible] noncomputable def plBody : List Stmt := plBodyS.1
noncomputable def valueOf : Stmt → PySem.Expr
  | .Assign _ v _ => v
  | _ => default
@[reducible] noncomputable def behES : { x : PySem.Expr // x = valueOf (nthS plBody 0) } := by
  refine' ⟨_, ?h⟩
  case h =>
    conv => rhs; whnf
@[reducible] noncomputable def aheES : { x : PySem.Expr // x = valueOf (nthS plBody 1) } := by
  refine' ⟨_, ?h⟩
  case h =>
    conv => rhs; whnf
@[reducible] noncomputable def behE : PySem.Expr := behES.1
@[reducible] noncomputable def aheE : PySem.Expr := aheES.1
@[reducible] noncomputable def tailBS : { x : List Stmt // x = dropS 6 (bodyOf lawStmt) } := by
  refine' ⟨_, ?h⟩
  case h =>
    conv => rhs; whnf
@[reducible] noncomputable def tailAS : { x : List Stmt // x = takeS 2 (dropS 4 (bodyOf lawStmt)) } := by
  refine' ⟨[_, _], ?h⟩
  case h => exact rfl
@[reducible] noncomputable def headS : { x : List Stmt // x = takeS 4 (bodyOf lawStmt) } := by
  refine' ⟨[_, _, _, _], ?h⟩
  case h => exact rfl
@[reducible] noncomputable def tailB : List Stmt := tailBS.1
@[reducible] noncomputable def tailA : List Stmt := tailAS.1
@[reducible] noncomputable def headL : List Stmt := headS.1
@[reducible] noncomputable def lawBody : List Stmt := lawBodyS.1
theorem law_split : lawBody = headL ++ (tailA ++ tailB) := by exact rfl
theorem rest_split : lawRest = tailA ++ tailB := by exact rfl
theorem lap_split : lapBody = lapA ++ lapB := by exact rfl
theorem execs_app_wp {M : Model} {A : Around} {E : Value → Shared → Prop} {env : Env} {Q : Flow → Shared → Prop} {l₂ : List Stmt} {Γ : Ctx} (hΓ : Γ.In A) : ∀ (l₁ : List Stmt) (p : Pos) (s : Shared),
    Sem.wp M Γ (execs l₁ env) (fun f _ s' => match f with | .next => wpAny M A (execs l₂ env) Q E s' | f => Q f s') (fun e _ s' => E e s') p s → Sem.wp M Γ (execs (l₁ ++ l₂) env) (fun f _ s' => Q f s') (fun e _ s' => E e s') p s
  | [], p, s, h => by
    have h' : wpAny M A (execs l₂ env) Q E s := h
    exact h' Γ p hΓ
  | st :: r, p, s, h => by
    rw [List.cons_append]
    rw [execs_cons, Sem.wp_bind'] at h ⊢
    refine Sem.wp_mono M Γ (exec st env) (fun f p' s' h3 => ?_) (fun _ _ _ h3 => h3) p s h
    cases f
    case next => exact execs_app_wp hΓ r p' s' h3
    all_goals exact h3
theorem execs_app {M : Model} {A : Around} {E : Value → Shared → Prop} {env : Env} {Q : Flow → Shared → Prop} {l₂ : List Stmt} (l₁ : List Stmt) {s : Shared}
    (h : wpAny M A (execs l₁ env) (fun f s' => match f with | .next => wpAny M A (execs l₂ env) Q E s' | f => Q f s') E s) : wpAny M A (execs (l₁ ++ l₂) env) Q E s :=
  fun Γ p hΓ => execs_app_wp hΓ l₁ p s (h Γ p hΓ)
end
local macro_rules | `(tactic| k_updF) => `(tactic| first | (refine' UpdF.head ?a; (case a => k_all)) | (refine' UpdF.tail ?a ?b; (case b => k_updF); (case a => k_ne)))
local macro_rules | `(tactic| units_room) => `(tactic| ktr_units)
local macro_rules | `(tactic| k_units) => `(tactic| ktr_units)
local macro_rules | `(tactic| k_room) => `(tactic| ktr_room)
local macro_rules | `(tactic| k_enter) => `(tactic| (refine' code_def ?k1 ?k2 ?k3 ?k4 ?k5 ?kA ?kF ?kK ?k6 ?k7 ?k8 ?k9 ?kB ?_ ?c2 ?c3 ?c4 ?c5; (case kA => exact rfl); (case kF => exact rfl); (case kK => first | exact rfl | assumption); (case k1 => k_asm); (case k2 => k_asm); (case k3 => k_asm); (case k4 => k_asm); (case k5 => k_asm); (case k6 => k_is); (case k7 => k_is); (case k8 => ktr_room); (case k9 => first | exact BindsTo.of_eq rfl | exact binds_K (by k_in) rfl (by k_is) rfl rfl rfl); (case c5 => decide); (case kB => exact locs rfl); (case c2 => exact rfl); (case c3 => exact rfl); (case c4 => exact rfl); k_whole; intro g' L' h' FG' F' N' B' X' T'; (try dsimp only); (try k_lift B'); (try k_fold)))
theorem apart_P2 : ∀ x : Nat, x = x := by
  w_top off
  k_with_none
  first | (walk1; done) | exact fun _ => rfl
section
section
theorem lt_ofAll {d : Addr} (l : List (Addr × Obj)) (h : AllLt d l) : ∀ p ∈ l, @LT.lt Nat _ p.1 d := by
  induction l with
  | nil => intro p hp; cases hp
  | cons a r ih =>
    intro p hp
    rcases List.mem_cons.mp hp with e | hp
    · rw [e]; exact h.1
    · exact ih h.2 p hp
structure BToks where
  k0 : Tok
  k1 : Tok
  k2 : Tok
  k3 : Tok
  k4 : Tok
  k5 : Tok
  k6 : Tok
  k7 : Tok
  k8 : Tok
  k9 : Tok
  k10 : Tok
  k11 : Tok
  k12 : Tok
  k13 : Tok
  k14 : Tok
  k15 : Tok
  k16 : Tok
  k17 : Tok
  k18 : Tok
  k19 : Tok
  v0 : Tok
  v1 : Tok
  v4 : Tok
  v5 : Tok
  v6 : Tok
  v10 : Tok
  v11 : Tok
  v12 : Tok

noncomputable abbrev bufO (w : World) (T : BToks) (t mk ls : Addr) (point begv zv ticks ct : Int) : Obj := PySem.W.dictOf [{ hash := PyData.keyHash w.params "number", key := .str "number" T.k0, val := .int 1 T.v0 },
    { hash := PyData.keyHash w.params "name", key := .str "name" T.k1, val := .str "text" T.v1 },
    { hash := PyData.keyHash w.params "text", key := .str "text" T.k2, val := .ref t },
    { hash := PyData.keyHash w.params "markers", key := .str "markers" T.k3, val := .ref mk },
    { hash := PyData.keyHash w.params "point", key := .str "point" T.k4, val := .int point T.v4 },
    { hash := PyData.keyHash w.params "begv", key := .str "begv" T.k5, val := .int begv T.v5 },
    { hash := PyData.keyHash w.params "zv", key := .str "zv" T.k6, val := .int zv T.v6 },
    { hash := PyData.keyHash w.params "mark", key := .str "mark" T.k7, val := .none },
    { hash := PyData.keyHash w.params "is_live", key := .str "is_live" T.k8, val := .bool true },
    { hash := PyData.keyHash w.params "is_read_only", key := .str "is_read_only" T.k9, val := .bool false },
    { hash := PyData.keyHash w.params "ticks", key := .str "ticks" T.k10, val := .int ticks T.v10 },
    { hash := PyData.keyHash w.params "codes_ticks", key := .str "codes_ticks" T.k11, val := .int ct T.v11 },
    { hash := PyData.keyHash w.params "saved_ticks", key := .str "saved_ticks" T.k12, val := .int 1 T.v12 },
    { hash := PyData.keyHash w.params "listeners", key := .str "listeners" T.k13, val := .ref ls },
    { hash := PyData.keyHash w.params "undo", key := .str "undo" T.k14, val := .none },
    { hash := PyData.keyHash w.params "props", key := .str "props" T.k15, val := .none },
    { hash := PyData.keyHash w.params "overlays", key := .str "overlays" T.k16, val := .none },
    { hash := PyData.keyHash w.params "locals", key := .str "locals" T.k17, val := .none },
    { hash := PyData.keyHash w.params "syntax", key := .str "syntax" T.k18, val := .none },
    { hash := PyData.keyHash w.params "file", key := .str "file" T.k19, val := .none }] 20
structure TToks where
  k0 : Tok
  k1 : Tok
  k2 : Tok
  k3 : Tok
  v0 : Tok
  v2 : Tok
  v3 : Tok

noncomputable abbrev txtO (w : World) (T : TToks) (ce : Addr) (gs ge : Int) : Obj := PySem.W.dictOf [{ hash := PyData.keyHash w.params "room", key := .str "room" T.k0, val := .int 2 T.v0 },
    { hash := PyData.keyHash w.params "cells", key := .str "cells" T.k1, val := .ref ce },
    { hash := PyData.keyHash w.params "gap_start", key := .str "gap_start" T.k2, val := .int gs T.v2 },
    { hash := PyData.keyHash w.params "gap_end", key := .str "gap_end" T.k3, val := .int ge T.v3 }] 4
noncomputable abbrev mrkO (w : World) (k : Tok) (rw : Addr) : Obj := PySem.W.dictOf [{ hash := PyData.keyHash w.params "rows", key := .str "rows" k, val := .ref rw }] 1
noncomputable abbrev bufLed (w : World) (T : BToks) (U : TToks) (km : Tok) (b bd t td ce mk md rw ls : Addr) (ro : Obj) (cells : List Value) (cn ln : Nat) (point begv zv ticks ct gs ge : Int) (rest : List (Addr × Obj)) : List (Addr × Obj) :=
  (ls, PySem.W.listOf #[] ln) :: (rw, ro) :: (mk, instObj 318 md) :: (md, mrkO w km rw) :: (ce, PySem.W.listOf cells.toArray cn) :: (t, instObj 248 td) :: (td, txtO w U ce gs ge) :: (b, instObj 459 bd) :: (bd, bufO w T t mk ls point begv zv ticks ct) :: rest
noncomputable def Chain (b bd t td ce mk md rw ls : Addr) (rest : List (Addr × Obj)) : Prop :=
  (∀ p ∈ rest, @LT.lt Nat _ p.1 bd) ∧ @LT.lt Nat _ bd b ∧ @LT.lt Nat _ b td ∧ @LT.lt Nat _ td t ∧ @LT.lt Nat _ t ce ∧ @LT.lt Nat _ ce md ∧ @LT.lt Nat _ md mk ∧ @LT.lt Nat _ mk rw ∧ @LT.lt Nat _ rw ls

theorem sub9 {α : Type} {l rest : List α} {a1 a2 a3 a4 a5 a6 a7 a8 a9 : α} (h8 : a8 ∈ l) (h9 : a9 ∈ l) (h6 : a6 ∈ l) (h7 : a7 ∈ l) (h5 : a5 ∈ l) (h3 : a3 ∈ l) (h4 : a4 ∈ l) (h2 : a2 ∈ l) (h1 : a1 ∈ l) (hr : ∀ p ∈ rest, p ∈ l) :
    ∀ p ∈ a1 :: a2 :: a3 :: a4 :: a5 :: a6 :: a7 :: a8 :: a9 :: rest, p ∈ l := by
  intro p hp
  simp only [List.mem_cons] at hp
  rcases hp with rfl | rfl | rfl | rfl | rfl | rfl | rfl | rfl | rfl | hp <;> first | assumption | exact hr _ hp
theorem buffer_spec (w : World) (p : Program) (loose : List PySem.Str) (mean : ExcName → Option Value) (mg mb : PySem.Str → Option Value)
  (dp un : Nat) (gd : Option (List Code)) (cn : PySem.Str) (cs : Scope) (a : Addr) (ccd : Value) (cl : List (PySem.Str × Addr)) (outer : List Env) (A₀ : Around) (base h₀ : Heap) (L : Addr) (m : PySem.Str → Option Value) (s : Shared)
  (t1 t2 t3 : Tok) (news : List (Addr × Obj)) (Q E : Value → Shared → Prop)
  (B : Below A₀ base outer h₀) (F : Fr h₀ L s.heap m) (X : (hd.heap_39 w.params).In h₀) (N : News h₀ L s.heap news) (T : Top p loose mean mg mb h₀) (hk : cs.kind = .function)
  (hdp : dp + 20 < recursionLimit) (hun : un + 200 < cLine)
  (hret : ∀ T U km b bd t td ce mk md rw ls ro cells cn ln h' tk', Chain b bd t td ce mk md rw ls news → IntsAre cells [0, 0] → ro.IsDictOf (PySem.intKind prog w) [] → ro.IsDictOf (PySem.strKind prog w) [] → (rw == sysModules) = false → Fr h₀ L h' m →
    News h₀ L h' (bufLed w T U km b bd t td ce mk md rw ls ro cells cn ln 1 1 1 1 1 0 2 news) → Q (.ref b) {s with heap := h', toks := tk'}) :
  wpAny (model prog w) (ktrTop dp un gd cn cs L a ccd cl outer) (call (.ref 459) [.int 1 t1, .str "text" t2, .int 2 t3]) Q E s := by
  k_with_none
  k_with "call ref" => (k_here; (with_reducible show wpAny _ _ (call (Value.ref 480) [Value.ref _, Value.int _ _]) _ _ _); k_dflt (refine' draw_use ?q3kB ?q3kF ?q3kX ?q3kN ?q3kU ?q3kT ?q3kK ?q3kD ?q3k1 ?q3k2 ?q3kd ?q3ku ?_; (case q3kB => k_asm); (case q3kF => k_asm); (case q3kX => k_asm); (case q3kN => k_asm); (case q3kU => k_updF); (case q3kT => k_asm); (case q3kK => first | exact rfl | assumption); (case q3kD => first | assumption | exact deck_of (by assumption)); (case q3k1 => first | decide | omega | k_room); (case q3k2 => first | decide | omega); (case q3kd => ktr_room); (case q3ku => ktr_units)); intro q3_r' q3_t' q3_vs' q3_n' q3_h' q3_tk' q3_hr0' q3_hr1' q3_hD' q3_F' q3_N'; (try dsimp only at q3_N'); (try dsimp only))
  k_with "CompSrc" => (k_here; k_dflt (refine' LCg.CompSrc.range (by rfl) (by k_asm) (by k_asm) (by assumption) ?q4ksm ?q4krs ?q4ksz ?_; (case q4ksm => exact small_one (by kcf_bnd) (by kcf_bnd) (by kcf_bnd) (by kcf_bnd)); (case q4krs => exact rangeSize_nat _ _); (case q4ksz => (rw [PySem.sizeLine_eq]; omega)); intro q4_g'; (refine' comp_drawU Letter ?q4cD ?q4cU (fun q4_v' q4_I' q4_oI' q4_C' q4_oC' q4_D' q4_m' q4_ys' q4_h' q4_tk' q4_vs' q4_c' q4_E' q4_hD' q4_hC' q4_hx' q4_F' q4_N' q4_off' q4_ne' => ?_) (fun q4_ys' q4_ks' q4_vs' q4_c' q4_hI' q4_hl' q4_hm' q4_hD' => ?_); (case q4cD => assumption); (case q4cU => k_updF)); (all_goals (try simp only [LCg.Off3, and_true] at q4_off'))))
  k_with "CompEnd" => (refine drawEnd (by assumption) (by assumption) (by assumption) (by kcf_all) (by first | assumption | (simp only [LCg.Off3, and_true]; done) | (simp only [LCg.Off3, and_true]; assumption)) ?_)
  have dummy : PySem.Challenge.rw_ok0060_01 = PySem.Challenge.rw_ok0060_01 ∧ hd.heap_39 = hd.heap_39 := by
    k_fill
    exact ⟨rfl, rfl⟩
  clear dummy
  k_steps
  rename News h₀ L _ _ => kN9
  refine' hret ⟨_, _, _, _, _, _, _, _, _, _, _, _, _, _, _, _, _, _, _, _, _, _, _, _, _, _, _, _⟩ ⟨_, _, _, _, _, _, _⟩ _ _ _ _ _ _ _ _ _ _ _ _ _ _ _ _ ?hch ?hin ?hd1 ?hd2 ?hlo ?hF (fun p hp => kN9 p (sub9 ?m8 ?m9 ?m6 ?m7 ?m5 ?m3 ?m4 ?m2 ?m1 ?mr p hp))
  case m8 => k_mem
  case m9 => k_mem
  case m6 => k_mem
  case m7 => k_mem
  case m5 => k_mem
  case m3 => k_mem
  case m4 => k_mem
  case m2 => k_mem
  case m1 => k_mem
  case mr =>
    intro p hp
    repeat refine List.mem_cons_of_mem _ ?_
    exact hp
  case hF => assumption
  case hd1 => assumption
  case hlo => assumption
  case hd2 => assumption
  case hin => exact .cons 0 _ (.cons 0 _ .nil)
  case hch =>
    refine ⟨?_, by omega, by omega, by omega, by omega, by omega, by omega, by omega, by omega⟩
    rename ∀ p ∈ news, p.1 < _ => hl9
    exact fun p hp => hl9 p hp

end
end
local macro_rules | `(tactic| k_ne) => `(tactic| (refine neN ?_; (try dsimp only); first | assumption | (refine Ne.symm ?_; assumption) | (refine Nat.ne_of_lt ?_; solve_by_elim (config := { transparency := .reducible }) [Nat.lt_trans]) | (refine Nat.ne_of_gt ?_; solve_by_elim (config := { transparency := .reducible }) [Nat.lt_trans]) | (simp only [*, ne_eq, not_false_eq_true]; done) | (refine Ne.symm ?_; simp only [*, ne_eq, not_false_eq_true]; done) | lia | omega))
theorem apart_P3a : ∀ x : Nat, x = x := by
  w_top off
  k_with_none
  first | (walk1; done) | exact fun _ => rfl
section
section
local macro_rules | `(tactic| omega) => `(tactic| lia)
theorem sub4 {α : Type} {l rest : List α} {a1 a2 a3 a4 : α} (h1 : a1 ∈ l) (h2 : a2 ∈ l) (h3 : a3 ∈ l) (h4 : a4 ∈ l) (hr : ∀ p ∈ rest, p ∈ l) :
    ∀ p ∈ a1 :: a2 :: a3 :: a4 :: rest, p ∈ l := by
  intro p hp
  simp only [List.mem_cons] at hp
  rcases hp with rfl | rfl | rfl | rfl | hp <;> first | assumption | exact hr _ hp
theorem news_sub {h₀ h : Heap} {L : Addr} {A B : List (Addr × Obj)} (N : News h₀ L h A) (h2 : ∀ p ∈ B, p ∈ A) : News h₀ L h B := fun p hp => N p (h2 p hp)
noncomputable def Apart (l : List Addr) (rest : List (Addr × Obj)) : Prop := ∀ p ∈ rest, ∀ a ∈ l, p.1 ≠ a
local macro_rules | `(tactic| k_all) => `(tactic| ((rename Mine60.Apart _ _ => hr9); exact fun p hp => hr9 p hp _ (by k_mem)))
theorem take_gap (x : Int) (n : Nat) (l : List Int) : List.take (min (x + 0 - 0).toNat n - x.toNat) l = [] := by
  rw [Int.add_zero, Int.sub_zero, Nat.sub_eq_zero_of_le (Nat.min_le_left _ _), List.take_zero]
theorem take_gap2 (n : Nat) (l : List Int) : List.take (min ((2 : Int) + 0 - 0).toNat n - 2) l = [] := take_gap 2 n l
theorem text_spec (w : World) (p : Program) (loose : List PySem.Str) (mean : ExcName → Option Value) (mg mb : PySem.Str → Option Value)
  (dp un : Nat) (gd : Option (List Code)) (cn : PySem.Str) (cs : Scope) (a : Addr) (ccd : Value) (cl : List (PySem.Str × Addr)) (outer : List Env) (A₀ : Around) (base h₀ : Heap) (L : Addr) (m : PySem.Str → Option Value) (s : Shared)
  (t1 : Tok) (rest : List (Addr × Obj)) (Q E : Value → Shared → Prop) (U₀ : TToks) (td t ce S : Addr) (cells ys : List Value) (ks : List Int) (cn₀ c : Nat)
  (B : Below A₀ base outer h₀) (F : Fr h₀ L s.heap m) (X : (hd.heap_39 w.params).In h₀) (N : News h₀ L s.heap ((ce, PySem.W.listOf cells.toArray cn₀) :: (t, instObj 248 td) :: (td, txtO w U₀ ce 0 2) :: (S, PySem.W.listOf ys.toArray c) :: rest)) (T : Top p loose mean mg mb h₀) (hk : cs.kind = .function)
  (hdp : dp + 10 < recursionLimit) (hun : un + 100 < cLine) (hr : Apart [ce, td] rest)
  (l1 : @LT.lt Nat _ S td) (l2 : @LT.lt Nat _ td t) (l3 : @LT.lt Nat _ t ce) (hi : IntsAre ys ks) (hlen : ks.length ≤ 8) (zs : List Int) (hc : IntsAre cells zs) (hz : zs.length = 2)
  (hret : ∀ (U' : TToks) (us : List Value) (ms : List Int) (n' : Nat) (gs ge : Int) h' tk', IntsAre us (ks ++ ms) → gs = ks.length → ge = ks.length + ms.length → ms.length ≤ 20 → Fr h₀ L h' m →
    News h₀ L h' ((ce, PySem.W.listOf us.toArray n') :: (t, instObj 248 td) :: (td, txtO w U' ce gs ge) :: (S, PySem.W.listOf ys.toArray c) :: rest) → Q .none {s with heap := h', toks := tk'}) :
  wpAny (model prog w) (ktrTop dp un gd cn cs L a ccd cl outer) (call (.ref 217) [.ref t, .int 0 t1, .ref S]) Q E s := by
  k_with_none
  k_with "call ref" => (k_here; (with_reducible show wpAny _ _ (call (Value.ref 480) [Value.ref _, Value.int _ _]) _ _ _); k_dflt (refine' draw_use ?q6kB ?q6kF ?q6kX ?q6kN ?q6kU ?q6kT ?q6kK ?q6kD ?q6k1 ?q6k2 ?q6kd ?q6ku ?_; (case q6kB => k_asm); (case q6kF => k_asm); (case q6kX => k_asm); (case q6kN => k_asm); (case q6kU => k_updF); (case q6kT => k_asm); (case q6kK => first | exact rfl | assumption); (case q6kD => first | assumption | exact deck_of (by assumption)); (case q6k1 => first | decide | omega | k_room); (case q6k2 => first | decide | omega); (case q6kd => ktr_room); (case q6ku => ktr_units)); intro q6_r' q6_t' q6_vs' q6_n' q6_h' q6_tk' q6_hr0' q6_hr1' q6_hD' q6_F' q6_N'; (try dsimp only at q6_N'); (try dsimp only))
  k_with "CompSrc" => (k_here; k_dflt (refine' LCg.CompSrc.range (by rfl) (by k_asm) (by k_asm) (by assumption) ?q7ksm ?q7krs ?q7ksz ?_; (case q7ksm => exact small_one (by kcf_bnd) (by kcf_bnd) (by kcf_bnd) (by kcf_bnd)); (case q7krs => exact rangeSize_nat _ _); (case q7ksz => (rw [PySem.sizeLine_eq]; omega)); intro q7_g'; (refine' comp_drawU Letter ?q7cD ?q7cU (fun q7_v' q7_I' q7_oI' q7_C' q7_oC' q7_D' q7_m' q7_ys' q7_h' q7_tk' q7_vs' q7_c' q7_E' q7_hD' q7_hC' q7_hx' q7_F' q7_N' q7_off' q7_ne' => ?_) (fun q7_ys' q7_ks' q7_vs' q7_c' q7_hI' q7_hl' q7_hm' q7_hD' => ?_); (case q7cD => assumption); (case q7cU => k_updF)); (all_goals (try simp only [LCg.Off3, and_true] at q7_off'))))
  k_with "CompEnd" => (refine drawEnd (by assumption) (by assumption) (by assumption) (by kcf_all) (by first | assumption | (simp only [LCg.Off3, and_true]; done) | (simp only [LCg.Off3, and_true]; assumption)) ?_)
  k_with "setItem ref ref" => (k_here; (with_reducible show wpAny _ _ (setItem (Value.ref _) (Value.ref _) (Value.ref _)) _ _ _); k_dflt (refine' setSlice_I ?q9F ?q9N ?q9U ?q9b ?q9i ?q9j ?q9n ?q9x ?q9y ?q9z ?q9w ?_; (case q9F => k_asm); (case q9N => k_asm); (case q9U => k_updF); (case q9b => k_mem); (case q9i => with_reducible assumption); (case q9j => with_reducible assumption); (case q9n => k_ne); (case q9x => omega); (case q9y => omega); (case q9z => omega); (case q9w => (rw [PySem.sizeLine_eq]; omega))); intro q9_us' q9_zs' q9_n' q9_h' q9_hI' q9_hE' q9_hL' q9_F' q9_N'; (try dsimp only at q9_N'))
  k_with "storeName" => (k_here; k_dflt ((rename IntsAre _ (List.take (min (Int.toNat (_ + 0 - 0)) _ - _) _) => h77); (rename List.length (List.take (min (Int.toNat (_ + 0 - 0)) _ - _) _) = _ => h78); (rename List.length (List.take (min (Int.toNat (_ + 0 - 0)) _ - _) _) ≤ _ => h79); clear h78 h79; (first | rewrite [take_gap] at h77 | rewrite [take_gap2] at h77); (have h80 : ([] : List Int).length = 0 := rfl)); walk_at "storeName")
  have dummy : PySem.Challenge.rw_ok0060_01 = PySem.Challenge.rw_ok0060_01 ∧ hd.heap_39 = hd.heap_39 := by
    k_fill
    exact ⟨rfl, rfl⟩
  clear dummy
  have hcl : cells.length = 2 := hc.length.trans hz
  have hyl := hi.length
  k_steps
  all_goals
    rename News h₀ L _ _ => kN9
    rename IntsAre _ _ => hI9
    rename _ = List.take (Int.toNat 0) _ ++ ks ++ _ => hE9
    rw [hE9] at hI9
    refine' hret ⟨_, _, _, _, _, _, _⟩ _ (List.drop _ _) _ _ _ _ _ hI9 ?_ ?_ ?_ (by assumption) (news_sub kN9 (sub4 ?_ ?_ ?_ ?_ ?_))
  all_goals first
    | (intro p hp; (repeat refine List.mem_cons_of_mem _ ?_); exact hp)
    | k_mem
    | (dsimp only [txtO]; k_mem)
    | skip
  all_goals first
    | omega
    | (simp only [List.length_drop] at *; omega)
    | skip

end
end
theorem apart_P3b : ∀ x : Nat, x = x := by
  w_top off
  k_with_none
  first | (walk1; done) | exact fun _ => rfl
section
local macro_rules | `(tactic| k_ne) => `(tactic| (refine neN ?_; (try dsimp only); omega))
section
inductive DropA (l : List Addr) : List (Addr × Obj) → List (Addr × Obj) → Prop
  | tl {r} {l' : List Addr} : Apart l' r → (∀ a ∈ l, a ∈ l') → DropA l r r
  | nil : DropA l [] []
  | skip {p r r'} : p.1 ∈ l → DropA l r r' → DropA l (p :: r) r'
  | keep {p r r'} : (∀ a ∈ l, p.1 ≠ a) → DropA l r r' → DropA l (p :: r) (p :: r')
theorem DropA.sub {l : List Addr} {r r' : List (Addr × Obj)} (h : DropA l r r') : ∀ p ∈ r', p ∈ r := by
  induction h with
  | tl _ _ => exact fun p hp => hp
  | nil => exact fun p hp => hp
  | skip _ _ ih => exact fun p hp => List.mem_cons_of_mem _ (ih p hp)
  | keep _ _ ih =>
    intro p hp
    rcases List.mem_cons.mp hp with e | hp
    · rw [e]; exact List.mem_cons_self
    · exact List.mem_cons_of_mem _ (ih p hp)
theorem DropA.apart {l : List Addr} {r r' : List (Addr × Obj)} (h : DropA l r r') : Apart l r' := by
  induction h with
  | tl h h2 => exact fun p hp a ha => h p hp a (h2 a ha)
  | nil => intro p hp; cases hp
  | skip _ _ ih => exact ih
  | keep h _ ih =>
    intro p hp
    rcases List.mem_cons.mp hp with e | hp
    · rw [e]; exact h
    · exact ih p hp
theorem text_use {w : World} {p : Program} {loose : List PySem.Str} {mean : ExcName → Option Value} {mg mb : PySem.Str → Option Value}
  {dp un : Nat} {gd : Option (List Code)} {cn : PySem.Str} {cs : Scope} {a : Addr} {ccd : Value} {cl : List (PySem.Str × Addr)} {outer : List Env} {A₀ : Around} {base h₀ : Heap} {L : Addr} {m : PySem.Str → Option Value} {s : Shared}
  {t1 : Tok} {news rest : List (Addr × Obj)} {Q E : Value → Shared → Prop} {U₀ : TToks} {td t ce S : Addr} {cells ys : List Value} {ks : List Int} {cn₀ c : Nat}
  (B : Below A₀ base outer h₀) (F : Fr h₀ L s.heap m) (X : (hd.heap_39 w.params).In h₀) (N : News h₀ L s.heap news) (T : Top p loose mean mg mb h₀) (hk : cs.kind = .function)
  (hdp : dp + 10 < recursionLimit) (hun : un + 100 < cLine) {z0 : Int} (hz0 : z0 = 0) (m1 : (ce, PySem.W.listOf cells.toArray cn₀) ∈ news) (m2 : (t, instObj 248 td) ∈ news) (m3 : (td, txtO w U₀ ce 0 2) ∈ news) (m4 : (S, PySem.W.listOf ys.toArray c) ∈ news) (hr : DropA [ce, td, t] news rest)
  (l1 : @LT.lt Nat _ S td) (l2 : @LT.lt Nat _ td t) (l3 : @LT.lt Nat _ t ce) (hi : IntsAre ys ks) (hlen : ks.length ≤ 8) (zs : List Int) (hc : IntsAre cells zs) (hz : zs.length = 2)
  (hret : ∀ (U' : TToks) (us : List Value) (ms : List Int) (n' : Nat) (gs ge : Int) h' tk', IntsAre us (ks ++ ms) → gs = ks.length → ge = ks.length + ms.length → ms.length ≤ 20 → Fr h₀ L h' m →
    News h₀ L h' ((ce, PySem.W.listOf us.toArray n') :: (t, instObj 248 td) :: (td, txtO w U' ce gs ge) :: (S, PySem.W.listOf ys.toArray c) :: rest) → Q .none {s with heap := h', toks := tk'}) :
  wpAny (model prog w) (ktrTop dp un gd cn cs L a ccd cl outer) (call (.ref 217) [.ref t, .int z0 t1, .ref S]) Q E s := by
  subst hz0
  refine text_spec w p loose mean mg mb dp un gd cn cs a ccd cl outer A₀ base h₀ L m s t1 rest Q E U₀ td t ce S cells ys ks cn₀ c B F X (news_sub N (sub4 m1 m2 m3 m4 hr.sub)) T hk hdp hun ?_ l1 l2 l3 hi hlen zs hc hz hret
  intro q hq a ha
  refine hr.apart q hq a ?_
  simp only [List.mem_cons, List.mem_nil_iff, or_false] at ha ⊢
  rcases ha with e | e
  · exact .inl e
  · exact .inr (.inl e)
local macro_rules | `(tactic| k_all) => `(tactic| first
  | exact DropA.nil
  | (refine' DropA.tl ?dt ?du; (case dt => assumption); (case du => simp))
  | (refine' DropA.skip ?dm ?dr; (case dm => k_mem); (case dr => k_all))
  | (refine' DropA.keep ?da ?db; (case da => k_all); (case db => k_all))
  | ((with_reducible show ∀ a ∈ _ :: _, _ ≠ a); refine' List.forall_mem_cons.mpr ⟨?ea, ?eb⟩; (case ea => k_ne); (case eb => k_all))
  | ((rename Mine60.Apart _ _ => hr9); exact fun p hp => hr9 p hp _ (by k_mem)))
theorem insert_spec (w : World) (p : Program) (loose : List PySem.Str) (mean : ExcName → Option Value) (mg mb : PySem.Str → Option Value)
  (dp un : Nat) (gd : Option (List Code)) (cn : PySem.Str) (cs : Scope) (a : Addr) (ccd : Value) (cl : List (PySem.Str × Addr)) (outer : List Env) (A₀ : Around) (base h₀ : Heap) (L : Addr) (m : PySem.Str → Option Value) (s : Shared)
  (t1 : Tok) (rest : List (Addr × Obj)) (Q E : Value → Shared → Prop) (T₀ : BToks) (U₀ : TToks) (km : Tok) (b bd t td ce mk md rw ls S : Addr) (ro : Obj) (cells ys : List Value) (ks : List Int) (cn₀ ln c : Nat)
  (B : Below A₀ base outer h₀) (F : Fr h₀ L s.heap m) (X : (hd.heap_39 w.params).In h₀) (N : News h₀ L s.heap (bufLed w T₀ U₀ km b bd t td ce mk md rw ls ro cells cn₀ ln 1 1 1 1 1 0 2 ((S, PySem.W.listOf ys.toArray c) :: rest))) (T : Top p loose mean mg mb h₀) (hk : cs.kind = .function)
  (hdp : dp + 20 < recursionLimit) (hun : un + 200 < cLine)
  (hch : Chain b bd t td ce mk md rw ls ((S, PySem.W.listOf ys.toArray c) :: rest)) (hi : IntsAre ys ks) (hlen : ks.length ≤ 8) (zs : List Int) (hc : IntsAre cells zs) (hz : zs.length = 2) (hd1 : ro.IsDictOf (PySem.intKind prog w) []) (hlo : (rw == sysModules) = false) (hfp : PyProof.V.FlatPairs PyData.int ([] : List (Int × Value)) []) (hd2 : ro.IsDictOf (PySem.strKind prog w) [])
  (hret : ∀ (T' : BToks) (U' : TToks) (us : List Value) (ms : List Int) (n' : Nat) (zv ticks ct gs ge : Int) h' tk', IntsAre us (ks ++ ms) → zv = ks.length + 1 → gs = ks.length → ge = ks.length + ms.length → ms.length ≤ 20 → Fr h₀ L h' m →
    News h₀ L h' (bufLed w T' U' km b bd t td ce mk md rw ls ro us n' ln 1 1 zv ticks ct gs ge ((S, PySem.W.listOf ys.toArray c) :: rest)) → Q .none {s with heap := h', toks := tk'}) :
  wpAny (model prog w) (ktrTop dp un gd cn cs L a ccd cl outer) (call (.ref 98) [.ref b, .int 1 t1, .ref S]) Q E s := by
  k_with_none
  k_with "call ref" => (k_here; (with_reducible show wpAny _ _ (call (Value.ref 480) [Value.ref _, Value.int _ _]) _ _ _); k_dflt (refine' draw_use ?q11kB ?q11kF ?q11kX ?q11kN ?q11kU ?q11kT ?q11kK ?q11kD ?q11k1 ?q11k2 ?q11kd ?q11ku ?_; (case q11kB => k_asm); (case q11kF => k_asm); (case q11kX => k_asm); (case q11kN => k_asm); (case q11kU => k_updF); (case q11kT => k_asm); (case q11kK => first | exact rfl | assumption); (case q11kD => first | assumption | exact deck_of (by assumption)); (case q11k1 => first | decide | omega | k_room); (case q11k2 => first | decide | omega); (case q11kd => ktr_room); (case q11ku => ktr_units)); intro q11_r' q11_t' q11_vs' q11_n' q11_h' q11_tk' q11_hr0' q11_hr1' q11_hD' q11_F' q11_N'; (try dsimp only at q11_N'); (try dsimp only))
  k_with "CompSrc" => (k_here; k_dflt (refine' LCg.CompSrc.range (by rfl) (by k_asm) (by k_asm) (by assumption) ?q12ksm ?q12krs ?q12ksz ?_; (case q12ksm => exact small_one (by kcf_bnd) (by kcf_bnd) (by kcf_bnd) (by kcf_bnd)); (case q12krs => exact rangeSize_nat _ _); (case q12ksz => (rw [PySem.sizeLine_eq]; omega)); intro q12_g'; (refine' comp_drawU Letter ?q12cD ?q12cU (fun q12_v' q12_I' q12_oI' q12_C' q12_oC' q12_D' q12_m' q12_ys' q12_h' q12_tk' q12_vs' q12_c' q12_E' q12_hD' q12_hC' q12_hx' q12_F' q12_N' q12_off' q12_ne' => ?_) (fun q12_ys' q12_ks' q12_vs' q12_c' q12_hI' q12_hl' q12_hm' q12_hD' => ?_); (case q12cD => assumption); (case q12cU => k_updF)); (all_goals (try simp only [LCg.Off3, and_true] at q12_off'))))
  k_with "CompEnd" => (refine drawEnd (by assumption) (by assumption) (by assumption) (by kcf_all) (by first | assumption | (simp only [LCg.Off3, and_true]; done) | (simp only [LCg.Off3, and_true]; assumption)) ?_)
  k_with "call ref" => (k_here; (with_reducible show wpAny _ _ (call (Value.ref 217) [Value.ref _, Value.int _ _, Value.ref _]) _ _ _); k_dflt (refine' text_use ?q14kB ?q14kF ?q14kX ?q14kN ?q14kT ?q14kK ?q14kd ?q14ku ?q14z0 ?q14m1 ?q14m2 ?q14m3 ?q14m4 ?q14kr ?q14l1 ?q14l2 ?q14l3 ?q14hi ?q14hl _ ?q14hc ?q14hz ?_; (case q14kB => k_asm); (case q14kF => k_asm); (case q14kX => k_asm); (case q14kN => k_asm); (case q14kT => k_asm); (case q14kK => first | exact rfl | assumption); (case q14kd => ktr_room); (case q14ku => ktr_units); (case q14z0 => rfl); (case q14m2 => k_mem); (case q14m3 => k_mem); (case q14m1 => k_mem); (case q14m4 => k_mem); (case q14kr => k_all); (case q14l1 => omega); (case q14l2 => omega); (case q14l3 => omega); (case q14hi => assumption); (case q14hl => omega); (case q14hc => assumption); (case q14hz => first | assumption | rfl)); intro q14_U' q14_us' q14_ms' q14_n' q14_gs' q14_ge' q14_h' q14_tk' q14_hI' q14_hgs' q14_hge' q14_hms' q14_F' q14_N'; (try dsimp only at q14_N'); (try dsimp only))
  k_with "call builtin:sorted" => (k_here; (with_reducible show wpAny _ _ (call (Value.builtin "sorted") [Value.ref _]) _ _ _); k_dflt (refine kdu_sortedD (knd := PySem.intKind _ _) (enc := PyData.int) (fun _ _ => kdl_flat_int) (by rfl) (by k_asm) (by k_asm) (by k_tabat) (by decide) ?_); intro q15_D' q15_h' q15_tk'; kdl_open)
  k_with "pyIter ref" => ((with_reducible show wpAny _ _ (pyIter (Value.ref _)) (fun it s₂ => LoopAtV _ _ _ _ _ _ _ _ _ it s₂) _ _); (rename Fr _ _ _ _ => q16_lF'); (with_unfolding_all refine' iter_listUnr (vs := []) (by rfl) q16_lF' ?q16N0 ?q16m0 ?q16c0 ?q16d0 ?_; (case q16N0 => k_asm); (case q16m0 => k_mem); (case q16c0 => rfl); (case q16d0 => rfl)); clear q16_lF'; intro q16_i' l1; refine ListRest.zero ?_; intro q16_h' tk q16_F' q16_N'; (try dsimp only))
  k_with "pyIter ref" => ((with_reducible show wpAny _ _ (pyIter (Value.ref _)) (fun it s₂ => LoopAtV _ _ _ _ _ _ _ _ _ it s₂) _ _); (rename IntsAre _ _ => hI9); (have hz9 := List.eq_nil_of_length_eq_zero ((IntsAre.length hI9).trans (by omega))); subst hz9; (rename Fr _ _ _ _ => q17_lF'); (with_unfolding_all refine' iter_listUnr (vs := []) (by rfl) q17_lF' ?q17N0 ?q17m0 ?q17c0 ?q17d0 ?_; (case q17N0 => k_asm); (case q17m0 => k_mem); (case q17c0 => rfl); (case q17d0 => rfl)); clear q17_lF'; intro q17_i' l1; refine ListRest.zero ?_; intro q17_h' tk q17_F' q17_N'; (try dsimp only))
  have dummy : PySem.Challenge.rw_ok0060_01 = PySem.Challenge.rw_ok0060_01 ∧ hd.heap_39 = hd.heap_39 := by
    k_fill
    exact ⟨rfl, rfl⟩
  clear dummy
  obtain ⟨hlt0, l1, l2, l3, l4, l5, l6, l7, l8⟩ := hch
  dsimp only [bufLed] at N
  obtain ⟨hSb, hlt⟩ := List.forall_mem_cons.mp hlt0
  clear hlt0
  dsimp only at hSb
  have hAp : Apart [b, bd, t, td, ce, mk, md, rw, ls] rest := by
    intro q hq a ha
    have hq9 := hlt q hq
    simp only [List.mem_cons, List.mem_nil_iff, or_false] at ha
    refine neN ?_
    rcases ha with e | e | e | e | e | e | e | e | e <;> (subst e; omega)
  clear hlt
  k_steps
  · rename News h₀ L _ _ => kN9
    have hks : ks = [] := List.eq_nil_of_length_eq_zero (by omega)
    subst hks
    refine' hret T₀ U₀ cells zs cn₀ 1 1 1 0 2 _ _ hc rfl rfl ?hge (by omega) (by assumption) (news_sub kN9 (sub9 ?_ ?_ ?_ ?_ ?_ ?_ ?_ ?_ ?_ ?hrs))
    case hge => rw [hz]; rfl
    case hrs => intro p hp; (repeat first | exact hp | refine List.mem_cons_of_mem _ ?_)
    all_goals k_mem
  · rename News h₀ L _ _ => kN9
    refine' hret ⟨_, _, _, _, _, _, _, _, _, _, _, _, _, _, _, _, _, _, _, _, _, _, _, _, _, _, _, _⟩ _ _ _ _ _ _ _ _ _ _ _ ?hia ?hzv ?hgs ?hge (by assumption) (by assumption) (news_sub kN9 (sub9 ?m8 ?m9 ?m6 ?m7 ?m5 ?m3 ?m4 ?m2 ?m1 ?hrs))
    case m8 => k_mem
    case m6 => k_mem
    case m7 => k_mem
    case m5 => k_mem
    case m3 => k_mem
    case m4 => k_mem
    case m2 => k_mem
    case m1 => k_mem
    case hrs =>
      refine List.forall_mem_cons.mpr ⟨?_, ?_⟩
      · k_mem
      · intro p hp; (repeat refine List.mem_cons_of_mem _ ?_); exact hp
    case m9 => dsimp only [bufO]; k_mem
    case hia => assumption
    case hgs => assumption
    case hge => assumption
    case hzv => omega

end
end
theorem apart_P4 : ∀ x : Nat, x = x := by
  w_top off
  k_with_none
  first | (walk1; done) | exact fun _ => rfl
section
section
noncomputable def codeAt (ks : List Int) (begv zv place : Int) : Int := if place < begv ∨ place ≥ zv then -1 else ks.getD (place - 1).toNat 0
noncomputable def befAt (ks : List Int) (begv zv place : Int) : Int := if place > zv then -1 else codeAt ks begv zv (place - 1)

theorem q_int {Q : Value → Shared → Prop} {v v' : Int} {t : Tok} {s : Shared} (e : v = v') (h : Q (.int v' t) s) : Q (.int v t) s := e ▸ h
theorem getD_app {ks ms : List Int} {i : Nat} (h : i < ks.length) : (ks ++ ms).getD i 0 = ks.getD i 0 := by
  rw [List.getD_eq_getElem?_getD, List.getD_eq_getElem?_getD, List.getElem?_append_left h]
theorem after_spec (w : World) (p : Program) (loose : List PySem.Str) (mean : ExcName → Option Value) (mg mb : PySem.Str → Option Value)
  (dp un : Nat) (gd : Option (List Code)) (cn : PySem.Str) (cs : Scope) (a : Addr) (ccd : Value) (cl : List (PySem.Str × Addr)) (outer : List Env) (A₀ : Around) (base h₀ : Heap) (L : Addr) (m : PySem.Str → Option Value) (s : Shared)
  (t1 : Tok) (news : List (Addr × Obj)) (Q E : Value → Shared → Prop) (T₀ : BToks) (U₀ : TToks) (b bd t td ce mk ls : Addr) (cells : List Value) (ks ms : List Int) (nc : Nat) (point begv zv ticks ct gs ge place : Int)
  (B : Below A₀ base outer h₀) (F : Fr h₀ L s.heap m) (X : (hd.heap_39 w.params).In h₀) (N : News h₀ L s.heap news) (T : Top p loose mean mg mb h₀) (hk : cs.kind = .function)
  (hdp : dp + 10 < recursionLimit) (hun : un + 100 < cLine)
  (m1 : (b, instObj 459 bd) ∈ news) (m2 : (bd, bufO w T₀ t mk ls point begv zv ticks ct) ∈ news) (m3 : (t, instObj 248 td) ∈ news) (m4 : (td, txtO w U₀ ce gs ge) ∈ news) (m5 : (ce, PySem.W.listOf cells.toArray nc) ∈ news)
  (hi : IntsAre cells (ks ++ ms)) (hgs : gs = ks.length) (hlen : ks.length ≤ 8) (hb : 1 ≤ begv) (hz : zv ≤ ks.length + 1) (hp0 : -20 ≤ place) (hp1 : place ≤ 40)
  (hret : ∀ t' h' tk', Fr h₀ L h' m → News h₀ L h' news → Q (.int (codeAt ks begv zv place) t') {s with heap := h', toks := tk'}) :
  wpAny (model prog w) (ktrTop dp un gd cn cs L a ccd cl outer) (call (.ref 105) [.ref b, .int place t1]) Q E s := by
  k_with_none
  k_with "call ref" => (k_here; (with_reducible show wpAny _ _ (call (Value.ref 480) [Value.ref _, Value.int _ _]) _ _ _); k_dflt (refine' draw_use ?q18kB ?q18kF ?q18kX ?q18kN ?q18kU ?q18kT ?q18kK ?q18kD ?q18k1 ?q18k2 ?q18kd ?q18ku ?_; (case q18kB => k_asm); (case q18kF => k_asm); (case q18kX => k_asm); (case q18kN => k_asm); (case q18kU => k_updF); (case q18kT => k_asm); (case q18kK => first | exact rfl | assumption); (case q18kD => first | assumption | exact deck_of (by assumption)); (case q18k1 => first | decide | omega | k_room); (case q18k2 => first | decide | omega); (case q18kd => ktr_room); (case q18ku => ktr_units)); intro q18_r' q18_t' q18_vs' q18_n' q18_h' q18_tk' q18_hr0' q18_hr1' q18_hD' q18_F' q18_N'; (try dsimp only at q18_N'); (try dsimp only))
  k_with "CompSrc" => (k_here; k_dflt (refine' LCg.CompSrc.range (by rfl) (by k_asm) (by k_asm) (by assumption) ?q19ksm ?q19krs ?q19ksz ?_; (case q19ksm => exact small_one (by kcf_bnd) (by kcf_bnd) (by kcf_bnd) (by kcf_bnd)); (case q19krs => exact rangeSize_nat _ _); (case q19ksz => (rw [PySem.sizeLine_eq]; omega)); intro q19_g'; (refine' comp_drawU Letter ?q19cD ?q19cU (fun q19_v' q19_I' q19_oI' q19_C' q19_oC' q19_D' q19_m' q19_ys' q19_h' q19_tk' q19_vs' q19_c' q19_E' q19_hD' q19_hC' q19_hx' q19_F' q19_N' q19_off' q19_ne' => ?_) (fun q19_ys' q19_ks' q19_vs' q19_c' q19_hI' q19_hl' q19_hm' q19_hD' => ?_); (case q19cD => assumption); (case q19cU => k_updF)); (all_goals (try simp only [LCg.Off3, and_true] at q19_off'))))
  k_with "CompEnd" => (refine drawEnd (by assumption) (by assumption) (by assumption) (by kcf_all) (by first | assumption | (simp only [LCg.Off3, and_true]; done) | (simp only [LCg.Off3, and_true]; assumption)) ?_)
  have dummy : PySem.Challenge.rw_ok0060_01 = PySem.Challenge.rw_ok0060_01 ∧ hd.heap_39 = hd.heap_39 := by
    k_fill
    exact ⟨rfl, rfl⟩
  clear dummy
  k_steps
  all_goals
    rename News h₀ L _ news => kN9
    refine q_int (v' := codeAt ks begv zv place) ?_ (hret _ _ _ (by assumption) kN9)
    unfold codeAt
  · rw [if_pos (by omega)]
  · rw [if_pos (by omega)]
  · rw [if_neg (by omega)]
    exact getD_app (by omega)
theorem before_spec (w : World) (p : Program) (loose : List PySem.Str) (mean : ExcName → Option Value) (mg mb : PySem.Str → Option Value)
  (dp un : Nat) (gd : Option (List Code)) (cn : PySem.Str) (cs : Scope) (a : Addr) (ccd : Value) (cl : List (PySem.Str × Addr)) (outer : List Env) (A₀ : Around) (base h₀ : Heap) (L : Addr) (m : PySem.Str → Option Value) (s : Shared)
  (t1 : Tok) (news : List (Addr × Obj)) (Q E : Value → Shared → Prop) (T₀ : BToks) (U₀ : TToks) (b bd t td ce mk ls : Addr) (cells : List Value) (ks ms : List Int) (nc : Nat) (point begv zv ticks ct gs ge place : Int)
  (B : Below A₀ base outer h₀) (F : Fr h₀ L s.heap m) (X : (hd.heap_39 w.params).In h₀) (N : News h₀ L s.heap news) (T : Top p loose mean mg mb h₀) (hk : cs.kind = .function)
  (hdp : dp + 10 < recursionLimit) (hun : un + 100 < cLine)
  (m1 : (b, instObj 459 bd) ∈ news) (m2 : (bd, bufO w T₀ t mk ls point begv zv ticks ct) ∈ news) (m3 : (t, instObj 248 td) ∈ news) (m4 : (td, txtO w U₀ ce gs ge) ∈ news) (m5 : (ce, PySem.W.listOf cells.toArray nc) ∈ news)
  (hi : IntsAre cells (ks ++ ms)) (hgs : gs = ks.length) (hlen : ks.length ≤ 8) (hb : 1 ≤ begv) (hz : zv ≤ ks.length + 1) (hp0 : -20 ≤ place) (hp1 : place ≤ 40)
  (hret : ∀ t' h' tk', Fr h₀ L h' m → News h₀ L h' news → Q (.int (befAt ks begv zv place) t') {s with heap := h', toks := tk'}) :
  wpAny (model prog w) (ktrTop dp un gd cn cs L a ccd cl outer) (call (.ref 112) [.ref b, .int place t1]) Q E s := by
  k_with_none
  k_with "call ref" => (k_here; (with_reducible show wpAny _ _ (call (Value.ref 480) [Value.ref _, Value.int _ _]) _ _ _); k_dflt (refine' draw_use ?q21kB ?q21kF ?q21kX ?q21kN ?q21kU ?q21kT ?q21kK ?q21kD ?q21k1 ?q21k2 ?q21kd ?q21ku ?_; (case q21kB => k_asm); (case q21kF => k_asm); (case q21kX => k_asm); (case q21kN => k_asm); (case q21kU => k_updF); (case q21kT => k_asm); (case q21kK => first | exact rfl | assumption); (case q21kD => first | assumption | exact deck_of (by assumption)); (case q21k1 => first | decide | omega | k_room); (case q21k2 => first | decide | omega); (case q21kd => ktr_room); (case q21ku => ktr_units)); intro q21_r' q21_t' q21_vs' q21_n' q21_h' q21_tk' q21_hr0' q21_hr1' q21_hD' q21_F' q21_N'; (try dsimp only at q21_N'); (try dsimp only))
  k_with "CompSrc" => (k_here; k_dflt (refine' LCg.CompSrc.range (by rfl) (by k_asm) (by k_asm) (by assumption) ?q22ksm ?q22krs ?q22ksz ?_; (case q22ksm => exact small_one (by kcf_bnd) (by kcf_bnd) (by kcf_bnd) (by kcf_bnd)); (case q22krs => exact rangeSize_nat _ _); (case q22ksz => (rw [PySem.sizeLine_eq]; omega)); intro q22_g'; (refine' comp_drawU Letter ?q22cD ?q22cU (fun q22_v' q22_I' q22_oI' q22_C' q22_oC' q22_D' q22_m' q22_ys' q22_h' q22_tk' q22_vs' q22_c' q22_E' q22_hD' q22_hC' q22_hx' q22_F' q22_N' q22_off' q22_ne' => ?_) (fun q22_ys' q22_ks' q22_vs' q22_c' q22_hI' q22_hl' q22_hm' q22_hD' => ?_); (case q22cD => assumption); (case q22cU => k_updF)); (all_goals (try simp only [LCg.Off3, and_true] at q22_off'))))
  k_with "CompEnd" => (refine drawEnd (by assumption) (by assumption) (by assumption) (by kcf_all) (by first | assumption | (simp only [LCg.Off3, and_true]; done) | (simp only [LCg.Off3, and_true]; assumption)) ?_)
  have dummy : PySem.Challenge.rw_ok0060_01 = PySem.Challenge.rw_ok0060_01 ∧ hd.heap_39 = hd.heap_39 := by
    k_fill
    exact ⟨rfl, rfl⟩
  clear dummy
  k_steps
  all_goals
    rename News h₀ L _ news => kN9
    refine q_int (v' := befAt ks begv zv place) ?_ (hret _ _ _ (by assumption) kN9)
    unfold befAt codeAt
  all_goals first
    | rw [if_pos (by omega)]
    | rw [if_neg (by omega), if_pos (by omega)]
    | (rw [if_neg (by omega), if_neg (by omega)]; exact getD_app (by omega))

end
end
theorem apart_P5 : ∀ x : Nat, x = x := by
  w_top off
  k_with_none
  first | (walk1; done) | exact fun _ => rfl
section
section
local macro_rules | `(tactic| k_mem) => `(tactic| first | exact List.Mem.head _ | assumption | (refine' List.Mem.tail _ ?_; k_mem))
local macro_rules | `(tactic| k_all) => `(tactic| ((rename Mine60.Apart _ _ => hr9); exact fun p hp => hr9 p hp _ (by k_mem)))
theorem goto_spec (w : World) (p : Program) (loose : List PySem.Str) (mean : ExcName → Option Value) (mg mb : PySem.Str → Option Value)
  (dp un : Nat) (gd : Option (List Code)) (cn : PySem.Str) (cs : Scope) (a : Addr) (ccd : Value) (cl : List (PySem.Str × Addr)) (outer : List Env) (A₀ : Around) (base h₀ : Heap) (L : Addr) (m : PySem.Str → Option Value) (s : Shared)
  (t1 : Tok) (rest : List (Addr × Obj)) (Q E : Value → Shared → Prop) (T₀ : BToks) (b bd t mk ls : Addr) (point begv zv ticks ct place : Int)
  (B : Below A₀ base outer h₀) (F : Fr h₀ L s.heap m) (X : (hd.heap_39 w.params).In h₀) (N : News h₀ L s.heap ((bd, bufO w T₀ t mk ls point begv zv ticks ct) :: rest)) (T : Top p loose mean mg mb h₀) (hk : cs.kind = .function)
  (hdp : dp + 10 < recursionLimit) (hun : un + 100 < cLine) (hr : Apart [bd] rest)
  (m1 : (b, instObj 459 bd) ∈ rest) (hp0 : -20 ≤ place) (hp1 : place ≤ 40) (hb0 : 1 ≤ begv) (hb : begv ≤ zv) (hz : zv ≤ 20)
  (hret : ∀ T' pt t' h' tk', pt = min (max place begv) zv → Fr h₀ L h' m → News h₀ L h' ((bd, bufO w T' t mk ls pt begv zv ticks ct) :: rest) → Q (.int pt t') {s with heap := h', toks := tk'}) :
  wpAny (model prog w) (ktrTop dp un gd cn cs L a ccd cl outer) (call (.ref 428) [.ref b, .int place t1]) Q E s := by
  k_with_none
  k_with "call ref" => (k_here; (with_reducible show wpAny _ _ (call (Value.ref 480) [Value.ref _, Value.int _ _]) _ _ _); k_dflt (refine' draw_use ?q24kB ?q24kF ?q24kX ?q24kN ?q24kU ?q24kT ?q24kK ?q24kD ?q24k1 ?q24k2 ?q24kd ?q24ku ?_; (case q24kB => k_asm); (case q24kF => k_asm); (case q24kX => k_asm); (case q24kN => k_asm); (case q24kU => k_updF); (case q24kT => k_asm); (case q24kK => first | exact rfl | assumption); (case q24kD => first | assumption | exact deck_of (by assumption)); (case q24k1 => first | decide | omega | k_room); (case q24k2 => first | decide | omega); (case q24kd => ktr_room); (case q24ku => ktr_units)); intro q24_r' q24_t' q24_vs' q24_n' q24_h' q24_tk' q24_hr0' q24_hr1' q24_hD' q24_F' q24_N'; (try dsimp only at q24_N'); (try dsimp only))
  k_with "CompSrc" => (k_here; k_dflt (refine' LCg.CompSrc.range (by rfl) (by k_asm) (by k_asm) (by assumption) ?q25ksm ?q25krs ?q25ksz ?_; (case q25ksm => exact small_one (by kcf_bnd) (by kcf_bnd) (by kcf_bnd) (by kcf_bnd)); (case q25krs => exact rangeSize_nat _ _); (case q25ksz => (rw [PySem.sizeLine_eq]; omega)); intro q25_g'; (refine' comp_drawU Letter ?q25cD ?q25cU (fun q25_v' q25_I' q25_oI' q25_C' q25_oC' q25_D' q25_m' q25_ys' q25_h' q25_tk' q25_vs' q25_c' q25_E' q25_hD' q25_hC' q25_hx' q25_F' q25_N' q25_off' q25_ne' => ?_) (fun q25_ys' q25_ks' q25_vs' q25_c' q25_hI' q25_hl' q25_hm' q25_hD' => ?_); (case q25cD => assumption); (case q25cU => k_updF)); (all_goals (try simp only [LCg.Off3, and_true] at q25_off'))))
  k_with "CompEnd" => (refine drawEnd (by assumption) (by assumption) (by assumption) (by kcf_all) (by first | assumption | (simp only [LCg.Off3, and_true]; done) | (simp only [LCg.Off3, and_true]; assumption)) ?_)
  k_with "call builtin:len" => (k_here; (with_reducible show wpAny _ _ (call (Value.builtin "len") [Value.ref _]) _ _ _); k_dflt (refine' kst_len ?q27k1 ?q27k2 ?q27k3 ?q27k4 ?_; (case q27k1 => k_asm); (case q27k2 => k_mem); (case q27k3 => exact IntsAre.length (by assumption)); (case q27k4 => ((try simp only [List.length_append]); omega))))
  have dummy : PySem.Challenge.rw_ok0060_01 = PySem.Challenge.rw_ok0060_01 ∧ hd.heap_39 = hd.heap_39 := by
    k_fill
    exact ⟨rfl, rfl⟩
  clear dummy
  k_steps
  rename News h₀ L _ _ => kN9
  refine' hret ⟨_, _, _, _, _, _, _, _, _, _, _, _, _, _, _, _, _, _, _, _, _, _, _, _, _, _, _, _⟩ _ _ _ _ ?he (by assumption) (news_sub kN9 ?hN)
  case he => (repeat' split) <;> omega
  case hN =>
    refine List.forall_mem_cons.mpr ⟨?_, ?_⟩
    · dsimp only [bufO]
      k_mem
    · intro p hp; (repeat first | exact hp | refine List.mem_cons_of_mem _ ?_)
theorem narrow_spec (w : World) (p : Program) (loose : List PySem.Str) (mean : ExcName → Option Value) (mg mb : PySem.Str → Option Value)
  (dp un : Nat) (gd : Option (List Code)) (cn : PySem.Str) (cs : Scope) (a : Addr) (ccd : Value) (cl : List (PySem.Str × Addr)) (outer : List Env) (A₀ : Around) (base h₀ : Heap) (L : Addr) (m : PySem.Str → Option Value) (s : Shared)
  (t1 t2 : Tok) (rest : List (Addr × Obj)) (Q E : Value → Shared → Prop) (T₀ : BToks) (U₀ : TToks) (b bd t td ce mk ls : Addr) (cells : List Value) (ks ms : List Int) (nc : Nat) (begv zv ticks ct gs ge x y : Int)
  (B : Below A₀ base outer h₀) (F : Fr h₀ L s.heap m) (X : (hd.heap_39 w.params).In h₀) (N : News h₀ L s.heap ((bd, bufO w T₀ t mk ls 1 begv zv ticks ct) :: rest)) (T : Top p loose mean mg mb h₀) (hk : cs.kind = .function)
  (hdp : dp + 10 < recursionLimit) (hun : un + 100 < cLine) (hr : Apart [bd] rest)
  (m1 : (b, instObj 459 bd) ∈ rest) (m3 : (t, instObj 248 td) ∈ rest) (m4 : (td, txtO w U₀ ce gs ge) ∈ rest) (m5 : (ce, PySem.W.listOf cells.toArray nc) ∈ rest)
  (hi : IntsAre cells (ks ++ ms)) (hgs : gs = ks.length) (hge : ge = ks.length + ms.length) (hlen : ks.length ≤ 8) (hms : ms.length ≤ 20) (hx : 1 ≤ x) (hxy : x ≤ y) (hy : y ≤ ks.length + 1)
  (hret : ∀ T' (pt bg z : Int) h' tk', pt = x → bg = x → z = y → Fr h₀ L h' m → News h₀ L h' ((bd, bufO w T' t mk ls pt bg z ticks ct) :: rest) → Q .none {s with heap := h', toks := tk'}) :
  wpAny (model prog w) (ktrTop dp un gd cn cs L a ccd cl outer) (call (.ref 468) [.ref b, .int x t1, .int y t2]) Q E s := by
  k_with_none
  k_with "call ref" => (k_here; (with_reducible show wpAny _ _ (call (Value.ref 480) [Value.ref _, Value.int _ _]) _ _ _); k_dflt (refine' draw_use ?q28kB ?q28kF ?q28kX ?q28kN ?q28kU ?q28kT ?q28kK ?q28kD ?q28k1 ?q28k2 ?q28kd ?q28ku ?_; (case q28kB => k_asm); (case q28kF => k_asm); (case q28kX => k_asm); (case q28kN => k_asm); (case q28kU => k_updF); (case q28kT => k_asm); (case q28kK => first | exact rfl | assumption); (case q28kD => first | assumption | exact deck_of (by assumption)); (case q28k1 => first | decide | omega | k_room); (case q28k2 => first | decide | omega); (case q28kd => ktr_room); (case q28ku => ktr_units)); intro q28_r' q28_t' q28_vs' q28_n' q28_h' q28_tk' q28_hr0' q28_hr1' q28_hD' q28_F' q28_N'; (try dsimp only at q28_N'); (try dsimp only))
  k_with "CompSrc" => (k_here; k_dflt (refine' LCg.CompSrc.range (by rfl) (by k_asm) (by k_asm) (by assumption) ?q29ksm ?q29krs ?q29ksz ?_; (case q29ksm => exact small_one (by kcf_bnd) (by kcf_bnd) (by kcf_bnd) (by kcf_bnd)); (case q29krs => exact rangeSize_nat _ _); (case q29ksz => (rw [PySem.sizeLine_eq]; omega)); intro q29_g'; (refine' comp_drawU Letter ?q29cD ?q29cU (fun q29_v' q29_I' q29_oI' q29_C' q29_oC' q29_D' q29_m' q29_ys' q29_h' q29_tk' q29_vs' q29_c' q29_E' q29_hD' q29_hC' q29_hx' q29_F' q29_N' q29_off' q29_ne' => ?_) (fun q29_ys' q29_ks' q29_vs' q29_c' q29_hI' q29_hl' q29_hm' q29_hD' => ?_); (case q29cD => assumption); (case q29cU => k_updF)); (all_goals (try simp only [LCg.Off3, and_true] at q29_off'))))
  k_with "CompEnd" => (refine drawEnd (by assumption) (by assumption) (by assumption) (by kcf_all) (by first | assumption | (simp only [LCg.Off3, and_true]; done) | (simp only [LCg.Off3, and_true]; assumption)) ?_)
  k_with "call builtin:len" => (k_here; (with_reducible show wpAny _ _ (call (Value.builtin "len") [Value.ref _]) _ _ _); k_dflt (refine' kst_len ?q31k1 ?q31k2 ?q31k3 ?q31k4 ?_; (case q31k1 => k_asm); (case q31k2 => k_mem); (case q31k3 => exact IntsAre.length (by assumption)); (case q31k4 => ((try simp only [List.length_append]); omega))))
  have dummy : PySem.Challenge.rw_ok0060_01 = PySem.Challenge.rw_ok0060_01 ∧ hd.heap_39 = hd.heap_39 := by
    k_fill
    exact ⟨rfl, rfl⟩
  clear dummy
  have hlm : cells.length = ks.length + ms.length := by rw [hi.length, List.length_append]
  k_steps
  rename News h₀ L _ _ => kN9
  refine' hret ⟨_, _, _, _, _, _, _, _, _, _, _, _, _, _, _, _, _, _, _, _, _, _, _, _, _, _, _, _⟩ _ _ _ _ _ ?e1 ?e2 ?e3 (by assumption) (news_sub kN9 ?hN)
  case hN =>
    refine List.forall_mem_cons.mpr ⟨?_, ?_⟩
    · dsimp only [bufO]
      k_mem
    · intro p hp; (repeat first | exact hp | refine List.mem_cons_of_mem _ ?_)
  case e1 => (repeat' split) <;> omega
  case e2 => (repeat' split) <;> omega
  case e3 => (repeat' split) <;> omega

end
end
theorem apart_P6 : ∀ x : Nat, x = x := by
  w_top off
  k_with_none
  first | (walk1; done) | exact fun _ => rfl
section
section
theorem q_bool {Q : Value → Shared → Prop} {v v' : Bool} {s : Shared} (e : v = v') (h : Q (.bool v') s) : Q (.bool v) s := e ▸ h
theorem bob_spec {w : World} {p : Program} {loose : List PySem.Str} {mean : ExcName → Option Value} {mg mb : PySem.Str → Option Value}
  {dp un : Nat} {gd : Option (List Code)} {cn : PySem.Str} {cs : Scope} {a : Addr} {ccd : Value} {cl : List (PySem.Str × Addr)} {outer : List Env} {A₀ : Around} {base h₀ : Heap} {L : Addr} {m : PySem.Str → Option Value} {s : Shared}
  {news : List (Addr × Obj)} {Q E : Value → Shared → Prop} {T₀ : BToks} {U₀ : TToks} {b bd t td ce mk ls : Addr} {cells : List Value} {ks ms : List Int} {nc : Nat} {point begv zv ticks ct gs ge : Int}
  (B : Below A₀ base outer h₀) (F : Fr h₀ L s.heap m) (X : (hd.heap_39 w.params).In h₀) (N : News h₀ L s.heap news) (T : Top p loose mean mg mb h₀) (hk : cs.kind = .function)
  (hdp : dp + 8 < recursionLimit) (hun : un + 80 < cLine)
  (m1 : (b, instObj 459 bd) ∈ news) (m2 : (bd, bufO w T₀ t mk ls point begv zv ticks ct) ∈ news) (m3 : (t, instObj 248 td) ∈ news) (m4 : (td, txtO w U₀ ce gs ge) ∈ news) (m5 : (ce, PySem.W.listOf cells.toArray nc) ∈ news)
  (hi : IntsAre cells (ks ++ ms)) (hgs : gs = ks.length) (hlen : ks.length ≤ 8) (hb : 1 ≤ begv) (hz : zv ≤ ks.length + 1) (hp0 : begv ≤ point) (hp1 : point ≤ zv)
  (hret : ∀ h' tk', Fr h₀ L h' m → News h₀ L h' news → Q (.bool (decide (point = begv))) {s with heap := h', toks := tk'}) :
  wpAny (model prog w) (ktrTop dp un gd cn cs L a ccd cl outer) (call (.ref 119) [.ref b]) Q E s := by
  k_with_none
  k_with "call ref" => (k_here; (with_reducible show wpAny _ _ (call (Value.ref 480) [Value.ref _, Value.int _ _]) _ _ _); k_dflt (refine' draw_use ?q32kB ?q32kF ?q32kX ?q32kN ?q32kU ?q32kT ?q32kK ?q32kD ?q32k1 ?q32k2 ?q32kd ?q32ku ?_; (case q32kB => k_asm); (case q32kF => k_asm); (case q32kX => k_asm); (case q32kN => k_asm); (case q32kU => k_updF); (case q32kT => k_asm); (case q32kK => first | exact rfl | assumption); (case q32kD => first | assumption | exact deck_of (by assumption)); (case q32k1 => first | decide | omega | k_room); (case q32k2 => first | decide | omega); (case q32kd => ktr_room); (case q32ku => ktr_units)); intro q32_r' q32_t' q32_vs' q32_n' q32_h' q32_tk' q32_hr0' q32_hr1' q32_hD' q32_F' q32_N'; (try dsimp only at q32_N'); (try dsimp only))
  k_with "CompSrc" => (k_here; k_dflt (refine' LCg.CompSrc.range (by rfl) (by k_asm) (by k_asm) (by assumption) ?q33ksm ?q33krs ?q33ksz ?_; (case q33ksm => exact small_one (by kcf_bnd) (by kcf_bnd) (by kcf_bnd) (by kcf_bnd)); (case q33krs => exact rangeSize_nat _ _); (case q33ksz => (rw [PySem.sizeLine_eq]; omega)); intro q33_g'; (refine' comp_drawU Letter ?q33cD ?q33cU (fun q33_v' q33_I' q33_oI' q33_C' q33_oC' q33_D' q33_m' q33_ys' q33_h' q33_tk' q33_vs' q33_c' q33_E' q33_hD' q33_hC' q33_hx' q33_F' q33_N' q33_off' q33_ne' => ?_) (fun q33_ys' q33_ks' q33_vs' q33_c' q33_hI' q33_hl' q33_hm' q33_hD' => ?_); (case q33cD => assumption); (case q33cU => k_updF)); (all_goals (try simp only [LCg.Off3, and_true] at q33_off'))))
  k_with "CompEnd" => (refine drawEnd (by assumption) (by assumption) (by assumption) (by kcf_all) (by first | assumption | (simp only [LCg.Off3, and_true]; done) | (simp only [LCg.Off3, and_true]; assumption)) ?_)
  have dummy : PySem.Challenge.rw_ok0060_01 = PySem.Challenge.rw_ok0060_01 ∧ hd.heap_39 = hd.heap_39 := by
    k_fill
    exact ⟨rfl, rfl⟩
  clear dummy
  k_steps
  all_goals
    rename News h₀ L _ news => kN9
    refine q_bool (v' := decide (point = begv)) ?_ (hret _ _ (by assumption) kN9)
  all_goals (try (rw [getD_app (by omega)]))
  all_goals
    rw [Bool.eq_iff_iff]
    simp only [beq_iff_eq, decide_eq_true_eq]
    try rw [show point - 1 - 1 = point - 2 by omega]
    try omega
  
theorem eob_spec {w : World} {p : Program} {loose : List PySem.Str} {mean : ExcName → Option Value} {mg mb : PySem.Str → Option Value}
  {dp un : Nat} {gd : Option (List Code)} {cn : PySem.Str} {cs : Scope} {a : Addr} {ccd : Value} {cl : List (PySem.Str × Addr)} {outer : List Env} {A₀ : Around} {base h₀ : Heap} {L : Addr} {m : PySem.Str → Option Value} {s : Shared}
  {news : List (Addr × Obj)} {Q E : Value → Shared → Prop} {T₀ : BToks} {U₀ : TToks} {b bd t td ce mk ls : Addr} {cells : List Value} {ks ms : List Int} {nc : Nat} {point begv zv ticks ct gs ge : Int}
  (B : Below A₀ base outer h₀) (F : Fr h₀ L s.heap m) (X : (hd.heap_39 w.params).In h₀) (N : News h₀ L s.heap news) (T : Top p loose mean mg mb h₀) (hk : cs.kind = .function)
  (hdp : dp + 8 < recursionLimit) (hun : un + 80 < cLine)
  (m1 : (b, instObj 459 bd) ∈ news) (m2 : (bd, bufO w T₀ t mk ls point begv zv ticks ct) ∈ news) (m3 : (t, instObj 248 td) ∈ news) (m4 : (td, txtO w U₀ ce gs ge) ∈ news) (m5 : (ce, PySem.W.listOf cells.toArray nc) ∈ news)
  (hi : IntsAre cells (ks ++ ms)) (hgs : gs = ks.length) (hlen : ks.length ≤ 8) (hb : 1 ≤ begv) (hz : zv ≤ ks.length + 1) (hp0 : begv ≤ point) (hp1 : point ≤ zv)
  (hret : ∀ h' tk', Fr h₀ L h' m → News h₀ L h' news → Q (.bool (decide (point = zv))) {s with heap := h', toks := tk'}) :
  wpAny (model prog w) (ktrTop dp un gd cn cs L a ccd cl outer) (call (.ref 126) [.ref b]) Q E s := by
  k_with_none
  k_with "call ref" => (k_here; (with_reducible show wpAny _ _ (call (Value.ref 480) [Value.ref _, Value.int _ _]) _ _ _); k_dflt (refine' draw_use ?q35kB ?q35kF ?q35kX ?q35kN ?q35kU ?q35kT ?q35kK ?q35kD ?q35k1 ?q35k2 ?q35kd ?q35ku ?_; (case q35kB => k_asm); (case q35kF => k_asm); (case q35kX => k_asm); (case q35kN => k_asm); (case q35kU => k_updF); (case q35kT => k_asm); (case q35kK => first | exact rfl | assumption); (case q35kD => first | assumption | exact deck_of (by assumption)); (case q35k1 => first | decide | omega | k_room); (case q35k2 => first | decide | omega); (case q35kd => ktr_room); (case q35ku => ktr_units)); intro q35_r' q35_t' q35_vs' q35_n' q35_h' q35_tk' q35_hr0' q35_hr1' q35_hD' q35_F' q35_N'; (try dsimp only at q35_N'); (try dsimp only))
  k_with "CompSrc" => (k_here; k_dflt (refine' LCg.CompSrc.range (by rfl) (by k_asm) (by k_asm) (by assumption) ?q36ksm ?q36krs ?q36ksz ?_; (case q36ksm => exact small_one (by kcf_bnd) (by kcf_bnd) (by kcf_bnd) (by kcf_bnd)); (case q36krs => exact rangeSize_nat _ _); (case q36ksz => (rw [PySem.sizeLine_eq]; omega)); intro q36_g'; (refine' comp_drawU Letter ?q36cD ?q36cU (fun q36_v' q36_I' q36_oI' q36_C' q36_oC' q36_D' q36_m' q36_ys' q36_h' q36_tk' q36_vs' q36_c' q36_E' q36_hD' q36_hC' q36_hx' q36_F' q36_N' q36_off' q36_ne' => ?_) (fun q36_ys' q36_ks' q36_vs' q36_c' q36_hI' q36_hl' q36_hm' q36_hD' => ?_); (case q36cD => assumption); (case q36cU => k_updF)); (all_goals (try simp only [LCg.Off3, and_true] at q36_off'))))
  k_with "CompEnd" => (refine drawEnd (by assumption) (by assumption) (by assumption) (by kcf_all) (by first | assumption | (simp only [LCg.Off3, and_true]; done) | (simp only [LCg.Off3, and_true]; assumption)) ?_)
  have dummy : PySem.Challenge.rw_ok0060_01 = PySem.Challenge.rw_ok0060_01 ∧ hd.heap_39 = hd.heap_39 := by
    k_fill
    exact ⟨rfl, rfl⟩
  clear dummy
  k_steps
  all_goals
    rename News h₀ L _ news => kN9
    refine q_bool (v' := decide (point = zv)) ?_ (hret _ _ (by assumption) kN9)
  all_goals (try (rw [getD_app (by omega)]))
  all_goals
    rw [Bool.eq_iff_iff]
    simp only [beq_iff_eq, decide_eq_true_eq]
    try rw [show point - 1 - 1 = point - 2 by omega]
    try omega
  
theorem bol_spec {w : World} {p : Program} {loose : List PySem.Str} {mean : ExcName → Option Value} {mg mb : PySem.Str → Option Value}
  {dp un : Nat} {gd : Option (List Code)} {cn : PySem.Str} {cs : Scope} {a : Addr} {ccd : Value} {cl : List (PySem.Str × Addr)} {outer : List Env} {A₀ : Around} {base h₀ : Heap} {L : Addr} {m : PySem.Str → Option Value} {s : Shared}
  {news : List (Addr × Obj)} {Q E : Value → Shared → Prop} {T₀ : BToks} {U₀ : TToks} {b bd t td ce mk ls : Addr} {cells : List Value} {ks ms : List Int} {nc : Nat} {point begv zv ticks ct gs ge : Int}
  (B : Below A₀ base outer h₀) (F : Fr h₀ L s.heap m) (X : (hd.heap_39 w.params).In h₀) (N : News h₀ L s.heap news) (T : Top p loose mean mg mb h₀) (hk : cs.kind = .function)
  (hdp : dp + 8 < recursionLimit) (hun : un + 80 < cLine)
  (m1 : (b, instObj 459 bd) ∈ news) (m2 : (bd, bufO w T₀ t mk ls point begv zv ticks ct) ∈ news) (m3 : (t, instObj 248 td) ∈ news) (m4 : (td, txtO w U₀ ce gs ge) ∈ news) (m5 : (ce, PySem.W.listOf cells.toArray nc) ∈ news)
  (hi : IntsAre cells (ks ++ ms)) (hgs : gs = ks.length) (hlen : ks.length ≤ 8) (hb : 1 ≤ begv) (hz : zv ≤ ks.length + 1) (hp0 : begv ≤ point) (hp1 : point ≤ zv)
  (hret : ∀ h' tk', Fr h₀ L h' m → News h₀ L h' news → Q (.bool (decide (point = begv ∨ ks.getD (point - 2).toNat 0 = 10))) {s with heap := h', toks := tk'}) :
  wpAny (model prog w) (ktrTop dp un gd cn cs L a ccd cl outer) (call (.ref 133) [.ref b]) Q E s := by
  k_with_none
  k_with "call ref" => (k_here; (with_reducible show wpAny _ _ (call (Value.ref 480) [Value.ref _, Value.int _ _]) _ _ _); k_dflt (refine' draw_use ?q38kB ?q38kF ?q38kX ?q38kN ?q38kU ?q38kT ?q38kK ?q38kD ?q38k1 ?q38k2 ?q38kd ?q38ku ?_; (case q38kB => k_asm); (case q38kF => k_asm); (case q38kX => k_asm); (case q38kN => k_asm); (case q38kU => k_updF); (case q38kT => k_asm); (case q38kK => first | exact rfl | assumption); (case q38kD => first | assumption | exact deck_of (by assumption)); (case q38k1 => first | decide | omega | k_room); (case q38k2 => first | decide | omega); (case q38kd => ktr_room); (case q38ku => ktr_units)); intro q38_r' q38_t' q38_vs' q38_n' q38_h' q38_tk' q38_hr0' q38_hr1' q38_hD' q38_F' q38_N'; (try dsimp only at q38_N'); (try dsimp only))
  k_with "CompSrc" => (k_here; k_dflt (refine' LCg.CompSrc.range (by rfl) (by k_asm) (by k_asm) (by assumption) ?q39ksm ?q39krs ?q39ksz ?_; (case q39ksm => exact small_one (by kcf_bnd) (by kcf_bnd) (by kcf_bnd) (by kcf_bnd)); (case q39krs => exact rangeSize_nat _ _); (case q39ksz => (rw [PySem.sizeLine_eq]; omega)); intro q39_g'; (refine' comp_drawU Letter ?q39cD ?q39cU (fun q39_v' q39_I' q39_oI' q39_C' q39_oC' q39_D' q39_m' q39_ys' q39_h' q39_tk' q39_vs' q39_c' q39_E' q39_hD' q39_hC' q39_hx' q39_F' q39_N' q39_off' q39_ne' => ?_) (fun q39_ys' q39_ks' q39_vs' q39_c' q39_hI' q39_hl' q39_hm' q39_hD' => ?_); (case q39cD => assumption); (case q39cU => k_updF)); (all_goals (try simp only [LCg.Off3, and_true] at q39_off'))))
  k_with "CompEnd" => (refine drawEnd (by assumption) (by assumption) (by assumption) (by kcf_all) (by first | assumption | (simp only [LCg.Off3, and_true]; done) | (simp only [LCg.Off3, and_true]; assumption)) ?_)
  have dummy : PySem.Challenge.rw_ok0060_01 = PySem.Challenge.rw_ok0060_01 ∧ hd.heap_39 = hd.heap_39 := by
    k_fill
    exact ⟨rfl, rfl⟩
  clear dummy
  k_steps
  all_goals
    rename News h₀ L _ news => kN9
    refine q_bool (v' := decide (point = begv ∨ ks.getD (point - 2).toNat 0 = 10)) ?_ (hret _ _ (by assumption) kN9)
  all_goals (try (rw [getD_app (by omega)]))
  all_goals
    rw [Bool.eq_iff_iff]
    simp only [beq_iff_eq, decide_eq_true_eq]
    try rw [show point - 1 - 1 = point - 2 by omega]
    try omega
  
theorem eol_spec {w : World} {p : Program} {loose : List PySem.Str} {mean : ExcName → Option Value} {mg mb : PySem.Str → Option Value}
  {dp un : Nat} {gd : Option (List Code)} {cn : PySem.Str} {cs : Scope} {a : Addr} {ccd : Value} {cl : List (PySem.Str × Addr)} {outer : List Env} {A₀ : Around} {base h₀ : Heap} {L : Addr} {m : PySem.Str → Option Value} {s : Shared}
  {news : List (Addr × Obj)} {Q E : Value → Shared → Prop} {T₀ : BToks} {U₀ : TToks} {b bd t td ce mk ls : Addr} {cells : List Value} {ks ms : List Int} {nc : Nat} {point begv zv ticks ct gs ge : Int}
  (B : Below A₀ base outer h₀) (F : Fr h₀ L s.heap m) (X : (hd.heap_39 w.params).In h₀) (N : News h₀ L s.heap news) (T : Top p loose mean mg mb h₀) (hk : cs.kind = .function)
  (hdp : dp + 8 < recursionLimit) (hun : un + 80 < cLine)
  (m1 : (b, instObj 459 bd) ∈ news) (m2 : (bd, bufO w T₀ t mk ls point begv zv ticks ct) ∈ news) (m3 : (t, instObj 248 td) ∈ news) (m4 : (td, txtO w U₀ ce gs ge) ∈ news) (m5 : (ce, PySem.W.listOf cells.toArray nc) ∈ news)
  (hi : IntsAre cells (ks ++ ms)) (hgs : gs = ks.length) (hlen : ks.length ≤ 8) (hb : 1 ≤ begv) (hz : zv ≤ ks.length + 1) (hp0 : begv ≤ point) (hp1 : point ≤ zv)
  (hret : ∀ h' tk', Fr h₀ L h' m → News h₀ L h' news → Q (.bool (decide (point = zv ∨ ks.getD (point - 1).toNat 0 = 10))) {s with heap := h', toks := tk'}) :
  wpAny (model prog w) (ktrTop dp un gd cn cs L a ccd cl outer) (call (.ref 140) [.ref b]) Q E s := by
  k_with_none
  k_with "call ref" => (k_here; (with_reducible show wpAny _ _ (call (Value.ref 480) [Value.ref _, Value.int _ _]) _ _ _); k_dflt (refine' draw_use ?q41kB ?q41kF ?q41kX ?q41kN ?q41kU ?q41kT ?q41kK ?q41kD ?q41k1 ?q41k2 ?q41kd ?q41ku ?_; (case q41kB => k_asm); (case q41kF => k_asm); (case q41kX => k_asm); (case q41kN => k_asm); (case q41kU => k_updF); (case q41kT => k_asm); (case q41kK => first | exact rfl | assumption); (case q41kD => first | assumption | exact deck_of (by assumption)); (case q41k1 => first | decide | omega | k_room); (case q41k2 => first | decide | omega); (case q41kd => ktr_room); (case q41ku => ktr_units)); intro q41_r' q41_t' q41_vs' q41_n' q41_h' q41_tk' q41_hr0' q41_hr1' q41_hD' q41_F' q41_N'; (try dsimp only at q41_N'); (try dsimp only))
  k_with "CompSrc" => (k_here; k_dflt (refine' LCg.CompSrc.range (by rfl) (by k_asm) (by k_asm) (by assumption) ?q42ksm ?q42krs ?q42ksz ?_; (case q42ksm => exact small_one (by kcf_bnd) (by kcf_bnd) (by kcf_bnd) (by kcf_bnd)); (case q42krs => exact rangeSize_nat _ _); (case q42ksz => (rw [PySem.sizeLine_eq]; omega)); intro q42_g'; (refine' comp_drawU Letter ?q42cD ?q42cU (fun q42_v' q42_I' q42_oI' q42_C' q42_oC' q42_D' q42_m' q42_ys' q42_h' q42_tk' q42_vs' q42_c' q42_E' q42_hD' q42_hC' q42_hx' q42_F' q42_N' q42_off' q42_ne' => ?_) (fun q42_ys' q42_ks' q42_vs' q42_c' q42_hI' q42_hl' q42_hm' q42_hD' => ?_); (case q42cD => assumption); (case q42cU => k_updF)); (all_goals (try simp only [LCg.Off3, and_true] at q42_off'))))
  k_with "CompEnd" => (refine drawEnd (by assumption) (by assumption) (by assumption) (by kcf_all) (by first | assumption | (simp only [LCg.Off3, and_true]; done) | (simp only [LCg.Off3, and_true]; assumption)) ?_)
  have dummy : PySem.Challenge.rw_ok0060_01 = PySem.Challenge.rw_ok0060_01 ∧ hd.heap_39 = hd.heap_39 := by
    k_fill
    exact ⟨rfl, rfl⟩
  clear dummy
  k_steps
  all_goals
    rename News h₀ L _ news => kN9
    refine q_bool (v' := decide (point = zv ∨ ks.getD (point - 1).toNat 0 = 10)) ?_ (hret _ _ (by assumption) kN9)
  all_goals (try (rw [getD_app (by omega)]))
  all_goals
    rw [Bool.eq_iff_iff]
    simp only [beq_iff_eq, decide_eq_true_eq]
    try rw [show point - 1 - 1 = point - 2 by omega]
    try omega
  

end
end
theorem apart_P7 : ∀ x : Nat, x = x := by
  w_top off
  k_with_none
  first | (walk1; done) | exact fun _ => rfl
section
section
local macro_rules | `(tactic| k_mem) => `(tactic| first | exact List.Mem.head _ | assumption | (refine' List.Mem.tail _ ?_; k_mem))
theorem getD_letter {ks : List Int} (h : ∀ k ∈ ks, Letter k) (i : Nat) : 0 ≤ ks.getD i 0 := by
  rw [List.getD_eq_getElem?_getD]
  cases e : ks[i]? with
  | none => simp
  | some v => exact (h v (List.mem_of_getElem? e)).1
theorem point_spec {w : World} {p : Program} {loose : List PySem.Str} {mean : ExcName → Option Value} {mg mb : PySem.Str → Option Value}
  {dp un : Nat} {gd : Option (List Code)} {cn : PySem.Str} {cs : Scope} {a : Addr} {ccd : Value} {cl : List (PySem.Str × Addr)} {outer : List Env} {A₀ : Around} {base h₀ : Heap} {L : Addr} {m : PySem.Str → Option Value} {s : Shared}
  {news : List (Addr × Obj)} {Q E : Value → Shared → Prop} {T₀ : BToks} {U₀ : TToks} {b bd t td ce mk ls S : Addr} {cells ys : List Value} {ks ms : List Int} {nc c : Nat} {point begv zv ticks ct gs ge : Int} {t1 t2 : Tok}
  (B : Below A₀ base outer h₀) (F : Fr h₀ L s.heap m) (X : (hd.heap_39 w.params).In h₀) (N : News h₀ L s.heap news) (T : Top p loose mean mg mb h₀) (hk : cs.kind = .function)
  (hdp : dp + 12 < recursionLimit) (hun : un + 120 < cLine)
  (m1 : (b, instObj 459 bd) ∈ news) (m2 : (bd, bufO w T₀ t mk ls point begv zv ticks ct) ∈ news) (m3 : (t, instObj 248 td) ∈ news) (m4 : (td, txtO w U₀ ce gs ge) ∈ news) (m5 : (ce, PySem.W.listOf cells.toArray nc) ∈ news) (m6 : (S, PySem.W.listOf ys.toArray c) ∈ news)
  (hi : IntsAre cells (ks ++ ms)) (hgs : gs = ks.length) (hlen : ks.length ≤ 8) (hb : 1 ≤ begv) (hz : zv ≤ ks.length + 1) (hp0 : begv ≤ point) (hp1 : point ≤ zv) (hy : IntsAre ys ks) (hpos : ∀ k ∈ ks, Letter k)
  (hret : ∀ h' tk', Fr h₀ L h' m → News h₀ L h' news → Q (.bool true) {s with heap := h', toks := tk'}) :
  wpAny (model prog w) (ktrTop dp un gd cn cs L a ccd cl outer) (call (.ref 494) [.ref b, .ref S, .int begv t1, .int zv t2]) Q E s := by
  k_with_none
  k_with "call ref" => (k_here; (with_reducible show wpAny _ _ (call (Value.ref 480) [Value.ref _, Value.int _ _]) _ _ _); k_dflt (refine' draw_use ?q44kB ?q44kF ?q44kX ?q44kN ?q44kU ?q44kT ?q44kK ?q44kD ?q44k1 ?q44k2 ?q44kd ?q44ku ?_; (case q44kB => k_asm); (case q44kF => k_asm); (case q44kX => k_asm); (case q44kN => k_asm); (case q44kU => k_updF); (case q44kT => k_asm); (case q44kK => first | exact rfl | assumption); (case q44kD => first | assumption | exact deck_of (by assumption)); (case q44k1 => first | decide | omega | k_room); (case q44k2 => first | decide | omega); (case q44kd => ktr_room); (case q44ku => ktr_units)); intro q44_r' q44_t' q44_vs' q44_n' q44_h' q44_tk' q44_hr0' q44_hr1' q44_hD' q44_F' q44_N'; (try dsimp only at q44_N'); (try dsimp only))
  k_with "CompSrc" => (k_here; k_dflt (refine' LCg.CompSrc.range (by rfl) (by k_asm) (by k_asm) (by assumption) ?q45ksm ?q45krs ?q45ksz ?_; (case q45ksm => exact small_one (by kcf_bnd) (by kcf_bnd) (by kcf_bnd) (by kcf_bnd)); (case q45krs => exact rangeSize_nat _ _); (case q45ksz => (rw [PySem.sizeLine_eq]; omega)); intro q45_g'; (refine' comp_drawU Letter ?q45cD ?q45cU (fun q45_v' q45_I' q45_oI' q45_C' q45_oC' q45_D' q45_m' q45_ys' q45_h' q45_tk' q45_vs' q45_c' q45_E' q45_hD' q45_hC' q45_hx' q45_F' q45_N' q45_off' q45_ne' => ?_) (fun q45_ys' q45_ks' q45_vs' q45_c' q45_hI' q45_hl' q45_hm' q45_hD' => ?_); (case q45cD => assumption); (case q45cU => k_updF)); (all_goals (try simp only [LCg.Off3, and_true] at q45_off'))))
  k_with "CompEnd" => (refine drawEnd (by assumption) (by assumption) (by assumption) (by kcf_all) (by first | assumption | (simp only [LCg.Off3, and_true]; done) | (simp only [LCg.Off3, and_true]; assumption)) ?_)
  k_with "call ref" => (k_here; (with_reducible show wpAny _ _ (call (Value.ref 119) [Value.ref _]) _ _ _); k_dflt (refine' bob_spec ?q47kB ?q47kF ?q47kX ?q47kN ?q47kT ?q47kK ?q47kd ?q47ku ?q47m1 ?q47m2 ?q47m3 ?q47m4 ?q47m5 ?q47hi ?q47hg ?q47hl ?q47hb ?q47hz ?q47p0 ?q47p1 ?_; (case q47kB => k_asm); (case q47kF => k_asm); (case q47kX => k_asm); (case q47kN => k_asm); (case q47kT => k_asm); (case q47kK => first | exact rfl | assumption); (case q47kd => ktr_room); (case q47ku => ktr_units); (case q47m1 => k_mem); (case q47m2 => k_mem); (case q47m3 => k_mem); (case q47m4 => k_mem); (case q47m5 => k_mem); (case q47hi => assumption); (case q47hg => assumption); (case q47hl => assumption); (case q47hb => assumption); (case q47hz => assumption); (case q47p0 => assumption); (case q47p1 => assumption)); intro q47_h' q47_tk' q47_F' q47_N'; (try dsimp only))
  k_with "call ref" => (k_here; (with_reducible show wpAny _ _ (call (Value.ref 126) [Value.ref _]) _ _ _); k_dflt (refine' eob_spec ?q48kB ?q48kF ?q48kX ?q48kN ?q48kT ?q48kK ?q48kd ?q48ku ?q48m1 ?q48m2 ?q48m3 ?q48m4 ?q48m5 ?q48hi ?q48hg ?q48hl ?q48hb ?q48hz ?q48p0 ?q48p1 ?_; (case q48kB => k_asm); (case q48kF => k_asm); (case q48kX => k_asm); (case q48kN => k_asm); (case q48kT => k_asm); (case q48kK => first | exact rfl | assumption); (case q48kd => ktr_room); (case q48ku => ktr_units); (case q48m1 => k_mem); (case q48m2 => k_mem); (case q48m3 => k_mem); (case q48m4 => k_mem); (case q48m5 => k_mem); (case q48hi => assumption); (case q48hg => assumption); (case q48hl => assumption); (case q48hb => assumption); (case q48hz => assumption); (case q48p0 => assumption); (case q48p1 => assumption)); intro q48_h' q48_tk' q48_F' q48_N'; (try dsimp only))
  k_with "call ref" => (k_here; (with_reducible show wpAny _ _ (call (Value.ref 133) [Value.ref _]) _ _ _); k_dflt (refine' bol_spec ?q49kB ?q49kF ?q49kX ?q49kN ?q49kT ?q49kK ?q49kd ?q49ku ?q49m1 ?q49m2 ?q49m3 ?q49m4 ?q49m5 ?q49hi ?q49hg ?q49hl ?q49hb ?q49hz ?q49p0 ?q49p1 ?_; (case q49kB => k_asm); (case q49kF => k_asm); (case q49kX => k_asm); (case q49kN => k_asm); (case q49kT => k_asm); (case q49kK => first | exact rfl | assumption); (case q49kd => ktr_room); (case q49ku => ktr_units); (case q49m1 => k_mem); (case q49m2 => k_mem); (case q49m3 => k_mem); (case q49m4 => k_mem); (case q49m5 => k_mem); (case q49hi => assumption); (case q49hg => assumption); (case q49hl => assumption); (case q49hb => assumption); (case q49hz => assumption); (case q49p0 => assumption); (case q49p1 => assumption)); intro q49_h' q49_tk' q49_F' q49_N'; (try dsimp only))
  k_with "call ref" => (k_here; (with_reducible show wpAny _ _ (call (Value.ref 140) [Value.ref _]) _ _ _); k_dflt (refine' eol_spec ?q50kB ?q50kF ?q50kX ?q50kN ?q50kT ?q50kK ?q50kd ?q50ku ?q50m1 ?q50m2 ?q50m3 ?q50m4 ?q50m5 ?q50hi ?q50hg ?q50hl ?q50hb ?q50hz ?q50p0 ?q50p1 ?_; (case q50kB => k_asm); (case q50kF => k_asm); (case q50kX => k_asm); (case q50kN => k_asm); (case q50kT => k_asm); (case q50kK => first | exact rfl | assumption); (case q50kd => ktr_room); (case q50ku => ktr_units); (case q50m1 => k_mem); (case q50m2 => k_mem); (case q50m3 => k_mem); (case q50m4 => k_mem); (case q50m5 => k_mem); (case q50hi => assumption); (case q50hg => assumption); (case q50hl => assumption); (case q50hb => assumption); (case q50hz => assumption); (case q50p0 => assumption); (case q50p1 => assumption)); intro q50_h' q50_tk' q50_F' q50_N'; (try dsimp only))
  have dummy : PySem.Challenge.rw_ok0060_01 = PySem.Challenge.rw_ok0060_01 ∧ hd.heap_39 = hd.heap_39 := by
    k_fill
    exact ⟨rfl, rfl⟩
  clear dummy
  have g1 := getD_letter hpos (point - 1).toNat
  have g2 := getD_letter hpos (point - 2).toNat
  k_steps
  all_goals
    rename News h₀ L _ _ => kN9
    refine q_bool (v' := true) ?_ (hret _ _ (by assumption) (news_sub kN9 ?_))
  all_goals first
    | (intro p hp; repeat first | exact hp | refine List.mem_cons_of_mem _ ?_)
    | skip
  all_goals
    simp only [Bool.and_eq_true, beq_iff_eq, List.any_cons, List.any_nil, Bool.or_false]
    refine ⟨?_, ?_, ?_, ?_⟩
    all_goals
      rw [Bool.eq_iff_iff]
      simp only [beq_iff_eq, decide_eq_true_eq, Bool.or_eq_true, true_or, iff_true] <;> omega

end
end
theorem apart_P8 : ∀ x : Nat, x = x := by
  w_top off
  k_with_none
  first | (walk1; done) | exact fun _ => rfl
section
section
theorem seg_len {k n : Nat} {x y : Int} (hx : 1 ≤ x) (hxy : x ≤ y) (hy : y ≤ k + 1) (hn : k ≤ n) : min (y - 1).toNat n - (x - 1).toNat = (y - x).toNat := by
  obtain ⟨i, rfl⟩ : ∃ i : Nat, x = i + 1 := ⟨(x - 1).toNat, by omega⟩
  obtain ⟨j, rfl⟩ : ∃ j : Nat, y = i + j + 1 := ⟨(y - (i + 1)).toNat, by omega⟩
  rw [show ((i : Int) + j + 1 - 1) = ((i + j : Nat) : Int) by omega, show ((i : Int) + 1 - 1) = (i : Int) by omega, show ((i : Int) + j + 1 - (i + 1)) = (j : Int) by omega, Int.toNat_natCast, Int.toNat_natCast, Int.toNat_natCast, Nat.min_eq_left (by omega)]
  exact Nat.add_sub_cancel_left _ _
theorem seg_eq {ks ms : List Int} {x y : Int} (hx : 1 ≤ x) (hxy : x ≤ y) (hy : y ≤ ks.length + 1) :
    List.take (min (y - 1).toNat (ks ++ ms).length - (x - 1).toNat) (List.drop (x - 1).toNat (ks ++ ms)) = (ks.drop (x - 1).toNat).take (y - x).toNat := by
  have e : min (y - 1).toNat (ks ++ ms).length - (x - 1).toNat = (y - x).toNat := by
    rw [List.length_append]; exact seg_len hx hxy hy (Nat.le_add_right _ _)
  rw [e, List.drop_append_of_le_length (by omega), List.take_append_of_le_length (by rw [List.length_drop]; omega)]
theorem codes_spec {w : World} {p : Program} {loose : List PySem.Str} {mean : ExcName → Option Value} {mg mb : PySem.Str → Option Value}
  {dp un : Nat} {gd : Option (List Code)} {cn : PySem.Str} {cs : Scope} {a : Addr} {ccd : Value} {cl : List (PySem.Str × Addr)} {outer : List Env} {A₀ : Around} {base h₀ : Heap} {L : Addr} {m : PySem.Str → Option Value} {s : Shared}
  {news : List (Addr × Obj)} {Q E : Value → Shared → Prop} {T₀ : BToks} {U₀ : TToks} {b bd t td ce mk ls : Addr} {cells : List Value} {ks ms : List Int} {nc : Nat} {point begv zv ticks ct gs ge x y : Int} {t1 t2 : Tok}
  (B : Below A₀ base outer h₀) (F : Fr h₀ L s.heap m) (X : (hd.heap_39 w.params).In h₀) (N : News h₀ L s.heap news) (T : Top p loose mean mg mb h₀) (hk : cs.kind = .function)
  (hdp : dp + 12 < recursionLimit) (hun : un + 120 < cLine)
  (m1 : (b, instObj 459 bd) ∈ news) (m2 : (bd, bufO w T₀ t mk ls point begv zv ticks ct) ∈ news) (m3 : (t, instObj 248 td) ∈ news) (m4 : (td, txtO w U₀ ce gs ge) ∈ news) (m5 : (ce, PySem.W.listOf cells.toArray nc) ∈ news)
  (hi : IntsAre cells (ks ++ ms)) (hgs : gs = ks.length) (hlen : ks.length ≤ 8) (hms : ms.length ≤ 20) (hb : 1 ≤ begv) (hz : zv ≤ ks.length + 1) (hx : begv ≤ x) (hxy : x ≤ y) (hy : y ≤ zv)
  (hret : ∀ D us c h' tk', Fr h₀ L h' m → News h₀ L h' ((D, PySem.W.listOf us.toArray c) :: news) → (∀ p ∈ news, @LT.lt Nat _ p.1 D) → IntsAre us ((ks.drop (x - 1).toNat).take (y - x).toNat) → Q (.ref D) {s with heap := h', toks := tk'}) :
  wpAny (model prog w) (ktrTop dp un gd cn cs L a ccd cl outer) (call (.ref 421) [.ref b, .int x t1, .int y t2]) Q E s := by
  k_with_none
  k_with "call ref" => (k_here; (with_reducible show wpAny _ _ (call (Value.ref 480) [Value.ref _, Value.int _ _]) _ _ _); k_dflt (refine' draw_use ?q51kB ?q51kF ?q51kX ?q51kN ?q51kU ?q51kT ?q51kK ?q51kD ?q51k1 ?q51k2 ?q51kd ?q51ku ?_; (case q51kB => k_asm); (case q51kF => k_asm); (case q51kX => k_asm); (case q51kN => k_asm); (case q51kU => k_updF); (case q51kT => k_asm); (case q51kK => first | exact rfl | assumption); (case q51kD => first | assumption | exact deck_of (by assumption)); (case q51k1 => first | decide | omega | k_room); (case q51k2 => first | decide | omega); (case q51kd => ktr_room); (case q51ku => ktr_units)); intro q51_r' q51_t' q51_vs' q51_n' q51_h' q51_tk' q51_hr0' q51_hr1' q51_hD' q51_F' q51_N'; (try dsimp only at q51_N'); (try dsimp only))
  k_with "CompSrc" => (k_here; k_dflt (refine' LCg.CompSrc.range (by rfl) (by k_asm) (by k_asm) (by assumption) ?q52ksm ?q52krs ?q52ksz ?_; (case q52ksm => exact small_one (by kcf_bnd) (by kcf_bnd) (by kcf_bnd) (by kcf_bnd)); (case q52krs => exact rangeSize_nat _ _); (case q52ksz => (rw [PySem.sizeLine_eq]; omega)); intro q52_g'; (refine' comp_drawU Letter ?q52cD ?q52cU (fun q52_v' q52_I' q52_oI' q52_C' q52_oC' q52_D' q52_m' q52_ys' q52_h' q52_tk' q52_vs' q52_c' q52_E' q52_hD' q52_hC' q52_hx' q52_F' q52_N' q52_off' q52_ne' => ?_) (fun q52_ys' q52_ks' q52_vs' q52_c' q52_hI' q52_hl' q52_hm' q52_hD' => ?_); (case q52cD => assumption); (case q52cU => k_updF)); (all_goals (try simp only [LCg.Off3, and_true] at q52_off'))))
  k_with "CompEnd" => (refine drawEnd (by assumption) (by assumption) (by assumption) (by kcf_all) (by first | assumption | (simp only [LCg.Off3, and_true]; done) | (simp only [LCg.Off3, and_true]; assumption)) ?_)
  have dummy : PySem.Challenge.rw_ok0060_01 = PySem.Challenge.rw_ok0060_01 ∧ hd.heap_39 = hd.heap_39 := by
    k_fill
    exact ⟨rfl, rfl⟩
  clear dummy
  k_steps
  rename News h₀ L _ _ => kN9
  rename IntsAre _ _ => hI9
  rename ∀ p ∈ news, p.1 < _ => hl9
  rw [seg_eq (by omega) (by omega) (by omega)] at hI9
  exact hret _ _ _ _ _ (by assumption) kN9 (fun p hp => hl9 p hp) hI9

end
end
theorem apart_P9 : ∀ x : Nat, x = x := by
  w_top off
  k_with_none
  first | (walk1; done) | exact fun _ => rfl
section
section
local macro_rules | `(tactic| omega) => `(tactic| lia)
noncomputable def foldc (f : Bool) (c : Int) : Int := if f = true ∧ 65 ≤ c ∧ c ≤ 90 then c + 32 else c
theorem folded_spec {w : World} {p : Program} {loose : List PySem.Str} {mean : ExcName → Option Value} {mg mb : PySem.Str → Option Value}
  {dp un : Nat} {gd : Option (List Code)} {cn : PySem.Str} {cs : Scope} {a : Addr} {ccd : Value} {cl : List (PySem.Str × Addr)} {outer : List Env} {A₀ : Around} {base h₀ : Heap} {L : Addr} {m : PySem.Str → Option Value} {s : Shared}
  {news : List (Addr × Obj)} {Q E : Value → Shared → Prop} {c : Int} {f : Bool} {t1 : Tok}
  (B : Below A₀ base outer h₀) (F : Fr h₀ L s.heap m) (X : (hd.heap_39 w.params).In h₀) (N : News h₀ L s.heap news) (T : Top p loose mean mg mb h₀) (hk : cs.kind = .function)
  (hdp : dp + 8 < recursionLimit) (hun : un + 80 < cLine)
  (hret : ∀ t' h' tk', Fr h₀ L h' m → News h₀ L h' news → Q (.int (foldc f c) t') {s with heap := h', toks := tk'}) :
  wpAny (model prog w) (ktrTop dp un gd cn cs L a ccd cl outer) (call (.ref 154) [.int c t1, .bool f]) Q E s := by
  k_with_none
  k_with "call ref" => (k_here; (with_reducible show wpAny _ _ (call (Value.ref 480) [Value.ref _, Value.int _ _]) _ _ _); k_dflt (refine' draw_use ?q54kB ?q54kF ?q54kX ?q54kN ?q54kU ?q54kT ?q54kK ?q54kD ?q54k1 ?q54k2 ?q54kd ?q54ku ?_; (case q54kB => k_asm); (case q54kF => k_asm); (case q54kX => k_asm); (case q54kN => k_asm); (case q54kU => k_updF); (case q54kT => k_asm); (case q54kK => first | exact rfl | assumption); (case q54kD => first | assumption | exact deck_of (by assumption)); (case q54k1 => first | decide | omega | k_room); (case q54k2 => first | decide | omega); (case q54kd => ktr_room); (case q54ku => ktr_units)); intro q54_r' q54_t' q54_vs' q54_n' q54_h' q54_tk' q54_hr0' q54_hr1' q54_hD' q54_F' q54_N'; (try dsimp only at q54_N'); (try dsimp only))
  k_with "CompSrc" => (k_here; k_dflt (refine' LCg.CompSrc.range (by rfl) (by k_asm) (by k_asm) (by assumption) ?q55ksm ?q55krs ?q55ksz ?_; (case q55ksm => exact small_one (by kcf_bnd) (by kcf_bnd) (by kcf_bnd) (by kcf_bnd)); (case q55krs => exact rangeSize_nat _ _); (case q55ksz => (rw [PySem.sizeLine_eq]; omega)); intro q55_g'; (refine' comp_drawU Letter ?q55cD ?q55cU (fun q55_v' q55_I' q55_oI' q55_C' q55_oC' q55_D' q55_m' q55_ys' q55_h' q55_tk' q55_vs' q55_c' q55_E' q55_hD' q55_hC' q55_hx' q55_F' q55_N' q55_off' q55_ne' => ?_) (fun q55_ys' q55_ks' q55_vs' q55_c' q55_hI' q55_hl' q55_hm' q55_hD' => ?_); (case q55cD => assumption); (case q55cU => k_updF)); (all_goals (try simp only [LCg.Off3, and_true] at q55_off'))))
  k_with "CompEnd" => (refine drawEnd (by assumption) (by assumption) (by assumption) (by kcf_all) (by first | assumption | (simp only [LCg.Off3, and_true]; done) | (simp only [LCg.Off3, and_true]; assumption)) ?_)
  have dummy : PySem.Challenge.rw_ok0060_01 = PySem.Challenge.rw_ok0060_01 ∧ hd.heap_39 = hd.heap_39 := by
    k_fill
    exact ⟨rfl, rfl⟩
  clear dummy
  cases f
  all_goals k_steps
  all_goals
    rename News h₀ L _ news => kN9
    refine q_int (v' := foldc _ c) ?_ (hret _ _ _ (by assumption) kN9)
    unfold foldc
  · simp
  · rw [if_pos (by simp; omega)]
  · rw [if_neg (by simp; omega)]
  · rw [if_neg (by simp; omega)]
noncomputable def cmpAt (f : Bool) : Int → List Int → List Int → Int
  | i, a :: as, b :: bs => if foldc f a = foldc f b then cmpAt f (i + 1) as bs else if foldc f a < foldc f b then 0 - i - 1 else i + 1
  | _, [], [] => 0
  | i, [], _ :: _ => 0 - (i + 1)
  | i, _ :: _, [] => i + 1
theorem cmp_diff {f : Bool} : ∀ (k : Nat) (as bs : List Int) (i : Int), (∀ j < k, foldc f (as.getD j 0) = foldc f (bs.getD j 0)) → k < as.length → k < bs.length → foldc f (as.getD k 0) ≠ foldc f (bs.getD k 0) →
    cmpAt f i as bs = if foldc f (as.getD k 0) < foldc f (bs.getD k 0) then 0 - (i + k) - 1 else i + k + 1
  | 0, a :: as, b :: bs, i, _, _, _, hn => by
    have hn' : ¬ foldc f a = foldc f b := hn
    rw [cmpAt, if_neg hn']
    simp
  | k + 1, a :: as, b :: bs, i, h, h1, h2, hn => by
    have e : foldc f a = foldc f b := h 0 (Nat.succ_pos k)
    rw [cmpAt, if_pos e, cmp_diff k as bs (i + 1) (fun j hj => h (j + 1) (Nat.succ_lt_succ hj)) (Nat.lt_of_succ_lt_succ h1) (Nat.lt_of_succ_lt_succ h2) hn]
    simp only [List.getD_cons_succ]
    have e2 : i + 1 + (k : Int) = i + ((k + 1 : Nat) : Int) := by omega
    rw [e2]
  | _, [], _, _, _, h1, _, _ => absurd h1 (Nat.not_lt_zero _)
  | _, _ :: _, [], _, _, _, h2, _ => absurd h2 (Nat.not_lt_zero _)
theorem cmp_all {f : Bool} : ∀ (as bs : List Int) (i : Int), (∀ j < min as.length bs.length, foldc f (as.getD j 0) = foldc f (bs.getD j 0)) →
    cmpAt f i as bs = if as.length = bs.length then 0 else if as.length < bs.length then 0 - (i + as.length + 1) else i + bs.length + 1
  | [], [], _, _ => by simp [cmpAt]
  | [], _ :: _, _, _ => by simp [cmpAt]
  | _ :: _, [], _, _ => by simp [cmpAt]
  | a :: as, b :: bs, i, h => by
    have e : foldc f a = foldc f b := h 0 (by simp)
    rw [cmpAt, if_pos e, cmp_all as bs (i + 1) (fun j hj => h (j + 1) (by simp only [List.length_cons]; omega))]
    simp only [List.length_cons]
    (repeat' split) <;> omega

local macro_rules | `(tactic| k_mem) => `(tactic| first | exact List.Mem.head _ | assumption | (refine' List.Mem.tail _ ?_; k_mem))
noncomputable def SameTo (f : Bool) (as bs : List Int) (n : Nat) : Prop := ∀ j < n, foldc f (as.getD j 0) = foldc f (bs.getD j 0)
theorem same_nil {f : Bool} {as bs : List Int} : SameTo f as bs ([] : List Int).length := fun j hj => absurd hj (Nat.not_lt_zero _)
theorem same_step {f : Bool} {as bs pre : List Int} {k : Int} (h : SameTo f as bs pre.length) (e : k = 0 + (pre.length : Int)) (hk : foldc f (as.getD k.toNat 0) = foldc f (bs.getD k.toNat 0)) : SameTo f as bs (pre ++ [k]).length := by
  intro j hj
  rw [List.length_append, List.length_singleton] at hj
  by_cases hjk : j < pre.length
  · exact h j hjk
  · have e2 : j = k.toNat := by omega
    rw [e2]; exact hk
theorem end_diff {f : Bool} {as bs pre : List Int} {k : Int} (h : SameTo f as bs pre.length) (e : k = 0 + (pre.length : Int)) (h1 : k < as.length) (h2 : k < bs.length) (hn : foldc f (as.getD k.toNat 0) ≠ foldc f (bs.getD k.toNat 0)) :
    cmpAt f 0 as bs = if foldc f (as.getD k.toNat 0) < foldc f (bs.getD k.toNat 0) then 0 - k - 1 else k + 1 := by
  have e2 : k.toNat = pre.length := by omega
  have e3 : (pre.length : Int) = k := by omega
  rw [e2] at hn ⊢
  rw [cmp_diff pre.length as bs 0 h (by omega) (by omega) hn, e3]
  simp only [Int.zero_add]
theorem compare_spec {w : World} {p : Program} {loose : List PySem.Str} {mean : ExcName → Option Value} {mg mb : PySem.Str → Option Value}
  {dp un : Nat} {gd : Option (List Code)} {cn : PySem.Str} {cs : Scope} {a : Addr} {ccd : Value} {cl : List (PySem.Str × Addr)} {outer : List Env} {A₀ : Around} {base h₀ : Heap} {L : Addr} {m : PySem.Str → Option Value} {s : Shared}
  {news : List (Addr × Obj)} {Q E : Value → Shared → Prop} {f : Bool} {o1 o2 : Addr} {v1 v2 : List Value} {as bs : List Int} {c1 c2 : Nat}
  (B : Below A₀ base outer h₀) (F : Fr h₀ L s.heap m) (X : (hd.heap_39 w.params).In h₀) (N : News h₀ L s.heap news) (T : Top p loose mean mg mb h₀) (hk : cs.kind = .function)
  (hdp : dp + 10 < recursionLimit) (hun : un + 100 < cLine) (m1 : (o1, PySem.W.listOf v1.toArray c1) ∈ news) (m2 : (o2, PySem.W.listOf v2.toArray c2) ∈ news) (hi : IntsAre v1 as) (hj : IntsAre v2 bs) (h1 : as.length ≤ 20) (h2 : bs.length ≤ 20)
  (hret : ∀ t' h' tk', Fr h₀ L h' m → News h₀ L h' news → Q (.int (cmpAt f 0 as bs) t') {s with heap := h', toks := tk'}) :
  wpAny (model prog w) (ktrTop dp un gd cn cs L a ccd cl outer) (call (.ref 161) [.ref o1, .ref o2, .bool f]) Q E s := by
  k_with_none
  k_with "call ref" => (k_here; (with_reducible show wpAny _ _ (call (Value.ref 480) [Value.ref _, Value.int _ _]) _ _ _); k_dflt (refine' draw_use ?q57kB ?q57kF ?q57kX ?q57kN ?q57kU ?q57kT ?q57kK ?q57kD ?q57k1 ?q57k2 ?q57kd ?q57ku ?_; (case q57kB => k_asm); (case q57kF => k_asm); (case q57kX => k_asm); (case q57kN => k_asm); (case q57kU => k_updF); (case q57kT => k_asm); (case q57kK => first | exact rfl | assumption); (case q57kD => first | assumption | exact deck_of (by assumption)); (case q57k1 => first | decide | omega | k_room); (case q57k2 => first | decide | omega); (case q57kd => ktr_room); (case q57ku => ktr_units)); intro q57_r' q57_t' q57_vs' q57_n' q57_h' q57_tk' q57_hr0' q57_hr1' q57_hD' q57_F' q57_N'; (try dsimp only at q57_N'); (try dsimp only))
  k_with "CompSrc" => (k_here; k_dflt (refine' LCg.CompSrc.range (by rfl) (by k_asm) (by k_asm) (by assumption) ?q58ksm ?q58krs ?q58ksz ?_; (case q58ksm => exact small_one (by kcf_bnd) (by kcf_bnd) (by kcf_bnd) (by kcf_bnd)); (case q58krs => exact rangeSize_nat _ _); (case q58ksz => (rw [PySem.sizeLine_eq]; omega)); intro q58_g'; (refine' comp_drawU Letter ?q58cD ?q58cU (fun q58_v' q58_I' q58_oI' q58_C' q58_oC' q58_D' q58_m' q58_ys' q58_h' q58_tk' q58_vs' q58_c' q58_E' q58_hD' q58_hC' q58_hx' q58_F' q58_N' q58_off' q58_ne' => ?_) (fun q58_ys' q58_ks' q58_vs' q58_c' q58_hI' q58_hl' q58_hm' q58_hD' => ?_); (case q58cD => assumption); (case q58cU => k_updF)); (all_goals (try simp only [LCg.Off3, and_true] at q58_off'))))
  k_with "CompEnd" => (refine drawEnd (by assumption) (by assumption) (by assumption) (by kcf_all) (by first | assumption | (simp only [LCg.Off3, and_true]; done) | (simp only [LCg.Off3, and_true]; assumption)) ?_)
  k_with "call ref" => (k_here; (with_reducible show wpAny _ _ (call (Value.ref 154) [Value.int _ _, Value.bool _]) _ _ _); k_dflt (refine' folded_spec ?q60kB ?q60kF ?q60kX ?q60kN ?q60kT ?q60kK ?q60kd ?q60ku ?_; (case q60kB => k_asm); (case q60kF => k_asm); (case q60kX => k_asm); (case q60kN => k_asm); (case q60kT => k_asm); (case q60kK => first | exact rfl | assumption); (case q60kd => ktr_room); (case q60ku => ktr_units)); intro q60_t' q60_h' q60_tk' q60_F' q60_N'; (try dsimp only))
  k_with "call builtin:len" => (k_here; (with_reducible show wpAny _ _ (call (Value.builtin "len") [Value.ref _]) _ _ _); k_dflt (refine' kst_len ?q61k1 ?q61k2 ?q61k3 ?q61k4 ?_; (case q61k1 => k_asm); (case q61k2 => k_mem); (case q61k3 => first | with_reducible assumption | exact IntsAre.length (by assumption)); (case q61k4 => ((try simp only [List.length_append]); omega))))
  have dummy : PySem.Challenge.rw_ok0060_01 = PySem.Challenge.rw_ok0060_01 ∧ hd.heap_39 = hd.heap_39 := by
    k_fill
    exact ⟨rfl, rfl⟩
  clear dummy
  have e1 : v1.length = as.length := hi.length
  have e2 : v2.length = bs.length := hj.length
  k_with "pyIter ref" => k_search (fun pre => SameTo f as bs pre.length)
  k_with "state" => first | exact same_nil | exact same_step (by assumption) (by assumption) (by first | assumption | omega)
  k_steps
  all_goals
    have hm : (if (bs.length : Int) < (as.length : Int) then (bs.length : Int) else (as.length : Int)) = ((min as.length bs.length : Nat) : Int) := by split <;> omega
    simp only [hm] at *
    rename News h₀ L _ _ => kN9
  · refine q_int (v' := cmpAt f 0 as bs) ?_ (hret _ _ _ (by assumption) (news_sub kN9 fun p hp => List.mem_cons_of_mem _ (List.mem_append_left _ hp)))
    rw [end_diff kInv kEq (by omega) (by omega) (by assumption), if_pos (by assumption)]
  · refine q_int (v' := cmpAt f 0 as bs) ?_ (hret _ _ _ (by assumption) (news_sub kN9 fun p hp => List.mem_cons_of_mem _ (List.mem_append_left _ hp)))
    rw [end_diff kInv kEq (by omega) (by omega) (by assumption), if_neg (by assumption)]
  all_goals
    rw [rangeKs_length] at kInv
    have hI : SameTo f as bs (min as.length bs.length) := by
      have e9 : (((min as.length bs.length : Nat) : Int) - 0).toNat = min as.length bs.length := by omega
      rw [e9] at kInv; exact kInv
    refine q_int (v' := cmpAt f 0 as bs) ?_ (hret _ _ _ (by assumption) kN9)
    rw [cmp_all as bs 0 hI]
  · rw [if_pos (by omega)]
  · rw [if_neg (by omega), if_pos (by omega)]; omega
  · rw [if_neg (by omega), if_neg (by omega)]; omega

end
end
theorem apart_P10a : ∀ x : Nat, x = x := by
  w_top off
  k_with_none
  first | (walk1; done) | exact fun _ => rfl
section
section
local macro_rules | `(tactic| k_mem) => `(tactic| first | exact List.Mem.head _ | assumption | (refine' List.Mem.tail _ ?_; k_mem))
theorem small_spec {w : World} {p : Program} {loose : List PySem.Str} {mean : ExcName → Option Value} {mg mb : PySem.Str → Option Value}
  {dp un : Nat} {gd : Option (List Code)} {cn : PySem.Str} {cs : Scope} {a : Addr} {ccd : Value} {cl : List (PySem.Str × Addr)} {outer : List Env} {A₀ : Around} {base h₀ : Heap} {L : Addr} {m : PySem.Str → Option Value} {s : Shared}
  {news : List (Addr × Obj)} {Q E : Value → Shared → Prop} {o1 : Addr} {v1 : List Value} {as : List Int} {c1 : Nat}
  (B : Below A₀ base outer h₀) (F : Fr h₀ L s.heap m) (X : (hd.heap_39 w.params).In h₀) (N : News h₀ L s.heap news) (T : Top p loose mean mg mb h₀) (hk : cs.kind = .function)
  (hdp : dp + 10 < recursionLimit) (hun : un + 100 < cLine) (m1 : (o1, PySem.W.listOf v1.toArray c1) ∈ news) (hi : IntsAre v1 as) (h1 : as.length ≤ 20)
  (hret : ∀ D us c h' tk', Fr h₀ L h' m → News h₀ L h' ((D, PySem.W.listOf us.toArray c) :: news) → LCg.Off1 D news → IntsAre us (as.map (foldc true)) → Q (.ref D) {s with heap := h', toks := tk'}) :
  wpAny (model prog w) (ktrTop dp un gd cn cs L a ccd cl outer) (call (.ref 506) [.ref o1]) Q E s := by
  k_with_none
  k_with "call ref" => (k_here; (with_reducible show wpAny _ _ (call (Value.ref 480) [Value.ref _, Value.int _ _]) _ _ _); k_dflt (refine' draw_use ?q62kB ?q62kF ?q62kX ?q62kN ?q62kU ?q62kT ?q62kK ?q62kD ?q62k1 ?q62k2 ?q62kd ?q62ku ?_; (case q62kB => k_asm); (case q62kF => k_asm); (case q62kX => k_asm); (case q62kN => k_asm); (case q62kU => k_updF); (case q62kT => k_asm); (case q62kK => first | exact rfl | assumption); (case q62kD => first | assumption | exact deck_of (by assumption)); (case q62k1 => first | decide | omega | k_room); (case q62k2 => first | decide | omega); (case q62kd => ktr_room); (case q62ku => ktr_units)); intro q62_r' q62_t' q62_vs' q62_n' q62_h' q62_tk' q62_hr0' q62_hr1' q62_hD' q62_F' q62_N'; (try dsimp only at q62_N'); (try dsimp only))
  k_with "CompSrc" => (k_here; k_dflt (refine' LCg.CompSrc.range (by rfl) (by k_asm) (by k_asm) (by assumption) ?q63ksm ?q63krs ?q63ksz ?_; (case q63ksm => exact small_one (by kcf_bnd) (by kcf_bnd) (by kcf_bnd) (by kcf_bnd)); (case q63krs => exact rangeSize_nat _ _); (case q63ksz => (rw [PySem.sizeLine_eq]; omega)); intro q63_g'; (refine' comp_drawU Letter ?q63cD ?q63cU (fun q63_v' q63_I' q63_oI' q63_C' q63_oC' q63_D' q63_m' q63_ys' q63_h' q63_tk' q63_vs' q63_c' q63_E' q63_hD' q63_hC' q63_hx' q63_F' q63_N' q63_off' q63_ne' => ?_) (fun q63_ys' q63_ks' q63_vs' q63_c' q63_hI' q63_hl' q63_hm' q63_hD' => ?_); (case q63cD => assumption); (case q63cU => k_updF)); (all_goals (try simp only [LCg.Off3, and_true] at q63_off'))))
  k_with "CompEnd" => (refine drawEnd (by assumption) (by assumption) (by assumption) (by kcf_all) (by first | assumption | (simp only [LCg.Off3, and_true]; done) | (simp only [LCg.Off3, and_true]; assumption)) ?_)
  k_with "eval ListComp" => (k_here; k_dflt (refine LCg.ListComp_U (F₀ := by k_asm) (by with_unfolding_all rfl) (by decide) (by rfl) (by decide) (by rfl) ?_))
  k_with "CompSrc" => (k_here; k_dflt (refine LCg.CompSrc.ledger (by rfl) (by k_asm) (by k_asm) (by k_mem) (by rw [PySem.sizeLine_eq, List.size_toArray]; omega) ?_); intro q66_g'; (refine' kcf_list (foldc true) (by assumption) (fun q66_k' q66_t' q66_I' q66_oI' q66_C' q66_oC' q66_D' q66_m' q66_ys' q66_h' q66_tk' q66_E' q66_hk' q66_hC' q66_hx' q66_F' q66_N' q66_off' q66_ne' q66_hMark' => ?_) ?_))
  k_with "KCfEl" => ((refine kcf_el ?_ rfl rfl); unfold foldc; first | (rw [if_pos (by simp; omega)]) | (rw [if_neg (by simp; omega)]))
  have dummy : PySem.Challenge.rw_ok0060_01 = PySem.Challenge.rw_ok0060_01 ∧ hd.heap_39 = hd.heap_39 := by
    k_fill
    exact ⟨rfl, rfl⟩
  clear dummy
  have e1 : v1.length = as.length := hi.length
  k_steps
  rename News h₀ L _ _ => kN9
  rename LCg.Off1 _ _ => hO9
  rename IntsAre _ (List.map _ _) => hI9
  exact hret _ _ _ _ _ (by assumption) kN9 hO9 hI9

end
end
theorem apart_P10p : ∀ x : Nat, x = x := by
  w_top off
  k_with_none
  first | (walk1; done) | exact fun _ => rfl
section
section
noncomputable def LcP (as bs : List Int) (same : Int) : Prop := 0 ≤ same ∧ same ≤ ((min as.length bs.length : Nat) : Int) ∧ SameTo false as bs same.toNat
theorem lc_start {as bs : List Int} : LcP as bs 0 := ⟨by omega, by omega, fun j hj => absurd hj (Nat.not_lt_zero _)⟩
theorem foldc_false (c : Int) : foldc false c = c := by unfold foldc; rw [if_neg (by simp)]
theorem seg_one {l : List Int} {k : Int} (h0 : 0 ≤ k) (h : k.toNat < l.length) : List.take (min (k + 1).toNat l.length - k.toNat) (List.drop k.toNat l) = [l.getD k.toNat 0] := by
  have e : min (k + 1).toNat l.length - k.toNat = 1 := by omega
  rw [e, List.drop_eq_getElem_cons h, List.take_succ_cons, List.take_zero, List.getD_eq_getElem?_getD, List.getElem?_eq_getElem h]
  rfl
theorem seg_none {l : List Int} {k : Int} (h : l.length ≤ k.toNat) : List.take (min (k + 1).toNat l.length - k.toNat) (List.drop k.toNat l) = [] := by
  rw [List.drop_eq_nil_of_le h]; simp
theorem lc_next {as bs : List Int} {k : Int} (hne : ¬ as = bs) (h : LcP as bs k)
    (he : List.take (min (k + 1).toNat as.length - k.toNat) (List.drop k.toNat as) = List.take (min (k + 1).toNat bs.length - k.toNat) (List.drop k.toNat bs)) :
    LcP as bs (k + 1) ∧ k.toNat < min as.length bs.length := by
  obtain ⟨h0, h1, h2⟩ := h
  by_cases ha : k.toNat < as.length
  · by_cases hb : k.toNat < bs.length
    · rw [seg_one h0 ha, seg_one h0 hb] at he
      have e : as.getD k.toNat 0 = bs.getD k.toNat 0 := by simpa using he
      refine ⟨⟨by omega, by omega, ?_⟩, by omega⟩
      intro j hj
      by_cases hjk : j < k.toNat
      · exact h2 j hjk
      · have ej : j = k.toNat := by omega
        rw [ej, e]
    · rw [seg_one h0 ha, seg_none (by omega)] at he
      cases he
  · by_cases hb : k.toNat < bs.length
    · rw [seg_none (by omega), seg_one h0 hb] at he
      cases he
    · exfalso
      apply hne
      have hl : as.length = bs.length := by omega
      apply List.ext_getElem hl
      intro i hi1 hi2
      have q := h2 i (by omega)
      rw [foldc_false, foldc_false, List.getD_eq_getElem?_getD, List.getD_eq_getElem?_getD, List.getElem?_eq_getElem hi1, List.getElem?_eq_getElem hi2] at q
      simpa using q
theorem lc_step {as bs : List Int} {k : Int} (hne : ¬ as = bs) (h : LcP as bs k)
    (he : List.take (min (k + 1).toNat as.length - k.toNat) (List.drop k.toNat as) = List.take (min (k + 1).toNat bs.length - k.toNat) (List.drop k.toNat bs)) : LcP as bs (k + 1) := (lc_next hne h he).1
theorem lc_less {as bs : List Int} {k : Int} (hne : ¬ as = bs) (h : LcP as bs k)
    (he : List.take (min (k + 1).toNat as.length - k.toNat) (List.drop k.toNat as) = List.take (min (k + 1).toNat bs.length - k.toNat) (List.drop k.toNat bs)) : (min as.length bs.length) - (k + 1).toNat < (min as.length bs.length) - k.toNat := by
  have q := (lc_next hne h he).2
  have q0 := h.1
  omega

end
end
theorem apart_P10q : ∀ x : Nat, x = x := by
  w_top off
  k_with_none
  first | (walk1; done) | exact fun _ => rfl
section
section
theorem seg_take {l : List Int} {k : Int} (h0 : 0 ≤ k) : List.take (min (k + 1).toNat l.length - k.toNat) (List.drop k.toNat l) = (List.drop k.toNat l).take 1 := by
  by_cases h : k.toNat < l.length
  · have e : min (k + 1).toNat l.length - k.toNat = 1 := by omega
    rw [e]
  · rw [List.drop_eq_nil_of_le (by omega)]; simp
theorem lex_cmp : ∀ (n : Nat) (as bs : List Int) (i : Int), SameTo false as bs n → n ≤ as.length → n ≤ bs.length → ¬ (as.drop n).take 1 = (bs.drop n).take 1 →
    cmpAt false i as bs = if lexLt as bs = true then 0 - (i + n) - 1 else i + n + 1
  | 0, [], [], _, _, _, _, hd => absurd rfl hd
  | 0, [], b :: bs, i, _, _, _, _ => by simp [cmpAt, lexLt]; omega
  | 0, a :: as, [], i, _, _, _, _ => by simp [cmpAt, lexLt]
  | 0, a :: as, b :: bs, i, _, _, _, hd => by
    have hab : ¬ a = b := fun e => hd (by simp [e])
    have hab' : ¬ foldc false a = foldc false b := by rw [foldc_false, foldc_false]; exact hab
    rw [cmpAt, if_neg hab', lexLt, if_neg hab, foldc_false, foldc_false]
    simp
  | n + 1, a :: as, b :: bs, i, h, h1, h2, hd => by
    have e : foldc false a = foldc false b := h 0 (Nat.succ_pos n)
    have e' : a = b := by rw [foldc_false, foldc_false] at e; exact e
    rw [cmpAt, if_pos e, lexLt, if_pos e', lex_cmp n as bs (i + 1) (fun j hj => h (j + 1) (Nat.succ_lt_succ hj)) (Nat.le_of_succ_le_succ h1) (Nat.le_of_succ_le_succ h2) hd]
    have e2 : i + 1 + (n : Int) = i + ((n + 1 : Nat) : Int) := by omega
    rw [e2]
  | n + 1, [], _, _, _, h1, _, _ => absurd h1 (Nat.not_succ_le_zero _)
  | n + 1, _ :: _, [], _, _, _, h2, _ => absurd h2 (Nat.not_succ_le_zero _)
theorem lc_end {as bs : List Int} {k : Int} (h : LcP as bs k)
    (he : ¬ List.take (min (k + 1).toNat as.length - k.toNat) (List.drop k.toNat as) = List.take (min (k + 1).toNat bs.length - k.toNat) (List.drop k.toNat bs)) :
    cmpAt false 0 as bs = if lexLt as bs = true then 0 - k - 1 else k + 1 := by
  obtain ⟨h0, h1, h2⟩ := h
  rw [seg_take h0, seg_take h0] at he
  rw [lex_cmp k.toNat as bs 0 h2 (by omega) (by omega) he]
  have e : (0 : Int) + (k.toNat : Int) = k := by omega
  rw [e]

end
end
theorem apart_P10b : ∀ x : Nat, x = x := by
  w_top off
  k_with_none
  first | (walk1; done) | exact fun _ => rfl
section
section
local macro_rules | `(tactic| k_mem) => `(tactic| first | exact List.Mem.head _ | assumption | (refine' List.Mem.tail _ ?_; k_mem))
theorem lawcmp_spec {w : World} {p : Program} {loose : List PySem.Str} {mean : ExcName → Option Value} {mg mb : PySem.Str → Option Value}
  {dp un : Nat} {gd : Option (List Code)} {cn : PySem.Str} {cs : Scope} {a : Addr} {ccd : Value} {cl : List (PySem.Str × Addr)} {outer : List Env} {A₀ : Around} {base h₀ : Heap} {L : Addr} {m : PySem.Str → Option Value} {s : Shared}
  {news : List (Addr × Obj)} {Q E : Value → Shared → Prop} {o1 o2 : Addr} {v1 v2 : List Value} {as bs : List Int} {c1 c2 : Nat}
  (B : Below A₀ base outer h₀) (F : Fr h₀ L s.heap m) (X : (hd.heap_39 w.params).In h₀) (N : News h₀ L s.heap news) (T : Top p loose mean mg mb h₀) (hk : cs.kind = .function)
  (hdp : dp + 10 < recursionLimit) (hun : un + 100 < cLine) (m1 : (o1, PySem.W.listOf v1.toArray c1) ∈ news) (m2 : (o2, PySem.W.listOf v2.toArray c2) ∈ news) (hi : IntsAre v1 as) (hj : IntsAre v2 bs) (h1 : as.length ≤ 20) (h2 : bs.length ≤ 20)
  (hret : ∀ t' h' tk', Fr h₀ L h' m → News h₀ L h' news → Q (.int (cmpAt false 0 as bs) t') {s with heap := h', toks := tk'}) :
  wpAny (model prog w) (ktrTop dp un gd cn cs L a ccd cl outer) (call (.ref 501) [.ref o1, .ref o2]) Q E s := by
  k_with_none
  k_with "call ref" => (k_here; (with_reducible show wpAny _ _ (call (Value.ref 480) [Value.ref _, Value.int _ _]) _ _ _); k_dflt (refine' draw_use ?q68kB ?q68kF ?q68kX ?q68kN ?q68kU ?q68kT ?q68kK ?q68kD ?q68k1 ?q68k2 ?q68kd ?q68ku ?_; (case q68kB => k_asm); (case q68kF => k_asm); (case q68kX => k_asm); (case q68kN => k_asm); (case q68kU => k_updF); (case q68kT => k_asm); (case q68kK => first | exact rfl | assumption); (case q68kD => first | assumption | exact deck_of (by assumption)); (case q68k1 => first | decide | omega | k_room); (case q68k2 => first | decide | omega); (case q68kd => ktr_room); (case q68ku => ktr_units)); intro q68_r' q68_t' q68_vs' q68_n' q68_h' q68_tk' q68_hr0' q68_hr1' q68_hD' q68_F' q68_N'; (try dsimp only at q68_N'); (try dsimp only))
  k_with "CompSrc" => (k_here; k_dflt (refine' LCg.CompSrc.range (by rfl) (by k_asm) (by k_asm) (by assumption) ?q69ksm ?q69krs ?q69ksz ?_; (case q69ksm => exact small_one (by kcf_bnd) (by kcf_bnd) (by kcf_bnd) (by kcf_bnd)); (case q69krs => exact rangeSize_nat _ _); (case q69ksz => (rw [PySem.sizeLine_eq]; omega)); intro q69_g'; (refine' comp_drawU Letter ?q69cD ?q69cU (fun q69_v' q69_I' q69_oI' q69_C' q69_oC' q69_D' q69_m' q69_ys' q69_h' q69_tk' q69_vs' q69_c' q69_E' q69_hD' q69_hC' q69_hx' q69_F' q69_N' q69_off' q69_ne' => ?_) (fun q69_ys' q69_ks' q69_vs' q69_c' q69_hI' q69_hl' q69_hm' q69_hD' => ?_); (case q69cD => assumption); (case q69cU => k_updF)); (all_goals (try simp only [LCg.Off3, and_true] at q69_off'))))
  k_with "CompEnd" => (refine drawEnd (by assumption) (by assumption) (by assumption) (by kcf_all) (by first | assumption | (simp only [LCg.Off3, and_true]; done) | (simp only [LCg.Off3, and_true]; assumption)) ?_)
  k_with "compareOp Eq ref ref" => (k_here; k_dflt (refine' eq_intsK ?q71k1 ?q71k2 ?q71k3 ?q71k4 ?q71k5 ?_; (case q71k1 => exact News.isList (by k_asm) (by k_mem)); (case q71k2 => assumption); (case q71k3 => exact News.isList (by k_asm) (by k_mem)); (case q71k4 => assumption); (case q71k5 => ktr_units)))
  k_with "exec While Compare cons nil" => (k_here; k_extra "exec While Compare cons nil")
  k_with "compareOp Lt ref ref" => (k_here; k_dflt (refine' lt_intsK ?q73k1 ?q73k2 ?q73k3 ?q73k4 ?q73k5 ?_; (case q73k1 => exact News.isList (by k_asm) (by k_mem)); (case q73k2 => assumption); (case q73k3 => exact News.isList (by k_asm) (by k_mem)); (case q73k4 => assumption); (case q73k5 => ktr_units)))
  have dummy : PySem.Challenge.rw_ok0060_01 = PySem.Challenge.rw_ok0060_01 ∧ hd.heap_39 = hd.heap_39 := by
    k_fill
    exact ⟨rfl, rfl⟩
  clear dummy
  have e1 : v1.length = as.length := hi.length
  have e2 : v2.length = bs.length := hj.length
  k_with "exec While Compare cons nil" => k_while (fun _ same => 0 ≤ same ∧ LcP as bs same) (fun _ same => (min as.length bs.length) - same.toNat) "same"
  k_with "state" => first | exact ⟨by omega, lc_start⟩ | exact ⟨by omega, lc_step (by assumption) (by assumption) (by first | assumption | exact of_decide_eq_true (by assumption))⟩
  k_with "measure" => exact lc_less (by assumption) (by assumption) (by first | assumption | exact of_decide_eq_true (by assumption))
  k_steps
  all_goals
    rename News h₀ L _ _ => kN9
    refine q_int (v' := cmpAt false 0 as bs) ?_ (hret _ _ _ (by assumption) (news_sub kN9 fun p hp => (by (repeat first | exact hp | refine List.mem_cons_of_mem _ ?_))))
  · rename as = bs => hab
    rw [hab, cmp_all bs bs 0 (fun _ _ => rfl), if_pos rfl]
  · rename lexLt as bs = _ => hx
    rw [lc_end (by first | assumption | exact kInv.2) (by assumption), hx]
    rfl
  · rename lexLt as bs = _ => hx
    rw [lc_end (by first | assumption | exact kInv.2) (by assumption), hx]
    rfl

end
end
theorem apart_P11 : ∀ x : Nat, x = x := by
  w_top off
  k_with_none
  first | (walk1; done) | exact fun _ => rfl
section
section
theorem cmp_anti (f : Bool) : ∀ (as bs : List Int) (i : Int), cmpAt f i bs as = 0 - cmpAt f i as bs
  | [], [], _ => by simp [cmpAt]
  | [], _ :: _, i => by simp only [cmpAt]; try omega
  | _ :: _, [], i => by simp only [cmpAt]; try omega
  | a :: as, b :: bs, i => by
    simp only [cmpAt]
    by_cases h : foldc f a = foldc f b
    · rw [if_pos h, if_pos h.symm]; exact cmp_anti f as bs (i + 1)
    · rw [if_neg h, if_neg (fun e => h e.symm)]
      by_cases h2 : foldc f a < foldc f b
      · rw [if_pos h2, if_neg (by omega)]; omega
      · rw [if_neg h2, if_pos (by omega)]; omega
theorem cmp_fold : ∀ (as bs : List Int) (i : Int), cmpAt true i as bs = cmpAt false i (as.map (foldc true)) (bs.map (foldc true))
  | [], [], _ => by simp [cmpAt]
  | [], _ :: _, i => by simp [cmpAt]
  | _ :: _, [], i => by simp [cmpAt]
  | a :: as, b :: bs, i => by
    simp only [cmpAt, List.map_cons, foldc_false]
    rw [cmp_fold as bs (i + 1)]

end
end
theorem apart_PExF : ∀ x : Nat, x = x := by
  w_top off
  k_with_none
  first | (walk1; done) | exact fun _ => rfl
section
section
noncomputable def exc0 (t : Addr) : Obj := { cls := .ref 38, data := .fields #[.ref t, .none, .none, .none, .bool false, .none] }
noncomputable def excO (t dx : Addr) : Obj := { cls := .ref 38, dict := some dx, data := .fields #[.ref t, .none, .none, .none, .bool false, .none] }
theorem fst_ne {r : List (Addr × Obj)} {e dx : Addr} {o o' : Obj} (h : ∀ p ∈ (e, o) :: r, @LT.lt Nat _ p.1 dx) : ∀ p ∈ (e, o') :: r, p.1 ≠ dx := by
  intro p hp
  rcases List.mem_cons.mp hp with rfl | hp
  · exact Nat.ne_of_lt (h (e, o) (.head _))
  · exact Nat.ne_of_lt (h p (.tail _ hp))
noncomputable def sigMap (sy : Value) (da : Value) : PySem.Str → Option Value := fun y => if y = "data" then some da else if y = "symbol" then some sy else none
local macro_rules | `(tactic| k_all) => `(tactic| assumption)
theorem init_spec {w : World} {p : Program} {loose : List PySem.Str} {mean : ExcName → Option Value} {mg mb : PySem.Str → Option Value}
  {dp un : Nat} {gd : Option (List Code)} {cn : PySem.Str} {cs : Scope} {a : Addr} {ccd : Value} {cl : List (PySem.Str × Addr)} {outer : List Env} {A₀ : Around} {base h₀ : Heap} {L : Addr} {m : PySem.Str → Option Value} {s : Shared}
  {news : List (Addr × Obj)} {Q E : Value → Shared → Prop} {e t l : Addr} {sy : PySem.Str} {tk : Tok}
  (B : Below A₀ base outer h₀) (F : Fr h₀ L s.heap m) (X : (hd.heap_39 w.params).In h₀) (N : News h₀ L s.heap ((e, exc0 t) :: news)) (T : Top p loose mean mg mb h₀) (hk : cs.kind = .function)
  (hdp : dp + 4 < recursionLimit) (hun : un + 40 < cLine) (hr : ∀ p ∈ news, p.1 ≠ e)
  (hret : ∀ dx oD h' tk', Fr h₀ L h' m → News h₀ L h' ((dx, oD) :: (e, excO t dx) :: news) → NsD oD (sigMap (.str sy tk) (.ref l)) → (∀ p ∈ (e, exc0 t) :: news, @LT.lt Nat _ p.1 dx) → Q .none {s with heap := h', toks := tk'}) :
  wpAny (model prog w) (ktrTop dp un gd cn cs L a ccd cl outer) (call (.ref 35) [.ref e, .str sy tk, .ref l]) Q E s := by
  k_with_none
  k_with "call ref" => (k_here; (with_reducible show wpAny _ _ (call (Value.ref 480) [Value.ref _, Value.int _ _]) _ _ _); k_dflt (refine' draw_use ?q74kB ?q74kF ?q74kX ?q74kN ?q74kU ?q74kT ?q74kK ?q74kD ?q74k1 ?q74k2 ?q74kd ?q74ku ?_; (case q74kB => k_asm); (case q74kF => k_asm); (case q74kX => k_asm); (case q74kN => k_asm); (case q74kU => k_updF); (case q74kT => k_asm); (case q74kK => first | exact rfl | assumption); (case q74kD => first | assumption | exact deck_of (by assumption)); (case q74k1 => first | decide | omega | k_room); (case q74k2 => first | decide | omega); (case q74kd => ktr_room); (case q74ku => ktr_units)); intro q74_r' q74_t' q74_vs' q74_n' q74_h' q74_tk' q74_hr0' q74_hr1' q74_hD' q74_F' q74_N'; (try dsimp only at q74_N'); (try dsimp only))
  k_with "CompSrc" => (k_here; k_dflt (refine' LCg.CompSrc.range (by rfl) (by k_asm) (by k_asm) (by assumption) ?q75ksm ?q75krs ?q75ksz ?_; (case q75ksm => exact small_one (by kcf_bnd) (by kcf_bnd) (by kcf_bnd) (by kcf_bnd)); (case q75krs => exact rangeSize_nat _ _); (case q75ksz => (rw [PySem.sizeLine_eq]; omega)); intro q75_g'; (refine' comp_drawU Letter ?q75cD ?q75cU (fun q75_v' q75_I' q75_oI' q75_C' q75_oC' q75_D' q75_m' q75_ys' q75_h' q75_tk' q75_vs' q75_c' q75_E' q75_hD' q75_hC' q75_hx' q75_F' q75_N' q75_off' q75_ne' => ?_) (fun q75_ys' q75_ks' q75_vs' q75_c' q75_hI' q75_hl' q75_hm' q75_hD' => ?_); (case q75cD => assumption); (case q75cU => k_updF)); (all_goals (try simp only [LCg.Off3, and_true] at q75_off'))))
  k_with "CompEnd" => (refine drawEnd (by assumption) (by assumption) (by assumption) (by kcf_all) (by first | assumption | (simp only [LCg.Off3, and_true]; done) | (simp only [LCg.Off3, and_true]; assumption)) ?_)
  k_with "setAttr ref" => (k_here; (with_reducible show wpAny _ _ (setAttr (Value.ref _) ("symbol" : PySem.Str) _) _ _ _); (rename Sig _ _ _ _ _ _ _ _ _ _ _ _ _ _ _ => kS9); k_dflt (refine' set_firstK kS9 ?q77kF ?q77kX ?q77kN ?q77kU ?q77kc ?q77kd ?q77kn ?_; (case q77kF => k_asm); (case q77kX => k_asm); (case q77kN => k_asm); (case q77kU => k_updF); (case q77kc => rfl); (case q77kd => rfl); (case q77kn => rfl)); intro q77_h' q77_dx' q77_oD' q77_tk' q77_F' q77_N' q77_hD' q77_l1'; (try dsimp only at q77_N'); (try dsimp only))
  k_with "setAttr ref" => (k_here; (with_reducible show wpAny _ _ (setAttr (Value.ref _) ("data" : PySem.Str) _) _ _ _); (rename Sig _ _ _ _ _ _ _ _ _ _ _ _ _ _ _ => kS9); (rename ∀ p ∈ (_, Mine60.exc0 _) :: _, _ => kl9); (have kne9 := Nat.ne_of_lt (kl9 _ (List.Mem.head _))); k_dflt (refine' set_nextK kS9 ?q78kF ?q78kX ?q78kN ?q78kU ?q78km ?q78kne ?q78kc ?q78kd ?q78kn ?q78kD ?_; (case q78kF => k_asm); (case q78kX => k_asm); (case q78kN => k_asm); (case q78kU => exact UpdF.head (fst_ne kl9)); (case q78km => exact List.Mem.tail _ (List.mem_cons_self)); (case q78kne => exact kne9); (case q78kc => rfl); (case q78kd => rfl); (case q78kn => rfl); (case q78kD => assumption)); intro q78_h' q78_oD' q78_tk' q78_F' q78_N' q78_hD'; (try dsimp only at q78_N'); (try dsimp only))
  have dummy : PySem.Challenge.rw_ok0060_01 = PySem.Challenge.rw_ok0060_01 ∧ hd.heap_39 = hd.heap_39 := by
    k_fill
    exact ⟨rfl, rfl⟩
  clear dummy
  obtain ⟨nm, q, Ns, bs, sn, sub, ab, col, dd, k0, k1, k2, k3, k5, S⟩ := cls38 w.params
  k_steps
  rename News h₀ L _ _ => kN9
  rename ∀ p ∈ (_, exc0 _) :: _, _ => kl9
  exact hret _ _ _ _ (by assumption) kN9 (by assumption) kl9

end
end
theorem apart_PExG : ∀ x : Nat, x = x := by
  w_top off
  k_with_none
  first | (walk1; done) | exact fun _ => rfl
section
section
theorem make_spec {w : World} {p : Program} {loose : List PySem.Str} {mean : ExcName → Option Value} {mg mb : PySem.Str → Option Value}
  {dp un : Nat} {gd : Option (List Code)} {cn : PySem.Str} {cs : Scope} {a : Addr} {ccd : Value} {cl : List (PySem.Str × Addr)} {outer : List Env} {A₀ : Around} {base h₀ : Heap} {L : Addr} {m : PySem.Str → Option Value} {s : Shared}
  {news : List (Addr × Obj)} {Q E : Value → Shared → Prop} {l : Addr} {sy : PySem.Str} {tk : Tok}
  (B : Below A₀ base outer h₀) (F : Fr h₀ L s.heap m) (X : (hd.heap_39 w.params).In h₀) (N : News h₀ L s.heap news) (T : Top p loose mean mg mb h₀) (hk : cs.kind = .function)
  (hdp : dp + 6 < recursionLimit) (hun : un + 60 < cLine)
  (hret : ∀ e t dx oD h' tk', Fr h₀ L h' m → News h₀ L h' ((dx, oD) :: (e, excO t dx) :: news) → NsD oD (sigMap (.str sy tk) (.ref l)) → @Ne Nat e dx → (∀ p ∈ news, p.1 ≠ e) → (∀ p ∈ news, p.1 ≠ dx) → Q (.ref e) {s with heap := h', toks := tk'}) :
  wpAny (model prog w) (ktrTop dp un gd cn cs L a ccd cl outer) (call (.ref 38) [.str sy tk, .ref l]) Q E s := by
  obtain ⟨nm, q, Ns, bs, sn, sub, ab, col, dd, k0, k1, k2, k3, k5, S⟩ := cls38 w.params
  have Xs := X.keeps F.keep
  have hN : s.heap.Ns Ns (s.heap.nsMap Ns) := .of_isNs (isNs_of_in Xs S.ok)
  have hf : ∃ o, (hd.heap_39 w.params).lookup 35 = some o ∧ o.cls = .type "function" := by
    refine' ⟨_, ?a, ?b⟩
    case a => with_unfolding_all exact rfl
    case b => rfl
  obtain ⟨oI, hoI, hcI⟩ := hf
  obtain ⟨hp, g, d, t, os⟩ := s
  refine wpAny_call_exc_init PySem.F.excBase_Exception (Xs _ _ S.obj) hN (ns_some_of Xs hN S.init) (Xs _ _ hoI) hcI (fun h' e hm => ?_) (by size_fits)
  obtain ⟨t', he, htn, ht⟩ := hm.there
  have fresh : ∀ b, hp.get? b = none → h₀.get? b = none := fun b hb => by
    cases hq : h₀.get? b with
    | none => rfl
    | some o' => have := F.keep b o' hq; rw [hb] at this; cases this
  have F' : Fr h₀ L h' m := F.keeps hm.keeps
  have nL : e ≠ L := fun q => by
    obtain ⟨oL, es, ep, hL, r⟩ := F.ns
    have := hm.new
    rw [q, hL] at this
    cases this
  have ne : ∀ p ∈ news, p.1 ≠ e := fun p hp' q => by
    have h1 := (N p hp').1
    rw [q] at h1
    have h2 := hm.new
    simp only at h1
    rw [h1] at h2
    cases h2
  have N' : News h₀ L h' ((e, exc0 t') :: news) := fun p hp' => by
    rcases List.mem_cons.mp hp' with rfl | hp'
    · exact ⟨he, nL, fresh e hm.new⟩
    · exact ⟨hm.keeps _ _ (N p hp').1, (N p hp').2⟩
  exact init_spec (s := ⟨h', g, d, t, os⟩) (dp := dp + 1) B F' X N' T hk (by omega) (un := un + 1) (by omega) ne fun dx oD h₂ tk₂ F₂ N₂ hD hlt =>
    ⟨rfl, hret e t' dx oD h₂ tk₂ F₂ N₂ hD (Nat.ne_of_lt (hlt _ (.head _))) ne fun p hp' => Nat.ne_of_lt (hlt p (.tail _ hp'))⟩

end
end
theorem apart_PExH1 : ∀ x : Nat, x = x := by
  w_top off
  k_with_none
  first | (walk1; done) | exact fun _ => rfl
section
section
noncomputable def RaisableD (E : Value → Shared → Prop) (v : Value) (s₁ : Shared) : Prop :=
  ∃ e t dx nm q N bs sn sub ab col dd k0 k1 k2 k3 k5 newId, v = .ref e ∧ s₁.heap.get? 38 = some (excClassObj nm q 38 N bs excBm true sn sub ab col dd k0 k1 k2 k3 k5 newId) ∧ s₁.heap.get? e = some (excO t dx) ∧ E (.ref e) s₁
theorem Raise_sig {M : Model} {A : Around} {E : Value → Shared → Prop} {s : Shared} {env : Env} {e : PySem.Expr} {pos : Pos} {Q : Flow → Shared → Prop} (hh : A.handled = none)
    (h : wpAny M A (eval e env) (RaisableD E) E s) : wpAny M A (exec (.Raise (some e) none pos) env) Q E s := by
  show wpAny M A (do standAt pos; raiseStmt env (some (do let v ← eval e env; standAt pos; pure v)) none) Q E s
  refine wpAny_bind (wpAny_standAt ?_)
  unfold raiseStmt
  dsimp only
  refine wpAny_bind (wpAny_bind (wpAny_mono h (fun v s₁ h₁ => wpAny_bind (wpAny_standAt (wpAny_pure ?_))) fun _ _ x => x))
  obtain ⟨a, t, dx, nm, q, N, bs, sn, sub, ab, col, dd, k0, k1, k2, k3, k5, newId, rfl, hC, he, hE⟩ := h₁
  have hcB : (Value.ref 38 :: excBm).contains (.type "BaseException") = true := by rw [List.contains_cons]; simp [excBm]
  obtain ⟨hp, g, d, tk, os⟩ := s₁
  unfold excO at he
  repeat (first | with_reducible refine wpAny_loadPart_at he ?_ | with_reducible refine wpAny_loadPart_at hC ?_ | (with_reducible refine wpAny_isSubtype_exc hC ?_; rw [hcB]) | wp_step)
  exact wpAny_raiseNew_none hh hE
theorem raisableD_of {K : Frag} {E : Value → Shared → Prop} {s : Shared} {h₀ : Heap} {L e t dx : Addr} {m : PySem.Str → Option Value} {nm q : PySem.Str} {N : Addr} {bs : List Value} {sn : List PySem.Str} {sub : List Value} {ab : Bool} {col : Option Bool} {dd : Option Addr} {k0 k1 k2 k3 k5 : Option Value}
    (S : Sig K nm q N bs sn sub ab col dd k0 k1 k2 k3 k5) (F : Fr h₀ L s.heap m) (X : K.In h₀) (he : s.heap.get? e = some (excO t dx)) (hE : E (.ref e) s) : RaisableD E (.ref e) s :=
  ⟨e, t, dx, nm, q, N, bs, sn, sub, ab, col, dd, k0, k1, k2, k3, k5, _, rfl, (X.keeps F.keep) _ _ S.obj, he, hE⟩

end
end
theorem apart_PExH2 : ∀ x : Nat, x = x := by
  w_top off
  k_with_none
  first | (walk1; done) | exact fun _ => rfl
section
section
local macro_rules | `(tactic| k_mem) => `(tactic| first | exact List.Mem.head _ | assumption | (refine' List.Mem.tail _ ?_; k_mem))
theorem sub_exc {news : List (Addr × Obj)} {x y : Addr × Obj} {e dx : Addr} {o oD : Obj} (hne : @Ne Nat e dx) (h2 : ∀ p ∈ x :: y :: news, p.1 ≠ e) :
    ∀ q ∈ (dx, oD) :: news, q ∈ (dx, oD) :: (e, o) :: x :: y :: news ∧ q.1 ≠ e := by
  intro q hq
  rcases List.mem_cons.mp hq with rfl | hq
  · exact ⟨.head _, fun z => hne z.symm⟩
  · exact ⟨.tail _ (.tail _ (.tail _ (.tail _ hq))), h2 q (.tail _ (.tail _ hq))⟩
theorem reached_out {w : World} {p : Program} {loose : List PySem.Str} {mean : ExcName → Option Value} {mg mb : PySem.Str → Option Value}
  {dp un : Nat} {gd : Option (List Code)} {cn : PySem.Str} {cs : Scope} {a : Addr} {ccd : Value} {cl : List (PySem.Str × Addr)} {outer : List Env} {A₀ : Around} {base h₀ : Heap} {L : Addr} {m : PySem.Str → Option Value} {s : Shared}
  {news : List (Addr × Obj)} {Q E : Value → Shared → Prop} {T₀ : BToks} {b bd t mk ls : Addr} {point begv zv ticks ct x y : Int} {t1 t2 : Tok}
  (B : Below A₀ base outer h₀) (F : Fr h₀ L s.heap m) (X : (hd.heap_39 w.params).In h₀) (N : News h₀ L s.heap news) (T : Top p loose mean mg mb h₀) (hk : cs.kind = .function)
  (hdp : dp + 12 < recursionLimit) (hun : un + 120 < cLine)
  (m1 : (b, instObj 459 bd) ∈ news) (m2 : (bd, bufO w T₀ t mk ls point begv zv ticks ct) ∈ news)
  (hx : min x y < begv ∨ max x y > zv)
  (hE : ∀ g e dx oD mD u h' tk', Fr h₀ L g m → RaisedD base g (envX cn cs L a ccd cl :: outer) e (.ref 38) dx ((dx, oD) :: news) h' → NsD oD mD → mD "symbol" = some (.str "args-out-of-range" u) → @Ne Nat e dx → g.UpToSlots h' → E (.ref e) {s with heap := h', toks := tk'}) :
  wpAny (model prog w) (ktrTop dp un gd cn cs L a ccd cl outer) (call (.ref 55) [.ref b, .int x t1, .int y t2]) Q E s := by
  k_with_none
  k_with "call ref" => (k_here; (with_reducible show wpAny _ _ (call (Value.ref 480) [Value.ref _, Value.int _ _]) _ _ _); k_dflt (refine' draw_use ?q79kB ?q79kF ?q79kX ?q79kN ?q79kU ?q79kT ?q79kK ?q79kD ?q79k1 ?q79k2 ?q79kd ?q79ku ?_; (case q79kB => k_asm); (case q79kF => k_asm); (case q79kX => k_asm); (case q79kN => k_asm); (case q79kU => k_updF); (case q79kT => k_asm); (case q79kK => first | exact rfl | assumption); (case q79kD => first | assumption | exact deck_of (by assumption)); (case q79k1 => first | decide | omega | k_room); (case q79k2 => first | decide | omega); (case q79kd => ktr_room); (case q79ku => ktr_units)); intro q79_r' q79_t' q79_vs' q79_n' q79_h' q79_tk' q79_hr0' q79_hr1' q79_hD' q79_F' q79_N'; (try dsimp only at q79_N'); (try dsimp only))
  k_with "CompSrc" => (k_here; k_dflt (refine' LCg.CompSrc.range (by rfl) (by k_asm) (by k_asm) (by assumption) ?q80ksm ?q80krs ?q80ksz ?_; (case q80ksm => exact small_one (by kcf_bnd) (by kcf_bnd) (by kcf_bnd) (by kcf_bnd)); (case q80krs => exact rangeSize_nat _ _); (case q80ksz => (rw [PySem.sizeLine_eq]; omega)); intro q80_g'; (refine' comp_drawU Letter ?q80cD ?q80cU (fun q80_v' q80_I' q80_oI' q80_C' q80_oC' q80_D' q80_m' q80_ys' q80_h' q80_tk' q80_vs' q80_c' q80_E' q80_hD' q80_hC' q80_hx' q80_F' q80_N' q80_off' q80_ne' => ?_) (fun q80_ys' q80_ks' q80_vs' q80_c' q80_hI' q80_hl' q80_hm' q80_hD' => ?_); (case q80cD => assumption); (case q80cU => k_updF)); (all_goals (try simp only [LCg.Off3, and_true] at q80_off'))))
  k_with "CompEnd" => (refine drawEnd (by assumption) (by assumption) (by assumption) (by kcf_all) (by first | assumption | (simp only [LCg.Off3, and_true]; done) | (simp only [LCg.Off3, and_true]; assumption)) ?_)
  k_with "call ref" => (k_here; (with_reducible show wpAny _ _ (call (Value.ref 38) [Value.str _ _, Value.ref _]) _ _ _); k_dflt (refine' make_spec ?q82kB ?q82kF ?q82kX ?q82kN ?q82kT ?q82kK ?q82kd ?q82ku ?_; (case q82kB => k_asm); (case q82kF => k_asm); (case q82kX => k_asm); (case q82kN => k_asm); (case q82kT => k_asm); (case q82kK => first | exact rfl | assumption); (case q82kd => ktr_room); (case q82ku => ktr_units)); intro q82_e' q82_t' q82_dx' q82_oD' q82_h' q82_tk' q82_F' q82_N' q82_hD' q82_l1' q82_l2' q82_l3'; (try dsimp only))
  k_with "exec Raise some none" => (k_here; k_dflt (refine' Raise_sig ?q83h ?_; (case q83h => rfl)))
  have dummy : PySem.Challenge.rw_ok0060_01 = PySem.Challenge.rw_ok0060_01 ∧ hd.heap_39 = hd.heap_39 := by
    k_fill
    exact ⟨rfl, rfl⟩
  clear dummy
  obtain ⟨nm, q, Ns, bs, sn, sub, ab, col, dd, k0, k1, k2, k3, k5, S⟩ := cls38 w.params
  k_steps
  all_goals
    rename News _ _ _ ((_, _) :: (_, excO _ _) :: _) => kN9
    rename NsD _ _ => kD9
    rename Fr h₀ L _ m => kG9
    rename Below _ _ (_ :: outer) _ => kB9
    rename ∀ q ∈ _ :: _ :: news, _ ≠ _ => kl9
    refine raisableD_of S (by assumption) (by assumption) (kN9 _ (.tail _ (.head _))).1 ?_
    refine leave_raiseD kB9 (by assumption) kN9 rfl rfl (.tail _ (.head _)) rfl rfl rfl (sub_exc (by assumption) (by assumption)) (fun h₂ R U => ?_)
    exact hE _ _ _ _ _ _ _ _ kG9 R kD9 rfl (by assumption) U

end
end
theorem apart_PExI : ∀ x : Nat, x = x := by
  w_top off
  k_with_none
  first | (walk1; done) | exact fun _ => rfl
section
section
local macro_rules | `(tactic| k_mem) => `(tactic| first | exact List.Mem.head _ | assumption | (refine' List.Mem.tail _ ?_; k_mem))
theorem seg_min {ks us : List Int} {x y a b : Int} (ha : a = min x y) (hb : b = max x y) (e : us = (ks.drop (a - 1).toNat).take (b - a).toNat) : us = (ks.drop (min x y - 1).toNat).take (max x y - min x y).toNat := by
  rw [← ha, ← hb]; exact e
theorem sub_in {w : World} {p : Program} {loose : List PySem.Str} {mean : ExcName → Option Value} {mg mb : PySem.Str → Option Value}
  {dp un : Nat} {gd : Option (List Code)} {cn : PySem.Str} {cs : Scope} {a : Addr} {ccd : Value} {cl : List (PySem.Str × Addr)} {outer : List Env} {A₀ : Around} {base h₀ : Heap} {L : Addr} {m : PySem.Str → Option Value} {s : Shared}
  {news : List (Addr × Obj)} {Q E : Value → Shared → Prop} {T₀ : BToks} {U₀ : TToks} {b bd t td ce mk ls : Addr} {cells : List Value} {ks ms : List Int} {nc : Nat} {point begv zv ticks ct gs ge x y : Int} {t1 t2 : Tok}
  (B : Below A₀ base outer h₀) (F : Fr h₀ L s.heap m) (X : (hd.heap_39 w.params).In h₀) (N : News h₀ L s.heap news) (T : Top p loose mean mg mb h₀) (hk : cs.kind = .function)
  (hdp : dp + 20 < recursionLimit) (hun : un + 200 < cLine)
  (m1 : (b, instObj 459 bd) ∈ news) (m2 : (bd, bufO w T₀ t mk ls point begv zv ticks ct) ∈ news) (m3 : (t, instObj 248 td) ∈ news) (m4 : (td, txtO w U₀ ce gs ge) ∈ news) (m5 : (ce, PySem.W.listOf cells.toArray nc) ∈ news)
  (hi : IntsAre cells (ks ++ ms)) (hgs : gs = ks.length) (hlen : ks.length ≤ 8) (hms : ms.length ≤ 20) (hb : 1 ≤ begv) (hz : zv ≤ ks.length + 1) (hx : begv ≤ min x y) (hy : max x y ≤ zv)
  (hret : ∀ D us c h' tk', Fr h₀ L h' m → News h₀ L h' ((D, PySem.W.listOf us.toArray c) :: news) → (∀ p ∈ news, @LT.lt Nat _ p.1 D) → IntsAre us ((ks.drop (min x y - 1).toNat).take (max x y - min x y).toNat) → Q (.ref D) {s with heap := h', toks := tk'}) :
  wpAny (model prog w) (ktrTop dp un gd cn cs L a ccd cl outer) (call (.ref 147) [.ref b, .int x t1, .int y t2]) Q E s := by
  k_with_none
  k_with "call ref" => (k_here; (with_reducible show wpAny _ _ (call (Value.ref 480) [Value.ref _, Value.int _ _]) _ _ _); k_dflt (refine' draw_use ?q84kB ?q84kF ?q84kX ?q84kN ?q84kU ?q84kT ?q84kK ?q84kD ?q84k1 ?q84k2 ?q84kd ?q84ku ?_; (case q84kB => k_asm); (case q84kF => k_asm); (case q84kX => k_asm); (case q84kN => k_asm); (case q84kU => k_updF); (case q84kT => k_asm); (case q84kK => first | exact rfl | assumption); (case q84kD => first | assumption | exact deck_of (by assumption)); (case q84k1 => first | decide | omega | k_room); (case q84k2 => first | decide | omega); (case q84kd => ktr_room); (case q84ku => ktr_units)); intro q84_r' q84_t' q84_vs' q84_n' q84_h' q84_tk' q84_hr0' q84_hr1' q84_hD' q84_F' q84_N'; (try dsimp only at q84_N'); (try dsimp only))
  k_with "CompSrc" => (k_here; k_dflt (refine' LCg.CompSrc.range (by rfl) (by k_asm) (by k_asm) (by assumption) ?q85ksm ?q85krs ?q85ksz ?_; (case q85ksm => exact small_one (by kcf_bnd) (by kcf_bnd) (by kcf_bnd) (by kcf_bnd)); (case q85krs => exact rangeSize_nat _ _); (case q85ksz => (rw [PySem.sizeLine_eq]; omega)); intro q85_g'; (refine' comp_drawU Letter ?q85cD ?q85cU (fun q85_v' q85_I' q85_oI' q85_C' q85_oC' q85_D' q85_m' q85_ys' q85_h' q85_tk' q85_vs' q85_c' q85_E' q85_hD' q85_hC' q85_hx' q85_F' q85_N' q85_off' q85_ne' => ?_) (fun q85_ys' q85_ks' q85_vs' q85_c' q85_hI' q85_hl' q85_hm' q85_hD' => ?_); (case q85cD => assumption); (case q85cU => k_updF)); (all_goals (try simp only [LCg.Off3, and_true] at q85_off'))))
  k_with "CompEnd" => (refine drawEnd (by assumption) (by assumption) (by assumption) (by kcf_all) (by first | assumption | (simp only [LCg.Off3, and_true]; done) | (simp only [LCg.Off3, and_true]; assumption)) ?_)
  k_with "call ref" => (k_here; (with_reducible show wpAny _ _ (call (Value.ref 421) [Value.ref _, Value.int _ _, Value.int _ _]) _ _ _); k_dflt (refine' codes_spec ?q87kB ?q87kF ?q87kX ?q87kN ?q87kT ?q87kK ?q87kd ?q87ku ?q87m1 ?q87m2 ?q87m3 ?q87m4 ?q87m5 ?q87hi ?q87hg ?q87hl ?q87hm ?q87hb ?q87hz ?q87hx ?q87hxy ?q87hy ?_; (case q87kB => k_asm); (case q87kF => k_asm); (case q87kX => k_asm); (case q87kN => k_asm); (case q87kT => k_asm); (case q87kK => first | exact rfl | assumption); (case q87kd => ktr_room); (case q87ku => ktr_units); (case q87m1 => k_mem); (case q87m2 => k_mem); (case q87m3 => k_mem); (case q87m4 => k_mem); (case q87m5 => k_mem); (case q87hi => assumption); (case q87hg => assumption); (case q87hl => assumption); (case q87hm => assumption); (case q87hb => assumption); (case q87hz => assumption); (case q87hx => omega); (case q87hxy => omega); (case q87hy => omega)); intro q87_D' q87_us' q87_c' q87_h' q87_tk' q87_F' q87_N' q87_l' q87_I'; (try dsimp only))
  have dummy : PySem.Challenge.rw_ok0060_01 = PySem.Challenge.rw_ok0060_01 ∧ hd.heap_39 = hd.heap_39 := by
    k_fill
    exact ⟨rfl, rfl⟩
  clear dummy
  k_steps
  rename News h₀ L _ _ => kN9
  rename IntsAre _ (List.take _ _) => hI9
  rename ∀ q ∈ _ :: _ :: news, _ => hl9
  have e1 : (if y < x then y else x) = min x y := by split <;> omega
  have e2 : (if y > x then y else x) = max x y := by split <;> omega
  rw [e1, e2] at hI9
  refine hret _ _ _ _ _ (by assumption) (news_sub kN9 (List.forall_mem_cons.mpr ⟨.head _, fun q hq => .tail _ (.tail _ (.tail _ hq))⟩)) (fun q hq => hl9 q (.tail _ (.tail _ hq))) hI9
theorem sub_out {w : World} {p : Program} {loose : List PySem.Str} {mean : ExcName → Option Value} {mg mb : PySem.Str → Option Value}
  {dp un : Nat} {gd : Option (List Code)} {cn : PySem.Str} {cs : Scope} {a : Addr} {ccd : Value} {cl : List (PySem.Str × Addr)} {outer : List Env} {A₀ : Around} {base h₀ : Heap} {L : Addr} {m : PySem.Str → Option Value} {s : Shared}
  {news : List (Addr × Obj)} {Q E : Value → Shared → Prop} {T₀ : BToks} {b bd t mk ls : Addr} {point begv zv ticks ct x y : Int} {t1 t2 : Tok}
  (B : Below A₀ base outer h₀) (F : Fr h₀ L s.heap m) (X : (hd.heap_39 w.params).In h₀) (N : News h₀ L s.heap news) (T : Top p loose mean mg mb h₀) (hk : cs.kind = .function)
  (hdp : dp + 20 < recursionLimit) (hun : un + 200 < cLine)
  (m1 : (b, instObj 459 bd) ∈ news) (m2 : (bd, bufO w T₀ t mk ls point begv zv ticks ct) ∈ news)
  (hx : min x y < begv ∨ max x y > zv)
  (hE : ∀ g e dx oD mD u h' tk', Fr h₀ L g m → RaisedD base g (envX cn cs L a ccd cl :: outer) e (.ref 38) dx ((dx, oD) :: news) h' → NsD oD mD → mD "symbol" = some (.str "args-out-of-range" u) → @Ne Nat e dx → g.UpToSlots h' → E (.ref e) {s with heap := h', toks := tk'}) :
  wpAny (model prog w) (ktrTop dp un gd cn cs L a ccd cl outer) (call (.ref 147) [.ref b, .int x t1, .int y t2]) Q E s := by
  k_with_none
  k_with "call ref" => (k_here; (with_reducible show wpAny _ _ (call (Value.ref 480) [Value.ref _, Value.int _ _]) _ _ _); k_dflt (refine' draw_use ?q88kB ?q88kF ?q88kX ?q88kN ?q88kU ?q88kT ?q88kK ?q88kD ?q88k1 ?q88k2 ?q88kd ?q88ku ?_; (case q88kB => k_asm); (case q88kF => k_asm); (case q88kX => k_asm); (case q88kN => k_asm); (case q88kU => k_updF); (case q88kT => k_asm); (case q88kK => first | exact rfl | assumption); (case q88kD => first | assumption | exact deck_of (by assumption)); (case q88k1 => first | decide | omega | k_room); (case q88k2 => first | decide | omega); (case q88kd => ktr_room); (case q88ku => ktr_units)); intro q88_r' q88_t' q88_vs' q88_n' q88_h' q88_tk' q88_hr0' q88_hr1' q88_hD' q88_F' q88_N'; (try dsimp only at q88_N'); (try dsimp only))
  k_with "CompSrc" => (k_here; k_dflt (refine' LCg.CompSrc.range (by rfl) (by k_asm) (by k_asm) (by assumption) ?q89ksm ?q89krs ?q89ksz ?_; (case q89ksm => exact small_one (by kcf_bnd) (by kcf_bnd) (by kcf_bnd) (by kcf_bnd)); (case q89krs => exact rangeSize_nat _ _); (case q89ksz => (rw [PySem.sizeLine_eq]; omega)); intro q89_g'; (refine' comp_drawU Letter ?q89cD ?q89cU (fun q89_v' q89_I' q89_oI' q89_C' q89_oC' q89_D' q89_m' q89_ys' q89_h' q89_tk' q89_vs' q89_c' q89_E' q89_hD' q89_hC' q89_hx' q89_F' q89_N' q89_off' q89_ne' => ?_) (fun q89_ys' q89_ks' q89_vs' q89_c' q89_hI' q89_hl' q89_hm' q89_hD' => ?_); (case q89cD => assumption); (case q89cU => k_updF)); (all_goals (try simp only [LCg.Off3, and_true] at q89_off'))))
  k_with "CompEnd" => (refine drawEnd (by assumption) (by assumption) (by assumption) (by kcf_all) (by first | assumption | (simp only [LCg.Off3, and_true]; done) | (simp only [LCg.Off3, and_true]; assumption)) ?_)
  k_with "call ref" => (k_here; (with_reducible show wpAny _ _ (call (Value.ref 421) [Value.ref _, Value.int _ _, Value.int _ _]) _ _ _); k_dflt (refine' codes_spec ?q91kB ?q91kF ?q91kX ?q91kN ?q91kT ?q91kK ?q91kd ?q91ku ?q91m1 ?q91m2 ?q91m3 ?q91m4 ?q91m5 ?q91hi ?q91hg ?q91hl ?q91hm ?q91hb ?q91hz ?q91hx ?q91hxy ?q91hy ?_; (case q91kB => k_asm); (case q91kF => k_asm); (case q91kX => k_asm); (case q91kN => k_asm); (case q91kT => k_asm); (case q91kK => first | exact rfl | assumption); (case q91kd => ktr_room); (case q91ku => ktr_units); (case q91m1 => k_mem); (case q91m2 => k_mem); (case q91m3 => k_mem); (case q91m4 => k_mem); (case q91m5 => k_mem); (case q91hi => assumption); (case q91hg => assumption); (case q91hl => assumption); (case q91hm => assumption); (case q91hb => assumption); (case q91hz => assumption); (case q91hx => omega); (case q91hxy => omega); (case q91hy => omega)); intro q91_D' q91_us' q91_c' q91_h' q91_tk' q91_F' q91_N' q91_l' q91_I'; (try dsimp only))
  k_with "call ref" => (k_here; (with_reducible show wpAny _ _ (call (Value.ref 55) [Value.ref _, Value.int _ _, Value.int _ _]) _ _ _); k_dflt (refine' reached_out ?q92kB ?q92kF ?q92kX ?q92kN ?q92kT ?q92kK ?q92kd ?q92ku ?q92m1 ?q92m2 ?q92hx ?_; (case q92kB => k_asm); (case q92kF => k_asm); (case q92kX => k_asm); (case q92kN => k_asm); (case q92kT => k_asm); (case q92kK => first | exact rfl | assumption); (case q92kd => ktr_room); (case q92ku => ktr_units); (case q92m1 => k_mem); (case q92m2 => k_mem); (case q92hx => assumption)); intro q92_g' q92_e' q92_dx' q92_oD' q92_mD' q92_u' q92_h' q92_tk' q92_FG' q92_R' q92_hD' q92_hv' q92_hn' q92_U'; (try dsimp only))
  have dummy : PySem.Challenge.rw_ok0060_01 = PySem.Challenge.rw_ok0060_01 ∧ hd.heap_39 = hd.heap_39 := by
    k_fill
    exact ⟨rfl, rfl⟩
  clear dummy
  k_steps
  rename RaisedD _ _ _ _ _ _ _ _ => kR9
  refine' leave_onD ?kB ?kF ?kf kR9 ?kU (fun h₂ R₂ U₂ => ?_)
  case kf => rfl
  case kU => assumption
  case kF => assumption
  case kB => assumption
  refine' hE _ _ _ _ _ _ _ _ ?kG R₂ ?kD ?kv ?kn U₂
  case kD => assumption
  case kv => assumption
  case kn => assumption
  case kG => assumption

end
end
theorem apart_PLam : ∀ x : Nat, x = x := by
  w_top off
  k_with_none
  first | (walk1; done) | exact fun _ => rfl
section
section
local macro_rules | `(tactic| k_mem) => `(tactic| first | exact List.Mem.head _ | assumption | (refine' List.Mem.tail _ ?_; k_mem))
theorem lam_out {w : World} {p : Program} {loose : List PySem.Str} {mean : ExcName → Option Value} {mg mb : PySem.Str → Option Value}
  {dp un : Nat} {gd : Option (List Code)} {cn : PySem.Str} {cs : Scope} {a : Addr} {ccd : Value} {cl : List (PySem.Str × Addr)} {outer : List Env} {A₀ : Around} {base h₀ : Heap} {L : Addr} {m : PySem.Str → Option Value} {s : Shared}
  {news : List (Addr × Obj)} {Q E : Value → Shared → Prop} {T₀ : BToks} {b bd t mk ls : Addr} {point begv zv ticks ct x y : Int} {t1 t2 : Tok}
  {f c' cB cE cS : Addr} {oc oB oE oS : Obj} {lv : Array Value} {pm ctv : Value} {tq : Tok}
  (B : Below A₀ base outer h₀) (F : Fr h₀ L s.heap m) (X : (hd.heap_39 w.params).In h₀) (N : News h₀ L s.heap news) (T : Top p loose mean mg mb h₀) (hk : cs.kind = .function)
  (hdp : dp + 30 < recursionLimit) (hun : un + 300 < cLine)
  (mf : (f, kla_obj "<lambda>" "law.<locals>.<lambda>" lamArgs lamBody lamScope [("start", cS), ("end", cE), ("buffer", cB)] pm c' ctv) ∈ news)
  (mc : (c', oc) ∈ news) (hoc : oc.data = .fields lv) (hov : lv[1]? = some (.str "law.<locals>.<lambda>" tq))
  (mB : (cB, oB) ∈ news) (hB : oB.data = .cell (some (.ref b))) (mS : (cS, oS) ∈ news) (hS : oS.data = .cell (some (.int x t1))) (mE : (cE, oE) ∈ news) (hE' : oE.data = .cell (some (.int y t2)))
  (m1 : (b, instObj 459 bd) ∈ news) (m2 : (bd, bufO w T₀ t mk ls point begv zv ticks ct) ∈ news)
  (hx : min x y < begv ∨ max x y > zv)
  (hE : ∀ g e dx oD mD u h' tk', Fr h₀ L g m → RaisedD base g (envX cn cs L a ccd cl :: outer) e (.ref 38) dx ((dx, oD) :: news) h' → NsD oD mD → mD "symbol" = some (.str "args-out-of-range" u) → @Ne Nat e dx → g.UpToSlots h' → E (.ref e) {s with heap := h', toks := tk'}) :
  wpAny (model prog w) (ktrTop dp un gd cn cs L a ccd cl outer) (call (.ref f) []) Q E s := by
  delta lamBody lamBodyS lamScope lamScopeS lamArgs lamArgsS at mf
  dsimp only at mf
  k_with_none
  k_with "call ref" => (k_here; (with_reducible show wpAny _ _ (call (Value.ref 480) [Value.ref _, Value.int _ _]) _ _ _); k_dflt (refine' draw_use ?q93kB ?q93kF ?q93kX ?q93kN ?q93kU ?q93kT ?q93kK ?q93kD ?q93k1 ?q93k2 ?q93kd ?q93ku ?_; (case q93kB => k_asm); (case q93kF => k_asm); (case q93kX => k_asm); (case q93kN => k_asm); (case q93kU => k_updF); (case q93kT => k_asm); (case q93kK => first | exact rfl | assumption); (case q93kD => first | assumption | exact deck_of (by assumption)); (case q93k1 => first | decide | omega | k_room); (case q93k2 => first | decide | omega); (case q93kd => ktr_room); (case q93ku => ktr_units)); intro q93_r' q93_t' q93_vs' q93_n' q93_h' q93_tk' q93_hr0' q93_hr1' q93_hD' q93_F' q93_N'; (try dsimp only at q93_N'); (try dsimp only))
  k_with "CompSrc" => (k_here; k_dflt (refine' LCg.CompSrc.range (by rfl) (by k_asm) (by k_asm) (by assumption) ?q94ksm ?q94krs ?q94ksz ?_; (case q94ksm => exact small_one (by kcf_bnd) (by kcf_bnd) (by kcf_bnd) (by kcf_bnd)); (case q94krs => exact rangeSize_nat _ _); (case q94ksz => (rw [PySem.sizeLine_eq]; omega)); intro q94_g'; (refine' comp_drawU Letter ?q94cD ?q94cU (fun q94_v' q94_I' q94_oI' q94_C' q94_oC' q94_D' q94_m' q94_ys' q94_h' q94_tk' q94_vs' q94_c' q94_E' q94_hD' q94_hC' q94_hx' q94_F' q94_N' q94_off' q94_ne' => ?_) (fun q94_ys' q94_ks' q94_vs' q94_c' q94_hI' q94_hl' q94_hm' q94_hD' => ?_); (case q94cD => assumption); (case q94cU => k_updF)); (all_goals (try simp only [LCg.Off3, and_true] at q94_off'))))
  k_with "CompEnd" => (refine drawEnd (by assumption) (by assumption) (by assumption) (by kcf_all) (by first | assumption | (simp only [LCg.Off3, and_true]; done) | (simp only [LCg.Off3, and_true]; assumption)) ?_)
  k_with "call ref" => (k_here; (with_reducible show wpAny _ _ (call (Value.ref 147) [Value.ref _, Value.int _ _, Value.int _ _]) _ _ _); k_dflt (refine' sub_out ?q96kB ?q96kF ?q96kX ?q96kN ?q96kT ?q96kK ?q96kd ?q96ku ?q96m1 ?q96m2 ?q96hx ?_; (case q96kB => k_asm); (case q96kF => k_asm); (case q96kX => k_asm); (case q96kN => k_asm); (case q96kT => k_asm); (case q96kK => first | exact rfl | assumption); (case q96kd => ktr_room); (case q96ku => ktr_units); (case q96m1 => k_mem); (case q96m2 => k_mem); (case q96hx => assumption)); intro q96_g' q96_e' q96_dx' q96_oD' q96_mD' q96_u' q96_h' q96_tk' q96_FG' q96_R' q96_hD' q96_hv' q96_hn' q96_U'; (try dsimp only))
  k_with "eval Name" => (k_here; (with_reducible show wpAny _ _ (eval (PySem.Expr.Name _ _) (envX _ _ _ _ _ (_ :: _))) _ _ _); k_dflt (refine' nameX_F ?q97N ?q97c ?q97m ?q97d ?_ ?q97a ?q97b ?q97e ?q97n; (case q97a => rfl); (case q97b => rfl); (case q97e => decide); (case q97n => decide); (case q97c => rfl); (case q97N => assumption); (case q97m => assumption); (case q97d => assumption)))
  have dummy : PySem.Challenge.rw_ok0060_01 = PySem.Challenge.rw_ok0060_01 ∧ hd.heap_39 = hd.heap_39 := by
    k_fill
    exact ⟨rfl, rfl⟩
  clear dummy
  refine wpAny_call ?_
  k_dflt (refine' kla_code ?k1 ?k2 ?k3 ?k4 ?k5 ?kA ?kF ?kK ?k6 ?k7 ?k8 ?k9 ?kB ?_ ?c2 ?c3 ?c4 ?c5; (case kA => exact rfl); (case kF => exact rfl); (case kK => exact hk); (case k1 => k_asm); (case k2 => k_asm); (case k3 => k_asm); (case k4 => k_asm); (case k5 => k_asm); (case k6 => exact mf); (case k7 => exact codeRec_news (by k_asm) mc hoc hov); (case k8 => ktr_room); (case k9 => exact rfl); (case c5 => decide); (case kB => exact locs rfl); (case c2 => exact rfl); (case c3 => exact rfl); (case c4 => exact rfl))
  intro g' L' h' FG' F' N' B' X' T'
  dsimp only
  k_steps
  rename RaisedD _ _ _ _ _ _ _ _ => kR9
  refine' leave_onD ?kB ?kF ?kf kR9 ?kU (fun h₂ R₂ U₂ => ?_)
  case kf => rfl
  case kU => assumption
  case kF => assumption
  case kB => assumption
  refine' hE _ _ _ _ _ _ _ _ ?kG R₂ ?kD ?kv ?kn U₂
  case kD => assumption
  case kv => assumption
  case kn => assumption
  case kG => assumption
theorem lam_in {w : World} {p : Program} {loose : List PySem.Str} {mean : ExcName → Option Value} {mg mb : PySem.Str → Option Value}
  {dp un : Nat} {gd : Option (List Code)} {cn : PySem.Str} {cs : Scope} {a : Addr} {ccd : Value} {cl : List (PySem.Str × Addr)} {outer : List Env} {A₀ : Around} {base h₀ : Heap} {L : Addr} {m : PySem.Str → Option Value} {s : Shared}
  {news : List (Addr × Obj)} {Q E : Value → Shared → Prop} {T₀ : BToks} {U₀ : TToks} {b bd t td ce mk ls : Addr} {cells : List Value} {ks ms : List Int} {nc : Nat} {point begv zv ticks ct gs ge x y : Int} {t1 t2 : Tok}
  {f c' cB cE cS : Addr} {oc oB oE oS : Obj} {lv : Array Value} {pm ctv : Value} {tq : Tok}
  (B : Below A₀ base outer h₀) (F : Fr h₀ L s.heap m) (X : (hd.heap_39 w.params).In h₀) (N : News h₀ L s.heap news) (T : Top p loose mean mg mb h₀) (hk : cs.kind = .function)
  (hdp : dp + 30 < recursionLimit) (hun : un + 300 < cLine)
  (mf : (f, kla_obj "<lambda>" "law.<locals>.<lambda>" lamArgs lamBody lamScope [("start", cS), ("end", cE), ("buffer", cB)] pm c' ctv) ∈ news)
  (mc : (c', oc) ∈ news) (hoc : oc.data = .fields lv) (hov : lv[1]? = some (.str "law.<locals>.<lambda>" tq))
  (mB : (cB, oB) ∈ news) (hB : oB.data = .cell (some (.ref b))) (mS : (cS, oS) ∈ news) (hS : oS.data = .cell (some (.int x t1))) (mE : (cE, oE) ∈ news) (hE' : oE.data = .cell (some (.int y t2)))
  (m1 : (b, instObj 459 bd) ∈ news) (m2 : (bd, bufO w T₀ t mk ls point begv zv ticks ct) ∈ news)
  (m3 : (t, instObj 248 td) ∈ news) (m4 : (td, txtO w U₀ ce gs ge) ∈ news) (m5 : (ce, PySem.W.listOf cells.toArray nc) ∈ news)
  (hi : IntsAre cells (ks ++ ms)) (hgs : gs = ks.length) (hlen : ks.length ≤ 8) (hms : ms.length ≤ 20) (hb : 1 ≤ begv) (hz : zv ≤ ks.length + 1) (hx : begv ≤ min x y) (hy : max x y ≤ zv)
  (hret : ∀ D us c h' tk', Fr h₀ L h' m → News h₀ L h' ((D, PySem.W.listOf us.toArray c) :: news) → (∀ p ∈ news, @LT.lt Nat _ p.1 D) → IntsAre us ((ks.drop (min x y - 1).toNat).take (max x y - min x y).toNat) → Q (.ref D) {s with heap := h', toks := tk'}) :
  wpAny (model prog w) (ktrTop dp un gd cn cs L a ccd cl outer) (call (.ref f) []) Q E s := by
  delta lamBody lamBodyS lamScope lamScopeS lamArgs lamArgsS at mf
  dsimp only at mf
  k_with_none
  k_with "call ref" => (k_here; (with_reducible show wpAny _ _ (call (Value.ref 480) [Value.ref _, Value.int _ _]) _ _ _); k_dflt (refine' draw_use ?q98kB ?q98kF ?q98kX ?q98kN ?q98kU ?q98kT ?q98kK ?q98kD ?q98k1 ?q98k2 ?q98kd ?q98ku ?_; (case q98kB => k_asm); (case q98kF => k_asm); (case q98kX => k_asm); (case q98kN => k_asm); (case q98kU => k_updF); (case q98kT => k_asm); (case q98kK => first | exact rfl | assumption); (case q98kD => first | assumption | exact deck_of (by assumption)); (case q98k1 => first | decide | omega | k_room); (case q98k2 => first | decide | omega); (case q98kd => ktr_room); (case q98ku => ktr_units)); intro q98_r' q98_t' q98_vs' q98_n' q98_h' q98_tk' q98_hr0' q98_hr1' q98_hD' q98_F' q98_N'; (try dsimp only at q98_N'); (try dsimp only))
  k_with "CompSrc" => (k_here; k_dflt (refine' LCg.CompSrc.range (by rfl) (by k_asm) (by k_asm) (by assumption) ?q99ksm ?q99krs ?q99ksz ?_; (case q99ksm => exact small_one (by kcf_bnd) (by kcf_bnd) (by kcf_bnd) (by kcf_bnd)); (case q99krs => exact rangeSize_nat _ _); (case q99ksz => (rw [PySem.sizeLine_eq]; omega)); intro q99_g'; (refine' comp_drawU Letter ?q99cD ?q99cU (fun q99_v' q99_I' q99_oI' q99_C' q99_oC' q99_D' q99_m' q99_ys' q99_h' q99_tk' q99_vs' q99_c' q99_E' q99_hD' q99_hC' q99_hx' q99_F' q99_N' q99_off' q99_ne' => ?_) (fun q99_ys' q99_ks' q99_vs' q99_c' q99_hI' q99_hl' q99_hm' q99_hD' => ?_); (case q99cD => assumption); (case q99cU => k_updF)); (all_goals (try simp only [LCg.Off3, and_true] at q99_off'))))
  k_with "CompEnd" => (refine drawEnd (by assumption) (by assumption) (by assumption) (by kcf_all) (by first | assumption | (simp only [LCg.Off3, and_true]; done) | (simp only [LCg.Off3, and_true]; assumption)) ?_)
  k_with "call ref" => (k_here; (with_reducible show wpAny _ _ (call (Value.ref 147) [Value.ref _, Value.int _ _, Value.int _ _]) _ _ _); k_dflt (refine' sub_out ?q101kB ?q101kF ?q101kX ?q101kN ?q101kT ?q101kK ?q101kd ?q101ku ?q101m1 ?q101m2 ?q101hx ?_; (case q101kB => k_asm); (case q101kF => k_asm); (case q101kX => k_asm); (case q101kN => k_asm); (case q101kT => k_asm); (case q101kK => first | exact rfl | assumption); (case q101kd => ktr_room); (case q101ku => ktr_units); (case q101m1 => k_mem); (case q101m2 => k_mem); (case q101hx => assumption)); intro q101_g' q101_e' q101_dx' q101_oD' q101_mD' q101_u' q101_h' q101_tk' q101_FG' q101_R' q101_hD' q101_hv' q101_hn' q101_U'; (try dsimp only))
  k_with "eval Name" => (k_here; (with_reducible show wpAny _ _ (eval (PySem.Expr.Name _ _) (envX _ _ _ _ _ (_ :: _))) _ _ _); k_dflt (refine' nameX_F ?q102N ?q102c ?q102m ?q102d ?_ ?q102a ?q102b ?q102e ?q102n; (case q102a => rfl); (case q102b => rfl); (case q102e => decide); (case q102n => decide); (case q102c => rfl); (case q102N => assumption); (case q102m => assumption); (case q102d => assumption)))
  k_with "call ref" => (k_here; (with_reducible show wpAny _ _ (call (Value.ref 147) [Value.ref _, Value.int _ _, Value.int _ _]) _ _ _); k_dflt (refine' sub_in ?q103kB ?q103kF ?q103kX ?q103kN ?q103kT ?q103kK ?q103kd ?q103ku ?q103m1 ?q103m2 ?q103m3 ?q103m4 ?q103m5 ?q103hi ?q103hg ?q103hl ?q103hm ?q103hb ?q103hz ?q103hx ?q103hy ?_; (case q103kB => k_asm); (case q103kF => k_asm); (case q103kX => k_asm); (case q103kN => k_asm); (case q103kT => k_asm); (case q103kK => first | exact rfl | assumption); (case q103kd => ktr_room); (case q103ku => ktr_units); (case q103m1 => k_mem); (case q103m2 => k_mem); (case q103m3 => k_mem); (case q103m4 => k_mem); (case q103m5 => k_mem); (case q103hi => assumption); (case q103hg => assumption); (case q103hl => assumption); (case q103hm => assumption); (case q103hb => assumption); (case q103hz => assumption); (case q103hx => assumption); (case q103hy => assumption)); intro q103_D' q103_us' q103_c' q103_h' q103_tk' q103_F' q103_N' q103_l' q103_I'; (try dsimp only))
  have dummy : PySem.Challenge.rw_ok0060_01 = PySem.Challenge.rw_ok0060_01 ∧ hd.heap_39 = hd.heap_39 := by
    k_fill
    exact ⟨rfl, rfl⟩
  clear dummy
  refine wpAny_call ?_
  k_dflt (refine' kla_code ?k1 ?k2 ?k3 ?k4 ?k5 ?kA ?kF ?kK ?k6 ?k7 ?k8 ?k9 ?kB ?_ ?c2 ?c3 ?c4 ?c5; (case kA => exact rfl); (case kF => exact rfl); (case kK => exact hk); (case k1 => k_asm); (case k2 => k_asm); (case k3 => k_asm); (case k4 => k_asm); (case k5 => k_asm); (case k6 => exact mf); (case k7 => exact codeRec_news (by k_asm) mc hoc hov); (case k8 => ktr_room); (case k9 => exact rfl); (case c5 => decide); (case kB => exact locs rfl); (case c2 => exact rfl); (case c3 => exact rfl); (case c4 => exact rfl))
  intro g' L' h' FG' F' N' B' X' T'
  dsimp only
  k_steps
  rename News h₀ L _ _ => kN9
  rename IntsAre _ (List.take _ _) => hI9
  exact hret _ _ _ _ _ (by assumption) kN9 (by assumption) hI9

end
end
theorem apart_PTold : ∀ x : Nat, x = x := by
  w_top off
  k_with_none
  first | (walk1; done) | exact fun _ => rfl
section
section
local macro_rules | `(tactic| k_mem) => `(tactic| first | exact List.Mem.head _ | assumption | (refine' List.Mem.tail _ ?_; k_mem))
theorem told_out {w : World} {p : Program} {loose : List PySem.Str} {mean : ExcName → Option Value} {mg mb : PySem.Str → Option Value}
  {dp un : Nat} {gd : Option (List Code)} {cn : PySem.Str} {cs : Scope} {a : Addr} {ccd : Value} {cl : List (PySem.Str × Addr)} {A₀ : Around} {h₀ : Heap} {L : Addr} {m : PySem.Str → Option Value} {s : Shared}
  {news : List (Addr × Obj)} {Q E : Value → Shared → Prop} {T₀ : BToks} {b bd t mk ls : Addr} {point begv zv ticks ct x y : Int} {t1 t2 : Tok}
  {f c' cB cE cS : Addr} {oc oB oE oS : Obj} {lv : Array Value} {pm ctv : Value} {tq : Tok}
  (B : Below A₀ h₀ [] h₀) (F : Fr h₀ L s.heap m) (X : (hd.heap_39 w.params).In h₀) (N : News h₀ L s.heap news) (T : Top p loose mean mg mb h₀) (hk : cs.kind = .function)
  (hdp : dp + 40 < recursionLimit) (hun : un + 400 < cLine)
  (mf : (f, kla_obj "<lambda>" "law.<locals>.<lambda>" lamArgs lamBody lamScope [("start", cS), ("end", cE), ("buffer", cB)] pm c' ctv) ∈ news)
  (mc : (c', oc) ∈ news) (hoc : oc.data = .fields lv) (hov : lv[1]? = some (.str "law.<locals>.<lambda>" tq))
  (mB : (cB, oB) ∈ news) (hB : oB.data = .cell (some (.ref b))) (mS : (cS, oS) ∈ news) (hS : oS.data = .cell (some (.int x t1))) (mE : (cE, oE) ∈ news) (hE' : oE.data = .cell (some (.int y t2)))
  (m1 : (b, instObj 459 bd) ∈ news) (m2 : (bd, bufO w T₀ t mk ls point begv zv ticks ct) ∈ news)
  (hx : min x y < begv ∨ max x y > zv)
  (hret : ∀ u h' tk', Fr h₀ L h' m → News h₀ L h' news → Q (.str "args-out-of-range" u) {s with heap := h', toks := tk'}) :
  wpAny (model prog w) (ktrTop dp un gd cn cs L a ccd cl []) (call (.ref 487) [.ref f]) Q E s := by
  k_with_none
  k_with "call ref" => (k_here; (with_reducible show wpAny _ _ (call (Value.ref 480) [Value.ref _, Value.int _ _]) _ _ _); k_dflt (refine' draw_use ?q104kB ?q104kF ?q104kX ?q104kN ?q104kU ?q104kT ?q104kK ?q104kD ?q104k1 ?q104k2 ?q104kd ?q104ku ?_; (case q104kB => k_asm); (case q104kF => k_asm); (case q104kX => k_asm); (case q104kN => k_asm); (case q104kU => k_updF); (case q104kT => k_asm); (case q104kK => first | exact rfl | assumption); (case q104kD => first | assumption | exact deck_of (by assumption)); (case q104k1 => first | decide | omega | k_room); (case q104k2 => first | decide | omega); (case q104kd => ktr_room); (case q104ku => ktr_units)); intro q104_r' q104_t' q104_vs' q104_n' q104_h' q104_tk' q104_hr0' q104_hr1' q104_hD' q104_F' q104_N'; (try dsimp only at q104_N'); (try dsimp only))
  k_with "CompSrc" => (k_here; k_dflt (refine' LCg.CompSrc.range (by rfl) (by k_asm) (by k_asm) (by assumption) ?q105ksm ?q105krs ?q105ksz ?_; (case q105ksm => exact small_one (by kcf_bnd) (by kcf_bnd) (by kcf_bnd) (by kcf_bnd)); (case q105krs => exact rangeSize_nat _ _); (case q105ksz => (rw [PySem.sizeLine_eq]; omega)); intro q105_g'; (refine' comp_drawU Letter ?q105cD ?q105cU (fun q105_v' q105_I' q105_oI' q105_C' q105_oC' q105_D' q105_m' q105_ys' q105_h' q105_tk' q105_vs' q105_c' q105_E' q105_hD' q105_hC' q105_hx' q105_F' q105_N' q105_off' q105_ne' => ?_) (fun q105_ys' q105_ks' q105_vs' q105_c' q105_hI' q105_hl' q105_hm' q105_hD' => ?_); (case q105cD => assumption); (case q105cU => k_updF)); (all_goals (try simp only [LCg.Off3, and_true] at q105_off'))))
  k_with "CompEnd" => (refine drawEnd (by assumption) (by assumption) (by assumption) (by kcf_all) (by first | assumption | (simp only [LCg.Off3, and_true]; done) | (simp only [LCg.Off3, and_true]; assumption)) ?_)
  k_with "call ref" => (k_here; (with_reducible show wpAny _ _ (call (Value.ref _) []) _ _ _); k_dflt (refine' lam_out (L := _) (A₀ := _) (base := _) ?q107kB ?q107kF ?q107kX ?q107kN ?q107kT ?q107kK ?q107kd ?q107ku ?q107mf ?q107mc ?q107hoc ?q107hov ?q107mB ?q107hB ?q107mS ?q107hS ?q107mE ?q107hE ?q107m1 ?q107m2 ?q107hx ?_; (case q107kB => k_asm); (case q107kF => k_asm); (case q107kX => k_asm); (case q107kN => k_asm); (case q107kT => k_asm); (case q107kK => exact rfl); (case q107kd => ktr_room); (case q107ku => ktr_units); (case q107mf => assumption); (case q107mc => assumption); (case q107hoc => assumption); (case q107hov => assumption); (case q107mB => assumption); (case q107hB => assumption); (case q107mS => assumption); (case q107hS => assumption); (case q107mE => assumption); (case q107hE => assumption); (case q107m1 => assumption); (case q107m2 => assumption); (case q107hx => assumption)); intro q107_g' q107_e' q107_dx' q107_oD' q107_mD' q107_u' q107_h' q107_tk' q107_FG' q107_R' q107_hD' q107_hv' q107_hn' q107_U'; (try dsimp only))
  k_with "noteFrame ref" => (k_here; (rename Mine60.RaisedD _ _ _ _ _ _ _ _ => rkX); k_dflt (refine' caughtD (KF := hd.heap_39 _) rkX ?q108F ?q108K ?q108U ?q108XB ?q108TB ?q108T0 ?q108ex ?q108q ?_; (case q108F => assumption); (case q108K => assumption); (case q108U => assumption); (case q108XB => assumption); (case q108TB => assumption); (case q108T0 => exact KtsTurn.refl); (case q108ex => k_is); (case q108q => kts_isx)); intro q108_h' q108_g' q108_oe' q108_ws' q108_tk' q108_TT' q108_F' q108_N' q108_hc' q108_hd' q108_hw' q108_K' q108_X' q108_P')
  k_with "callWith ref" => (k_here; k_dflt (refine' callWith_F0 ?q109k1 ?_; (case q109k1 => exact FnAt.of (by k_asm) (by assumption)); try dsimp only [List.nil_append, List.cons_append]))
  k_with "getAttr ref" => (k_here; (with_reducible show wpAny _ _ (getAttr (Value.ref _) ("symbol" : PySem.Str) _) _ _ _); (rename Mine60.Sig _ _ _ _ _ _ _ _ _ _ _ _ _ _ _ => kS9); k_dflt (refine' get_symbolK kS9 ?q110F ?q110X ?q110N ?q110m1 ?q110m2 ?q110ne ?q110hc ?q110hd ?q110hn ?q110hD ?q110hv ?_; (case q110F => k_asm); (case q110X => k_asm); (case q110N => k_asm); (case q110m1 => exact List.Mem.head _); (case q110hn => assumption); (case q110m2 => exact List.Mem.tail _ (List.Mem.head _)); (case q110ne => assumption); (case q110hc => assumption); (case q110hd => assumption); (case q110hD => assumption); (case q110hv => assumption)); intro q110_tk')
  have dummy : PySem.Challenge.rw_ok0060_01 = PySem.Challenge.rw_ok0060_01 ∧ hd.heap_39 = hd.heap_39 := by
    k_fill
    exact ⟨rfl, rfl⟩
  clear dummy
  obtain ⟨nm, q, Ns, bs, sn, sub, ab, col, dd, k0, k1, k2, k3, k5, S⟩ := cls38 w.params
  refine wpAny_call ?_
  k_dflt (refine' enterT ?k1 ?k2 ?k3 ?k4 ?k5 ?kA ?kF ?kK ?k6 ?k7 ?k8 ?k9 ?kB ?_ ?c2 ?c3 ?c4 ?c5; (case kA => exact rfl); (case kF => exact rfl); (case kK => exact hk); (case k1 => k_asm); (case k2 => k_asm); (case k3 => k_asm); (case k4 => k_asm); (case k5 => k_asm); (case k6 => k_is); (case k7 => k_is); (case k8 => ktr_room); (case k9 => first | exact BindsTo.of_eq rfl | exact binds_K (by k_in) rfl (by k_is) rfl rfl rfl); (case c5 => decide); (case kB => exact locs rfl); (case c2 => exact rfl); (case c3 => exact rfl); (case c4 => exact rfl))
  intro g' L' h' FG' F' N' B' X' T'
  dsimp only
  k_steps
  rename News h₀ L _ _ => kN9
  exact hret _ _ _ (by assumption) (news_sub kN9 fun q hq => .tail _ (.tail _ hq))
theorem told_in {w : World} {p : Program} {loose : List PySem.Str} {mean : ExcName → Option Value} {mg mb : PySem.Str → Option Value}
  {dp un : Nat} {gd : Option (List Code)} {cn : PySem.Str} {cs : Scope} {a : Addr} {ccd : Value} {cl : List (PySem.Str × Addr)} {A₀ : Around} {h₀ : Heap} {L : Addr} {m : PySem.Str → Option Value} {s : Shared}
  {news : List (Addr × Obj)} {Q E : Value → Shared → Prop} {T₀ : BToks} {U₀ : TToks} {b bd t td ce mk ls : Addr} {cells : List Value} {ks ms : List Int} {nc : Nat} {point begv zv ticks ct gs ge x y : Int} {t1 t2 : Tok}
  {f c' cB cE cS : Addr} {oc oB oE oS : Obj} {lv : Array Value} {pm ctv : Value} {tq : Tok}
  (B : Below A₀ h₀ [] h₀) (F : Fr h₀ L s.heap m) (X : (hd.heap_39 w.params).In h₀) (N : News h₀ L s.heap news) (T : Top p loose mean mg mb h₀) (hk : cs.kind = .function)
  (hdp : dp + 40 < recursionLimit) (hun : un + 400 < cLine)
  (mf : (f, kla_obj "<lambda>" "law.<locals>.<lambda>" lamArgs lamBody lamScope [("start", cS), ("end", cE), ("buffer", cB)] pm c' ctv) ∈ news)
  (mc : (c', oc) ∈ news) (hoc : oc.data = .fields lv) (hov : lv[1]? = some (.str "law.<locals>.<lambda>" tq))
  (mB : (cB, oB) ∈ news) (hB : oB.data = .cell (some (.ref b))) (mS : (cS, oS) ∈ news) (hS : oS.data = .cell (some (.int x t1))) (mE : (cE, oE) ∈ news) (hE' : oE.data = .cell (some (.int y t2)))
  (m1 : (b, instObj 459 bd) ∈ news) (m2 : (bd, bufO w T₀ t mk ls point begv zv ticks ct) ∈ news)
  (m3 : (t, instObj 248 td) ∈ news) (m4 : (td, txtO w U₀ ce gs ge) ∈ news) (m5 : (ce, PySem.W.listOf cells.toArray nc) ∈ news)
  (hi : IntsAre cells (ks ++ ms)) (hgs : gs = ks.length) (hlen : ks.length ≤ 8) (hms : ms.length ≤ 20) (hb : 1 ≤ begv) (hz : zv ≤ ks.length + 1) (hx : begv ≤ min x y) (hy : max x y ≤ zv)
  (hret : ∀ D us c h' tk', Fr h₀ L h' m → News h₀ L h' ((D, PySem.W.listOf us.toArray c) :: news) → (∀ p ∈ news, @LT.lt Nat _ p.1 D) → IntsAre us ((ks.drop (min x y - 1).toNat).take (max x y - min x y).toNat) → Q (.ref D) {s with heap := h', toks := tk'}) :
  wpAny (model prog w) (ktrTop dp un gd cn cs L a ccd cl []) (call (.ref 487) [.ref f]) Q E s := by
  k_with_none
  k_with "call ref" => (k_here; (with_reducible show wpAny _ _ (call (Value.ref 480) [Value.ref _, Value.int _ _]) _ _ _); k_dflt (refine' draw_use ?q111kB ?q111kF ?q111kX ?q111kN ?q111kU ?q111kT ?q111kK ?q111kD ?q111k1 ?q111k2 ?q111kd ?q111ku ?_; (case q111kB => k_asm); (case q111kF => k_asm); (case q111kX => k_asm); (case q111kN => k_asm); (case q111kU => k_updF); (case q111kT => k_asm); (case q111kK => first | exact rfl | assumption); (case q111kD => first | assumption | exact deck_of (by assumption)); (case q111k1 => first | decide | omega | k_room); (case q111k2 => first | decide | omega); (case q111kd => ktr_room); (case q111ku => ktr_units)); intro q111_r' q111_t' q111_vs' q111_n' q111_h' q111_tk' q111_hr0' q111_hr1' q111_hD' q111_F' q111_N'; (try dsimp only at q111_N'); (try dsimp only))
  k_with "CompSrc" => (k_here; k_dflt (refine' LCg.CompSrc.range (by rfl) (by k_asm) (by k_asm) (by assumption) ?q112ksm ?q112krs ?q112ksz ?_; (case q112ksm => exact small_one (by kcf_bnd) (by kcf_bnd) (by kcf_bnd) (by kcf_bnd)); (case q112krs => exact rangeSize_nat _ _); (case q112ksz => (rw [PySem.sizeLine_eq]; omega)); intro q112_g'; (refine' comp_drawU Letter ?q112cD ?q112cU (fun q112_v' q112_I' q112_oI' q112_C' q112_oC' q112_D' q112_m' q112_ys' q112_h' q112_tk' q112_vs' q112_c' q112_E' q112_hD' q112_hC' q112_hx' q112_F' q112_N' q112_off' q112_ne' => ?_) (fun q112_ys' q112_ks' q112_vs' q112_c' q112_hI' q112_hl' q112_hm' q112_hD' => ?_); (case q112cD => assumption); (case q112cU => k_updF)); (all_goals (try simp only [LCg.Off3, and_true] at q112_off'))))
  k_with "CompEnd" => (refine drawEnd (by assumption) (by assumption) (by assumption) (by kcf_all) (by first | assumption | (simp only [LCg.Off3, and_true]; done) | (simp only [LCg.Off3, and_true]; assumption)) ?_)
  k_with "call ref" => (k_here; (with_reducible show wpAny _ _ (call (Value.ref _) []) _ _ _); k_dflt (refine' lam_out (L := _) (A₀ := _) (base := _) ?q114kB ?q114kF ?q114kX ?q114kN ?q114kT ?q114kK ?q114kd ?q114ku ?q114mf ?q114mc ?q114hoc ?q114hov ?q114mB ?q114hB ?q114mS ?q114hS ?q114mE ?q114hE ?q114m1 ?q114m2 ?q114hx ?_; (case q114kB => k_asm); (case q114kF => k_asm); (case q114kX => k_asm); (case q114kN => k_asm); (case q114kT => k_asm); (case q114kK => exact rfl); (case q114kd => ktr_room); (case q114ku => ktr_units); (case q114mf => assumption); (case q114mc => assumption); (case q114hoc => assumption); (case q114hov => assumption); (case q114mB => assumption); (case q114hB => assumption); (case q114mS => assumption); (case q114hS => assumption); (case q114mE => assumption); (case q114hE => assumption); (case q114m1 => assumption); (case q114m2 => assumption); (case q114hx => assumption)); intro q114_g' q114_e' q114_dx' q114_oD' q114_mD' q114_u' q114_h' q114_tk' q114_FG' q114_R' q114_hD' q114_hv' q114_hn' q114_U'; (try dsimp only))
  k_with "noteFrame ref" => (k_here; (rename Mine60.RaisedD _ _ _ _ _ _ _ _ => rkX); k_dflt (refine' caughtD (KF := hd.heap_39 _) rkX ?q115F ?q115K ?q115U ?q115XB ?q115TB ?q115T0 ?q115ex ?q115q ?_; (case q115F => assumption); (case q115K => assumption); (case q115U => assumption); (case q115XB => assumption); (case q115TB => assumption); (case q115T0 => exact KtsTurn.refl); (case q115ex => k_is); (case q115q => kts_isx)); intro q115_h' q115_g' q115_oe' q115_ws' q115_tk' q115_TT' q115_F' q115_N' q115_hc' q115_hd' q115_hw' q115_K' q115_X' q115_P')
  k_with "callWith ref" => (k_here; k_dflt (refine' callWith_F0 ?q116k1 ?_; (case q116k1 => exact FnAt.of (by k_asm) (by assumption)); try dsimp only [List.nil_append, List.cons_append]))
  k_with "getAttr ref" => (k_here; (with_reducible show wpAny _ _ (getAttr (Value.ref _) ("symbol" : PySem.Str) _) _ _ _); (rename Mine60.Sig _ _ _ _ _ _ _ _ _ _ _ _ _ _ _ => kS9); k_dflt (refine' get_symbolK kS9 ?q117F ?q117X ?q117N ?q117m1 ?q117m2 ?q117ne ?q117hc ?q117hd ?q117hn ?q117hD ?q117hv ?_; (case q117F => k_asm); (case q117X => k_asm); (case q117N => k_asm); (case q117m1 => exact List.Mem.head _); (case q117hn => assumption); (case q117m2 => exact List.Mem.tail _ (List.Mem.head _)); (case q117ne => assumption); (case q117hc => assumption); (case q117hd => assumption); (case q117hD => assumption); (case q117hv => assumption)); intro q117_tk')
  k_with "call ref" => (k_here; (with_reducible show wpAny _ _ (call (Value.ref _) []) _ _ _); k_dflt (refine' lam_in (L := _) (A₀ := _) (base := _) ?q118kB ?q118kF ?q118kX ?q118kN ?q118kT ?q118kK ?q118kd ?q118ku ?q118mf ?q118mc ?q118hoc ?q118hov ?q118mB ?q118hB ?q118mS ?q118hS ?q118mE ?q118hE ?q118m1 ?q118m2 ?q118m3 ?q118m4 ?q118m5 ?q118hi ?q118hg ?q118hl ?q118hm ?q118hb ?q118hz ?q118hx ?q118hy ?_; (case q118kB => k_asm); (case q118kF => k_asm); (case q118kX => k_asm); (case q118kN => k_asm); (case q118kT => k_asm); (case q118kK => exact rfl); (case q118kd => ktr_room); (case q118ku => ktr_units); (case q118mf => assumption); (case q118mc => assumption); (case q118hoc => assumption); (case q118hov => assumption); (case q118mB => assumption); (case q118hB => assumption); (case q118mS => assumption); (case q118hS => assumption); (case q118mE => assumption); (case q118hE => assumption); (case q118m1 => assumption); (case q118m2 => assumption); (case q118m3 => assumption); (case q118m4 => assumption); (case q118m5 => assumption); (case q118hi => assumption); (case q118hg => assumption); (case q118hl => assumption); (case q118hm => assumption); (case q118hb => assumption); (case q118hz => assumption); (case q118hx => assumption); (case q118hy => assumption)); intro q118_D' q118_us' q118_c' q118_h' q118_tk' q118_F' q118_N' q118_l' q118_I'; (try dsimp only))
  have dummy : PySem.Challenge.rw_ok0060_01 = PySem.Challenge.rw_ok0060_01 ∧ hd.heap_39 = hd.heap_39 := by
    k_fill
    exact ⟨rfl, rfl⟩
  clear dummy
  obtain ⟨nm, q, Ns, bs, sn, sub, ab, col, dd, k0, k1, k2, k3, k5, S⟩ := cls38 w.params
  refine wpAny_call ?_
  k_dflt (refine' enterT ?k1 ?k2 ?k3 ?k4 ?k5 ?kA ?kF ?kK ?k6 ?k7 ?k8 ?k9 ?kB ?_ ?c2 ?c3 ?c4 ?c5; (case kA => exact rfl); (case kF => exact rfl); (case kK => exact hk); (case k1 => k_asm); (case k2 => k_asm); (case k3 => k_asm); (case k4 => k_asm); (case k5 => k_asm); (case k6 => k_is); (case k7 => k_is); (case k8 => ktr_room); (case k9 => first | exact BindsTo.of_eq rfl | exact binds_K (by k_in) rfl (by k_is) rfl rfl rfl); (case c5 => decide); (case kB => exact locs rfl); (case c2 => exact rfl); (case c3 => exact rfl); (case c4 => exact rfl))
  intro g' L' h' FG' F' N' B' X' T'
  dsimp only
  k_steps
  rename News h₀ L _ _ => kN9
  rename IntsAre _ (List.take _ _) => hI9
  exact hret _ _ _ _ _ (by assumption) kN9 (by assumption) hI9

end
end
theorem apart_PLapB : ∀ x : Nat, x = x := by
  w_top off
  k_with_none
  first | (walk1; done) | exact fun _ => rfl
section
section
theorem len_20 {a : List Int} (h : a.length ≤ 8) : a.length ≤ 20 := by omega
theorem len_cat {a b : List Int} {n : Nat} (ha : a.length ≤ 8) (hb : b.length ≤ 8) : (List.take n a ++ b).length ≤ 20 := by
  rw [List.length_append, List.length_take]; omega
theorem len_mp {a : List Int} {f : Int → Int} (ha : a.length ≤ 20) : (List.map f a).length ≤ 20 := by
  rw [List.length_map]; exact ha
theorem letter_getD (l : List Int) (hl : l.all (fun k => decide (0 ≤ k) && decide (k < 128)) = true) (i : Nat) : Letter (l.getD i 0) := by
  rw [List.getD_eq_getElem?_getD]
  cases e : l[i]? with
  | none => exact ⟨Int.le_refl 0, by decide⟩
  | some v =>
    have h := List.all_eq_true.mp hl v (List.mem_of_getElem? e)
    simp only [Bool.and_eq_true, decide_eq_true_eq] at h
    exact h
local macro_rules | `(tactic| k_mem) => `(tactic| first | exact List.Mem.head _ | assumption | (refine' List.Mem.tail _ ?_; k_mem))
local macro_rules | `(tactic| k_all) => `(tactic| first | assumption | ((rename Mine60.Apart _ _ => hr9); exact fun p hp => hr9 p hp _ (by k_mem)))
theorem same_pair (as bs : List Int) : (!decide ([cmpAt false 0 as bs, cmpAt false 0 bs as] = [cmpAt false 0 as bs, 0 - cmpAt false 0 as bs])) = false := by
  rw [cmp_anti false as bs 0]; simp
theorem compare_true {w : World} {p : Program} {loose : List PySem.Str} {mean : ExcName → Option Value} {mg mb : PySem.Str → Option Value}
  {dp un : Nat} {gd : Option (List Code)} {cn : PySem.Str} {cs : Scope} {a : Addr} {ccd : Value} {cl : List (PySem.Str × Addr)} {outer : List Env} {A₀ : Around} {base h₀ : Heap} {L : Addr} {m : PySem.Str → Option Value} {s : Shared}
  {news : List (Addr × Obj)} {Q E : Value → Shared → Prop} {o1 o2 : Addr} {v1 v2 : List Value} {as bs : List Int} {c1 c2 : Nat}
  (B : Below A₀ base outer h₀) (F : Fr h₀ L s.heap m) (X : (hd.heap_39 w.params).In h₀) (N : News h₀ L s.heap news) (T : Top p loose mean mg mb h₀) (hk : cs.kind = .function)
  (hdp : dp + 10 < recursionLimit) (hun : un + 100 < cLine) (m1 : (o1, PySem.W.listOf v1.toArray c1) ∈ news) (m2 : (o2, PySem.W.listOf v2.toArray c2) ∈ news) (hi : IntsAre v1 as) (hj : IntsAre v2 bs) (h1 : as.length ≤ 20) (h2 : bs.length ≤ 20)
  (hret : ∀ t' h' tk', Fr h₀ L h' m → News h₀ L h' news → Q (.int (cmpAt false 0 (as.map (foldc true)) (bs.map (foldc true))) t') {s with heap := h', toks := tk'}) :
  wpAny (model prog w) (ktrTop dp un gd cn cs L a ccd cl outer) (call (.ref 161) [.ref o1, .ref o2, .bool true]) Q E s :=
  compare_spec B F X N T hk hdp hun m1 m2 hi hj h1 h2 fun t' h' tk' F' N' => cmp_fold as bs 0 ▸ hret t' h' tk' F' N'
theorem lap_b {w : World} {p : Program} {loose : List PySem.Str} {mean : ExcName → Option Value} {mg mb : PySem.Str → Option Value}
  {dp un : Nat} {gd : Option (List Code)} {fa : Addr} {A₀ : Around} {h₀ : Heap} {L : Addr} {m : PySem.Str → Option Value} {s : Shared}
  {rest : List (Addr × Obj)} {Q : Flow → Shared → Prop} {E : Value → Shared → Prop} {d c1 c2 c3 c4 : Addr} {vs : List Value} {n : Nat} {oDk : Obj}
  (B : Below A₀ h₀ [] h₀) (F : Fr h₀ L s.heap m) (X : (hd.heap_39 w.params).In h₀) (N : News h₀ L s.heap ((d, PySem.W.listOf vs.toArray n) :: (c1, oDk) :: rest)) (T : Top p loose mean mg mb h₀)
  (hdp : dp + 60 < recursionLimit) (hun : un + 600 < cLine) (hDk : oDk.data = .cell (some (.ref d))) (hr : Apart [d] rest) (hcd : @Ne Nat c1 d) (hD : Deck vs)
  (hret : ∀ m' vs' n' h' tk', (∀ y, y ∉ ([("one" : PySem.Str), "other", "found", "due"] : List PySem.Str) → m' y = m y) → Deck vs' → Fr h₀ L h' m' → News h₀ L h' ((d, PySem.W.listOf vs'.toArray n') :: (c1, oDk) :: rest) → Q .next {s with heap := h', toks := tk'}) :
  wpAny (model prog w) (ktrTop dp un gd "law" lawScope L fa (.ref 510) [("start", c4), ("end", c3), ("buffer", c2), ("deck", c1)] []) (execs lapB (envX "law" lawScope L fa (.ref 510) [("start", c4), ("end", c3), ("buffer", c2), ("deck", c1)])) Q E s := by
  delta lapB lapBS lawScope lawScopeS
  dsimp only
  k_with_none
  k_with "call ref" => (k_here; (with_reducible show wpAny _ _ (call (Value.ref 480) [Value.ref _, Value.int _ _]) _ _ _); k_dflt (refine' draw_use ?q119kB ?q119kF ?q119kX ?q119kN ?q119kU ?q119kT ?q119kK ?q119kD ?q119k1 ?q119k2 ?q119kd ?q119ku ?_; (case q119kB => k_asm); (case q119kF => k_asm); (case q119kX => k_asm); (case q119kN => k_asm); (case q119kU => k_updF); (case q119kT => k_asm); (case q119kK => first | exact rfl | assumption); (case q119kD => first | assumption | exact deck_of (by assumption)); (case q119k1 => first | decide | omega | k_room); (case q119k2 => first | decide | omega); (case q119kd => ktr_room); (case q119ku => ktr_units)); intro q119_r' q119_t' q119_vs' q119_n' q119_h' q119_tk' q119_hr0' q119_hr1' q119_hD' q119_F' q119_N'; (try dsimp only at q119_N'); (try dsimp only))
  k_with "CompSrc" => (k_here; k_dflt (refine' LCg.CompSrc.range (by rfl) (by k_asm) (by k_asm) (by assumption) ?q120ksm ?q120krs ?q120ksz ?_; (case q120ksm => exact small_one (by kcf_bnd) (by kcf_bnd) (by kcf_bnd) (by kcf_bnd)); (case q120krs => exact rangeSize_nat _ _); (case q120ksz => (rw [PySem.sizeLine_eq]; omega)); intro q120_g'; (refine' comp_drawU Letter ?q120cD ?q120cU (fun q120_v' q120_I' q120_oI' q120_C' q120_oC' q120_D' q120_m' q120_ys' q120_h' q120_tk' q120_vs' q120_c' q120_E' q120_hD' q120_hC' q120_hx' q120_F' q120_N' q120_off' q120_ne' => ?_) (fun q120_ys' q120_ks' q120_vs' q120_c' q120_hI' q120_hl' q120_hm' q120_hD' => ?_); (case q120cD => assumption); (case q120cU => k_updF)); (all_goals (try simp only [LCg.Off3, and_true] at q120_off'))))
  k_with "CompEnd" => (refine drawEnd (by assumption) (by assumption) (by assumption) (by kcf_all) (by first | assumption | (simp only [LCg.Off3, and_true]; done) | (simp only [LCg.Off3, and_true]; assumption)) ?_)
  k_with "CompSrc" => (k_here; k_dflt (refine' LCg.CompSrc.range (by rfl) (by k_asm) (by k_asm) (by assumption) ?q122ksm ?q122krs ?q122ksz ?_; (case q122ksm => exact small_one (by kcf_bnd) (by kcf_bnd) (by kcf_bnd) (by kcf_bnd)); (case q122krs => exact rangeSize_nat _ _); (case q122ksz => (rw [PySem.sizeLine_eq]; omega)); intro q122_g'; (refine' comp_drawU Letter ?q122cD ?q122cU (fun q122_v' q122_I' q122_oI' q122_C' q122_oC' q122_D' q122_m' q122_ys' q122_h' q122_tk' q122_vs' q122_c' q122_E' q122_hD' q122_hC' q122_hx' q122_F' q122_N' q122_off' q122_ne' => ?_) (fun q122_ys' q122_ks' q122_vs' q122_c' q122_hI' q122_hl' q122_hm' q122_hD' => ?_); (case q122cD => assumption); (case q122cU => k_updF)); (all_goals (try simp only [LCg.Off3, and_true] at q122_off')); (all_goals (try (have hb9 : List.length q122_ks' ≤ 8 := by omega)))))
  k_with "CompEnd" => (exact drawEnd (by assumption) (by assumption) (by assumption) (by kcf_all) (by first | assumption | (simp only [LCg.Off3, and_true]; done) | (simp only [LCg.Off3, and_true]; assumption)) (letter_getD _ (by decide) _))
  k_with "eval Name" => (k_here; (with_reducible show wpAny _ _ (eval (PySem.Expr.Name _ _) (envX _ _ _ _ _ (_ :: _))) _ _ _); k_dflt (refine' nameX_C ?q124N ?q124c ?q124m ?q124d ?_ ?q124a ?q124b ?q124e; (case q124a => assumption); (case q124b => rfl); (case q124e => decide); (case q124c => rfl); (case q124N => k_asm); (case q124m => k_mem); (case q124d => assumption)))
  k_with "subscriptTail Name Slice ref ref" => (k_here; (with_reducible show wpAny _ _ (subscriptTail _ (PySem.Expr.Slice none (some _) none _) (Value.ref _) (Value.ref _)) _ _ _); k_dflt (refine' kmk_slice_ints ?q125F ?q125N ?q125l ?q125p ?q125q ?q125i ?q125m ?q125c ?_ ?q125s ?q125t ?q125z; (case q125F => k_asm); (case q125N => k_asm); (case q125l => exact News.isList (by k_asm) (by k_mem)); (case q125p => exact IsPart.none); (case q125q => exact IsPart.int _ _); (case q125i => assumption); (case q125m => exact kmk_upto (by assumption) (by omega)); (case q125c => exact rfl); (case q125s => with_unfolding_all rfl); (case q125t => kmk_pure); (case q125z => (refine kmk_sz (by assumption) ?_; rw [PySem.sizeLine_eq]; omega))); intro q125_D' q125_ws' q125_h' q125_F' q125_N' l1 q125_hI' q125_hC' q125_hL'; (try k_lt l1))
  k_with "eval ListComp" => (k_here; k_dflt (refine LCg.ListComp_U (F₀ := by k_asm) (by with_unfolding_all rfl) (by decide) (by rfl) (by decide) (by rfl) ?_))
  k_with "call ref" => (k_here; (with_reducible show wpAny _ _ (call (Value.ref 161) [Value.ref _, Value.ref _, Value.bool _]) _ _ _); k_dflt (refine' compare_spec ?q127kB ?q127kF ?q127kX ?q127kN ?q127kT ?q127kK ?q127kd ?q127ku ?q127m1 ?q127m2 ?q127hi ?q127hj ?q127h1 ?q127h2 ?_; (case q127kB => k_asm); (case q127kF => k_asm); (case q127kX => k_asm); (case q127kN => k_asm); (case q127kT => k_asm); (case q127kK => first | exact rfl | assumption); (case q127kd => ktr_room); (case q127ku => ktr_units); (case q127m1 => k_mem); (case q127m2 => k_mem); (case q127hi => assumption); (case q127hj => assumption); (case q127h1 => (first | assumption | exact len_20 (by assumption) | exact len_cat (by assumption) (by assumption) | exact len_mp (len_20 (by assumption)) | exact len_mp (len_cat (by assumption) (by assumption)))); (case q127h2 => (first | assumption | exact len_20 (by assumption) | exact len_cat (by assumption) (by assumption) | exact len_mp (len_20 (by assumption)) | exact len_mp (len_cat (by assumption) (by assumption))))); intro q127_t' q127_h' q127_tk' q127_F' q127_N'; (try dsimp only))
  k_with "call ref" => (k_here; (with_reducible show wpAny _ _ (call (Value.ref 501) [Value.ref _, Value.ref _]) _ _ _); k_dflt (refine' lawcmp_spec ?q128kB ?q128kF ?q128kX ?q128kN ?q128kT ?q128kK ?q128kd ?q128ku ?q128m1 ?q128m2 ?q128hi ?q128hj ?q128h1 ?q128h2 ?_; (case q128kB => k_asm); (case q128kF => k_asm); (case q128kX => k_asm); (case q128kN => k_asm); (case q128kT => k_asm); (case q128kK => first | exact rfl | assumption); (case q128kd => ktr_room); (case q128ku => ktr_units); (case q128m1 => k_mem); (case q128m2 => k_mem); (case q128hi => assumption); (case q128hj => assumption); (case q128h1 => (first | assumption | exact len_20 (by assumption) | exact len_cat (by assumption) (by assumption) | exact len_mp (len_20 (by assumption)) | exact len_mp (len_cat (by assumption) (by assumption)))); (case q128h2 => (first | assumption | exact len_20 (by assumption) | exact len_cat (by assumption) (by assumption) | exact len_mp (len_20 (by assumption)) | exact len_mp (len_cat (by assumption) (by assumption))))); intro q128_t' q128_h' q128_tk' q128_F' q128_N'; (try dsimp only))
  k_with "call ref" => (k_here; (with_reducible show wpAny _ _ (call (Value.ref 506) [Value.ref _]) _ _ _); k_dflt (refine' small_spec ?q129kB ?q129kF ?q129kX ?q129kN ?q129kT ?q129kK ?q129kd ?q129ku ?q129m1 ?q129hi ?q129h1 ?_; (case q129kB => k_asm); (case q129kF => k_asm); (case q129kX => k_asm); (case q129kN => k_asm); (case q129kT => k_asm); (case q129kK => first | exact rfl | assumption); (case q129kd => ktr_room); (case q129ku => ktr_units); (case q129m1 => k_mem); (case q129hi => assumption); (case q129h1 => (first | assumption | exact len_20 (by assumption) | exact len_cat (by assumption) (by assumption) | exact len_mp (len_20 (by assumption)) | exact len_mp (len_cat (by assumption) (by assumption))))); intro q129_D' q129_us' q129_c' q129_h' q129_tk' q129_F' q129_N' q129_o1' q129_hI'; (try simp only [LCg.Off1] at q129_o1'); (try dsimp only))
  k_with "call ref" => (k_here; (with_reducible show wpAny _ _ (call (Value.ref 161) [Value.ref _, Value.ref _, Value.bool true]) _ _ _); k_dflt (refine' compare_true ?q130kB ?q130kF ?q130kX ?q130kN ?q130kT ?q130kK ?q130kd ?q130ku ?q130m1 ?q130m2 ?q130hi ?q130hj ?q130h1 ?q130h2 ?_; (case q130kB => k_asm); (case q130kF => k_asm); (case q130kX => k_asm); (case q130kN => k_asm); (case q130kT => k_asm); (case q130kK => first | exact rfl | assumption); (case q130kd => ktr_room); (case q130ku => ktr_units); (case q130m1 => k_mem); (case q130m2 => k_mem); (case q130hi => assumption); (case q130hj => assumption); (case q130h1 => (first | assumption | exact len_20 (by assumption) | exact len_cat (by assumption) (by assumption) | exact len_mp (len_20 (by assumption)) | exact len_mp (len_cat (by assumption) (by assumption)))); (case q130h2 => (first | assumption | exact len_20 (by assumption) | exact len_cat (by assumption) (by assumption) | exact len_mp (len_20 (by assumption)) | exact len_mp (len_cat (by assumption) (by assumption))))); intro q130_t' q130_h' q130_tk' q130_F' q130_N'; (try dsimp only))
  k_with "truthy bool" => (k_here; rw [same_pair]; walk_at "truthy bool")
  have dummy : PySem.Challenge.rw_ok0060_01 = PySem.Challenge.rw_ok0060_01 ∧ hd.heap_39 = hd.heap_39 := by
    k_fill
    exact ⟨rfl, rfl⟩
  clear dummy
  k_steps
  · rename cmpAt false 0 _ _ ≠ cmpAt false 0 _ _ => hne9
    exact absurd rfl hne9
  · rename News h₀ L _ _ => kN9
    rename Deck _ => kD9
    refine hret _ _ _ _ _ (fun y hy => ?_) kD9 (by assumption) (news_sub kN9 fun q hq => (by (repeat first | exact hq | refine List.mem_cons_of_mem _ ?_)))
    simp only [List.mem_cons, not_or] at hy
    obtain ⟨y1, y2, y3, y4, _⟩ := hy
    rw [if_neg y4, if_neg y3, if_neg y2, if_neg y1]

end
end
theorem apart_PLm : ∀ x : Nat, x = x := by
  w_top off
  k_with_none
  first | (walk1; done) | exact fun _ => rfl
section
section
/-- the table of the law's lambdas: none yet, or the one lambda's code -/
noncomputable def TabSt (pos : Pos) (ps : Array Value) (news : List (Addr × Obj)) : Prop :=
  ps = #[] ∨ ∃ c' oc lv tq, ps = #[rawInt pos.line, rawInt pos.col, .ref c'] ∧ (c', oc) ∈ news ∧ oc.data = .fields lv ∧ lv[1]? = some (.str "law.<locals>.<lambda>" tq)
theorem among_one (pos : Pos) (v : Value) : codeAmong pos [rawInt pos.line, rawInt pos.col, v] = some v := by
  simp [codeAmong, rawInt]
theorem lam_make {M : Model} {A : Around} {p : Program} {loose : List PySem.Str} {mean : ExcName → Option Value} {mg mb : PySem.Str → Option Value} {fa : Addr} {h₀ : Heap} {L : Addr} {m : PySem.Str → Option Value} {s : Shared}
  {news : List (Addr × Obj)} {g : Obj → List (Addr × Obj)} {Q E : Value → Shared → Prop} {c1 c2 c3 c4 P : Addr} {ps : Array Value} {pos : Pos}
  (F : Fr h₀ L s.heap m) (N : News h₀ L s.heap news) (T : Top p loose mean mg mb h₀) (C : CodeHd h₀ 510 P) (U : UpdF P (tabObj ps) news g) (hT : TabSt pos ps news)
  (hret : ∀ f c' oc lv tq pm ctv h' tk', Fr h₀ L h' m →
    News h₀ L h' ((f, kla_obj "<lambda>" "law.<locals>.<lambda>" lamArgs lamBody lamScope [("start", c4), ("end", c3), ("buffer", c2)] pm c' ctv) :: (c', oc) :: g (tabObj #[rawInt pos.line, rawInt pos.col, .ref c'])) →
    oc.data = .fields lv → lv[1]? = some (.str "law.<locals>.<lambda>" tq) → (((c', oc) ∈ news ∧ ps = #[rawInt pos.line, rawInt pos.col, .ref c']) ∨ ∀ q ∈ news, @LT.lt Nat _ q.1 c') → (∀ q ∈ news, @LT.lt Nat _ q.1 f) → Q (.ref f) {s with heap := h', toks := tk'}) :
  wpAny M A (eval (.Lambda lamArgs lamBody lamScope pos) (envX "law" lawScope L fa (.ref 510) [("start", c4), ("end", c3), ("buffer", c2), ("deck", c1)])) Q E s := by
  refine kla_eval (by exact rfl) ?_
  rcases hT with rfl | ⟨c', oc, lv, tq, rfl, hm, hd, hv⟩
  · refine kla_nest F N T C rfl U trivial (by rfl) (clos := [("start", c4), ("end", c3), ("buffer", c2)]) (by exact rfl) fun f c' oc vs t ctv h' tk' F' N' d1 d2 l1 l2 => ?_
    refine hret f c' oc vs t _ ctv h' tk' F' N' d1 d2 (.inr fun q hq => l1 q hq) fun q hq => Nat.lt_trans (l1 q hq) l2
  · have hP : (P, tabObj #[rawInt pos.line, rawInt pos.col, .ref c']) ∈ news := by
      obtain ⟨pre, post, rfl, _, _, _⟩ := U.split
      simp
    have e := UpdF.eq U
    refine kla_hit F N T C rfl hP (by simp [TriplesOk, rawInt]) (among_one pos _) (clos := [("start", c4), ("end", c3), ("buffer", c2)]) (by exact rfl) fun f ctv h' tk' F' N' l1 => ?_
    refine hret f c' oc lv tq ((mg "__name__").getD .none) ctv h' tk' F' (fun q hq => N' q ?_) hd hv (.inl ⟨hm, rfl⟩) l1
    rw [← e] at hq
    rcases List.mem_cons.mp hq with rfl | hq
    · exact .head _
    · rcases List.mem_cons.mp hq with rfl | hq
      · exact .tail _ hm
      · exact .tail _ hq

end
end
theorem apart_PLapA : ∀ x : Nat, x = x := by
  w_top off
  k_with_none
  first | (walk1; done) | exact fun _ => rfl
section
section
local macro_rules | `(tactic| omega) => `(tactic| lia)
theorem goto_use {w : World} {p : Program} {loose : List PySem.Str} {mean : ExcName → Option Value} {mg mb : PySem.Str → Option Value}
  {dp un : Nat} {gd : Option (List Code)} {cn : PySem.Str} {cs : Scope} {a : Addr} {ccd : Value} {cl : List (PySem.Str × Addr)} {outer : List Env} {A₀ : Around} {base h₀ : Heap} {L : Addr} {m : PySem.Str → Option Value} {s : Shared}
  {t1 : Tok} {news : List (Addr × Obj)} {f : Obj → List (Addr × Obj)} {Q E : Value → Shared → Prop} {T₀ : BToks} {b bd t mk ls : Addr} {point begv zv ticks ct place : Int}
  (B : Below A₀ base outer h₀) (F : Fr h₀ L s.heap m) (X : (hd.heap_39 w.params).In h₀) (N : News h₀ L s.heap news) (U : UpdF bd (bufO w T₀ t mk ls point begv zv ticks ct) news f) (T : Top p loose mean mg mb h₀) (hk : cs.kind = .function)
  (hdp : dp + 10 < recursionLimit) (hun : un + 100 < cLine) (m1 : (b, instObj 459 bd) ∈ news) (hne : @Ne Nat b bd)
  (hp0 : -20 ≤ place) (hp1 : place ≤ 40) (hb0 : 1 ≤ begv) (hb : begv ≤ zv) (hz : zv ≤ 20)
  (hret : ∀ T' pt t' h' tk', pt = min (max place begv) zv → Fr h₀ L h' m → News h₀ L h' (f (bufO w T' t mk ls pt begv zv ticks ct)) → Q (.int pt t') {s with heap := h', toks := tk'}) :
  wpAny (model prog w) (ktrTop dp un gd cn cs L a ccd cl outer) (call (.ref 428) [.ref b, .int place t1]) Q E s := by
  obtain ⟨pre, post, rfl, hf, ha, hb'⟩ := U.split
  have hr : Apart [bd] (pre ++ post) := by
    intro q hq x hx
    rw [List.mem_singleton.mp hx]
    rcases List.mem_append.mp hq with hq | hq
    · exact ha q hq
    · exact hb' q hq
  refine goto_spec w p loose mean mg mb dp un gd cn cs a ccd cl outer A₀ base h₀ L m s t1 (pre ++ post) Q E T₀ b bd t mk ls point begv zv ticks ct place B F X (news_sub N ?_) T hk hdp hun hr ?_ hp0 hp1 hb0 hb hz fun T' pt t' h' tk' e F' N' => hret T' pt t' h' tk' e F' (news_sub N' ?_)
  · intro q hq
    simp only [List.mem_cons, List.mem_append] at hq ⊢
    rcases hq with h | h | h
    · exact .inr (.inl h)
    · exact .inl h
    · exact .inr (.inr h)
  · rcases List.mem_append.mp m1 with h | h
    · exact List.mem_append_left _ h
    · rcases List.mem_cons.mp h with h | h
      · exact absurd (congrArg Prod.fst h) hne
      · exact List.mem_append_right _ h
  · intro q hq
    rw [hf] at hq
    simp only [List.mem_cons, List.mem_append] at hq ⊢
    rcases hq with h | h | h
    · exact .inr (.inl h)
    · exact .inl h
    · exact .inr (.inr h)
noncomputable def lawMap (S : Addr) (bg : Int) (tb : Tok) (lt : Int) (tl : Tok) (o : PySem.Str → Option Value) : PySem.Str → Option Value :=
  fun y => if y = "signs" then some (.ref S) else if y = "begin" then some (.int bg tb) else if y = "last" then some (.int lt tl) else o y
theorem fr_law {h₀ h : Heap} {L S : Addr} {bg lt : Int} {tb tl : Tok} {m : PySem.Str → Option Value} (F : Fr h₀ L h m) (h1 : m "signs" = some (.ref S)) (h2 : m "begin" = some (.int bg tb)) (h3 : m "last" = some (.int lt tl)) : Fr h₀ L h (lawMap S bg tb lt tl m) := by
  have e : lawMap S bg tb lt tl m = m := by
    funext y
    unfold lawMap
    split
    · rename_i h; rw [h, h1]
    · split
      · rename_i h; rw [h, h2]
      · split
        · rename_i h; rw [h, h3]
        · rfl
  rw [e]; exact F
local macro_rules | `(tactic| k_mem) => `(tactic| first | exact List.Mem.head _ | assumption | (refine' List.Mem.tail _ ?_; k_mem))
local macro_rules | `(tactic| k_all) => `(tactic| first | assumption | ((rename Mine60.Apart _ _ => hr9); exact fun p hp => hr9 p hp _ (by k_mem)))
theorem TabSt.mono {pos : Pos} {ps : Array Value} {news news' : List (Addr × Obj)} (h : TabSt pos ps news) (hs : ∀ q ∈ news, q ∈ news') : TabSt pos ps news' := by
  rcases h with h | ⟨c', oc, lv, tq, h1, h2, h3, h4⟩
  · exact .inl h
  · exact .inr ⟨c', oc, lv, tq, h1, hs _ h2, h3, h4⟩
theorem c_apart {pos : Pos} {ps : Array Value} {rest news : List (Addr × Obj)} {l : List Addr} {c' : Addr} {oc : Obj} (hT : TabSt pos ps rest) (hr : Apart l rest)
    (h : ((c', oc) ∈ news ∧ ps = #[rawInt pos.line, rawInt pos.col, .ref c']) ∨ ∀ q ∈ news, @LT.lt Nat _ q.1 c') (hl : ∀ a ∈ l, ∃ x, (a, x) ∈ news) : Apart l ((c', oc) :: rest) := by
  intro q hq a ha
  rcases List.mem_cons.mp hq with rfl | hq
  · rcases h with ⟨_, h2⟩ | h
    · rcases hT with h3 | ⟨c2, oc2, lv, tq, h3, h4, _⟩
      · rw [h2] at h3; simp at h3
      · rw [h2] at h3
        have e : c' = c2 := by simpa using h3
        rw [e]
        exact hr _ h4 a ha
    · obtain ⟨x, hx⟩ := hl a ha
      exact Nat.ne_of_gt (h _ hx)
  · exact hr q hq a ha
theorem seg_due {ks : List Int} {x y : Int} (h : 1 ≤ (if y < x then y else x)) (h2 : (if y > x then y else x) ≤ ks.length + 1) :
    (!decide (List.take (max x y - min x y).toNat (List.drop (min x y - 1).toNat ks) = List.take (min ((if y > x then y else x) - 1).toNat ks.length - ((if y < x then y else x) - 1).toNat) (List.drop ((if y < x then y else x) - 1).toNat ks))) = false := by
  have e1 : (if y < x then y else x) = min x y := by split <;> omega
  have e2 : (if y > x then y else x) = max x y := by split <;> omega
  rw [e1] at h
  rw [e2] at h2
  rw [e1, e2]
  have e3 : min (max x y - 1).toNat ks.length - (min x y - 1).toNat = (max x y - min x y).toNat := seg_len h (by omega) h2 (Nat.le_refl _)
  rw [e3]; simp
theorem lap_a {w : World} {p : Program} {loose : List PySem.Str} {mean : ExcName → Option Value} {mg mb : PySem.Str → Option Value}
  {dp un : Nat} {gd : Option (List Code)} {fa : Addr} {A₀ : Around} {h₀ : Heap} {L : Addr} {o : PySem.Str → Option Value} {s : Shared}
  {rest : List (Addr × Obj)} {Q : Flow → Shared → Prop} {E : Value → Shared → Prop} {d c1 c2 c3 c4 P S b bd t td ce mk ls : Addr} {vs : List Value} {n : Nat} {oDk oB oE oS : Obj} {vE vS : Option Value} {T₀ : BToks} {U₀ : TToks}
  {cells ys : List Value} {ks ms : List Int} {nc c : Nat} {point bg lt ticks ct gs ge : Int} {tb tl : Tok} {ps : Array Value}
  (B : Below A₀ h₀ [] h₀) (F : Fr h₀ L s.heap (lawMap S bg tb lt tl o)) (X : (hd.heap_39 w.params).In h₀)
  (N : News h₀ L s.heap ((d, PySem.W.listOf vs.toArray n) :: (c3, oE) :: (c4, oS) :: (bd, bufO w T₀ t mk ls point bg lt ticks ct) :: (P, tabObj ps) :: rest)) (T : Top p loose mean mg mb h₀)
  (hdp : dp + 60 < recursionLimit) (hun : un + 600 < cLine) (C : CodeHd h₀ 510 P)
  (hDk : oDk.data = .cell (some (.ref d))) (hB : oB.data = .cell (some (.ref b))) (hE : oE.data = .cell vE) (hS : oS.data = .cell vS)
  (m1 : (c1, oDk) ∈ rest) (m2 : (c2, oB) ∈ rest) (m3 : (S, PySem.W.listOf ys.toArray c) ∈ rest) (m4 : (b, instObj 459 bd) ∈ rest) (m5 : (t, instObj 248 td) ∈ rest) (m6 : (td, txtO w U₀ ce gs ge) ∈ rest) (m7 : (ce, PySem.W.listOf cells.toArray nc) ∈ rest)
  (hr : Apart [d, c3, c4, bd, P] rest) (l1 : @LT.lt Nat _ P c3) (l2 : @LT.lt Nat _ c3 c4) (l3 : (@Ne Nat c4 d ∧ @Ne Nat c3 d ∧ @Ne Nat P d) ∧ @LT.lt Nat _ c4 bd) (l4 : @LT.lt Nat _ d bd) {I : Addr} {rest0 : List (Addr × Obj)} (hT0 : TabSt lamPos ps rest0) (hs0 : ∀ q ∈ rest0, q ∈ rest) (hr0 : Apart [I, d, c3, c4, bd, P] rest0) (hI : ∃ x, (I, x) ∈ rest) (hD : Deck vs)
  (hi : IntsAre cells (ks ++ ms)) (hgs : gs = ks.length) (hlen : ks.length ≤ 8) (hms : ms.length ≤ 20) (hb1 : 1 ≤ bg) (hb2 : bg ≤ lt) (hb3 : lt ≤ ks.length + 1) (hy : IntsAre ys ks) (hpos : ∀ k ∈ ks, Letter k)
  (hret : ∀ o' vs' n' oE' oS' vE' vS' T' point' ps' c' oc h' tk', Fr h₀ L h' (lawMap S bg tb lt tl o') →
    News h₀ L h' ((d, PySem.W.listOf vs'.toArray n') :: (c3, oE') :: (c4, oS') :: (bd, bufO w T' t mk ls point' bg lt ticks ct) :: (P, tabObj ps') :: (c', oc) :: rest) → Deck vs' → oE'.data = .cell vE' → oS'.data = .cell vS' →
    TabSt lamPos ps' ((c', oc) :: rest0) → Apart [I, d, c3, c4, bd, P] ((c', oc) :: rest0) → Q .next {s with heap := h', toks := tk'}) :
  wpAny (model prog w) (ktrTop dp un gd "law" lawScope L fa (.ref 510) [("start", c4), ("end", c3), ("buffer", c2), ("deck", c1)] []) (execs lapA (envX "law" lawScope L fa (.ref 510) [("start", c4), ("end", c3), ("buffer", c2), ("deck", c1)])) Q E s := by
  delta lapA lapAS lawScope lawScopeS
  dsimp only [lawMap] at F ⊢
  k_with_none
  k_with "call ref" => (k_here; (with_reducible show wpAny _ _ (call (Value.ref 480) [Value.ref _, Value.int _ _]) _ _ _); k_dflt (refine' draw_use ?q132kB ?q132kF ?q132kX ?q132kN ?q132kU ?q132kT ?q132kK ?q132kD ?q132k1 ?q132k2 ?q132kd ?q132ku ?_; (case q132kB => k_asm); (case q132kF => k_asm); (case q132kX => k_asm); (case q132kN => k_asm); (case q132kU => k_updF); (case q132kT => k_asm); (case q132kK => first | exact rfl | assumption); (case q132kD => first | assumption | exact deck_of (by assumption)); (case q132k1 => first | decide | omega | k_room); (case q132k2 => first | decide | omega); (case q132kd => ktr_room); (case q132ku => ktr_units)); intro q132_r' q132_t' q132_vs' q132_n' q132_h' q132_tk' q132_hr0' q132_hr1' q132_hD' q132_F' q132_N'; (try dsimp only at q132_N'); (try dsimp only))
  k_with "CompSrc" => (k_here; k_dflt (refine' LCg.CompSrc.range (by rfl) (by k_asm) (by k_asm) (by assumption) ?q133ksm ?q133krs ?q133ksz ?_; (case q133ksm => exact small_one (by kcf_bnd) (by kcf_bnd) (by kcf_bnd) (by kcf_bnd)); (case q133krs => exact rangeSize_nat _ _); (case q133ksz => (rw [PySem.sizeLine_eq]; omega)); intro q133_g'; (refine' comp_drawU Letter ?q133cD ?q133cU (fun q133_v' q133_I' q133_oI' q133_C' q133_oC' q133_D' q133_m' q133_ys' q133_h' q133_tk' q133_vs' q133_c' q133_E' q133_hD' q133_hC' q133_hx' q133_F' q133_N' q133_off' q133_ne' => ?_) (fun q133_ys' q133_ks' q133_vs' q133_c' q133_hI' q133_hl' q133_hm' q133_hD' => ?_); (case q133cD => assumption); (case q133cU => k_updF)); (all_goals (try simp only [LCg.Off3, and_true] at q133_off'))))
  k_with "CompEnd" => (refine drawEnd (by assumption) (by assumption) (by assumption) (by kcf_all) (by first | assumption | (simp only [LCg.Off3, and_true]; done) | (simp only [LCg.Off3, and_true]; assumption)) ?_)
  k_with "eval Name" => (k_here; (with_reducible show wpAny _ _ (eval (PySem.Expr.Name _ _) (envX _ _ _ _ _ (_ :: _))) _ _ _); k_dflt (refine' nameX_C ?q135N ?q135c ?q135m ?q135d ?_ ?q135a ?q135b ?q135e; (case q135a => assumption); (case q135b => rfl); (case q135e => decide); (case q135c => rfl); (case q135N => k_asm); (case q135m => k_mem); (case q135d => assumption)))
  k_with "call ref" => (k_here; (with_reducible show wpAny _ _ (call (Value.ref 428) [Value.ref _, Value.int _ _]) _ _ _); k_dflt (refine' goto_use ?q136kB ?q136kF ?q136kX ?q136kN ?q136kU ?q136kT ?q136kK ?q136kd ?q136ku ?q136m1 ?q136ne ?q136p0 ?q136p1 ?q136b0 ?q136b1 ?q136z ?_; (case q136kB => k_asm); (case q136kF => k_asm); (case q136kX => k_asm); (case q136kN => k_asm); (case q136kU => k_updF); (case q136kT => k_asm); (case q136kK => first | exact rfl | assumption); (case q136kd => ktr_room); (case q136ku => ktr_units); (case q136m1 => k_mem); (case q136ne => first | assumption | omega); (case q136p0 => omega); (case q136p1 => omega); (case q136b0 => assumption); (case q136b1 => assumption); (case q136z => assumption)); intro q136_T' q136_pt' q136_t' q136_h' q136_tk' q136_he' q136_F' q136_N'; (try dsimp only at q136_N'); (try dsimp only))
  k_with "call ref" => (k_here; (with_reducible show wpAny _ _ (call (Value.ref 494) [Value.ref _, Value.ref _, Value.int _ _, Value.int _ _]) _ _ _); k_dflt (refine' point_spec ?q137kB ?q137kF ?q137kX ?q137kN ?q137kT ?q137kK ?q137kd ?q137ku ?q137m1 ?q137m2 ?q137m3 ?q137m4 ?q137m5 ?q137m6 ?q137hi ?q137hg ?q137hl ?q137hb ?q137hz ?q137p0 ?q137p1 ?q137hy ?q137hp ?_; (case q137kB => k_asm); (case q137kF => k_asm); (case q137kX => k_asm); (case q137kN => k_asm); (case q137kT => k_asm); (case q137kK => first | exact rfl | assumption); (case q137kd => ktr_room); (case q137ku => ktr_units); (case q137m1 => k_mem); (case q137m2 => k_mem); (case q137m3 => k_mem); (case q137m4 => k_mem); (case q137m5 => k_mem); (case q137m6 => k_mem); (case q137hi => assumption); (case q137hg => assumption); (case q137hl => assumption); (case q137hb => assumption); (case q137hz => assumption); (case q137p0 => omega); (case q137p1 => omega); (case q137hy => assumption); (case q137hp => assumption)); intro q137_h' q137_tk' q137_F' q137_N'; (try dsimp only))
  k_with "subscriptTail Name Slice ref ref" => (k_here; (with_reducible show wpAny _ _ (subscriptTail _ (PySem.Expr.Slice (some _) (some _) none _) (Value.ref _) (Value.ref _)) _ _ _); k_dflt (refine' kmk_slice_ints ?q138F ?q138N ?q138l ?q138p ?q138q ?q138i ?q138m ?q138c ?_ ?q138s ?q138t ?q138z; (case q138F => k_asm); (case q138N => k_asm); (case q138l => exact News.isList (by k_asm) (by k_mem)); (case q138p => exact IsPart.int _ _); (case q138q => exact IsPart.int _ _); (case q138i => assumption); (case q138m => exact kmk_run (by assumption) (by omega) (by omega)); (case q138c => exact rfl); (case q138s => with_unfolding_all rfl); (case q138t => kmk_pure); (case q138z => (refine kmk_sz (by assumption) ?_; rw [PySem.sizeLine_eq]; omega))); intro q138_D' q138_ws' q138_h' q138_F' q138_N' l1 q138_hI' q138_hC' q138_hL'; (try k_lt l1))
  k_with "eval Lambda" => (k_here; k_dflt (refine' lam_make ?q139kF ?q139kN ?q139kT ?q139kC ?q139kU ?q139kS ?_; (case q139kF => k_asm); (case q139kN => k_asm); (case q139kT => k_asm); (case q139kC => assumption); (case q139kU => k_updF); (case q139kS => (exact TabSt.mono (pos := lamPos) (by assumption) (fun q hq => (by (repeat first | exact hq | refine List.mem_cons_of_mem _ ?_)))))); intro q139_f' q139_c' q139_oc' q139_lv' q139_tq' q139_pm' q139_ctv' q139_h' q139_tk' q139_F' q139_N' q139_hoc' q139_hov' q139_hst' l1; (try dsimp only at q139_N'); (try k_lt l1))
  k_with "call ref" => (k_here; (with_reducible show wpAny _ _ (call (Value.ref 487) [Value.ref _]) _ _ _); k_dflt (refine' told_out ?q140kB ?q140kF ?q140kX ?q140kN ?q140kT ?q140kK ?q140kd ?q140ku ?q140mf ?q140mc ?q140hoc ?q140hov ?q140mB ?q140hB ?q140mS ?q140hS ?q140mE ?q140hE ?q140m1 ?q140m2 ?q140hx ?_; (case q140kB => k_asm); (case q140kF => k_asm); (case q140kX => k_asm); (case q140kN => k_asm); (case q140kT => k_asm); (case q140kK => first | exact rfl | assumption); (case q140kd => ktr_room); (case q140ku => ktr_units); (case q140mf => k_mem); (case q140mc => k_mem); (case q140hoc => assumption); (case q140hov => assumption); (case q140mB => k_mem); (case q140hB => assumption); (case q140mS => k_mem); (case q140hS => assumption); (case q140mE => k_mem); (case q140hE => assumption); (case q140m1 => k_mem); (case q140m2 => k_mem); (case q140hx => omega)); intro q140_u' q140_h' q140_tk' q140_F' q140_N'; (try dsimp only))
  k_with "call ref" => (k_here; (with_reducible show wpAny _ _ (call (Value.ref 487) [Value.ref _]) _ _ _); k_dflt (refine' told_in ?q141kB ?q141kF ?q141kX ?q141kN ?q141kT ?q141kK ?q141kd ?q141ku ?q141mf ?q141mc ?q141hoc ?q141hov ?q141mB ?q141hB ?q141mS ?q141hS ?q141mE ?q141hE ?q141m1 ?q141m2 ?q141m3 ?q141m4 ?q141m5 ?q141hi ?q141hg ?q141hl ?q141hm ?q141hb ?q141hz ?q141hx ?q141hy ?_; (case q141kB => k_asm); (case q141kF => k_asm); (case q141kX => k_asm); (case q141kN => k_asm); (case q141kT => k_asm); (case q141kK => first | exact rfl | assumption); (case q141kd => ktr_room); (case q141ku => ktr_units); (case q141mf => k_mem); (case q141mc => k_mem); (case q141hoc => assumption); (case q141hov => assumption); (case q141mB => k_mem); (case q141hB => assumption); (case q141mS => k_mem); (case q141hS => assumption); (case q141mE => k_mem); (case q141hE => assumption); (case q141m1 => k_mem); (case q141m2 => k_mem); (case q141m3 => k_mem); (case q141m4 => k_mem); (case q141m5 => k_mem); (case q141hi => assumption); (case q141hg => assumption); (case q141hl => assumption); (case q141hm => assumption); (case q141hb => assumption); (case q141hz => assumption); (case q141hx => omega); (case q141hy => omega)); intro q141_D' q141_us' q141_c' q141_h' q141_tk' q141_F' q141_N' q141_l' q141_I'; (try k_lt q141_l'); (try dsimp only))
  k_with "truthy bool" => (k_here; rw [seg_due (by omega) (by omega)]; walk_at "truthy bool")
  k_with "call builtin:len" => (k_here; (with_reducible show wpAny _ _ (call (Value.builtin "len") [Value.ref _]) _ _ _); k_dflt (refine' kst_len ?q143k1 ?q143k2 ?q143k3 ?q143k4 ?_; (case q143k1 => k_asm); (case q143k2 => k_mem); (case q143k3 => exact IntsAre.length (by assumption)); (case q143k4 => omega)))
  have dummy : PySem.Challenge.rw_ok0060_01 = PySem.Challenge.rw_ok0060_01 ∧ hd.heap_39 = hd.heap_39 := by
    k_fill
    exact ⟨rfl, rfl⟩
  clear dummy
  have l5 : @Ne Nat b bd := hr _ m4 bd (by simp)
  have hb4 : lt ≤ 20 := by omega
  have hT := hT0.mono hs0
  obtain ⟨oI, hI'⟩ := hI
  k_steps
  all_goals
    rename News h₀ L _ _ => kN9
    rename Deck _ => kD9
    rename _ ∨ ∀ q ∈ _, _ => kH9
    refine' hret _ _ _ _ _ _ _ _ _ _ _ _ _ _ (fr_law (by assumption) rfl rfl rfl) (news_sub kN9 ?hs) kD9 ?hE ?hS (.inr ⟨_, _, _, _, rfl, .head _, ?hoc, ?hov⟩) (c_apart hT0 hr0 kH9 ?hl)
    case hs =>
      refine List.forall_mem_cons.mpr ⟨by k_mem, ?_⟩
      refine List.forall_mem_cons.mpr ⟨by k_mem, ?_⟩
      refine List.forall_mem_cons.mpr ⟨by k_mem, ?_⟩
      refine List.forall_mem_cons.mpr ⟨by k_mem, ?_⟩
      refine List.forall_mem_cons.mpr ⟨by k_mem, ?_⟩
      refine List.forall_mem_cons.mpr ⟨by k_mem, ?_⟩
      intro q hq; (repeat first | exact hq | refine List.mem_cons_of_mem _ ?_)
    case hE => assumption
    case hS => assumption
    case hoc => assumption
    case hov => assumption
    case hl =>
      refine List.forall_mem_cons.mpr ⟨⟨oI, by (repeat first | exact hI' | refine List.Mem.tail _ ?_)⟩, ?_⟩
      refine List.forall_mem_cons.mpr ⟨⟨_, by k_mem⟩, ?_⟩
      refine List.forall_mem_cons.mpr ⟨⟨_, by k_mem⟩, ?_⟩
      refine List.forall_mem_cons.mpr ⟨⟨_, by k_mem⟩, ?_⟩
      refine List.forall_mem_cons.mpr ⟨⟨_, by k_mem⟩, ?_⟩
      refine List.forall_mem_cons.mpr ⟨⟨_, by k_mem⟩, ?_⟩
      intro q hq; cases hq

end
end
theorem apart_PPa : ∀ x : Nat, x = x := by
  w_top off
  k_with_none
  first | (walk1; done) | exact fun _ => rfl
section
section
local macro_rules | `(tactic| k_mem) => `(tactic| first | exact List.Mem.head _ | assumption | (refine' List.Mem.tail _ ?_; k_mem))
theorem beh_eval {w : World} {p : Program} {loose : List PySem.Str} {mean : ExcName → Option Value} {mg mb : PySem.Str → Option Value}
  {dp un : Nat} {gd : Option (List Code)} {fa : Addr} {A₀ : Around} {h₀ : Heap} {L : Addr} {m : PySem.Str → Option Value} {s : Shared}
  {news : List (Addr × Obj)} {Q E : Value → Shared → Prop} {c1 c2 c3 c4 S b bd t td ce mk ls : Addr} {oB : Obj} {T₀ : BToks} {U₀ : TToks}
  {cells ys : List Value} {ks ms : List Int} {nc c : Nat} {point bg lt ticks ct gs ge place : Int} {tb tl tp : Tok}
  (B : Below A₀ h₀ [] h₀) (F : Fr h₀ L s.heap m) (X : (hd.heap_39 w.params).In h₀)
  (N : News h₀ L s.heap news) (T : Top p loose mean mg mb h₀)
  (hdp : dp + 60 < recursionLimit) (hun : un + 600 < cLine) (hB : oB.data = .cell (some (.ref b)))
  (m2 : (c2, oB) ∈ news) (m3 : (S, PySem.W.listOf ys.toArray c) ∈ news) (m4 : (b, instObj 459 bd) ∈ news) (m5 : (t, instObj 248 td) ∈ news) (m6 : (td, txtO w U₀ ce gs ge) ∈ news) (m7 : (ce, PySem.W.listOf cells.toArray nc) ∈ news) (m8 : (bd, bufO w T₀ t mk ls point bg lt ticks ct) ∈ news)
  (hi : IntsAre cells (ks ++ ms)) (hgs : gs = ks.length) (hlen : ks.length ≤ 8) (hb1 : 1 ≤ bg) (hb2 : bg ≤ lt) (hb3 : lt ≤ ks.length + 1) (hy : IntsAre ys ks) (hp0 : 0 ≤ place) (hp1 : place ≤ 20)
  (hm1 : m "signs" = some (.ref S)) (hm2 : m "begin" = some (.int bg tb)) (hm3 : m "last" = some (.int lt tl)) (hm4 : m "place" = some (.int place tp))
  (hret : ∀ t' h' tk', Fr h₀ L h' m → News h₀ L h' news → Q (.int (codeAt ks bg lt place) t') {s with heap := h', toks := tk'}) :
  wpAny (model prog w) (ktrTop dp un gd "law" lawScope L fa (.ref 510) [("start", c4), ("end", c3), ("buffer", c2), ("deck", c1)] []) (eval behE (envX "law" lawScope L fa (.ref 510) [("start", c4), ("end", c3), ("buffer", c2), ("deck", c1)])) Q E s := by
  delta behE behES lawScope lawScopeS
  dsimp only
  k_with_none
  k_with "call ref" => (k_here; (with_reducible show wpAny _ _ (call (Value.ref 480) [Value.ref _, Value.int _ _]) _ _ _); k_dflt (refine' draw_use ?q144kB ?q144kF ?q144kX ?q144kN ?q144kU ?q144kT ?q144kK ?q144kD ?q144k1 ?q144k2 ?q144kd ?q144ku ?_; (case q144kB => k_asm); (case q144kF => k_asm); (case q144kX => k_asm); (case q144kN => k_asm); (case q144kU => k_updF); (case q144kT => k_asm); (case q144kK => first | exact rfl | assumption); (case q144kD => first | assumption | exact deck_of (by assumption)); (case q144k1 => first | decide | omega | k_room); (case q144k2 => first | decide | omega); (case q144kd => ktr_room); (case q144ku => ktr_units)); intro q144_r' q144_t' q144_vs' q144_n' q144_h' q144_tk' q144_hr0' q144_hr1' q144_hD' q144_F' q144_N'; (try dsimp only at q144_N'); (try dsimp only))
  k_with "CompSrc" => (k_here; k_dflt (refine' LCg.CompSrc.range (by rfl) (by k_asm) (by k_asm) (by assumption) ?q145ksm ?q145krs ?q145ksz ?_; (case q145ksm => exact small_one (by kcf_bnd) (by kcf_bnd) (by kcf_bnd) (by kcf_bnd)); (case q145krs => exact rangeSize_nat _ _); (case q145ksz => (rw [PySem.sizeLine_eq]; omega)); intro q145_g'; (refine' comp_drawU Letter ?q145cD ?q145cU (fun q145_v' q145_I' q145_oI' q145_C' q145_oC' q145_D' q145_m' q145_ys' q145_h' q145_tk' q145_vs' q145_c' q145_E' q145_hD' q145_hC' q145_hx' q145_F' q145_N' q145_off' q145_ne' => ?_) (fun q145_ys' q145_ks' q145_vs' q145_c' q145_hI' q145_hl' q145_hm' q145_hD' => ?_); (case q145cD => assumption); (case q145cU => k_updF)); (all_goals (try simp only [LCg.Off3, and_true] at q145_off'))))
  k_with "CompEnd" => (refine drawEnd (by assumption) (by assumption) (by assumption) (by kcf_all) (by first | assumption | (simp only [LCg.Off3, and_true]; done) | (simp only [LCg.Off3, and_true]; assumption)) ?_)
  k_with "eval Name" => (k_here; (with_reducible show wpAny _ _ (eval (PySem.Expr.Name _ _) (envX _ _ _ _ _ (_ :: _))) _ _ _); k_dflt (refine' nameX_C ?q147N ?q147c ?q147m ?q147d ?_ ?q147a ?q147b ?q147e; (case q147a => assumption); (case q147b => rfl); (case q147e => decide); (case q147c => rfl); (case q147N => k_asm); (case q147m => k_mem); (case q147d => assumption)))
  k_with "call ref" => (k_here; (with_reducible show wpAny _ _ (call (Value.ref 105) [Value.ref _, Value.int _ _]) _ _ _); k_dflt (refine' after_spec _ _ _ _ _ _ _ _ _ _ _ _ _ _ _ _ _ _ _ _ _ _ _ _ _ _ _ _ _ _ _ _ _ _ _ _ _ _ _ _ _ _ _ _ _ _ ?q148kB ?q148kF ?q148kX ?q148kN ?q148kT ?q148kK ?q148kd ?q148ku ?q148m1 ?q148m2 ?q148m3 ?q148m4 ?q148m5 ?q148hi ?q148hg ?q148hl ?q148hb ?q148hz ?q148p0 ?q148p1 ?_; (case q148kB => k_asm); (case q148kF => k_asm); (case q148kX => k_asm); (case q148kN => k_asm); (case q148kT => k_asm); (case q148kK => first | exact rfl | assumption); (case q148kd => ktr_room); (case q148ku => ktr_units); (case q148m1 => k_mem); (case q148m2 => k_mem); (case q148m3 => k_mem); (case q148m4 => k_mem); (case q148m5 => k_mem); (case q148hi => assumption); (case q148hg => assumption); (case q148hl => assumption); (case q148hb => assumption); (case q148hz => assumption); (case q148p0 => omega); (case q148p1 => omega)); intro q148_t' q148_h' q148_tk' q148_F' q148_N'; (try dsimp only))
  k_with "call ref" => (k_here; (with_reducible show wpAny _ _ (call (Value.ref 112) [Value.ref _, Value.int _ _]) _ _ _); k_dflt (refine' before_spec _ _ _ _ _ _ _ _ _ _ _ _ _ _ _ _ _ _ _ _ _ _ _ _ _ _ _ _ _ _ _ _ _ _ _ _ _ _ _ _ _ _ _ _ _ _ ?q149kB ?q149kF ?q149kX ?q149kN ?q149kT ?q149kK ?q149kd ?q149ku ?q149m1 ?q149m2 ?q149m3 ?q149m4 ?q149m5 ?q149hi ?q149hg ?q149hl ?q149hb ?q149hz ?q149p0 ?q149p1 ?_; (case q149kB => k_asm); (case q149kF => k_asm); (case q149kX => k_asm); (case q149kN => k_asm); (case q149kT => k_asm); (case q149kK => first | exact rfl | assumption); (case q149kd => ktr_room); (case q149ku => ktr_units); (case q149m1 => k_mem); (case q149m2 => k_mem); (case q149m3 => k_mem); (case q149m4 => k_mem); (case q149m5 => k_mem); (case q149hi => assumption); (case q149hg => assumption); (case q149hl => assumption); (case q149hb => assumption); (case q149hz => assumption); (case q149p0 => omega); (case q149p1 => omega)); intro q149_t' q149_h' q149_tk' q149_F' q149_N'; (try dsimp only))
  k_with "eval Name" => (k_here; k_dflt (refine' nameX_L ?q150F ?q150v ?_ ?q150a ?q150b ?q150e; (case q150a => rfl); (case q150b => rfl); (case q150e => decide); (case q150F => assumption); (case q150v => assumption)))
  have dummy : PySem.Challenge.rw_ok0060_01 = PySem.Challenge.rw_ok0060_01 ∧ hd.heap_39 = hd.heap_39 := by
    k_fill
    exact ⟨rfl, rfl⟩
  clear dummy
  have e1 : ys.length = ks.length := hy.length
  k_steps
  all_goals refine q_int (v' := codeAt ks bg lt place) ?_ (hret _ s.heap _ F N)
  all_goals unfold codeAt
  · rw [if_neg (by omega)]
  · rw [if_pos (by omega)]
  · rw [if_pos (by omega)]
theorem ahe_eval {w : World} {p : Program} {loose : List PySem.Str} {mean : ExcName → Option Value} {mg mb : PySem.Str → Option Value}
  {dp un : Nat} {gd : Option (List Code)} {fa : Addr} {A₀ : Around} {h₀ : Heap} {L : Addr} {m : PySem.Str → Option Value} {s : Shared}
  {news : List (Addr × Obj)} {Q E : Value → Shared → Prop} {c1 c2 c3 c4 S b bd t td ce mk ls : Addr} {oB : Obj} {T₀ : BToks} {U₀ : TToks}
  {cells ys : List Value} {ks ms : List Int} {nc c : Nat} {point bg lt ticks ct gs ge place : Int} {tb tl tp : Tok}
  (B : Below A₀ h₀ [] h₀) (F : Fr h₀ L s.heap m) (X : (hd.heap_39 w.params).In h₀)
  (N : News h₀ L s.heap news) (T : Top p loose mean mg mb h₀)
  (hdp : dp + 60 < recursionLimit) (hun : un + 600 < cLine) (hB : oB.data = .cell (some (.ref b)))
  (m2 : (c2, oB) ∈ news) (m3 : (S, PySem.W.listOf ys.toArray c) ∈ news) (m4 : (b, instObj 459 bd) ∈ news) (m5 : (t, instObj 248 td) ∈ news) (m6 : (td, txtO w U₀ ce gs ge) ∈ news) (m7 : (ce, PySem.W.listOf cells.toArray nc) ∈ news) (m8 : (bd, bufO w T₀ t mk ls point bg lt ticks ct) ∈ news)
  (hi : IntsAre cells (ks ++ ms)) (hgs : gs = ks.length) (hlen : ks.length ≤ 8) (hb1 : 1 ≤ bg) (hb2 : bg ≤ lt) (hb3 : lt ≤ ks.length + 1) (hy : IntsAre ys ks) (hp0 : 0 ≤ place) (hp1 : place ≤ 20)
  (hm1 : m "signs" = some (.ref S)) (hm2 : m "begin" = some (.int bg tb)) (hm3 : m "last" = some (.int lt tl)) (hm4 : m "place" = some (.int place tp))
  (hret : ∀ t' h' tk', Fr h₀ L h' m → News h₀ L h' news → Q (.int (befAt ks bg lt place) t') {s with heap := h', toks := tk'}) :
  wpAny (model prog w) (ktrTop dp un gd "law" lawScope L fa (.ref 510) [("start", c4), ("end", c3), ("buffer", c2), ("deck", c1)] []) (eval aheE (envX "law" lawScope L fa (.ref 510) [("start", c4), ("end", c3), ("buffer", c2), ("deck", c1)])) Q E s := by
  delta aheE aheES lawScope lawScopeS
  dsimp only
  k_with_none
  k_with "call ref" => (k_here; (with_reducible show wpAny _ _ (call (Value.ref 480) [Value.ref _, Value.int _ _]) _ _ _); k_dflt (refine' draw_use ?q151kB ?q151kF ?q151kX ?q151kN ?q151kU ?q151kT ?q151kK ?q151kD ?q151k1 ?q151k2 ?q151kd ?q151ku ?_; (case q151kB => k_asm); (case q151kF => k_asm); (case q151kX => k_asm); (case q151kN => k_asm); (case q151kU => k_updF); (case q151kT => k_asm); (case q151kK => first | exact rfl | assumption); (case q151kD => first | assumption | exact deck_of (by assumption)); (case q151k1 => first | decide | omega | k_room); (case q151k2 => first | decide | omega); (case q151kd => ktr_room); (case q151ku => ktr_units)); intro q151_r' q151_t' q151_vs' q151_n' q151_h' q151_tk' q151_hr0' q151_hr1' q151_hD' q151_F' q151_N'; (try dsimp only at q151_N'); (try dsimp only))
  k_with "CompSrc" => (k_here; k_dflt (refine' LCg.CompSrc.range (by rfl) (by k_asm) (by k_asm) (by assumption) ?q152ksm ?q152krs ?q152ksz ?_; (case q152ksm => exact small_one (by kcf_bnd) (by kcf_bnd) (by kcf_bnd) (by kcf_bnd)); (case q152krs => exact rangeSize_nat _ _); (case q152ksz => (rw [PySem.sizeLine_eq]; omega)); intro q152_g'; (refine' comp_drawU Letter ?q152cD ?q152cU (fun q152_v' q152_I' q152_oI' q152_C' q152_oC' q152_D' q152_m' q152_ys' q152_h' q152_tk' q152_vs' q152_c' q152_E' q152_hD' q152_hC' q152_hx' q152_F' q152_N' q152_off' q152_ne' => ?_) (fun q152_ys' q152_ks' q152_vs' q152_c' q152_hI' q152_hl' q152_hm' q152_hD' => ?_); (case q152cD => assumption); (case q152cU => k_updF)); (all_goals (try simp only [LCg.Off3, and_true] at q152_off'))))
  k_with "CompEnd" => (refine drawEnd (by assumption) (by assumption) (by assumption) (by kcf_all) (by first | assumption | (simp only [LCg.Off3, and_true]; done) | (simp only [LCg.Off3, and_true]; assumption)) ?_)
  k_with "eval Name" => (k_here; (with_reducible show wpAny _ _ (eval (PySem.Expr.Name _ _) (envX _ _ _ _ _ (_ :: _))) _ _ _); k_dflt (refine' nameX_C ?q154N ?q154c ?q154m ?q154d ?_ ?q154a ?q154b ?q154e; (case q154a => assumption); (case q154b => rfl); (case q154e => decide); (case q154c => rfl); (case q154N => k_asm); (case q154m => k_mem); (case q154d => assumption)))
  k_with "call ref" => (k_here; (with_reducible show wpAny _ _ (call (Value.ref 105) [Value.ref _, Value.int _ _]) _ _ _); k_dflt (refine' after_spec _ _ _ _ _ _ _ _ _ _ _ _ _ _ _ _ _ _ _ _ _ _ _ _ _ _ _ _ _ _ _ _ _ _ _ _ _ _ _ _ _ _ _ _ _ _ ?q155kB ?q155kF ?q155kX ?q155kN ?q155kT ?q155kK ?q155kd ?q155ku ?q155m1 ?q155m2 ?q155m3 ?q155m4 ?q155m5 ?q155hi ?q155hg ?q155hl ?q155hb ?q155hz ?q155p0 ?q155p1 ?_; (case q155kB => k_asm); (case q155kF => k_asm); (case q155kX => k_asm); (case q155kN => k_asm); (case q155kT => k_asm); (case q155kK => first | exact rfl | assumption); (case q155kd => ktr_room); (case q155ku => ktr_units); (case q155m1 => k_mem); (case q155m2 => k_mem); (case q155m3 => k_mem); (case q155m4 => k_mem); (case q155m5 => k_mem); (case q155hi => assumption); (case q155hg => assumption); (case q155hl => assumption); (case q155hb => assumption); (case q155hz => assumption); (case q155p0 => omega); (case q155p1 => omega)); intro q155_t' q155_h' q155_tk' q155_F' q155_N'; (try dsimp only))
  k_with "call ref" => (k_here; (with_reducible show wpAny _ _ (call (Value.ref 112) [Value.ref _, Value.int _ _]) _ _ _); k_dflt (refine' before_spec _ _ _ _ _ _ _ _ _ _ _ _ _ _ _ _ _ _ _ _ _ _ _ _ _ _ _ _ _ _ _ _ _ _ _ _ _ _ _ _ _ _ _ _ _ _ ?q156kB ?q156kF ?q156kX ?q156kN ?q156kT ?q156kK ?q156kd ?q156ku ?q156m1 ?q156m2 ?q156m3 ?q156m4 ?q156m5 ?q156hi ?q156hg ?q156hl ?q156hb ?q156hz ?q156p0 ?q156p1 ?_; (case q156kB => k_asm); (case q156kF => k_asm); (case q156kX => k_asm); (case q156kN => k_asm); (case q156kT => k_asm); (case q156kK => first | exact rfl | assumption); (case q156kd => ktr_room); (case q156ku => ktr_units); (case q156m1 => k_mem); (case q156m2 => k_mem); (case q156m3 => k_mem); (case q156m4 => k_mem); (case q156m5 => k_mem); (case q156hi => assumption); (case q156hg => assumption); (case q156hl => assumption); (case q156hb => assumption); (case q156hz => assumption); (case q156p0 => omega); (case q156p1 => omega)); intro q156_t' q156_h' q156_tk' q156_F' q156_N'; (try dsimp only))
  k_with "eval Name" => (k_here; k_dflt (refine' nameX_L ?q157F ?q157v ?_ ?q157a ?q157b ?q157e; (case q157a => rfl); (case q157b => rfl); (case q157e => decide); (case q157F => assumption); (case q157v => assumption)))
  have dummy : PySem.Challenge.rw_ok0060_01 = PySem.Challenge.rw_ok0060_01 ∧ hd.heap_39 = hd.heap_39 := by
    k_fill
    exact ⟨rfl, rfl⟩
  clear dummy
  have e1 : ys.length = ks.length := hy.length
  k_steps
  all_goals refine q_int (v' := befAt ks bg lt place) ?_ (hret _ s.heap _ F N)
  all_goals unfold befAt codeAt
  · rw [if_neg (by omega), if_neg (by omega), show place - 1 - 1 = place - 2 by omega]
  · rw [if_pos (by omega)]
  · by_cases h : place > lt
    · rw [if_pos h]
    · rw [if_neg h, if_pos (by omega)]

end
end
theorem apart_PPl : ∀ x : Nat, x = x := by
  w_top off
  k_with_none
  first | (walk1; done) | exact fun _ => rfl
section
section
local macro_rules | `(tactic| k_mem) => `(tactic| first | exact List.Mem.head _ | assumption | (refine' List.Mem.tail _ ?_; k_mem))
theorem pair_same (x y : Int) : (!decide ([x, y] = [x, y])) = false := by simp
theorem pl_turn {w : World} {p : Program} {loose : List PySem.Str} {mean : ExcName → Option Value} {mg mb : PySem.Str → Option Value}
  {dp un : Nat} {gd : Option (List Code)} {fa : Addr} {A₀ : Around} {h₀ : Heap} {L : Addr} {o : PySem.Str → Option Value} {s : Shared}
  {news : List (Addr × Obj)} {Q : Flow → Shared → Prop} {E : Value → Shared → Prop} {c1 c2 c3 c4 S b bd t td ce mk ls : Addr} {oB : Obj} {T₀ : BToks} {U₀ : TToks}
  {cells ys : List Value} {ks ms : List Int} {nc c : Nat} {point bg lt ticks ct gs ge place : Int} {tb tl tp : Tok}
  (B : Below A₀ h₀ [] h₀) (F : Fr h₀ L s.heap (fun y => if y = "place" then some (.int place tp) else lawMap S bg tb lt tl o y)) (X : (hd.heap_39 w.params).In h₀)
  (N : News h₀ L s.heap news) (T : Top p loose mean mg mb h₀)
  (hdp : dp + 60 < recursionLimit) (hun : un + 600 < cLine) (hB : oB.data = .cell (some (.ref b)))
  (m2 : (c2, oB) ∈ news) (m3 : (S, PySem.W.listOf ys.toArray c) ∈ news) (m4 : (b, instObj 459 bd) ∈ news) (m5 : (t, instObj 248 td) ∈ news) (m6 : (td, txtO w U₀ ce gs ge) ∈ news) (m7 : (ce, PySem.W.listOf cells.toArray nc) ∈ news) (m8 : (bd, bufO w T₀ t mk ls point bg lt ticks ct) ∈ news)
  (hi : IntsAre cells (ks ++ ms)) (hgs : gs = ks.length) (hlen : ks.length ≤ 8) (hb1 : 1 ≤ bg) (hb2 : bg ≤ lt) (hb3 : lt ≤ ks.length + 1) (hy : IntsAre ys ks) (hp0 : 0 ≤ place) (hp1 : place ≤ 20)
  (hret : ∀ o' h' tk', Fr h₀ L h' (lawMap S bg tb lt tl o') → News h₀ L h' news → Q .next {s with heap := h', toks := tk'}) :
  wpAny (model prog w) (ktrTop dp un gd "law" lawScope L fa (.ref 510) [("start", c4), ("end", c3), ("buffer", c2), ("deck", c1)] []) (execs plBody (envX "law" lawScope L fa (.ref 510) [("start", c4), ("end", c3), ("buffer", c2), ("deck", c1)])) Q E s := by
  delta plBody plBodyS lawScope lawScopeS
  dsimp only [lawMap] at F ⊢
  k_with_none
  k_with "call ref" => (k_here; (with_reducible show wpAny _ _ (call (Value.ref 480) [Value.ref _, Value.int _ _]) _ _ _); k_dflt (refine' draw_use ?q158kB ?q158kF ?q158kX ?q158kN ?q158kU ?q158kT ?q158kK ?q158kD ?q158k1 ?q158k2 ?q158kd ?q158ku ?_; (case q158kB => k_asm); (case q158kF => k_asm); (case q158kX => k_asm); (case q158kN => k_asm); (case q158kU => k_updF); (case q158kT => k_asm); (case q158kK => first | exact rfl | assumption); (case q158kD => first | assumption | exact deck_of (by assumption)); (case q158k1 => first | decide | omega | k_room); (case q158k2 => first | decide | omega); (case q158kd => ktr_room); (case q158ku => ktr_units)); intro q158_r' q158_t' q158_vs' q158_n' q158_h' q158_tk' q158_hr0' q158_hr1' q158_hD' q158_F' q158_N'; (try dsimp only at q158_N'); (try dsimp only))
  k_with "CompSrc" => (k_here; k_dflt (refine' LCg.CompSrc.range (by rfl) (by k_asm) (by k_asm) (by assumption) ?q159ksm ?q159krs ?q159ksz ?_; (case q159ksm => exact small_one (by kcf_bnd) (by kcf_bnd) (by kcf_bnd) (by kcf_bnd)); (case q159krs => exact rangeSize_nat _ _); (case q159ksz => (rw [PySem.sizeLine_eq]; omega)); intro q159_g'; (refine' comp_drawU Letter ?q159cD ?q159cU (fun q159_v' q159_I' q159_oI' q159_C' q159_oC' q159_D' q159_m' q159_ys' q159_h' q159_tk' q159_vs' q159_c' q159_E' q159_hD' q159_hC' q159_hx' q159_F' q159_N' q159_off' q159_ne' => ?_) (fun q159_ys' q159_ks' q159_vs' q159_c' q159_hI' q159_hl' q159_hm' q159_hD' => ?_); (case q159cD => assumption); (case q159cU => k_updF)); (all_goals (try simp only [LCg.Off3, and_true] at q159_off'))))
  k_with "CompEnd" => (refine drawEnd (by assumption) (by assumption) (by assumption) (by kcf_all) (by first | assumption | (simp only [LCg.Off3, and_true]; done) | (simp only [LCg.Off3, and_true]; assumption)) ?_)
  k_with "eval Name" => (k_here; (with_reducible show wpAny _ _ (eval (PySem.Expr.Name _ _) (envX _ _ _ _ _ (_ :: _))) _ _ _); k_dflt (refine' nameX_C ?q161N ?q161c ?q161m ?q161d ?_ ?q161a ?q161b ?q161e; (case q161a => assumption); (case q161b => rfl); (case q161e => decide); (case q161c => rfl); (case q161N => k_asm); (case q161m => k_mem); (case q161d => assumption)))
  k_with "call ref" => (k_here; (with_reducible show wpAny _ _ (call (Value.ref 105) [Value.ref _, Value.int _ _]) _ _ _); k_dflt (refine' after_spec _ _ _ _ _ _ _ _ _ _ _ _ _ _ _ _ _ _ _ _ _ _ _ _ _ _ _ _ _ _ _ _ _ _ _ _ _ _ _ _ _ _ _ _ _ _ ?q162kB ?q162kF ?q162kX ?q162kN ?q162kT ?q162kK ?q162kd ?q162ku ?q162m1 ?q162m2 ?q162m3 ?q162m4 ?q162m5 ?q162hi ?q162hg ?q162hl ?q162hb ?q162hz ?q162p0 ?q162p1 ?_; (case q162kB => k_asm); (case q162kF => k_asm); (case q162kX => k_asm); (case q162kN => k_asm); (case q162kT => k_asm); (case q162kK => first | exact rfl | assumption); (case q162kd => ktr_room); (case q162ku => ktr_units); (case q162m1 => k_mem); (case q162m2 => k_mem); (case q162m3 => k_mem); (case q162m4 => k_mem); (case q162m5 => k_mem); (case q162hi => assumption); (case q162hg => assumption); (case q162hl => assumption); (case q162hb => assumption); (case q162hz => assumption); (case q162p0 => omega); (case q162p1 => omega)); intro q162_t' q162_h' q162_tk' q162_F' q162_N'; (try dsimp only))
  k_with "call ref" => (k_here; (with_reducible show wpAny _ _ (call (Value.ref 112) [Value.ref _, Value.int _ _]) _ _ _); k_dflt (refine' before_spec _ _ _ _ _ _ _ _ _ _ _ _ _ _ _ _ _ _ _ _ _ _ _ _ _ _ _ _ _ _ _ _ _ _ _ _ _ _ _ _ _ _ _ _ _ _ ?q163kB ?q163kF ?q163kX ?q163kN ?q163kT ?q163kK ?q163kd ?q163ku ?q163m1 ?q163m2 ?q163m3 ?q163m4 ?q163m5 ?q163hi ?q163hg ?q163hl ?q163hb ?q163hz ?q163p0 ?q163p1 ?_; (case q163kB => k_asm); (case q163kF => k_asm); (case q163kX => k_asm); (case q163kN => k_asm); (case q163kT => k_asm); (case q163kK => first | exact rfl | assumption); (case q163kd => ktr_room); (case q163ku => ktr_units); (case q163m1 => k_mem); (case q163m2 => k_mem); (case q163m3 => k_mem); (case q163m4 => k_mem); (case q163m5 => k_mem); (case q163hi => assumption); (case q163hg => assumption); (case q163hl => assumption); (case q163hb => assumption); (case q163hz => assumption); (case q163p0 => omega); (case q163p1 => omega)); intro q163_t' q163_h' q163_tk' q163_F' q163_N'; (try dsimp only))
  k_with "eval IfExp" => (k_here; k_dflt (refine' beh_eval ?q164kB ?q164kF ?q164kX ?q164kN ?q164kT ?q164kd ?q164ku ?q164hB ?q164m2 ?q164m3 ?q164m4 ?q164m5 ?q164m6 ?q164m7 ?q164m8 ?q164hi ?q164hg ?q164hl ?q164b1 ?q164b2 ?q164b3 ?q164hy ?q164p0 ?q164p1 ?q164e1 ?q164e2 ?q164e3 ?q164e4 ?_; (case q164kB => k_asm); (case q164kF => k_asm); (case q164kX => k_asm); (case q164kN => k_asm); (case q164kT => k_asm); (case q164kd => ktr_room); (case q164ku => ktr_units); (case q164e4 => exact rfl); (case q164e1 => exact rfl); (case q164e2 => exact rfl); (case q164e3 => exact rfl); (case q164hB => assumption); (case q164m2 => k_mem); (case q164m4 => k_mem); (case q164m8 => k_mem); (case q164m5 => k_mem); (case q164m6 => k_mem); (case q164m7 => k_mem); (case q164m3 => k_mem); (case q164hi => assumption); (case q164hg => assumption); (case q164hl => assumption); (case q164b1 => assumption); (case q164b2 => assumption); (case q164b3 => assumption); (case q164hy => assumption); (case q164p0 => assumption); (case q164p1 => assumption)); intro q164_t' q164_h' q164_tk' q164_F' q164_N'; (try dsimp only))
  k_with "eval IfExp" => (k_here; k_dflt (refine' ahe_eval ?q165kB ?q165kF ?q165kX ?q165kN ?q165kT ?q165kd ?q165ku ?q165hB ?q165m2 ?q165m3 ?q165m4 ?q165m5 ?q165m6 ?q165m7 ?q165m8 ?q165hi ?q165hg ?q165hl ?q165b1 ?q165b2 ?q165b3 ?q165hy ?q165p0 ?q165p1 ?q165e1 ?q165e2 ?q165e3 ?q165e4 ?_; (case q165kB => k_asm); (case q165kF => k_asm); (case q165kX => k_asm); (case q165kN => k_asm); (case q165kT => k_asm); (case q165kd => ktr_room); (case q165ku => ktr_units); (case q165e4 => exact rfl); (case q165e1 => exact rfl); (case q165e2 => exact rfl); (case q165e3 => exact rfl); (case q165hB => assumption); (case q165m2 => k_mem); (case q165m4 => k_mem); (case q165m8 => k_mem); (case q165m5 => k_mem); (case q165m6 => k_mem); (case q165m7 => k_mem); (case q165m3 => k_mem); (case q165hi => assumption); (case q165hg => assumption); (case q165hl => assumption); (case q165b1 => assumption); (case q165b2 => assumption); (case q165b3 => assumption); (case q165hy => assumption); (case q165p0 => assumption); (case q165p1 => assumption)); intro q165_t' q165_h' q165_tk' q165_F' q165_N'; (try dsimp only))
  k_with "truthy bool" => (k_here; rw [pair_same]; walk_at "truthy bool")
  have dummy : PySem.Challenge.rw_ok0060_01 = PySem.Challenge.rw_ok0060_01 ∧ hd.heap_39 = hd.heap_39 := by
    k_fill
    exact ⟨rfl, rfl⟩
  clear dummy
  have e1 : ys.length = ks.length := hy.length
  k_steps
  rename News h₀ L _ _ => kN9
  exact hret _ _ _ (fr_law (by assumption) rfl rfl rfl) (news_sub kN9 fun q hq => .tail _ (.tail _ hq))
theorem pl_loop {w : World} {p : Program} {loose : List PySem.Str} {mean : ExcName → Option Value} {mg mb : PySem.Str → Option Value}
  {dp un : Nat} {gd : Option (List Code)} {fa : Addr} {A₀ : Around} {h₀ : Heap} {L : Addr} {s : Shared}
  {news : List (Addr × Obj)} {Q : Flow → Shared → Prop} {E : Value → Shared → Prop} {c1 c2 c3 c4 S b bd t td ce mk ls : Addr} {oB : Obj} {T₀ : BToks} {U₀ : TToks}
  {cells ys : List Value} {ks ms : List Int} {nc c : Nat} {point bg lt ticks ct gs ge : Int} {tb tl : Tok}
  (B : Below A₀ h₀ [] h₀) (X : (hd.heap_39 w.params).In h₀) (T : Top p loose mean mg mb h₀)
  (hdp : dp + 60 < recursionLimit) (hun : un + 600 < cLine) (hB : oB.data = .cell (some (.ref b)))
  (m2 : (c2, oB) ∈ news) (m3 : (S, PySem.W.listOf ys.toArray c) ∈ news) (m4 : (b, instObj 459 bd) ∈ news) (m5 : (t, instObj 248 td) ∈ news) (m6 : (td, txtO w U₀ ce gs ge) ∈ news) (m7 : (ce, PySem.W.listOf cells.toArray nc) ∈ news) (m8 : (bd, bufO w T₀ t mk ls point bg lt ticks ct) ∈ news)
  (hi : IntsAre cells (ks ++ ms)) (hgs : gs = ks.length) (hlen : ks.length ≤ 8) (hb1 : 1 ≤ bg) (hb2 : bg ≤ lt) (hb3 : lt ≤ ks.length + 1) (hy : IntsAre ys ks)
  (I : Addr) (hI : ∀ q ∈ news, q.1 ≠ I) (n : Nat) (hn : n ≤ 20)
  (hdone : ∀ o' h' tk', Fr h₀ L h' (lawMap S bg tb lt tl o') → News h₀ L h' news → Q .next {s with heap := h', toks := tk'}) : ∀ (k i : Nat) (o : PySem.Str → Option Value), i + k = n →
  RangeRest prog w (ktrTop dp un gd "law" lawScope L fa (.ref 510) [("start", c4), ("end", c3), ("buffer", c2), ("deck", c1)] []) E h₀ (envX "law" lawScope L fa (.ref 510) [("start", c4), ("end", c3), ("buffer", c2), ("deck", c1)]) "place" plBody Q s I 0 n k i (lawMap S bg tb lt tl o) news
  | 0, i, o, _ => RangeRest.zero fun h tk F N => hdone o h tk F N
  | k + 1, i, o, hik => RangeRest.succ fun t' h tk F N =>
    pl_turn (s := { s with heap := h, toks := tk }) B F X N T hdp hun hB (.tail _ m2) (.tail _ m3) (.tail _ m4) (.tail _ m5) (.tail _ m6) (.tail _ m7) (.tail _ m8) hi hgs hlen hb1 hb2 hb3 hy (by omega) (by omega) fun o' h' tk' F' N' =>
      show UnrEnd _ _ _ _ _ _ _ from UnrEnd.intro F' N' news (fun _ hq => hq) hI (pl_loop B X T hdp hun hB m2 m3 m4 m5 m6 m7 m8 hi hgs hlen hb1 hb2 hb3 hy I hI n hn hdone k (i + 1) o' (by omega))

end
end
theorem apart_PLt2 : ∀ x : Nat, x = x := by
  w_top off
  k_with_none
  first | (walk1; done) | exact fun _ => rfl
section
section
theorem lap_turn {w : World} {p : Program} {loose : List PySem.Str} {mean : ExcName → Option Value} {mg mb : PySem.Str → Option Value}
  {dp un : Nat} {gd : Option (List Code)} {fa : Addr} {A₀ : Around} {h₀ : Heap} {L : Addr} {o : PySem.Str → Option Value} {s : Shared}
  {rest : List (Addr × Obj)} {Q : Flow → Shared → Prop} {E : Value → Shared → Prop} {I d c1 c2 c3 c4 P S b bd t td ce mk ls : Addr} {it : Obj} {vs : List Value} {n : Nat} {oDk oB oE oS : Obj} {vE vS : Option Value} {T₀ : BToks} {U₀ : TToks}
  {cells ys : List Value} {ks ms : List Int} {nc c : Nat} {point bg lt ticks ct gs ge : Int} {tb tl : Tok} {ps : Array Value}
  (B : Below A₀ h₀ [] h₀) (F : Fr h₀ L s.heap (lawMap S bg tb lt tl o)) (X : (hd.heap_39 w.params).In h₀)
  (N : News h₀ L s.heap ((I, it) :: (d, PySem.W.listOf vs.toArray n) :: (c3, oE) :: (c4, oS) :: (bd, bufO w T₀ t mk ls point bg lt ticks ct) :: (P, tabObj ps) :: rest)) (T : Top p loose mean mg mb h₀)
  (hdp : dp + 60 < recursionLimit) (hun : un + 600 < cLine) (C : CodeHd h₀ 510 P)
  (hDk : oDk.data = .cell (some (.ref d))) (hB : oB.data = .cell (some (.ref b))) (hE : oE.data = .cell vE) (hS : oS.data = .cell vS)
  (m1 : (c1, oDk) ∈ rest) (m2 : (c2, oB) ∈ rest) (m3 : (S, PySem.W.listOf ys.toArray c) ∈ rest) (m4 : (b, instObj 459 bd) ∈ rest) (m5 : (t, instObj 248 td) ∈ rest) (m6 : (td, txtO w U₀ ce gs ge) ∈ rest) (m7 : (ce, PySem.W.listOf cells.toArray nc) ∈ rest)
  (hr : Apart [I, d, c3, c4, bd, P] rest) (l1 : @LT.lt Nat _ P c3) (l2 : @LT.lt Nat _ c3 c4) (l3 : (@Ne Nat c4 d ∧ @Ne Nat c3 d ∧ @Ne Nat P d) ∧ @LT.lt Nat _ c4 bd) (l4 : @LT.lt Nat _ d bd) (l5 : @LT.lt Nat _ bd I) (hT : TabSt lamPos ps rest) (hD : Deck vs)
  (hi : IntsAre cells (ks ++ ms)) (hgs : gs = ks.length) (hlen : ks.length ≤ 8) (hms : ms.length ≤ 20) (hb1 : 1 ≤ bg) (hb2 : bg ≤ lt) (hb3 : lt ≤ ks.length + 1) (hy : IntsAre ys ks) (hpos : ∀ k ∈ ks, Letter k)
  (hret : ∀ o' vs' n' oE' oS' vE' vS' T' point' ps' c' oc h' tk', Fr h₀ L h' (lawMap S bg tb lt tl o') →
    News h₀ L h' ((I, it) :: (d, PySem.W.listOf vs'.toArray n') :: (c3, oE') :: (c4, oS') :: (bd, bufO w T' t mk ls point' bg lt ticks ct) :: (P, tabObj ps') :: (c', oc) :: rest) → Deck vs' → oE'.data = .cell vE' → oS'.data = .cell vS' →
    TabSt lamPos ps' ((c', oc) :: rest) → Apart [I, d, c3, c4, bd, P] ((c', oc) :: rest) → Q .next {s with heap := h', toks := tk'}) :
  wpAny (model prog w) (ktrTop dp un gd "law" lawScope L fa (.ref 510) [("start", c4), ("end", c3), ("buffer", c2), ("deck", c1)] []) (execs lapBody (envX "law" lawScope L fa (.ref 510) [("start", c4), ("end", c3), ("buffer", c2), ("deck", c1)])) Q E s := by
  rw [lap_split]
  refine execs_app _ ?_
  have ne : ∀ {x y : Addr}, @LT.lt Nat _ x y → x ≠ y := fun h => Nat.ne_of_lt h
  have gt : ∀ {x y : Addr}, @LT.lt Nat _ y x → x ≠ y := fun h => Nat.ne_of_gt h
  have hr' : Apart [d, c3, c4, bd, P] ((I, it) :: rest) := by
    intro q hq x hx
    rcases List.mem_cons.mp hq with rfl | hq
    · simp only [List.mem_cons, List.mem_nil_iff, or_false] at hx
      rcases hx with rfl | rfl | rfl | rfl | rfl <;> exact gt (by omega)
    · exact hr q hq x (.tail _ hx)
  refine lap_a (I := I) (rest := (I, it) :: rest) (rest0 := rest) (mk := mk) (ls := ls) (n := n) (T₀ := T₀) (point := point) (ticks := ticks) (ct := ct) B F X (news_sub N ?_) T hdp hun C hDk hB hE hS (.tail _ m1) (.tail _ m2) (.tail _ m3) (.tail _ m4) (.tail _ m5) (.tail _ m6) (.tail _ m7) hr' l1 l2 l3 l4 hT (fun q hq => .tail _ hq) hr ⟨it, .head _⟩ hD hi hgs hlen hms hb1 hb2 hb3 hy hpos
    fun o' vs' n' oE' oS' vE' vS' T' point' ps' c' oc h' tk' F' N' hD' hE' hS' hT' hA' => ?_
  · intro q hq
    simp only [List.mem_cons] at hq ⊢
    rcases hq with h | h | h | h | h | h | h
    · exact .inr (.inl h)
    · exact .inr (.inr (.inl h))
    · exact .inr (.inr (.inr (.inl h)))
    · exact .inr (.inr (.inr (.inr (.inl h))))
    · exact .inr (.inr (.inr (.inr (.inr (.inl h)))))
    · exact .inl h
    · exact .inr (.inr (.inr (.inr (.inr (.inr h)))))
  · have hAd : Apart [d] ((c3, oE') :: (c4, oS') :: (bd, bufO w T' t mk ls point' bg lt ticks ct) :: (P, tabObj ps') :: (c', oc) :: (I, it) :: rest) := by
      intro q hq x hx
      rw [List.mem_singleton.mp hx]
      rcases List.mem_cons.mp hq with rfl | hq
      · exact l3.1.2.1
      rcases List.mem_cons.mp hq with rfl | hq
      · exact l3.1.1
      rcases List.mem_cons.mp hq with rfl | hq
      · exact gt (by omega)
      rcases List.mem_cons.mp hq with rfl | hq
      · exact l3.1.2.2
      rcases List.mem_cons.mp hq with rfl | hq
      · exact hA' _ (.head _) d (.tail _ (.head _))
      · exact hr' q hq d (.head _)
    refine lap_b (n := n') (rest := (c3, oE') :: (c4, oS') :: (bd, bufO w T' t mk ls point' bg lt ticks ct) :: (P, tabObj ps') :: (c', oc) :: (I, it) :: rest) (oDk := oDk) B F' X (news_sub N' ?_) T hdp hun hDk hAd (hr _ m1 d (.tail _ (.head _))) hD'
      fun m' vs2 n2 h2 tk2 hm hD2 F2 N2 => ?_
    · intro q hq
      simp only [List.mem_cons] at hq ⊢
      rcases hq with h | h | h | h | h | h | h | h | h
      · exact .inl h
      · rw [h]; exact .inr (.inr (.inr (.inr (.inr (.inr (.inr m1))))))
      · exact .inr (.inl h)
      · exact .inr (.inr (.inl h))
      · exact .inr (.inr (.inr (.inl h)))
      · exact .inr (.inr (.inr (.inr (.inl h))))
      · exact .inr (.inr (.inr (.inr (.inr (.inl h)))))
      · exact .inr (.inr (.inr (.inr (.inr (.inr (.inl h))))))
      · exact .inr (.inr (.inr (.inr (.inr (.inr (.inr h))))))
    · refine hret m' vs2 n2 oE' oS' vE' vS' T' point' ps' c' oc h2 tk2 (fr_law F2 ?_ ?_ ?_) (news_sub N2 ?_) hD2 hE' hS' hT' hA'
      · rw [hm _ (by decide)]; rfl
      · rw [hm _ (by decide)]; rfl
      · rw [hm _ (by decide)]; rfl
      · intro q hq
        simp only [List.mem_cons] at hq ⊢
        rcases hq with h | h | h | h | h | h | h | h
        · exact .inr (.inr (.inr (.inr (.inr (.inr (.inr (.inl h)))))))
        · exact .inl h
        · exact .inr (.inr (.inl h))
        · exact .inr (.inr (.inr (.inl h)))
        · exact .inr (.inr (.inr (.inr (.inl h))))
        · exact .inr (.inr (.inr (.inr (.inr (.inl h)))))
        · exact .inr (.inr (.inr (.inr (.inr (.inr (.inl h))))))
        · exact .inr (.inr (.inr (.inr (.inr (.inr (.inr (.inr h)))))))
theorem lap_loop {w : World} {p : Program} {loose : List PySem.Str} {mean : ExcName → Option Value} {mg mb : PySem.Str → Option Value}
  {dp un : Nat} {gd : Option (List Code)} {fa : Addr} {A₀ : Around} {h₀ : Heap} {L : Addr} {s : Shared}
  {Q : Flow → Shared → Prop} {E : Value → Shared → Prop} {I d c1 c2 c3 c4 P S b bd t td ce mk ls : Addr} {oDk oB : Obj} {U₀ : TToks}
  {cells ys : List Value} {ks ms : List Int} {nc c : Nat} {bg lt ticks ct gs ge : Int} {tb tl : Tok}
  (B : Below A₀ h₀ [] h₀) (X : (hd.heap_39 w.params).In h₀) (T : Top p loose mean mg mb h₀)
  (hdp : dp + 60 < recursionLimit) (hun : un + 600 < cLine) (C : CodeHd h₀ 510 P)
  (hDk : oDk.data = .cell (some (.ref d))) (hB : oB.data = .cell (some (.ref b)))
  (l1 : @LT.lt Nat _ P c3) (l2 : @LT.lt Nat _ c3 c4) (l3 : (@Ne Nat c4 d ∧ @Ne Nat c3 d ∧ @Ne Nat P d) ∧ @LT.lt Nat _ c4 bd) (l4 : @LT.lt Nat _ d bd) (l5 : @LT.lt Nat _ bd I)
  (hi : IntsAre cells (ks ++ ms)) (hgs : gs = ks.length) (hlen : ks.length ≤ 8) (hms : ms.length ≤ 20) (hb1 : 1 ≤ bg) (hb2 : bg ≤ lt) (hb3 : lt ≤ ks.length + 1) (hy : IntsAre ys ks) (hpos : ∀ k ∈ ks, Letter k) (n₀ : Nat)
  (hdone : ∀ o' h' news' tk', Fr h₀ L h' (lawMap S bg tb lt tl o') → News h₀ L h' ((P, tabObj news') :: []) → Q .next {s with heap := h', toks := tk'}) :
  ∀ (k i : Nat) (o : PySem.Str → Option Value) (vs : List Value) (n : Nat) (oE oS : Obj) (vE vS : Option Value) (T₀ : BToks) (point : Int) (ps : Array Value) (rest : List (Addr × Obj)),
    oE.data = .cell vE → oS.data = .cell vS → (c1, oDk) ∈ rest → (c2, oB) ∈ rest → (S, PySem.W.listOf ys.toArray c) ∈ rest → (b, instObj 459 bd) ∈ rest → (t, instObj 248 td) ∈ rest → (td, txtO w U₀ ce gs ge) ∈ rest → (ce, PySem.W.listOf cells.toArray nc) ∈ rest →
    Apart [I, d, c3, c4, bd, P] rest → TabSt lamPos ps rest → Deck vs →
  RangeRest prog w (ktrTop dp un gd "law" lawScope L fa (.ref 510) [("start", c4), ("end", c3), ("buffer", c2), ("deck", c1)] []) E h₀ (envX "law" lawScope L fa (.ref 510) [("start", c4), ("end", c3), ("buffer", c2), ("deck", c1)]) "lap" lapBody Q s I 0 n₀ k i (lawMap S bg tb lt tl o)
    ((d, PySem.W.listOf vs.toArray n) :: (c3, oE) :: (c4, oS) :: (bd, bufO w T₀ t mk ls point bg lt ticks ct) :: (P, tabObj ps) :: rest)
  | 0, i, o, vs, n, oE, oS, vE, vS, T₀, point, ps, rest, hE, hS, m1, m2, m3, m4, m5, m6, m7, hr, hT, hD => RangeRest.zero fun h tk F N => hdone o h ps tk F (news_sub N (by intro q hq; rw [List.mem_singleton.mp hq]; simp))
  | k + 1, i, o, vs, n, oE, oS, vE, vS, T₀, point, ps, rest, hE, hS, m1, m2, m3, m4, m5, m6, m7, hr, hT, hD => RangeRest.succ fun t' h tk F N =>
    lap_turn (s := { s with heap := h, toks := tk }) B (fr_law F rfl rfl rfl) X N T hdp hun C hDk hB hE hS m1 m2 m3 m4 m5 m6 m7 hr l1 l2 l3 l4 l5 hT hD hi hgs hlen hms hb1 hb2 hb3 hy hpos
      fun o' vs' n' oE' oS' vE' vS' T' point' ps' c' oc h' tk' F' N' hD' hE' hS' hT' hA' =>
      show UnrEnd _ _ _ _ _ _ _ from UnrEnd.intro F' N' ((d, PySem.W.listOf vs'.toArray n') :: (c3, oE') :: (c4, oS') :: (bd, bufO w T' t mk ls point' bg lt ticks ct) :: (P, tabObj ps') :: (c', oc) :: rest) (fun _ hq => hq)
        (by
          intro q hq
          rcases List.mem_cons.mp hq with rfl | hq
          · exact Nat.ne_of_lt (by omega)
          rcases List.mem_cons.mp hq with rfl | hq
          · exact Nat.ne_of_lt (by omega)
          rcases List.mem_cons.mp hq with rfl | hq
          · exact Nat.ne_of_lt (by omega)
          rcases List.mem_cons.mp hq with rfl | hq
          · exact Nat.ne_of_lt (by omega)
          rcases List.mem_cons.mp hq with rfl | hq
          · exact Nat.ne_of_lt (by omega)
          exact hA' q hq I (.head _))
        (lap_loop B X T hdp hun C hDk hB l1 l2 l3 l4 l5 hi hgs hlen hms hb1 hb2 hb3 hy hpos n₀ hdone k (i + 1) o' vs' n' oE' oS' vE' vS' T' point' ps' ((c', oc) :: rest) hE' hS' (.tail _ m1) (.tail _ m2) (.tail _ m3) (.tail _ m4) (.tail _ m5) (.tail _ m6) (.tail _ m7) hA' hT' hD')

end
end
theorem apart_PTb : ∀ x : Nat, x = x := by
  w_top off
  k_with_none
  first | (walk1; done) | exact fun _ => rfl
section
section
theorem apart_I {I : Addr} {l : List Addr} {rest : List (Addr × Obj)} (h : AllLt I rest) (hr : Apart l rest) : Apart (I :: l) rest := by
  intro q hq x hx
  rcases List.mem_cons.mp hx with rfl | hx
  · exact Nat.ne_of_lt (lt_ofAll rest h q hq)
  · exact hr q hq x hx
local macro_rules | `(tactic| k_mem) => `(tactic| first | exact List.Mem.head _ | assumption | (refine' List.Mem.tail _ ?_; k_mem))
theorem tail_b {w : World} {p : Program} {loose : List PySem.Str} {mean : ExcName → Option Value} {mg mb : PySem.Str → Option Value}
  {dp un : Nat} {gd : Option (List Code)} {fa : Addr} {A₀ : Around} {h₀ : Heap} {L : Addr} {o : PySem.Str → Option Value} {s : Shared}
  {rest : List (Addr × Obj)} {Q : Flow → Shared → Prop} {E : Value → Shared → Prop} {d c1 c2 c3 c4 P S b bd t td ce mk ls : Addr} {vs : List Value} {n : Nat} {oDk oB oE oS : Obj} {vE vS : Option Value} {T₀ : BToks} {U₀ : TToks}
  {cells ys : List Value} {ks ms : List Int} {nc c : Nat} {point bg lt ticks ct gs ge : Int} {tb tl : Tok} {ps : Array Value}
  (B : Below A₀ h₀ [] h₀) (F : Fr h₀ L s.heap (lawMap S bg tb lt tl o)) (X : (hd.heap_39 w.params).In h₀)
  (N : News h₀ L s.heap ((d, PySem.W.listOf vs.toArray n) :: (c3, oE) :: (c4, oS) :: (bd, bufO w T₀ t mk ls point bg lt ticks ct) :: (P, tabObj ps) :: rest)) (T : Top p loose mean mg mb h₀)
  (hdp : dp + 60 < recursionLimit) (hun : un + 600 < cLine) (C : CodeHd h₀ 510 P)
  (hDk : oDk.data = .cell (some (.ref d))) (hB : oB.data = .cell (some (.ref b))) (hE : oE.data = .cell vE) (hS : oS.data = .cell vS)
  (m1 : (c1, oDk) ∈ rest) (m2 : (c2, oB) ∈ rest) (m3 : (S, PySem.W.listOf ys.toArray c) ∈ rest) (m4 : (b, instObj 459 bd) ∈ rest) (m5 : (t, instObj 248 td) ∈ rest) (m6 : (td, txtO w U₀ ce gs ge) ∈ rest) (m7 : (ce, PySem.W.listOf cells.toArray nc) ∈ rest)
  (hr : Apart [d, c3, c4, bd, P] rest) (l1 : @LT.lt Nat _ P c3) (l2 : @LT.lt Nat _ c3 c4) (l3 : (@Ne Nat c4 d ∧ @Ne Nat c3 d ∧ @Ne Nat P d) ∧ @LT.lt Nat _ c4 bd) (l4 : @LT.lt Nat _ d bd) (hT : TabSt lamPos ps rest) (hD : Deck vs)
  (hi : IntsAre cells (ks ++ ms)) (hgs : gs = ks.length) (hlen : ks.length ≤ 8) (hms : ms.length ≤ 20) (hb1 : 1 ≤ bg) (hb2 : bg ≤ lt) (hb3 : lt ≤ ks.length + 1) (hy : IntsAre ys ks) (hpos : ∀ k ∈ ks, Letter k)
  (hP : PassesOwn (model prog w) (ktrTop dp un gd "law" lawScope L fa (.ref 510) [("start", c4), ("end", c3), ("buffer", c2), ("deck", c1)] []) (envX "law" lawScope L fa (.ref 510) [("start", c4), ("end", c3), ("buffer", c2), ("deck", c1)]) E)
  (hret : ∀ ps' m' h' tk', Fr h₀ L h' m' → News h₀ L h' [(P, tabObj ps')] → Q (.ret (.bool true)) {s with heap := h', toks := tk'}) :
  wpAny (model prog w) (ktrTop dp un gd "law" lawScope L fa (.ref 510) [("start", c4), ("end", c3), ("buffer", c2), ("deck", c1)] []) (execs tailB (envX "law" lawScope L fa (.ref 510) [("start", c4), ("end", c3), ("buffer", c2), ("deck", c1)])) Q E s := by
  delta tailB tailBS lawScope lawScopeS
  dsimp only
  k_with_none
  k_with "call ref" => (k_here; (with_reducible show wpAny _ _ (call (Value.ref 480) [Value.ref _, Value.int _ _]) _ _ _); k_dflt (refine' draw_use ?q167kB ?q167kF ?q167kX ?q167kN ?q167kU ?q167kT ?q167kK ?q167kD ?q167k1 ?q167k2 ?q167kd ?q167ku ?_; (case q167kB => k_asm); (case q167kF => k_asm); (case q167kX => k_asm); (case q167kN => k_asm); (case q167kU => k_updF); (case q167kT => k_asm); (case q167kK => first | exact rfl | assumption); (case q167kD => first | assumption | exact deck_of (by assumption)); (case q167k1 => first | decide | omega | k_room); (case q167k2 => first | decide | omega); (case q167kd => ktr_room); (case q167ku => ktr_units)); intro q167_r' q167_t' q167_vs' q167_n' q167_h' q167_tk' q167_hr0' q167_hr1' q167_hD' q167_F' q167_N'; (try dsimp only at q167_N'); (try dsimp only))
  k_with "CompSrc" => (k_here; k_dflt (refine' LCg.CompSrc.range (by rfl) (by k_asm) (by k_asm) (by assumption) ?q168ksm ?q168krs ?q168ksz ?_; (case q168ksm => exact small_one (by kcf_bnd) (by kcf_bnd) (by kcf_bnd) (by kcf_bnd)); (case q168krs => exact rangeSize_nat _ _); (case q168ksz => (rw [PySem.sizeLine_eq]; omega)); intro q168_g'; (refine' comp_drawU Letter ?q168cD ?q168cU (fun q168_v' q168_I' q168_oI' q168_C' q168_oC' q168_D' q168_m' q168_ys' q168_h' q168_tk' q168_vs' q168_c' q168_E' q168_hD' q168_hC' q168_hx' q168_F' q168_N' q168_off' q168_ne' => ?_) (fun q168_ys' q168_ks' q168_vs' q168_c' q168_hI' q168_hl' q168_hm' q168_hD' => ?_); (case q168cD => assumption); (case q168cU => k_updF)); (all_goals (try simp only [LCg.Off3, and_true] at q168_off'))))
  k_with "CompEnd" => (refine drawEnd (by assumption) (by assumption) (by assumption) (by kcf_all) (by first | assumption | (simp only [LCg.Off3, and_true]; done) | (simp only [LCg.Off3, and_true]; assumption)) ?_)
  k_with "exec For Name Call cons nil" => (k_here; (rename PassesOwn _ _ _ _ => hP9); k_dflt (refine' For_invVF (hE := hP9) ?q170F ?q170k1 ?q170k2 ?_; (case q170F => k_asm); (case q170k1 => exact rfl); (case q170k2 => exact rfl)))
  k_with "RangeRest" => (k_dflt (refine' lap_loop ?q171B ?q171X ?q171T ?q171hdp ?q171hun ?q171C ?q171hDk ?q171hB ?q171l1 ?q171l2 ?q171l3 ?q171l4 ?q171l5 ?q171hi ?q171hg ?q171hl ?q171hm ?q171b1 ?q171b2 ?q171b3 ?q171hy ?q171hp _ ?_ _ _ _ _ _ _ _ _ _ _ _ _ _ ?q171hE ?q171hS ?q171m1 ?q171m2 ?q171m3 ?q171m4 ?q171m5 ?q171m6 ?q171m7 ?q171hr ?q171hT ?q171hD; (case q171B => assumption); (case q171X => assumption); (case q171T => assumption); (case q171hdp => assumption); (case q171hun => assumption); (case q171C => assumption); (case q171m1 => assumption); (case q171m2 => assumption); (case q171hDk => assumption); (case q171hB => assumption); (case q171l1 => assumption); (case q171l2 => assumption); (case q171l3 => assumption); (case q171l4 => assumption); (case q171l5 => omega); (case q171m4 => assumption); (case q171m5 => assumption); (case q171m6 => assumption); (case q171m7 => assumption); (case q171m3 => assumption); (case q171hi => assumption); (case q171hg => assumption); (case q171hl => assumption); (case q171hm => assumption); (case q171b1 => assumption); (case q171b2 => assumption); (case q171b3 => assumption); (case q171hy => assumption); (case q171hp => assumption); (case q171hE => assumption); (case q171hS => assumption); (case q171hT => assumption); (case q171hD => assumption); (case q171hr => (rename _ ∧ _ ∧ _ ∧ _ ∧ _ ∧ PySem.W.AllLt _ _ => hl9; exact apart_I hl9.2.2.2.2.2 (by assumption)))); intro q171_o' q171_h' q171_ps' q171_tk' q171_F' q171_N'; (try dsimp only))
  have dummy : PySem.Challenge.rw_ok0060_01 = PySem.Challenge.rw_ok0060_01 ∧ hd.heap_39 = hd.heap_39 := by
    k_fill
    exact ⟨rfl, rfl⟩
  clear dummy
  k_steps
  rename News h₀ _ _ [(P, _)] => kN9
  exact hret _ _ _ _ (by assumption) kN9

end
end
theorem apart_PTa : ∀ x : Nat, x = x := by
  w_top off
  k_with_none
  first | (walk1; done) | exact fun _ => rfl
section
section
local macro_rules | `(tactic| omega) => `(tactic| lia)
theorem narrow_use {w : World} {p : Program} {loose : List PySem.Str} {mean : ExcName → Option Value} {mg mb : PySem.Str → Option Value}
  {dp un : Nat} {gd : Option (List Code)} {cn : PySem.Str} {cs : Scope} {a : Addr} {ccd : Value} {cl : List (PySem.Str × Addr)} {outer : List Env} {A₀ : Around} {base h₀ : Heap} {L : Addr} {m : PySem.Str → Option Value} {s : Shared}
  {t1 t2 : Tok} {news : List (Addr × Obj)} {f : Obj → List (Addr × Obj)} {Q E : Value → Shared → Prop} {T₀ : BToks} {U₀ : TToks} {b bd t td ce mk ls : Addr} {cells : List Value} {ks ms : List Int} {nc : Nat} {begv zv ticks ct gs ge x y : Int}
  (B : Below A₀ base outer h₀) (F : Fr h₀ L s.heap m) (X : (hd.heap_39 w.params).In h₀) (N : News h₀ L s.heap news) (U : UpdF bd (bufO w T₀ t mk ls 1 begv zv ticks ct) news f) (T : Top p loose mean mg mb h₀) (hk : cs.kind = .function)
  (hdp : dp + 10 < recursionLimit) (hun : un + 100 < cLine)
  (m1 : (b, instObj 459 bd) ∈ news) (m3 : (t, instObj 248 td) ∈ news) (m4 : (td, txtO w U₀ ce gs ge) ∈ news) (m5 : (ce, PySem.W.listOf cells.toArray nc) ∈ news) (e1 : @Ne Nat b bd) (e3 : @Ne Nat t bd) (e4 : @Ne Nat td bd) (e5 : @Ne Nat ce bd)
  (hi : IntsAre cells (ks ++ ms)) (hgs : gs = ks.length) (hge : ge = ks.length + ms.length) (hlen : ks.length ≤ 8) (hms : ms.length ≤ 20) (hx : 1 ≤ x) (hxy : x ≤ y) (hy : y ≤ ks.length + 1)
  (hret : ∀ T' h' tk', Fr h₀ L h' m → News h₀ L h' (f (bufO w T' t mk ls x x y ticks ct)) → Q .none {s with heap := h', toks := tk'}) :
  wpAny (model prog w) (ktrTop dp un gd cn cs L a ccd cl outer) (call (.ref 468) [.ref b, .int x t1, .int y t2]) Q E s := by
  obtain ⟨pre, post, rfl, hf, ha, hb'⟩ := U.split
  have hr : Apart [bd] (pre ++ post) := by
    intro q hq x hx
    rw [List.mem_singleton.mp hx]
    rcases List.mem_append.mp hq with hq | hq
    · exact ha q hq
    · exact hb' q hq
  have mem : ∀ {z : Addr} {oz : Obj}, (z, oz) ∈ pre ++ (bd, bufO w T₀ t mk ls 1 begv zv ticks ct) :: post → @Ne Nat z bd → (z, oz) ∈ pre ++ post := by
    intro z oz hz hne
    rcases List.mem_append.mp hz with h | h
    · exact List.mem_append_left _ h
    · rcases List.mem_cons.mp h with h | h
      · exact absurd (congrArg Prod.fst h) hne
      · exact List.mem_append_right _ h
  refine narrow_spec w p loose mean mg mb dp un gd cn cs a ccd cl outer A₀ base h₀ L m s t1 t2 (pre ++ post) Q E T₀ U₀ b bd t td ce mk ls cells ks ms nc begv zv ticks ct gs ge x y B F X (news_sub N ?_) T hk hdp hun hr (mem m1 e1) (mem m3 e3) (mem m4 e4) (mem m5 e5) hi hgs hge hlen hms hx hxy hy
    fun T' pt bg z h' tk' p1 p2 p3 F' N' => ?_
  · intro q hq
    simp only [List.mem_cons, List.mem_append] at hq ⊢
    rcases hq with h | h | h
    · exact .inr (.inl h)
    · exact .inl h
    · exact .inr (.inr h)
  · subst p1 p3
    subst p2
    refine hret T' h' tk' F' (news_sub N' ?_)
    intro q hq
    rw [hf] at hq
    simp only [List.mem_cons, List.mem_append] at hq ⊢
    rcases hq with h | h | h
    · exact .inr (.inl h)
    · exact .inl h
    · exact .inr (.inr h)
theorem rr_law {w : World} {A : Around} {E : Value → Shared → Prop} {h₀ : Heap} {env : Env} {x : PySem.Str} {body : List Stmt} {Q : Flow → Shared → Prop} {s : Shared} {I : Addr} {a : Int} {n k i : Nat} {m : PySem.Str → Option Value} {news : List (Addr × Obj)} {S : Addr} {bg lt : Int} {tb tl : Tok}
    (h1 : m "signs" = some (.ref S)) (h2 : m "begin" = some (.int bg tb)) (h3 : m "last" = some (.int lt tl)) (h : RangeRest prog w A E h₀ env x body Q s I a n k i (lawMap S bg tb lt tl m) news) : RangeRest prog w A E h₀ env x body Q s I a n k i m news := by
  have e : lawMap S bg tb lt tl m = m := by
    funext y
    unfold lawMap
    split
    · rename_i h; rw [h, h1]
    · split
      · rename_i h; rw [h, h2]
      · split
        · rename_i h; rw [h, h3]
        · rfl
  rw [← e]; exact h
local macro_rules | `(tactic| k_mem) => `(tactic| first | exact List.Mem.head _ | assumption | (refine' List.Mem.tail _ ?_; k_mem))
local macro_rules | `(tactic| k_all) => `(tactic| first | assumption | ((rename Mine60.Apart _ _ => hr9); exact fun p hp => hr9 p hp _ (by k_mem)))
theorem tail_a {w : World} {p : Program} {loose : List PySem.Str} {mean : ExcName → Option Value} {mg mb : PySem.Str → Option Value}
  {dp un : Nat} {gd : Option (List Code)} {fa : Addr} {A₀ : Around} {h₀ : Heap} {L : Addr} {o : PySem.Str → Option Value} {s : Shared}
  {rest : List (Addr × Obj)} {Q : Flow → Shared → Prop} {E : Value → Shared → Prop} {d c1 c2 c3 c4 P S b bd t td ce mk ls : Addr} {vs : List Value} {n : Nat} {oDk oB oE oS : Obj} {T₀ : BToks} {U₀ : TToks}
  {cells ys : List Value} {ks ms : List Int} {nc c : Nat} {zv ticks ct gs ge : Int} {tb tl : Tok} {ps : Array Value}
  (B : Below A₀ h₀ [] h₀) (F : Fr h₀ L s.heap (lawMap S 1 tb zv tl o)) (X : (hd.heap_39 w.params).In h₀)
  (N : News h₀ L s.heap ((d, PySem.W.listOf vs.toArray n) :: (c3, oE) :: (c4, oS) :: (bd, bufO w T₀ t mk ls 1 1 zv ticks ct) :: (P, tabObj ps) :: rest)) (T : Top p loose mean mg mb h₀)
  (hdp : dp + 60 < recursionLimit) (hun : un + 600 < cLine)
  (hDk : oDk.data = .cell (some (.ref d))) (hB : oB.data = .cell (some (.ref b)))
  (m1 : (c1, oDk) ∈ rest) (m2 : (c2, oB) ∈ rest) (m3 : (S, PySem.W.listOf ys.toArray c) ∈ rest) (m4 : (b, instObj 459 bd) ∈ rest) (m5 : (t, instObj 248 td) ∈ rest) (m6 : (td, txtO w U₀ ce gs ge) ∈ rest) (m7 : (ce, PySem.W.listOf cells.toArray nc) ∈ rest)
  (hr : Apart [d, c3, c4, bd, P] rest) (l1 : @LT.lt Nat _ P c3) (l2 : @LT.lt Nat _ c3 c4) (l3 : (@Ne Nat c4 d ∧ @Ne Nat c3 d ∧ @Ne Nat P d) ∧ @LT.lt Nat _ c4 bd) (l4 : @LT.lt Nat _ d bd) (hD : Deck vs)
  (hi : IntsAre cells (ks ++ ms)) (hgs : gs = ks.length) (hge : ge = ks.length + ms.length) (hlen : ks.length ≤ 8) (hms : ms.length ≤ 20) (hzv : zv = ks.length + 1) (hy : IntsAre ys ks)
  (hP : PassesOwn (model prog w) (ktrTop dp un gd "law" lawScope L fa (.ref 510) [("start", c4), ("end", c3), ("buffer", c2), ("deck", c1)] []) (envX "law" lawScope L fa (.ref 510) [("start", c4), ("end", c3), ("buffer", c2), ("deck", c1)]) E)
  (hret : ∀ o' bg tb' lt tl' vs' n' T' point' h' tk', Fr h₀ L h' (lawMap S bg tb' lt tl' o') → News h₀ L h' ((d, PySem.W.listOf vs'.toArray n') :: (c3, oE) :: (c4, oS) :: (bd, bufO w T' t mk ls point' bg lt ticks ct) :: (P, tabObj ps) :: rest) → Deck vs' → 1 ≤ bg → bg ≤ lt → lt ≤ ks.length + 1 → Q .next {s with heap := h', toks := tk'}) :
  wpAny (model prog w) (ktrTop dp un gd "law" lawScope L fa (.ref 510) [("start", c4), ("end", c3), ("buffer", c2), ("deck", c1)] []) (execs tailA (envX "law" lawScope L fa (.ref 510) [("start", c4), ("end", c3), ("buffer", c2), ("deck", c1)])) Q E s := by
  delta tailA tailAS lawScope lawScopeS
  dsimp only [lawMap] at F ⊢
  k_with_none
  k_with "call ref" => (k_here; (with_reducible show wpAny _ _ (call (Value.ref 480) [Value.ref _, Value.int _ _]) _ _ _); k_dflt (refine' draw_use ?q172kB ?q172kF ?q172kX ?q172kN ?q172kU ?q172kT ?q172kK ?q172kD ?q172k1 ?q172k2 ?q172kd ?q172ku ?_; (case q172kB => k_asm); (case q172kF => k_asm); (case q172kX => k_asm); (case q172kN => k_asm); (case q172kU => k_updF); (case q172kT => k_asm); (case q172kK => first | exact rfl | assumption); (case q172kD => first | assumption | exact deck_of (by assumption)); (case q172k1 => first | decide | omega | k_room); (case q172k2 => first | decide | omega); (case q172kd => ktr_room); (case q172ku => ktr_units)); intro q172_r' q172_t' q172_vs' q172_n' q172_h' q172_tk' q172_hr0' q172_hr1' q172_hD' q172_F' q172_N'; (try dsimp only at q172_N'); (try dsimp only))
  k_with "CompSrc" => (k_here; k_dflt (refine' LCg.CompSrc.range (by rfl) (by k_asm) (by k_asm) (by assumption) ?q173ksm ?q173krs ?q173ksz ?_; (case q173ksm => exact small_one (by kcf_bnd) (by kcf_bnd) (by kcf_bnd) (by kcf_bnd)); (case q173krs => exact rangeSize_nat _ _); (case q173ksz => (rw [PySem.sizeLine_eq]; omega)); intro q173_g'; (refine' comp_drawU Letter ?q173cD ?q173cU (fun q173_v' q173_I' q173_oI' q173_C' q173_oC' q173_D' q173_m' q173_ys' q173_h' q173_tk' q173_vs' q173_c' q173_E' q173_hD' q173_hC' q173_hx' q173_F' q173_N' q173_off' q173_ne' => ?_) (fun q173_ys' q173_ks' q173_vs' q173_c' q173_hI' q173_hl' q173_hm' q173_hD' => ?_); (case q173cD => assumption); (case q173cU => k_updF)); (all_goals (try simp only [LCg.Off3, and_true] at q173_off'))))
  k_with "CompEnd" => (refine drawEnd (by assumption) (by assumption) (by assumption) (by kcf_all) (by first | assumption | (simp only [LCg.Off3, and_true]; done) | (simp only [LCg.Off3, and_true]; assumption)) ?_)
  k_with "eval Name" => (k_here; (with_reducible show wpAny _ _ (eval (PySem.Expr.Name _ _) (envX _ _ _ _ _ (_ :: _))) _ _ _); k_dflt (refine' nameX_C ?q175N ?q175c ?q175m ?q175d ?_ ?q175a ?q175b ?q175e; (case q175a => assumption); (case q175b => rfl); (case q175e => decide); (case q175c => rfl); (case q175N => k_asm); (case q175m => k_mem); (case q175d => assumption)))
  k_with "call builtin:len" => (k_here; (with_reducible show wpAny _ _ (call (Value.builtin "len") [Value.ref _]) _ _ _); k_dflt (refine' kst_len ?q176k1 ?q176k2 ?q176k3 ?q176k4 ?_; (case q176k1 => k_asm); (case q176k2 => k_mem); (case q176k3 => exact IntsAre.length (by assumption)); (case q176k4 => omega)))
  k_with "exec For Name Call cons nil" => (k_here; (rename PassesOwn _ _ _ _ => hP9); k_dflt (refine' For_invVF (hE := hP9) ?q177F ?q177k1 ?q177k2 ?_; (case q177F => k_asm); (case q177k1 => exact rfl); (case q177k2 => exact rfl)))
  k_with "call ref" => (k_here; (with_reducible show wpAny _ _ (call (Value.ref 468) [Value.ref _, Value.int _ _, Value.int _ _]) _ _ _); k_dflt (refine' narrow_use ?q178kB ?q178kF ?q178kX ?q178kN ?q178kU ?q178kT ?q178kK ?q178kd ?q178ku ?q178m1 ?q178m3 ?q178m4 ?q178m5 ?q178e1 ?q178e3 ?q178e4 ?q178e5 ?q178hi ?q178hg ?q178hge ?q178hl ?q178hm ?q178hx ?q178hxy ?q178hy ?_; (case q178kB => k_asm); (case q178kF => k_asm); (case q178kX => k_asm); (case q178kN => k_asm); (case q178kU => k_updF); (case q178kT => k_asm); (case q178kK => first | exact rfl | assumption); (case q178kd => ktr_room); (case q178ku => ktr_units); (case q178m1 => k_mem); (case q178m3 => k_mem); (case q178m4 => k_mem); (case q178m5 => k_mem); (case q178e1 => assumption); (case q178e3 => assumption); (case q178e4 => assumption); (case q178e5 => assumption); (case q178hi => assumption); (case q178hg => assumption); (case q178hge => assumption); (case q178hl => assumption); (case q178hm => assumption); (case q178hx => omega); (case q178hxy => omega); (case q178hy => omega)); intro q178_T' q178_h' q178_tk' q178_F' q178_N'; (try dsimp only at q178_N'); (try dsimp only))
  k_with "pyIter ref" => ((with_reducible show wpAny _ _ (pyIter (Value.ref _)) (fun it s₂ => LoopAtV _ _ _ _ _ _ _ _ _ it s₂) _ _); (rename PySem.IsRange _ _ _ _ _ _ _ _ => hR9); k_dflt (refine' iter_rangeUnr ?q179hh hR9 ?q179hs ?q179hn ?q179F ?q179N ?_; (case q179hh => exact rfl); (case q179hn => exact rangeSize_nat _ _); (case q179hs => exact small_one (by omega) (by omega) (by omega) (by omega)); (case q179F => k_asm); (case q179N => k_asm)); intro q179_i' l1; k_dflt (refine' rr_law ?q179g1 ?q179g2 ?q179g3 ?_; (case q179g1 => exact rfl); (case q179g2 => exact rfl); (case q179g3 => exact rfl)); k_dflt (refine' pl_loop ?q179B ?q179X ?q179T ?q179hdp ?q179hun ?q179hB ?q179m2 ?q179m3 ?q179m4 ?q179m5 ?q179m6 ?q179m7 ?q179m8 ?q179hi ?q179hg ?q179hl ?q179b1 ?q179b2 ?q179b3 ?q179hy _ ?q179hI _ ?q179hn ?_ _ 0 _ ?q179e0; (case q179B => assumption); (case q179X => assumption); (case q179T => assumption); (case q179hdp => assumption); (case q179hun => assumption); (case q179hB => assumption); (case q179m2 => k_mem); (case q179m4 => k_mem); (case q179m8 => k_mem); (case q179m5 => k_mem); (case q179m6 => k_mem); (case q179m7 => k_mem); (case q179m3 => k_mem); (case q179hi => assumption); (case q179hg => assumption); (case q179hl => assumption); (case q179b1 => omega); (case q179b2 => omega); (case q179b3 => omega); (case q179hy => assumption); (case q179hI => exact fun q hq => Nat.ne_of_lt (l1 q hq)); (case q179hn => omega); (case q179e0 => omega)); intro q179_o' q179_h' q179_tk' q179_F' q179_N'; (try dsimp only))
  have dummy : PySem.Challenge.rw_ok0060_01 = PySem.Challenge.rw_ok0060_01 ∧ hd.heap_39 = hd.heap_39 := by
    k_fill
    exact ⟨rfl, rfl⟩
  clear dummy
  have f1 : @Ne Nat b bd := hr _ m4 bd (by simp)
  have f3 : @Ne Nat t bd := hr _ m5 bd (by simp)
  have f4 : @Ne Nat td bd := hr _ m6 bd (by simp)
  have f5 : @Ne Nat ce bd := hr _ m7 bd (by simp)
  k_steps
  all_goals
    rename News h₀ _ _ ((d, _) :: (c3, _) :: (c4, _) :: (bd, _) :: _) => kN9
    rename Deck _ => kD9
    rename Fr h₀ _ _ (lawMap _ _ _ _ _ _) => kF9
    exact hret _ _ _ _ _ _ _ _ _ _ _ kF9 kN9 kD9 (by omega) (by omega) (by omega)

end
end
theorem apart_PLw : ∀ x : Nat, x = x := by
  w_top off
  k_with_none
  first | (walk1; done) | exact fun _ => rfl
section
section
local macro_rules | `(tactic| omega) => `(tactic| lia)
theorem law_tail {w : World} {p : Program} {loose : List PySem.Str} {mean : ExcName → Option Value} {mg mb : PySem.Str → Option Value}
  {dp un : Nat} {gd : Option (List Code)} {fa : Addr} {A₀ : Around} {h₀ : Heap} {L : Addr} {m : PySem.Str → Option Value} {s : Shared}
  {news : List (Addr × Obj)} {Q : Flow → Shared → Prop} {E : Value → Shared → Prop} {d c1 c2 c3 c4 P S b bd t td ce mk ls : Addr} {vs : List Value} {n : Nat} {oDk oB oE oS : Obj} {vE vS : Option Value} {T₀ : BToks} {U₀ : TToks}
  {cells ys : List Value} {ks ms : List Int} {nc c : Nat} {zv ticks ct gs ge : Int} {tb tl : Tok}
  (B : Below A₀ h₀ [] h₀) (F : Fr h₀ L s.heap m) (g1 : m "signs" = some (.ref S)) (g2 : m "begin" = some (.int 1 tb)) {zv2 : Int} (g3 : m "last" = some (.int zv2 tl)) (hz2 : zv = zv2) (X : (hd.heap_39 w.params).In h₀)
  (N : News h₀ L s.heap news) (T : Top p loose mean mg mb h₀)
  (hdp : dp + 60 < recursionLimit) (hun : un + 600 < cLine) (C : CodeHd h₀ 510 P)
  (hDk : oDk.data = .cell (some (.ref d))) (hB : oB.data = .cell (some (.ref b))) (hE : oE.data = .cell vE) (hS : oS.data = .cell vS)
  (m1 : (c1, oDk) ∈ news) (m2 : (c2, oB) ∈ news) (n2 : (c3, oE) ∈ news) (n3 : (c4, oS) ∈ news) (n1 : (d, PySem.W.listOf vs.toArray n) ∈ news) (n4 : (bd, bufO w T₀ t mk ls 1 1 zv ticks ct) ∈ news) (n5 : (P, tabObj #[]) ∈ news)
  (m3 : (S, PySem.W.listOf ys.toArray c) ∈ news) (m4 : (b, instObj 459 bd) ∈ news) (m5 : (t, instObj 248 td) ∈ news) (m6 : (td, txtO w U₀ ce gs ge) ∈ news) (m7 : (ce, PySem.W.listOf cells.toArray nc) ∈ news)
  (o1 : @LT.lt Nat _ P c1) (o2 : @LT.lt Nat _ c1 c2) (o3 : @LT.lt Nat _ c2 c3) (o4 : @LT.lt Nat _ c3 c4) (o5 : (@Ne Nat c4 d ∧ @Ne Nat c3 d ∧ @Ne Nat P d) ∧ @LT.lt Nat _ c4 bd) (o5b : @Ne Nat c1 d ∧ @Ne Nat c2 d) (o6 : @Ne Nat c3 S ∧ @Ne Nat c4 S ∧ @Ne Nat P S) (o7 : @Ne Nat d S) (o8 : @LT.lt Nat _ d bd) (o9 : @LT.lt Nat _ S bd)
  (o10 : @LT.lt Nat _ bd b) (o11 : @LT.lt Nat _ b td) (o12 : @LT.lt Nat _ td t) (o13 : @LT.lt Nat _ t ce) (hD : Deck vs)
  (hi : IntsAre cells (ks ++ ms)) (hgs : gs = ks.length) (hge : ge = ks.length + ms.length) (hlen : ks.length ≤ 8) (hms : ms.length ≤ 20) (hzv : zv = ks.length + 1) (hy : IntsAre ys ks) (hpos : ∀ k ∈ ks, Letter k)
  (hP : PassesOwn (model prog w) (ktrTop dp un gd "law" lawScope L fa (.ref 510) [("start", c4), ("end", c3), ("buffer", c2), ("deck", c1)] []) (envX "law" lawScope L fa (.ref 510) [("start", c4), ("end", c3), ("buffer", c2), ("deck", c1)]) E)
  (hret : ∀ ps' m' h' tk', Fr h₀ L h' m' → News h₀ L h' [(P, tabObj ps')] → Q (.ret (.bool true)) {s with heap := h', toks := tk'}) :
  wpAny (model prog w) (ktrTop dp un gd "law" lawScope L fa (.ref 510) [("start", c4), ("end", c3), ("buffer", c2), ("deck", c1)] []) (execs lawRest (envX "law" lawScope L fa (.ref 510) [("start", c4), ("end", c3), ("buffer", c2), ("deck", c1)])) Q E s := by
  subst hz2
  rw [rest_split]
  refine execs_app _ ?_
  have N' : News h₀ L s.heap ((d, PySem.W.listOf vs.toArray n) :: (c3, oE) :: (c4, oS) :: (bd, bufO w T₀ t mk ls 1 1 zv ticks ct) :: (P, tabObj #[]) ::
      [(c1, oDk), (c2, oB), (S, PySem.W.listOf ys.toArray c), (b, instObj 459 bd), (t, instObj 248 td), (td, txtO w U₀ ce gs ge), (ce, PySem.W.listOf cells.toArray nc)]) := by
    refine news_sub N ?_
    intro q hq
    simp only [List.mem_cons, List.mem_nil_iff, or_false] at hq
    rcases hq with rfl | rfl | rfl | rfl | rfl | rfl | rfl | rfl | rfl | rfl | rfl | rfl <;> assumption
  have hr : Apart [d, c3, c4, bd, P] [(c1, oDk), (c2, oB), (S, PySem.W.listOf ys.toArray c), (b, instObj 459 bd), (t, instObj 248 td), (td, txtO w U₀ ce gs ge), (ce, PySem.W.listOf cells.toArray nc)] := by
    intro q hq x hx
    refine neN ?_
    simp only [List.mem_cons, List.mem_nil_iff, or_false] at hq hx
    rcases hq with rfl | rfl | rfl | rfl | rfl | rfl | rfl <;> rcases hx with rfl | rfl | rfl | rfl | rfl <;> (dsimp only; omega)
  have l1 : @LT.lt Nat _ P c3 := by omega
  refine tail_a (ps := #[]) B (fr_law F g1 g2 g3) X N' T hdp hun hDk hB (.head _) (.tail _ (.head _)) (.tail _ (.tail _ (.head _))) (.tail _ (.tail _ (.tail _ (.head _)))) (.tail _ (.tail _ (.tail _ (.tail _ (.head _))))) (.tail _ (.tail _ (.tail _ (.tail _ (.tail _ (.head _)))))) (.tail _ (.tail _ (.tail _ (.tail _ (.tail _ (.tail _ (.head _))))))) hr l1 o4 o5 o8 hD hi hgs hge hlen hms hzv hy hP
    fun o' bg tb' lt tl' vs' n' T' point' h' tk' F' N2 hD' b1 b2 b3 => ?_
  exact tail_b B F' X N2 T hdp hun C hDk hB hE hS (.head _) (.tail _ (.head _)) (.tail _ (.tail _ (.head _))) (.tail _ (.tail _ (.tail _ (.head _)))) (.tail _ (.tail _ (.tail _ (.tail _ (.head _))))) (.tail _ (.tail _ (.tail _ (.tail _ (.tail _ (.head _)))))) (.tail _ (.tail _ (.tail _ (.tail _ (.tail _ (.tail _ (.head _))))))) hr l1 o4 o5 o8 (.inl rfl) hD' hi hgs hlen hms b1 b2 b3 hy hpos hP hret
theorem envOfC_law (L fa : Addr) : envOfC "law" lawScope L fa (.ref 510) = envX "law" lawScope L fa (.ref 510) [("start", L + 1 + 1 + 1 + 1), ("end", L + 1 + 1 + 1), ("buffer", L + 1 + 1), ("deck", L + 1)] := by exact rfl
theorem callerA_top (cn : PySem.Str) (cs : Scope) (L a : Addr) (ccd : Value) (cl : List (PySem.Str × Addr)) : callerA.deeper (envX cn cs L a ccd cl) = ktrTop (callerA.depth + 1) (callerA.units + 3) callerA.guards cn cs L a ccd cl [] := by exact rfl
theorem law_main {w : World} {p : Program} {loose : List PySem.Str} {mean : ExcName → Option Value} {mg mb : PySem.Str → Option Value}
  {fa : Addr} {h₀ : Heap} {L : Addr} {m : PySem.Str → Option Value} {s : Shared}
  {news : List (Addr × Obj)} {Q : Flow → Shared → Prop} {E : Value → Shared → Prop} {d P S b bd t td ce mk ls : Addr} {vs : List Value} {n : Nat} {oDk oB oE oS : Obj} {vE vS : Option Value} {T₀ : BToks} {U₀ : TToks}
  {cells ys : List Value} {ks ms : List Int} {nc c : Nat} {zv ticks ct gs ge : Int} {tb tl : Tok}
  (B : Below callerA h₀ [] h₀) (F : Fr h₀ L s.heap m) (g1 : m "signs" = some (.ref S)) (g2 : m "begin" = some (.int 1 tb)) {zv2 : Int} (g3 : m "last" = some (.int zv2 tl)) (hz2 : zv = zv2) (X : (hd.heap_39 w.params).In h₀)
  (N : News h₀ L s.heap news) (T : Top p loose mean mg mb h₀)
  (C : CodeHd h₀ 510 P)
  (hDk : oDk.data = .cell (some (.ref d))) (hB : oB.data = .cell (some (.ref b))) (hE : oE.data = .cell vE) (hS : oS.data = .cell vS)
  (m1 : (L + 1, oDk) ∈ news) (m2 : (L + 1 + 1, oB) ∈ news) (n2 : (L + 1 + 1 + 1, oE) ∈ news) (n3 : (L + 1 + 1 + 1 + 1, oS) ∈ news) (n1 : (d, PySem.W.listOf vs.toArray n) ∈ news) (n4 : (bd, bufO w T₀ t mk ls 1 1 zv ticks ct) ∈ news) (n5 : (P, tabObj #[]) ∈ news)
  (m3 : (S, PySem.W.listOf ys.toArray c) ∈ news) (m4 : (b, instObj 459 bd) ∈ news) (m5 : (t, instObj 248 td) ∈ news) (m6 : (td, txtO w U₀ ce gs ge) ∈ news) (m7 : (ce, PySem.W.listOf cells.toArray nc) ∈ news)
  (o1 : @LT.lt Nat _ P (L + 1)) (o5 : (@Ne Nat (L + 1 + 1 + 1 + 1) d ∧ @Ne Nat (L + 1 + 1 + 1) d ∧ @Ne Nat P d) ∧ @LT.lt Nat _ (L + 1 + 1 + 1 + 1) bd) (o5b : @Ne Nat (L + 1) d ∧ @Ne Nat (L + 1 + 1) d) (o6 : @Ne Nat (L + 1 + 1 + 1) S ∧ @Ne Nat (L + 1 + 1 + 1 + 1) S ∧ @Ne Nat P S) (o7 : @Ne Nat d S) (o8 : @LT.lt Nat _ d bd) (o9 : @LT.lt Nat _ S bd)
  (o10 : @LT.lt Nat _ bd b) (o11 : @LT.lt Nat _ b td) (o12 : @LT.lt Nat _ td t) (o13 : @LT.lt Nat _ t ce) (hD : Deck vs)
  (hi : IntsAre cells (ks ++ ms)) (hgs : gs = ks.length) (hge : ge = ks.length + ms.length) (hlen : ks.length ≤ 8) (hms : ms.length ≤ 20) (hzv : zv = ks.length + 1) (hy : IntsAre ys ks) (hpos : ∀ k ∈ ks, Letter k)
  (hP : PassesOwn (model prog w) (callerA.deeper (envOfC "law" lawScope L fa (.ref 510))) (envOfC "law" lawScope L fa (.ref 510)) E)
  (hret : ∀ ps' m' h' tk', Fr h₀ L h' m' → News h₀ L h' [(P, tabObj ps')] → Q (.ret (.bool true)) {s with heap := h', toks := tk'}) :
  wpAny (model prog w) (callerA.deeper (envOfC "law" lawScope L fa (.ref 510))) (execs lawRest (envOfC "law" lawScope L fa (.ref 510))) Q E s := by
  rw [envOfC_law, callerA_top] at hP ⊢
  exact law_tail B F g1 g2 g3 hz2 X N T (by decide) (by decide) C hDk hB hE hS m1 m2 n2 n3 n1 n4 n5 m3 m4 m5 m6 m7 o1 (Nat.lt_succ_self _) (Nat.lt_succ_self _) (Nat.lt_succ_self _) o5 o5b o6 o7 o8 o9 o10 o11 o12 o13 hD hi hgs hge hlen hms hzv hy hpos hP hret

end
end
theorem apart_PMain : ∀ x : Nat, x = x := by
  w_top off
  k_with_none
  first | (walk1; done) | exact fun _ => rfl
section
section
local macro_rules | `(tactic| omega) => `(tactic| lia)
theorem news_tl {h₀ h : Heap} {L : Addr} {x : Addr × Obj} {r : List (Addr × Obj)} (N : News h₀ L h (x :: r)) : News h₀ L h r := fun q hq => N q (.tail _ hq)
theorem chain_map {b bd t td ce mk md rw ls : Addr} {r r' : List (Addr × Obj)} (h : Chain b bd t td ce mk md rw ls r) (e : r'.map (·.1) = r.map (·.1)) : Chain b bd t td ce mk md rw ls r' := by
  refine ⟨fun p hp => ?_, h.2⟩
  have hm : p.1 ∈ r.map (·.1) := e ▸ List.mem_map_of_mem hp
  obtain ⟨q, hq, hqe⟩ := List.mem_map.mp hm
  have := h.1 q hq
  rw [show p.1 = q.1 from hqe.symm]
  exact this
theorem foo : PySem.Challenge.rw_ok0060_01.Holds := top (by
  k_with_none
  k_with "call ref" => (k_here; (with_reducible show wpAny _ _ (call (Value.ref 480) [Value.ref _, Value.int _ _]) _ _ _); k_dflt (refine' draw_use ?q180kB ?q180kF ?q180kX ?q180kN ?q180kU ?q180kT ?q180kK ?q180kD ?q180k1 ?q180k2 ?q180kd ?q180ku ?_; (case q180kB => k_asm); (case q180kF => k_asm); (case q180kX => k_asm); (case q180kN => k_asm); (case q180kU => k_updF); (case q180kT => k_asm); (case q180kK => first | exact rfl | assumption); (case q180kD => first | assumption | exact deck_of (by assumption)); (case q180k1 => first | decide | omega | k_room); (case q180k2 => first | decide | omega); (case q180kd => ktr_room); (case q180ku => ktr_units)); intro q180_r' q180_t' q180_vs' q180_n' q180_h' q180_tk' q180_hr0' q180_hr1' q180_hD' q180_F' q180_N'; (try dsimp only at q180_N'); (try dsimp only))
  k_with "CompSrc" => (k_here; k_dflt (refine' LCg.CompSrc.range (by rfl) (by k_asm) (by k_asm) (by assumption) ?q181ksm ?q181krs ?q181ksz ?_; (case q181ksm => exact small_one (by kcf_bnd) (by kcf_bnd) (by kcf_bnd) (by kcf_bnd)); (case q181krs => exact rangeSize_nat _ _); (case q181ksz => (rw [PySem.sizeLine_eq]; omega)); intro q181_g'; (refine' comp_drawU Letter ?q181cD ?q181cU (fun q181_v' q181_I' q181_oI' q181_C' q181_oC' q181_D' q181_m' q181_ys' q181_h' q181_tk' q181_vs' q181_c' q181_E' q181_hD' q181_hC' q181_hx' q181_F' q181_N' q181_off' q181_ne' => ?_) (fun q181_ys' q181_ks' q181_vs' q181_c' q181_hI' q181_hl' q181_hm' q181_hD' => ?_); (case q181cD => assumption); (case q181cU => k_updF)); (all_goals (try simp only [LCg.Off3, and_true] at q181_off'))))
  k_with "CompEnd" => (refine drawEnd (by assumption) (by assumption) (by assumption) (by kcf_all) (by first | assumption | (simp only [LCg.Off3, and_true]; done) | (simp only [LCg.Off3, and_true]; assumption)) ?_)
  k_with "CompEnd" => (exact drawEnd (by assumption) (by assumption) (by assumption) (by kcf_all) (by first | assumption | (simp only [LCg.Off3, and_true]; done) | (simp only [LCg.Off3, and_true]; assumption)) (letter_getD _ (by decide) _))
  k_with "call ref" => (k_here; (with_reducible show wpAny _ _ (call (Value.ref 459) [Value.int _ _, Value.str _ _, Value.int _ _]) _ _ _); k_dflt (refine' buffer_spec _ _ _ _ _ _ _ _ _ _ _ _ _ _ _ _ _ _ _ _ _ _ _ _ _ _ _ ?q184kB ?q184kF ?q184kX ?q184kN ?q184kT ?q184kK ?q184kd ?q184ku ?_; (case q184kB => k_asm); (case q184kF => k_asm); (case q184kX => k_asm); (case q184kN => k_asm); (case q184kT => k_asm); (case q184kK => first | exact rfl | assumption); (case q184kd => ktr_room); (case q184ku => ktr_units)); intro q184_T' q184_U' q184_km' q184_b' q184_bd' q184_t' q184_td' q184_ce' q184_mk' q184_md' q184_rw' q184_ls' q184_ro' q184_cells' q184_cn' q184_ln' q184_h' q184_tk' q184_hch' q184_hin' q184_hd1' q184_hd2' q184_hlo' q184_F' q184_N'; (have hch9 := q184_hch'); (unfold Mine60.Chain at q184_hch'); (obtain ⟨l0, l1, l2, l3, l4, l5, l6, l7, l8⟩ := q184_hch'); (try k_lt l0); (try dsimp only [bufLed] at q184_N'); (try dsimp only))
  k_with "call ref" => (k_here; (with_reducible show wpAny _ _ (call (Value.ref 98) [Value.ref _, Value.int _ _, Value.ref _]) _ _ _); k_dflt (refine' insert_spec _ _ _ _ _ _ _ _ _ _ _ _ _ _ _ _ _ _ _ _ _ _ _ _ _ _ _ _ _ _ _ _ _ _ _ _ _ _ _ _ _ _ _ _ _ ?q185kB ?q185kF ?q185kX ?q185kN ?q185kT ?q185kK ?q185kd ?q185ku ?q185hch ?q185hi ?q185hl [0, 0] ?q185hc ?q185hz ?q185d1 ?q185lo ?q185fp ?q185d2 ?_; (case q185kB => k_asm); (case q185kF => k_asm); (case q185kX => k_asm); (case q185kN => exact news_tl (by k_asm)); (case q185hch => exact chain_map (by assumption) (by rfl)); (case q185kT => k_asm); (case q185kK => first | exact rfl | assumption); (case q185kd => ktr_room); (case q185ku => ktr_units); (case q185hi => assumption); (case q185hl => omega); (case q185hc => assumption); (case q185hz => rfl); (case q185d1 => assumption); (case q185lo => assumption); (case q185fp => constructor); (case q185d2 => assumption)); intro q185_T' q185_U' q185_us' q185_ms' q185_n' q185_zv' q185_ticks' q185_ct' q185_gs' q185_ge' q185_h' q185_tk' q185_hI' q185_hzv' q185_hgs' q185_hge' q185_hms' q185_F' q185_N'; (try dsimp only [bufLed] at q185_N'); (try dsimp only))
  k_with "execs cons" => (k_here; (with_reducible show wpAny _ _ (execs (Stmt.If _ _ _ _ :: Stmt.For _ _ _ _ _ :: Stmt.For _ _ _ _ _ :: _) _) _ _ _); k_dflt (refine' law_main ?q186B ?q186F ?q186g1 ?q186g2 ?q186g3 ?q186z2 ?q186X ?q186N ?q186T ?q186C ?q186hDk ?q186hB ?q186hE ?q186hS ?q186m1 ?q186m2 ?q186n2 ?q186n3 ?q186n1 ?q186n4 ?q186n5 ?q186m3 ?q186m4 ?q186m5 ?q186m6 ?q186m7 ?q186o1 ?q186o5 ?q186o5b ?q186o6 ?q186o7 ?q186o8 ?q186o9 ?q186o10 ?q186o11 ?q186o12 ?q186o13 ?q186hD ?q186hi ?q186hgs ?q186hge ?q186hlen ?q186hms ?q186hzv ?q186hy ?q186hpos ?q186hP ?_; (case q186B => k_asm); (case q186F => k_asm); (case q186g1 => exact rfl); (case q186g2 => exact rfl); (case q186g3 => exact rfl); (case q186X => k_asm); (case q186N => k_asm); (case q186T => k_asm); (case q186C => assumption); (case q186m1 => k_mem); (case q186m2 => k_mem); (case q186n2 => k_mem); (case q186n3 => k_mem); (case q186hDk => assumption); (case q186hB => assumption); (case q186hE => assumption); (case q186hS => assumption); (case q186n1 => k_mem); (case q186m3 => k_mem); (case q186m4 => k_mem); (case q186n4 => k_mem); (case q186n5 => k_mem); (case q186m5 => k_mem); (case q186m6 => k_mem); (case q186m7 => k_mem); (case q186o1 => omega); (case q186o5 => omega); (case q186o5b => omega); (case q186o6 => omega); (case q186o7 => omega); (case q186o8 => omega); (case q186o9 => omega); (case q186o10 => omega); (case q186o11 => omega); (case q186o12 => omega); (case q186o13 => omega); (case q186z2 => omega); (case q186hD => assumption); (case q186hi => assumption); (case q186hgs => assumption); (case q186hge => assumption); (case q186hlen => omega); (case q186hms => assumption); (case q186hzv => assumption); (case q186hy => assumption); (case q186hpos => assumption); (case q186hP => passes_own)); intro q186_ps' q186_m' q186_h' q186_tk' q186_F' q186_N'; (try dsimp only))
  k_go0
  all_goals try k_fold
  k_steps)

end
end
end Mine60
theorem PySem.Challenge.cw_ok0060_01_holds : PySem.Challenge.rw_ok0060_01.Holds := by
  exact Mine60.foo
