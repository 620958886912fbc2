import PyProof.Rows.All
import Wide.All
import OpenK.AllK
import Wide.FinOn
import PySem.Challenge.RW_oj0023_01
set_option Elab.async false
set_option rowWalk.seconds 0
set_option bootstrap.genMatcherCode false
set_option linter.all false
set_option tactic.hygienic false

section
open PySem PySem.W PyProof.Rows
set_option Elab.async false
set_option maxRecDepth 100000
set_option maxHeartbeats 80000000
namespace Mine
noncomputable abbrev prg : Program := PySem.Challenge.rw_oj0023_01.row.prog
noncomputable def fd0 : Arguments × List Stmt × Scope × Pos := ({ posonlyargs := [], args := [], vararg := none, kwonlyargs := [], kw_defaults := [], kwarg := none, defaults := [] }, [], { kind := ScopeKind.function, names := [], isGenerator := false, isCoroutine := false }, { line := 0, col := 0, endLine := 0, endCol := 0 })
noncomputable def fd (x : Stmt) : Arguments × List Stmt × Scope × Pos :=
  @PySem.Stmt.casesOn (fun _ => Arguments × List Stmt × Scope × Pos) x (fun _ a b _ _ _ s _ _ p => (a, b, s, p))
    (fun _ _ _ _ _ _ _ _ _ _ => fd0)
    (fun _ _ _ b _ _ _ _ _ _ _ => (fd0.1, b, fd0.2.2))
    (fun _ _ => fd0)
    (fun _ _ => fd0)
    (fun _ _ _ => fd0)
    (fun _ _ _ _ _ _ _ => fd0)
    (fun _ _ _ _ => fd0)
    (fun _ _ _ _ _ => fd0)
    (fun _ _ _ _ _ => fd0)
    (fun _ _ _ _ _ => fd0)
    (fun _ _ _ _ => fd0)
    (fun _ _ _ _ => fd0)
    (fun _ _ _ => fd0)
    (fun _ _ _ => fd0)
    (fun _ _ _ => fd0)
    (fun _ _ _ => fd0)
    (fun _ _ _ _ _ => fd0)
    (fun _ _ _ _ _ => fd0)
    (fun _ _ _ => fd0)
    (fun _ _ => fd0)
    (fun _ _ _ _ => fd0)
    (fun _ _ => fd0)
    (fun _ _ => fd0)
    (fun _ _ => fd0)
    (fun _ => fd0)
    (fun _ => fd0)
    (fun _ => fd0)
noncomputable def fdA (x : Stmt) : Arguments := (fd x).1
noncomputable def fdB (x : Stmt) : List Stmt := (fd x).2.1
noncomputable def fdS (x : Stmt) : Scope := (fd x).2.2.1
noncomputable def fdP (x : Stmt) : Pos := (fd x).2.2.2
noncomputable def stm (i : Nat) : Stmt := (prg.main.body[i]?).getD (.Return none { line := 0, col := 0, endLine := 0, endCol := 0 })
noncomputable def inn (s : Stmt) (i : Nat) : Stmt := ((fdB s)[i]?).getD (.Return none { line := 0, col := 0, endLine := 0, endCol := 0 })
@[reducible] noncomputable def fa_downcase : Arguments := by
  refine (fun (y : Arguments) (_ : fdA (stm 1) = y) => y) ?y ?h
  case h => conv => lhs; whnf
@[reducible] noncomputable def fb_downcase : List Stmt := by
  refine (fun (y : List Stmt) (_ : fdB (stm 1) = y) => y) ?y ?h
  case h => conv => lhs; whnf
@[reducible] noncomputable def fs_downcase : Scope := by
  refine (fun (y : Scope) (_ : fdS (stm 1) = y) => y) ?y ?h
  case h => conv => lhs; whnf
@[reducible] noncomputable def fa_fold : Arguments := by
  refine (fun (y : Arguments) (_ : fdA (stm 2) = y) => y) ?y ?h
  case h => conv => lhs; whnf
@[reducible] noncomputable def fb_fold : List Stmt := by
  refine (fun (y : List Stmt) (_ : fdB (stm 2) = y) => y) ?y ?h
  case h => conv => lhs; whnf
@[reducible] noncomputable def fs_fold : Scope := by
  refine (fun (y : Scope) (_ : fdS (stm 2) = y) => y) ?y ?h
  case h => conv => lhs; whnf
@[reducible] noncomputable def fa_LispSignal_init : Arguments := by
  refine (fun (y : Arguments) (_ : fdA (inn (stm 4) 0) = y) => y) ?y ?h
  case h => conv => lhs; whnf
@[reducible] noncomputable def fb_LispSignal_init : List Stmt := by
  refine (fun (y : List Stmt) (_ : fdB (inn (stm 4) 0) = y) => y) ?y ?h
  case h => conv => lhs; whnf
@[reducible] noncomputable def fs_LispSignal_init : Scope := by
  refine (fun (y : Scope) (_ : fdS (inn (stm 4) 0) = y) => y) ?y ?h
  case h => conv => lhs; whnf
@[reducible] noncomputable def fa_Regcode_init : Arguments := by
  refine (fun (y : Arguments) (_ : fdA (inn (stm 8) 0) = y) => y) ?y ?h
  case h => conv => lhs; whnf
@[reducible] noncomputable def fb_Regcode_init : List Stmt := by
  refine (fun (y : List Stmt) (_ : fdB (inn (stm 8) 0) = y) => y) ?y ?h
  case h => conv => lhs; whnf
@[reducible] noncomputable def fs_Regcode_init : Scope := by
  refine (fun (y : Scope) (_ : fdS (inn (stm 8) 0) = y) => y) ?y ?h
  case h => conv => lhs; whnf
@[reducible] noncomputable def fa_Compiling_init : Arguments := by
  refine (fun (y : Arguments) (_ : fdA (inn (stm 9) 0) = y) => y) ?y ?h
  case h => conv => lhs; whnf
@[reducible] noncomputable def fb_Compiling_init : List Stmt := by
  refine (fun (y : List Stmt) (_ : fdB (inn (stm 9) 0) = y) => y) ?y ?h
  case h => conv => lhs; whnf
@[reducible] noncomputable def fs_Compiling_init : Scope := by
  refine (fun (y : Scope) (_ : fdS (inn (stm 9) 0) = y) => y) ?y ?h
  case h => conv => lhs; whnf
@[reducible] noncomputable def fa_Compiling_label : Arguments := by
  refine (fun (y : Arguments) (_ : fdA (inn (stm 9) 1) = y) => y) ?y ?h
  case h => conv => lhs; whnf
@[reducible] noncomputable def fb_Compiling_label : List Stmt := by
  refine (fun (y : List Stmt) (_ : fdB (inn (stm 9) 1) = y) => y) ?y ?h
  case h => conv => lhs; whnf
@[reducible] noncomputable def fs_Compiling_label : Scope := by
  refine (fun (y : Scope) (_ : fdS (inn (stm 9) 1) = y) => y) ?y ?h
  case h => conv => lhs; whnf
@[reducible] noncomputable def fa_Compiling_wait : Arguments := by
  refine (fun (y : Arguments) (_ : fdA (inn (stm 9) 2) = y) => y) ?y ?h
  case h => conv => lhs; whnf
@[reducible] noncomputable def fb_Compiling_wait : List Stmt := by
  refine (fun (y : List Stmt) (_ : fdB (inn (stm 9) 2) = y) => y) ?y ?h
  case h => conv => lhs; whnf
@[reducible] noncomputable def fs_Compiling_wait : Scope := by
  refine (fun (y : Scope) (_ : fdS (inn (stm 9) 2) = y) => y) ?y ?h
  case h => conv => lhs; whnf
@[reducible] noncomputable def fa_Compiling_run : Arguments := by
  refine (fun (y : Arguments) (_ : fdA (inn (stm 9) 3) = y) => y) ?y ?h
  case h => conv => lhs; whnf
@[reducible] noncomputable def fb_Compiling_run : List Stmt := by
  refine (fun (y : List Stmt) (_ : fdB (inn (stm 9) 3) = y) => y) ?y ?h
  case h => conv => lhs; whnf
@[reducible] noncomputable def fs_Compiling_run : Scope := by
  refine (fun (y : Scope) (_ : fdS (inn (stm 9) 3) = y) => y) ?y ?h
  case h => conv => lhs; whnf
@[reducible] noncomputable def fa_Compiling_node : Arguments := by
  refine (fun (y : Arguments) (_ : fdA (inn (stm 9) 4) = y) => y) ?y ?h
  case h => conv => lhs; whnf
@[reducible] noncomputable def fb_Compiling_node : List Stmt := by
  refine (fun (y : List Stmt) (_ : fdB (inn (stm 9) 4) = y) => y) ?y ?h
  case h => conv => lhs; whnf
@[reducible] noncomputable def fs_Compiling_node : Scope := by
  refine (fun (y : Scope) (_ : fdS (inn (stm 9) 4) = y) => y) ?y ?h
  case h => conv => lhs; whnf
@[reducible] noncomputable def fa_Compiling_alternatives : Arguments := by
  refine (fun (y : Arguments) (_ : fdA (inn (stm 9) 5) = y) => y) ?y ?h
  case h => conv => lhs; whnf
@[reducible] noncomputable def fb_Compiling_alternatives : List Stmt := by
  refine (fun (y : List Stmt) (_ : fdB (inn (stm 9) 5) = y) => y) ?y ?h
  case h => conv => lhs; whnf
@[reducible] noncomputable def fs_Compiling_alternatives : Scope := by
  refine (fun (y : Scope) (_ : fdS (inn (stm 9) 5) = y) => y) ?y ?h
  case h => conv => lhs; whnf
@[reducible] noncomputable def fa_Compiling_repeated : Arguments := by
  refine (fun (y : Arguments) (_ : fdA (inn (stm 9) 6) = y) => y) ?y ?h
  case h => conv => lhs; whnf
@[reducible] noncomputable def fb_Compiling_repeated : List Stmt := by
  refine (fun (y : List Stmt) (_ : fdB (inn (stm 9) 6) = y) => y) ?y ?h
  case h => conv => lhs; whnf
@[reducible] noncomputable def fs_Compiling_repeated : Scope := by
  refine (fun (y : Scope) (_ : fdS (inn (stm 9) 6) = y) => y) ?y ?h
  case h => conv => lhs; whnf
@[reducible] noncomputable def fa_Compiling_split : Arguments := by
  refine (fun (y : Arguments) (_ : fdA (inn (stm 9) 7) = y) => y) ?y ?h
  case h => conv => lhs; whnf
@[reducible] noncomputable def fb_Compiling_split : List Stmt := by
  refine (fun (y : List Stmt) (_ : fdB (inn (stm 9) 7) = y) => y) ?y ?h
  case h => conv => lhs; whnf
@[reducible] noncomputable def fs_Compiling_split : Scope := by
  refine (fun (y : Scope) (_ : fdS (inn (stm 9) 7) = y) => y) ?y ?h
  case h => conv => lhs; whnf
@[reducible] noncomputable def fa_Compiling_loop : Arguments := by
  refine (fun (y : Arguments) (_ : fdA (inn (stm 9) 8) = y) => y) ?y ?h
  case h => conv => lhs; whnf
@[reducible] noncomputable def fb_Compiling_loop : List Stmt := by
  refine (fun (y : List Stmt) (_ : fdB (inn (stm 9) 8) = y) => y) ?y ?h
  case h => conv => lhs; whnf
@[reducible] noncomputable def fs_Compiling_loop : Scope := by
  refine (fun (y : Scope) (_ : fdS (inn (stm 9) 8) = y) => y) ?y ?h
  case h => conv => lhs; whnf
@[reducible] noncomputable def fa_Compiling_settled : Arguments := by
  refine (fun (y : Arguments) (_ : fdA (inn (stm 9) 9) = y) => y) ?y ?h
  case h => conv => lhs; whnf
@[reducible] noncomputable def fb_Compiling_settled : List Stmt := by
  refine (fun (y : List Stmt) (_ : fdB (inn (stm 9) 9) = y) => y) ?y ?h
  case h => conv => lhs; whnf
@[reducible] noncomputable def fs_Compiling_settled : Scope := by
  refine (fun (y : Scope) (_ : fdS (inn (stm 9) 9) = y) => y) ?y ?h
  case h => conv => lhs; whnf
@[reducible] noncomputable def fa_compile_node : Arguments := by
  refine (fun (y : Arguments) (_ : fdA (stm 10) = y) => y) ?y ?h
  case h => conv => lhs; whnf
@[reducible] noncomputable def fb_compile_node : List Stmt := by
  refine (fun (y : List Stmt) (_ : fdB (stm 10) = y) => y) ?y ?h
  case h => conv => lhs; whnf
@[reducible] noncomputable def fs_compile_node : Scope := by
  refine (fun (y : Scope) (_ : fdS (stm 10) = y) => y) ?y ?h
  case h => conv => lhs; whnf
@[reducible] noncomputable def fa_law_draw : Arguments := by
  refine (fun (y : Arguments) (_ : fdA (stm 12) = y) => y) ?y ?h
  case h => conv => lhs; whnf
@[reducible] noncomputable def fb_law_draw : List Stmt := by
  refine (fun (y : List Stmt) (_ : fdB (stm 12) = y) => y) ?y ?h
  case h => conv => lhs; whnf
@[reducible] noncomputable def fs_law_draw : Scope := by
  refine (fun (y : Scope) (_ : fdS (stm 12) = y) => y) ?y ?h
  case h => conv => lhs; whnf
@[reducible] noncomputable def fa_law_simple : Arguments := by
  refine (fun (y : Arguments) (_ : fdA (stm 13) = y) => y) ?y ?h
  case h => conv => lhs; whnf
@[reducible] noncomputable def fb_law_simple : List Stmt := by
  refine (fun (y : List Stmt) (_ : fdB (stm 13) = y) => y) ?y ?h
  case h => conv => lhs; whnf
@[reducible] noncomputable def fs_law_simple : Scope := by
  refine (fun (y : Scope) (_ : fdS (stm 13) = y) => y) ?y ?h
  case h => conv => lhs; whnf
@[reducible] noncomputable def fa_law_node : Arguments := by
  refine (fun (y : Arguments) (_ : fdA (stm 14) = y) => y) ?y ?h
  case h => conv => lhs; whnf
@[reducible] noncomputable def fb_law_node : List Stmt := by
  refine (fun (y : List Stmt) (_ : fdB (stm 14) = y) => y) ?y ?h
  case h => conv => lhs; whnf
@[reducible] noncomputable def fs_law_node : Scope := by
  refine (fun (y : Scope) (_ : fdS (stm 14) = y) => y) ?y ?h
  case h => conv => lhs; whnf
@[reducible] noncomputable def fa_law_small : Arguments := by
  refine (fun (y : Arguments) (_ : fdA (stm 15) = y) => y) ?y ?h
  case h => conv => lhs; whnf
@[reducible] noncomputable def fb_law_small : List Stmt := by
  refine (fun (y : List Stmt) (_ : fdB (stm 15) = y) => y) ?y ?h
  case h => conv => lhs; whnf
@[reducible] noncomputable def fs_law_small : Scope := by
  refine (fun (y : Scope) (_ : fdS (stm 15) = y) => y) ?y ?h
  case h => conv => lhs; whnf
@[reducible] noncomputable def fa_law_takes : Arguments := by
  refine (fun (y : Arguments) (_ : fdA (stm 16) = y) => y) ?y ?h
  case h => conv => lhs; whnf
@[reducible] noncomputable def fb_law_takes : List Stmt := by
  refine (fun (y : List Stmt) (_ : fdB (stm 16) = y) => y) ?y ?h
  case h => conv => lhs; whnf
@[reducible] noncomputable def fs_law_takes : Scope := by
  refine (fun (y : Scope) (_ : fdS (stm 16) = y) => y) ?y ?h
  case h => conv => lhs; whnf
@[reducible] noncomputable def fa_law_with : Arguments := by
  refine (fun (y : Arguments) (_ : fdA (stm 17) = y) => y) ?y ?h
  case h => conv => lhs; whnf
@[reducible] noncomputable def fb_law_with : List Stmt := by
  refine (fun (y : List Stmt) (_ : fdB (stm 17) = y) => y) ?y ?h
  case h => conv => lhs; whnf
@[reducible] noncomputable def fs_law_with : Scope := by
  refine (fun (y : Scope) (_ : fdS (stm 17) = y) => y) ?y ?h
  case h => conv => lhs; whnf
@[reducible] noncomputable def fa_law_each : Arguments := by
  refine (fun (y : Arguments) (_ : fdA (stm 18) = y) => y) ?y ?h
  case h => conv => lhs; whnf
@[reducible] noncomputable def fb_law_each : List Stmt := by
  refine (fun (y : List Stmt) (_ : fdB (stm 18) = y) => y) ?y ?h
  case h => conv => lhs; whnf
@[reducible] noncomputable def fs_law_each : Scope := by
  refine (fun (y : Scope) (_ : fdS (stm 18) = y) => y) ?y ?h
  case h => conv => lhs; whnf
@[reducible] noncomputable def fa_law_star : Arguments := by
  refine (fun (y : Arguments) (_ : fdA (stm 19) = y) => y) ?y ?h
  case h => conv => lhs; whnf
@[reducible] noncomputable def fb_law_star : List Stmt := by
  refine (fun (y : List Stmt) (_ : fdB (stm 19) = y) => y) ?y ?h
  case h => conv => lhs; whnf
@[reducible] noncomputable def fs_law_star : Scope := by
  refine (fun (y : Scope) (_ : fdS (stm 19) = y) => y) ?y ?h
  case h => conv => lhs; whnf
@[reducible] noncomputable def fa_law_some : Arguments := by
  refine (fun (y : Arguments) (_ : fdA (stm 20) = y) => y) ?y ?h
  case h => conv => lhs; whnf
@[reducible] noncomputable def fb_law_some : List Stmt := by
  refine (fun (y : List Stmt) (_ : fdB (stm 20) = y) => y) ?y ?h
  case h => conv => lhs; whnf
@[reducible] noncomputable def fs_law_some : Scope := by
  refine (fun (y : Scope) (_ : fdS (stm 20) = y) => y) ?y ?h
  case h => conv => lhs; whnf
@[reducible] noncomputable def fa_law_ways : Arguments := by
  refine (fun (y : Arguments) (_ : fdA (stm 21) = y) => y) ?y ?h
  case h => conv => lhs; whnf
@[reducible] noncomputable def fb_law_ways : List Stmt := by
  refine (fun (y : List Stmt) (_ : fdB (stm 21) = y) => y) ?y ?h
  case h => conv => lhs; whnf
@[reducible] noncomputable def fs_law_ways : Scope := by
  refine (fun (y : Scope) (_ : fdS (stm 21) = y) => y) ?y ?h
  case h => conv => lhs; whnf
@[reducible] noncomputable def fa_law_gone : Arguments := by
  refine (fun (y : Arguments) (_ : fdA (stm 22) = y) => y) ?y ?h
  case h => conv => lhs; whnf
@[reducible] noncomputable def fb_law_gone : List Stmt := by
  refine (fun (y : List Stmt) (_ : fdB (stm 22) = y) => y) ?y ?h
  case h => conv => lhs; whnf
@[reducible] noncomputable def fs_law_gone : Scope := by
  refine (fun (y : Scope) (_ : fdS (stm 22) = y) => y) ?y ?h
  case h => conv => lhs; whnf
@[reducible] noncomputable def fa_law_loops : Arguments := by
  refine (fun (y : Arguments) (_ : fdA (stm 23) = y) => y) ?y ?h
  case h => conv => lhs; whnf
@[reducible] noncomputable def fb_law_loops : List Stmt := by
  refine (fun (y : List Stmt) (_ : fdB (stm 23) = y) => y) ?y ?h
  case h => conv => lhs; whnf
@[reducible] noncomputable def fs_law_loops : Scope := by
  refine (fun (y : Scope) (_ : fdS (stm 23) = y) => y) ?y ?h
  case h => conv => lhs; whnf
@[reducible] noncomputable def fa_law : Arguments := by
  refine (fun (y : Arguments) (_ : fdA (stm 24) = y) => y) ?y ?h
  case h => conv => lhs; whnf
@[reducible] noncomputable def fb_law : List Stmt := by
  refine (fun (y : List Stmt) (_ : fdB (stm 24) = y) => y) ?y ?h
  case h => conv => lhs; whnf
@[reducible] noncomputable def fs_law : Scope := by
  refine (fun (y : Scope) (_ : fdS (stm 24) = y) => y) ?y ?h
  case h => conv => lhs; whnf
noncomputable def st_1 : Stmt := stm 1
noncomputable def st_2 : Stmt := stm 2
noncomputable def st_4 : Stmt := stm 4
noncomputable def st_6 : Stmt := stm 6
noncomputable def st_7 : Stmt := stm 7
noncomputable def st_8 : Stmt := stm 8
noncomputable def st_9 : Stmt := stm 9
noncomputable def st_10 : Stmt := stm 10
noncomputable def st_12 : Stmt := stm 12
noncomputable def st_13 : Stmt := stm 13
noncomputable def st_14 : Stmt := stm 14
noncomputable def st_15 : Stmt := stm 15
noncomputable def st_16 : Stmt := stm 16
noncomputable def st_17 : Stmt := stm 17
noncomputable def st_18 : Stmt := stm 18
noncomputable def st_19 : Stmt := stm 19
noncomputable def st_20 : Stmt := stm 20
noncomputable def st_21 : Stmt := stm 21
noncomputable def st_22 : Stmt := stm 22
noncomputable def st_23 : Stmt := stm 23
noncomputable def st_24 : Stmt := stm 24
noncomputable def hd.heap_39 : Params → Frag := fun P =>
  (nat_lit 2, { cls := Value.none, data := Data.dict #[{ hash := PyData.keyHash P (Str.ofString "type.__subclasses__.Exception.0"), key := Value.str (Str.ofString "type.__subclasses__.Exception.0") 232, val := Value.int 45 0 }, { hash := PyData.keyHash P (Str.ofString "type.__subclasses__.Exception.n"), key := Value.str (Str.ofString "type.__subclasses__.Exception.n") 233, val := Value.int 1 0 }] 2 }) ::
  (nat_lit 3, { cls := Value.type "dict", data := Data.dict #[{ hash := PyData.keyHash P (Str.ofString "__name__"), key := Value.str (Str.ofString "__name__") 165, val := Value.str (Str.ofString "law_oj0023_01") 420 }, { hash := PyData.keyHash P (Str.ofString "__doc__"), key := Value.str (Str.ofString "__doc__") 166, val := Value.none }, { hash := PyData.keyHash P (Str.ofString "__package__"), key := Value.str (Str.ofString "__package__") 167, val := Value.none }, { hash := PyData.keyHash P (Str.ofString "__loader__"), key := Value.str (Str.ofString "__loader__") 168, val := Value.builtin "__main__.__loader__#opaque" }, { hash := PyData.keyHash P (Str.ofString "__spec__"), key := Value.str (Str.ofString "__spec__") 169, val := Value.none }, { hash := PyData.keyHash P (Str.ofString "__annotations__"), key := Value.str (Str.ofString "__annotations__") 170, val := Value.ref 6 }, { hash := PyData.keyHash P (Str.ofString "__builtins__"), key := Value.str (Str.ofString "__builtins__") 171, val := Value.ref 4 }, { hash := PyData.keyHash P (Str.ofString "__file__"), key := Value.str (Str.ofString "__file__") 173, val := Value.str (Str.ofString "/claim/cut.py") 172 }, { hash := PyData.keyHash P (Str.ofString "__cached__"), key := Value.str (Str.ofString "__cached__") 174, val := Value.none }, { hash := PyData.keyHash P (Str.ofString "downcase"), key := Value.str (Str.ofString "downcase") 195, val := Value.ref 21 }, { hash := PyData.keyHash P (Str.ofString "fold"), key := Value.str (Str.ofString "fold") 202, val := Value.ref 28 }, { hash := PyData.keyHash P (Str.ofString "LispSignal"), key := Value.str (Str.ofString "LispSignal") 235, val := Value.ref 45 }, { hash := PyData.keyHash P (Str.ofString "MOST_ROWS"), key := Value.str (Str.ofString "MOST_ROWS") 239, val := Value.int 20000 238 }, { hash := PyData.keyHash P (Str.ofString "PLAIN"), key := Value.str (Str.ofString "PLAIN") 245, val := Value.ref 49 }, { hash := PyData.keyHash P (Str.ofString "Regcode"), key := Value.str (Str.ofString "Regcode") 280, val := Value.ref 66 }, { hash := PyData.keyHash P (Str.ofString "Compiling"), key := Value.str (Str.ofString "Compiling") 409, val := Value.ref 148 }, { hash := PyData.keyHash P (Str.ofString "compile_node"), key := Value.str (Str.ofString "compile_node") 419, val := Value.ref 159 }, { hash := PyData.keyHash P (Str.ofString "_law_draw"), key := Value.str (Str.ofString "_law_draw") 429, val := Value.ref 166 }, { hash := PyData.keyHash P (Str.ofString "_law_simple"), key := Value.str (Str.ofString "_law_simple") 436, val := Value.ref 173 }, { hash := PyData.keyHash P (Str.ofString "_law_node"), key := Value.str (Str.ofString "_law_node") 449, val := Value.ref 180 }, { hash := PyData.keyHash P (Str.ofString "_law_small"), key := Value.str (Str.ofString "_law_small") 456, val := Value.ref 187 }, { hash := PyData.keyHash P (Str.ofString "_law_takes"), key := Value.str (Str.ofString "_law_takes") 465, val := Value.ref 194 }, { hash := PyData.keyHash P (Str.ofString "_law_with"), key := Value.str (Str.ofString "_law_with") 475, val := Value.ref 201 }, { hash := PyData.keyHash P (Str.ofString "_law_each"), key := Value.str (Str.ofString "_law_each") 488, val := Value.ref 208 }, { hash := PyData.keyHash P (Str.ofString "_law_star"), key := Value.str (Str.ofString "_law_star") 502, val := Value.ref 215 }, { hash := PyData.keyHash P (Str.ofString "_law_some"), key := Value.str (Str.ofString "_law_some") 517, val := Value.ref 222 }, { hash := PyData.keyHash P (Str.ofString "_law_ways"), key := Value.str (Str.ofString "_law_ways") 523, val := Value.ref 227 }, { hash := PyData.keyHash P (Str.ofString "_law_gone"), key := Value.str (Str.ofString "_law_gone") 539, val := Value.ref 234 }, { hash := PyData.keyHash P (Str.ofString "_law_loops"), key := Value.str (Str.ofString "_law_loops") 545, val := Value.ref 239 }, { hash := PyData.keyHash P (Str.ofString "law"), key := Value.str (Str.ofString "law") 551, val := Value.ref 244 }] 30 }) ::
  (nat_lit 15, { cls := Value.type "tuple", data := Data.seq #[] }) ::
  (nat_lit 17, { cls := Value.type "tuple", data := Data.seq #[Value.str (Str.ofString "code") 192] }) ::
  (nat_lit 18, { cls := Value.type "tuple", data := Data.seq #[] }) ::
  (nat_lit 20, { cls := Value.type "code", data := Data.fields #[Value.str (Str.ofString "downcase") 189, Value.str (Str.ofString "downcase") 190, Value.str (Str.ofString "/claim/cut.py") 191, Value.int 2 0, Value.int 1 0, Value.int 0 0, Value.int 0 0, Value.int 3 0, Value.ref 15, Value.bool true, Value.int 181 0, Value.ref 16, Value.none, Value.ref 17, Value.ref 18, Value.ref 19, Value.int 193 0, Value.int 2 0, Value.str (Str.ofString "/claim/cut.py") 194] }) ::
  (nat_lit 21, { cls := Value.type "function", data := Data.func { name := Str.ofString "downcase", qualname := Str.ofString "downcase", params := fa_downcase, body := FuncBody.stmts fb_downcase, scope := fs_downcase, globals := 3, closure := [], defaults := Value.none, kwdefaults := Value.none, pyModule := Value.str (Str.ofString "emacs.casefold") 187, code := Value.ref 20 } }) ::
  (nat_lit 22, { cls := Value.type "tuple", data := Data.seq #[] }) ::
  (nat_lit 24, { cls := Value.type "tuple", data := Data.seq #[Value.str (Str.ofString "code") 199] }) ::
  (nat_lit 25, { cls := Value.type "tuple", data := Data.seq #[] }) ::
  (nat_lit 27, { cls := Value.type "code", data := Data.fields #[Value.str (Str.ofString "fold") 196, Value.str (Str.ofString "fold") 197, Value.str (Str.ofString "/claim/cut.py") 198, Value.int 6 0, Value.int 1 0, Value.int 0 0, Value.int 0 0, Value.int 3 0, Value.ref 22, Value.bool true, Value.int 181 0, Value.ref 23, Value.none, Value.ref 24, Value.ref 25, Value.ref 26, Value.int 200 0, Value.int 6 0, Value.str (Str.ofString "/claim/cut.py") 201] }) ::
  (nat_lit 28, { cls := Value.type "function", data := Data.func { name := Str.ofString "fold", qualname := Str.ofString "fold", params := fa_fold, body := FuncBody.stmts fb_fold, scope := fs_fold, globals := 3, closure := [], defaults := Value.none, kwdefaults := Value.none, pyModule := Value.str (Str.ofString "emacs.casefold") 187, code := Value.ref 27 } }) ::
  (nat_lit 29, { cls := Value.type "tuple", data := Data.seq #[Value.type "Exception"] }) ::
  (nat_lit 36, { cls := Value.type "tuple", data := Data.seq #[] }) ::
  (nat_lit 38, { cls := Value.type "tuple", data := Data.seq #[Value.str (Str.ofString "self") 220, Value.str (Str.ofString "symbol") 221, Value.str (Str.ofString "data") 222] }) ::
  (nat_lit 39, { cls := Value.type "tuple", data := Data.seq #[] }) ::
  (nat_lit 41, { cls := Value.type "code", data := Data.fields #[Value.str (Str.ofString "__init__") 217, Value.str (Str.ofString "LispSignal.__init__") 218, Value.str (Str.ofString "/claim/cut.py") 219, Value.int 11 0, Value.int 3 0, Value.int 0 0, Value.int 0 0, Value.int 3 0, Value.ref 36, Value.bool true, Value.int 181 0, Value.ref 37, Value.none, Value.ref 38, Value.ref 39, Value.ref 40, Value.int 223 0, Value.int 11 0, Value.str (Str.ofString "/claim/cut.py") 224] }) ::
  (nat_lit 42, { cls := Value.type "function", data := Data.func { name := Str.ofString "__init__", qualname := Str.ofString "LispSignal.__init__", params := fa_LispSignal_init, body := FuncBody.stmts fb_LispSignal_init, scope := fs_LispSignal_init, globals := 3, closure := [], defaults := Value.none, kwdefaults := Value.none, pyModule := Value.str (Str.ofString "emacs.errors") 203, code := Value.ref 41 } }) ::
  (nat_lit 43, { cls := Value.type "tuple", data := Data.seq #[Value.str (Str.ofString "data") 226, Value.str (Str.ofString "symbol") 227] }) ::
  (nat_lit 44, { cls := Value.type "dict", data := Data.dict #[{ hash := PyData.keyHash P (Str.ofString "__module__"), key := Value.str (Str.ofString "__module__") 212, val := Value.str (Str.ofString "emacs.errors") 203 }, { hash := PyData.keyHash P (Str.ofString "__firstlineno__"), key := Value.str (Str.ofString "__firstlineno__") 216, val := Value.int 9 215 }, { hash := PyData.keyHash P (Str.ofString "__init__"), key := Value.str (Str.ofString "__init__") 225, val := Value.ref 42 }, { hash := PyData.keyHash P (Str.ofString "__static_attributes__"), key := Value.str (Str.ofString "__static_attributes__") 228, val := Value.ref 43 }, { hash := PyData.keyHash P (Str.ofString "__weakref__"), key := Value.str (Str.ofString "__weakref__") 230, val := Value.ref 46 }, { hash := PyData.keyHash P (Str.ofString "__doc__"), key := Value.str (Str.ofString "__doc__") 231, val := Value.none }] 3 }) ::
  (nat_lit 45, { cls := Value.type "type", data := Data.cls { name := Str.ofString "LispSignal", bases := [Value.type "Exception"], mro := [Value.ref 45, Value.type "Exception", Value.type "BaseException", Value.type "object"], ns := 44, qualname := Str.ofString "LispSignal" }, slots := #[some (Value.ref 29), none, some (Value.str (Str.ofString "LispSignal") 205), some (Value.str (Str.ofString "LispSignal") 213), some (Value.builtin "Exception.__new__"), some (Value.bool true)] }) ::
  (nat_lit 46, { cls := Value.type "getset_descriptor", data := Data.fields #[Value.str (Str.ofString "__weakref__") 229, Value.ref 45, Value.builtin "ExceptionGroup.__weakref__", Value.none] }) ::
  (nat_lit 49, { cls := Value.type "tuple", data := Data.seq #[Value.str (Str.ofString "any") 240, Value.str (Str.ofString "set") 241, Value.str (Str.ofString "syntax") 242, Value.str (Str.ofString "at") 243, Value.str (Str.ofString "back") 244] }) ::
  (nat_lit 57, { cls := Value.type "tuple", data := Data.seq #[] }) ::
  (nat_lit 59, { cls := Value.type "tuple", data := Data.seq #[Value.str (Str.ofString "self") 261, Value.str (Str.ofString "rows") 262, Value.str (Str.ofString "groups") 263, Value.str (Str.ofString "marks") 264, Value.str (Str.ofString "folds") 265] }) ::
  (nat_lit 60, { cls := Value.type "tuple", data := Data.seq #[] }) ::
  (nat_lit 62, { cls := Value.type "code", data := Data.fields #[Value.str (Str.ofString "__init__") 258, Value.str (Str.ofString "Regcode.__init__") 259, Value.str (Str.ofString "/claim/cut.py") 260, Value.int 19 0, Value.int 5 0, Value.int 0 0, Value.int 0 0, Value.int 3 0, Value.ref 57, Value.bool true, Value.int 181 0, Value.ref 58, Value.none, Value.ref 59, Value.ref 60, Value.ref 61, Value.int 266 0, Value.int 19 0, Value.str (Str.ofString "/claim/cut.py") 267] }) ::
  (nat_lit 63, { cls := Value.type "function", data := Data.func { name := Str.ofString "__init__", qualname := Str.ofString "Regcode.__init__", params := fa_Regcode_init, body := FuncBody.stmts fb_Regcode_init, scope := fs_Regcode_init, globals := 3, closure := [], defaults := Value.none, kwdefaults := Value.none, pyModule := Value.str (Str.ofString "emacs.regcode") 236, code := Value.ref 62 } }) ::
  (nat_lit 64, { cls := Value.type "tuple", data := Data.seq #[Value.str (Str.ofString "folds") 269, Value.str (Str.ofString "groups") 270, Value.str (Str.ofString "marks") 271, Value.str (Str.ofString "rows") 272] }) ::
  (nat_lit 65, { cls := Value.type "dict", data := Data.dict #[{ hash := PyData.keyHash P (Str.ofString "__module__"), key := Value.str (Str.ofString "__module__") 253, val := Value.str (Str.ofString "emacs.regcode") 236 }, { hash := PyData.keyHash P (Str.ofString "__firstlineno__"), key := Value.str (Str.ofString "__firstlineno__") 257, val := Value.int 17 256 }, { hash := PyData.keyHash P (Str.ofString "__init__"), key := Value.str (Str.ofString "__init__") 268, val := Value.ref 63 }, { hash := PyData.keyHash P (Str.ofString "__static_attributes__"), key := Value.str (Str.ofString "__static_attributes__") 273, val := Value.ref 64 }, { hash := PyData.keyHash P (Str.ofString "__dict__"), key := Value.str (Str.ofString "__dict__") 275, val := Value.ref 67 }, { hash := PyData.keyHash P (Str.ofString "__weakref__"), key := Value.str (Str.ofString "__weakref__") 277, val := Value.ref 68 }, { hash := PyData.keyHash P (Str.ofString "__doc__"), key := Value.str (Str.ofString "__doc__") 278, val := Value.none }] 4 }) ::
  (nat_lit 66, { cls := Value.type "type", data := Data.cls { name := Str.ofString "Regcode", bases := [Value.type "object"], mro := [Value.ref 66, Value.type "object"], ns := 65, qualname := Str.ofString "Regcode" }, slots := #[none, none, some (Value.str (Str.ofString "Regcode") 246), some (Value.str (Str.ofString "Regcode") 254), some (Value.builtin "object.__new__"), some (Value.bool true)] }) ::
  (nat_lit 67, { cls := Value.type "getset_descriptor", data := Data.fields #[Value.str (Str.ofString "__dict__") 274, Value.ref 66, Value.builtin "function.__dict__", Value.builtin "function.__dict__#set"] }) ::
  (nat_lit 68, { cls := Value.type "getset_descriptor", data := Data.fields #[Value.str (Str.ofString "__weakref__") 276, Value.ref 66, Value.builtin "ExceptionGroup.__weakref__", Value.none] }) ::
  (nat_lit 78, { cls := Value.type "tuple", data := Data.seq #[] }) ::
  (nat_lit 80, { cls := Value.type "tuple", data := Data.seq #[Value.str (Str.ofString "self") 296, Value.str (Str.ofString "folds") 297] }) ::
  (nat_lit 81, { cls := Value.type "tuple", data := Data.seq #[] }) ::
  (nat_lit 83, { cls := Value.type "code", data := Data.fields #[Value.str (Str.ofString "__init__") 293, Value.str (Str.ofString "Compiling.__init__") 294, Value.str (Str.ofString "/claim/cut.py") 295, Value.int 26 0, Value.int 2 0, Value.int 0 0, Value.int 0 0, Value.int 3 0, Value.ref 78, Value.bool true, Value.int 181 0, Value.ref 79, Value.none, Value.ref 80, Value.ref 81, Value.ref 82, Value.int 298 0, Value.int 26 0, Value.str (Str.ofString "/claim/cut.py") 299] }) ::
  (nat_lit 84, { cls := Value.type "function", data := Data.func { name := Str.ofString "__init__", qualname := Str.ofString "Compiling.__init__", params := fa_Compiling_init, body := FuncBody.stmts fb_Compiling_init, scope := fs_Compiling_init, globals := 3, closure := [], defaults := Value.none, kwdefaults := Value.none, pyModule := Value.str (Str.ofString "emacs.regcode") 236, code := Value.ref 83 } }) ::
  (nat_lit 85, { cls := Value.type "tuple", data := Data.seq #[] }) ::
  (nat_lit 87, { cls := Value.type "tuple", data := Data.seq #[Value.str (Str.ofString "self") 304] }) ::
  (nat_lit 88, { cls := Value.type "tuple", data := Data.seq #[] }) ::
  (nat_lit 90, { cls := Value.type "code", data := Data.fields #[Value.str (Str.ofString "label") 301, Value.str (Str.ofString "Compiling.label") 302, Value.str (Str.ofString "/claim/cut.py") 303, Value.int 34 0, Value.int 1 0, Value.int 0 0, Value.int 0 0, Value.int 3 0, Value.ref 85, Value.bool true, Value.int 181 0, Value.ref 86, Value.none, Value.ref 87, Value.ref 88, Value.ref 89, Value.int 305 0, Value.int 34 0, Value.str (Str.ofString "/claim/cut.py") 306] }) ::
  (nat_lit 91, { cls := Value.type "function", data := Data.func { name := Str.ofString "label", qualname := Str.ofString "Compiling.label", params := fa_Compiling_label, body := FuncBody.stmts fb_Compiling_label, scope := fs_Compiling_label, globals := 3, closure := [], defaults := Value.none, kwdefaults := Value.none, pyModule := Value.str (Str.ofString "emacs.regcode") 236, code := Value.ref 90 } }) ::
  (nat_lit 92, { cls := Value.type "tuple", data := Data.seq #[] }) ::
  (nat_lit 94, { cls := Value.type "tuple", data := Data.seq #[Value.str (Str.ofString "self") 311, Value.str (Str.ofString "tasks") 312, Value.str (Str.ofString "task") 313] }) ::
  (nat_lit 95, { cls := Value.type "tuple", data := Data.seq #[] }) ::
  (nat_lit 97, { cls := Value.type "code", data := Data.fields #[Value.str (Str.ofString "wait") 308, Value.str (Str.ofString "Compiling.wait") 309, Value.str (Str.ofString "/claim/cut.py") 310, Value.int 38 0, Value.int 2 0, Value.int 0 0, Value.int 0 0, Value.int 3 0, Value.ref 92, Value.bool true, Value.int 181 0, Value.ref 93, Value.none, Value.ref 94, Value.ref 95, Value.ref 96, Value.int 314 0, Value.int 38 0, Value.str (Str.ofString "/claim/cut.py") 315] }) ::
  (nat_lit 98, { cls := Value.type "function", data := Data.func { name := Str.ofString "wait", qualname := Str.ofString "Compiling.wait", params := fa_Compiling_wait, body := FuncBody.stmts fb_Compiling_wait, scope := fs_Compiling_wait, globals := 3, closure := [], defaults := Value.none, kwdefaults := Value.none, pyModule := Value.str (Str.ofString "emacs.regcode") 236, code := Value.ref 97 } }) ::
  (nat_lit 99, { cls := Value.type "tuple", data := Data.seq #[] }) ::
  (nat_lit 101, { cls := Value.type "tuple", data := Data.seq #[Value.str (Str.ofString "self") 320, Value.str (Str.ofString "node") 321, Value.str (Str.ofString "word") 322, Value.str (Str.ofString "thing") 323] }) ::
  (nat_lit 102, { cls := Value.type "tuple", data := Data.seq #[] }) ::
  (nat_lit 104, { cls := Value.type "code", data := Data.fields #[Value.str (Str.ofString "run") 317, Value.str (Str.ofString "Compiling.run") 318, Value.str (Str.ofString "/claim/cut.py") 319, Value.int 44 0, Value.int 2 0, Value.int 0 0, Value.int 0 0, Value.int 3 0, Value.ref 99, Value.bool true, Value.int 181 0, Value.ref 100, Value.none, Value.ref 101, Value.ref 102, Value.ref 103, Value.int 324 0, Value.int 44 0, Value.str (Str.ofString "/claim/cut.py") 325] }) ::
  (nat_lit 105, { cls := Value.type "function", data := Data.func { name := Str.ofString "run", qualname := Str.ofString "Compiling.run", params := fa_Compiling_run, body := FuncBody.stmts fb_Compiling_run, scope := fs_Compiling_run, globals := 3, closure := [], defaults := Value.none, kwdefaults := Value.none, pyModule := Value.str (Str.ofString "emacs.regcode") 236, code := Value.ref 104 } }) ::
  (nat_lit 106, { cls := Value.type "tuple", data := Data.seq #[] }) ::
  (nat_lit 109, { cls := Value.type "code", data := Data.fields #[Value.str (Str.ofString "node") 327, Value.str (Str.ofString "Compiling.node") 328, Value.str (Str.ofString "/claim/cut.py") 329, Value.int 55 0, Value.int 2 0, Value.int 0 0, Value.int 0 0, Value.int 3 0, Value.ref 106, Value.bool true, Value.int 181 0, Value.ref 107, Value.none, Value.none, Value.none, Value.ref 108, Value.int 330 0, Value.int 55 0, Value.str (Str.ofString "/claim/cut.py") 331] }) ::
  (nat_lit 110, { cls := Value.type "function", data := Data.func { name := Str.ofString "node", qualname := Str.ofString "Compiling.node", params := fa_Compiling_node, body := FuncBody.stmts fb_Compiling_node, scope := fs_Compiling_node, globals := 3, closure := [], defaults := Value.none, kwdefaults := Value.none, pyModule := Value.str (Str.ofString "emacs.regcode") 236, code := Value.ref 109 } }) ::
  (nat_lit 111, { cls := Value.type "tuple", data := Data.seq #[] }) ::
  (nat_lit 113, { cls := Value.type "tuple", data := Data.seq #[Value.str (Str.ofString "self") 336, Value.str (Str.ofString "nodes") 337, Value.str (Str.ofString "end") 338, Value.str (Str.ofString "tasks") 339, Value.str (Str.ofString "node") 340, Value.str (Str.ofString "here") 341, Value.str (Str.ofString "later") 342] }) ::
  (nat_lit 114, { cls := Value.type "tuple", data := Data.seq #[] }) ::
  (nat_lit 116, { cls := Value.type "code", data := Data.fields #[Value.str (Str.ofString "alternatives") 333, Value.str (Str.ofString "Compiling.alternatives") 334, Value.str (Str.ofString "/claim/cut.py") 335, Value.int 72 0, Value.int 2 0, Value.int 0 0, Value.int 0 0, Value.int 3 0, Value.ref 111, Value.bool true, Value.int 181 0, Value.ref 112, Value.none, Value.ref 113, Value.ref 114, Value.ref 115, Value.int 343 0, Value.int 72 0, Value.str (Str.ofString "/claim/cut.py") 344] }) ::
  (nat_lit 117, { cls := Value.type "function", data := Data.func { name := Str.ofString "alternatives", qualname := Str.ofString "Compiling.alternatives", params := fa_Compiling_alternatives, body := FuncBody.stmts fb_Compiling_alternatives, scope := fs_Compiling_alternatives, globals := 3, closure := [], defaults := Value.none, kwdefaults := Value.none, pyModule := Value.str (Str.ofString "emacs.regcode") 236, code := Value.ref 116 } }) ::
  (nat_lit 118, { cls := Value.type "tuple", data := Data.seq #[] }) ::
  (nat_lit 120, { cls := Value.type "tuple", data := Data.seq #[Value.str (Str.ofString "self") 349, Value.str (Str.ofString "node") 350, Value.str (Str.ofString "word") 351, Value.str (Str.ofString "least") 352, Value.str (Str.ofString "most") 353, Value.str (Str.ofString "is_greedy") 354, Value.str (Str.ofString "part") 355, Value.str (Str.ofString "tasks") 356, Value.str (Str.ofString "end") 357, Value.str (Str.ofString "turn") 358, Value.str (Str.ofString "here") 359] }) ::
  (nat_lit 121, { cls := Value.type "tuple", data := Data.seq #[] }) ::
  (nat_lit 123, { cls := Value.type "code", data := Data.fields #[Value.str (Str.ofString "repeated") 346, Value.str (Str.ofString "Compiling.repeated") 347, Value.str (Str.ofString "/claim/cut.py") 348, Value.int 80 0, Value.int 2 0, Value.int 0 0, Value.int 0 0, Value.int 3 0, Value.ref 118, Value.bool true, Value.int 181 0, Value.ref 119, Value.none, Value.ref 120, Value.ref 121, Value.ref 122, Value.int 360 0, Value.int 80 0, Value.str (Str.ofString "/claim/cut.py") 361] }) ::
  (nat_lit 124, { cls := Value.type "function", data := Data.func { name := Str.ofString "repeated", qualname := Str.ofString "Compiling.repeated", params := fa_Compiling_repeated, body := FuncBody.stmts fb_Compiling_repeated, scope := fs_Compiling_repeated, globals := 3, closure := [], defaults := Value.none, kwdefaults := Value.none, pyModule := Value.str (Str.ofString "emacs.regcode") 236, code := Value.ref 123 } }) ::
  (nat_lit 125, { cls := Value.type "tuple", data := Data.seq #[] }) ::
  (nat_lit 127, { cls := Value.type "tuple", data := Data.seq #[Value.str (Str.ofString "self") 366, Value.str (Str.ofString "here") 367, Value.str (Str.ofString "end") 368, Value.str (Str.ofString "is_greedy") 369] }) ::
  (nat_lit 128, { cls := Value.type "tuple", data := Data.seq #[] }) ::
  (nat_lit 130, { cls := Value.type "code", data := Data.fields #[Value.str (Str.ofString "split") 363, Value.str (Str.ofString "Compiling.split") 364, Value.str (Str.ofString "/claim/cut.py") 365, Value.int 92 0, Value.int 4 0, Value.int 0 0, Value.int 0 0, Value.int 3 0, Value.ref 125, Value.bool true, Value.int 181 0, Value.ref 126, Value.none, Value.ref 127, Value.ref 128, Value.ref 129, Value.int 370 0, Value.int 92 0, Value.str (Str.ofString "/claim/cut.py") 371] }) ::
  (nat_lit 131, { cls := Value.type "function", data := Data.func { name := Str.ofString "split", qualname := Str.ofString "Compiling.split", params := fa_Compiling_split, body := FuncBody.stmts fb_Compiling_split, scope := fs_Compiling_split, globals := 3, closure := [], defaults := Value.none, kwdefaults := Value.none, pyModule := Value.str (Str.ofString "emacs.regcode") 236, code := Value.ref 130 } }) ::
  (nat_lit 132, { cls := Value.type "tuple", data := Data.seq #[] }) ::
  (nat_lit 134, { cls := Value.type "tuple", data := Data.seq #[Value.str (Str.ofString "self") 376, Value.str (Str.ofString "part") 377, Value.str (Str.ofString "is_greedy") 378, Value.str (Str.ofString "end") 379, Value.str (Str.ofString "begin") 380, Value.str (Str.ofString "here") 381, Value.str (Str.ofString "mark") 382, Value.str (Str.ofString "tasks") 383] }) ::
  (nat_lit 135, { cls := Value.type "tuple", data := Data.seq #[] }) ::
  (nat_lit 137, { cls := Value.type "code", data := Data.fields #[Value.str (Str.ofString "loop") 373, Value.str (Str.ofString "Compiling.loop") 374, Value.str (Str.ofString "/claim/cut.py") 375, Value.int 95 0, Value.int 4 0, Value.int 0 0, Value.int 0 0, Value.int 3 0, Value.ref 132, Value.bool true, Value.int 181 0, Value.ref 133, Value.none, Value.ref 134, Value.ref 135, Value.ref 136, Value.int 384 0, Value.int 95 0, Value.str (Str.ofString "/claim/cut.py") 385] }) ::
  (nat_lit 138, { cls := Value.type "function", data := Data.func { name := Str.ofString "loop", qualname := Str.ofString "Compiling.loop", params := fa_Compiling_loop, body := FuncBody.stmts fb_Compiling_loop, scope := fs_Compiling_loop, globals := 3, closure := [], defaults := Value.none, kwdefaults := Value.none, pyModule := Value.str (Str.ofString "emacs.regcode") 236, code := Value.ref 137 } }) ::
  (nat_lit 139, { cls := Value.type "tuple", data := Data.seq #[] }) ::
  (nat_lit 141, { cls := Value.type "tuple", data := Data.seq #[Value.str (Str.ofString "self") 390, Value.str (Str.ofString "found") 391, Value.str (Str.ofString "row") 392] }) ::
  (nat_lit 142, { cls := Value.type "tuple", data := Data.seq #[] }) ::
  (nat_lit 144, { cls := Value.type "code", data := Data.fields #[Value.str (Str.ofString "settled") 387, Value.str (Str.ofString "Compiling.settled") 388, Value.str (Str.ofString "/claim/cut.py") 389, Value.int 102 0, Value.int 1 0, Value.int 0 0, Value.int 0 0, Value.int 3 0, Value.ref 139, Value.bool true, Value.int 181 0, Value.ref 140, Value.none, Value.ref 141, Value.ref 142, Value.ref 143, Value.int 393 0, Value.int 102 0, Value.str (Str.ofString "/claim/cut.py") 394] }) ::
  (nat_lit 145, { cls := Value.type "function", data := Data.func { name := Str.ofString "settled", qualname := Str.ofString "Compiling.settled", params := fa_Compiling_settled, body := FuncBody.stmts fb_Compiling_settled, scope := fs_Compiling_settled, globals := 3, closure := [], defaults := Value.none, kwdefaults := Value.none, pyModule := Value.str (Str.ofString "emacs.regcode") 236, code := Value.ref 144 } }) ::
  (nat_lit 146, { cls := Value.type "tuple", data := Data.seq #[Value.str (Str.ofString "folds") 396, Value.str (Str.ofString "labels") 397, Value.str (Str.ofString "marks") 398, Value.str (Str.ofString "places") 399, Value.str (Str.ofString "rows") 400, Value.str (Str.ofString "waiting") 401] }) ::
  (nat_lit 147, { cls := Value.type "dict", data := Data.dict #[{ hash := PyData.keyHash P (Str.ofString "__module__"), key := Value.str (Str.ofString "__module__") 288, val := Value.str (Str.ofString "emacs.regcode") 236 }, { hash := PyData.keyHash P (Str.ofString "__firstlineno__"), key := Value.str (Str.ofString "__firstlineno__") 292, val := Value.int 24 291 }, { hash := PyData.keyHash P (Str.ofString "__init__"), key := Value.str (Str.ofString "__init__") 300, val := Value.ref 84 }, { hash := PyData.keyHash P (Str.ofString "label"), key := Value.str (Str.ofString "label") 307, val := Value.ref 91 }, { hash := PyData.keyHash P (Str.ofString "wait"), key := Value.str (Str.ofString "wait") 316, val := Value.ref 98 }, { hash := PyData.keyHash P (Str.ofString "run"), key := Value.str (Str.ofString "run") 326, val := Value.ref 105 }, { hash := PyData.keyHash P (Str.ofString "node"), key := Value.str (Str.ofString "node") 332, val := Value.ref 110 }, { hash := PyData.keyHash P (Str.ofString "alternatives"), key := Value.str (Str.ofString "alternatives") 345, val := Value.ref 117 }, { hash := PyData.keyHash P (Str.ofString "repeated"), key := Value.str (Str.ofString "repeated") 362, val := Value.ref 124 }, { hash := PyData.keyHash P (Str.ofString "split"), key := Value.str (Str.ofString "split") 372, val := Value.ref 131 }, { hash := PyData.keyHash P (Str.ofString "loop"), key := Value.str (Str.ofString "loop") 386, val := Value.ref 138 }, { hash := PyData.keyHash P (Str.ofString "settled"), key := Value.str (Str.ofString "settled") 395, val := Value.ref 145 }, { hash := PyData.keyHash P (Str.ofString "__static_attributes__"), key := Value.str (Str.ofString "__static_attributes__") 402, val := Value.ref 146 }, { hash := PyData.keyHash P (Str.ofString "__dict__"), key := Value.str (Str.ofString "__dict__") 404, val := Value.ref 149 }, { hash := PyData.keyHash P (Str.ofString "__weakref__"), key := Value.str (Str.ofString "__weakref__") 406, val := Value.ref 150 }, { hash := PyData.keyHash P (Str.ofString "__doc__"), key := Value.str (Str.ofString "__doc__") 407, val := Value.none }] 4 }) ::
  (nat_lit 148, { cls := Value.type "type", data := Data.cls { name := Str.ofString "Compiling", bases := [Value.type "object"], mro := [Value.ref 148, Value.type "object"], ns := 147, qualname := Str.ofString "Compiling" }, slots := #[none, none, some (Value.str (Str.ofString "Compiling") 281), some (Value.str (Str.ofString "Compiling") 289), some (Value.builtin "object.__new__"), some (Value.bool true)] }) ::
  (nat_lit 149, { cls := Value.type "getset_descriptor", data := Data.fields #[Value.str (Str.ofString "__dict__") 403, Value.ref 148, Value.builtin "function.__dict__", Value.builtin "function.__dict__#set"] }) ::
  (nat_lit 150, { cls := Value.type "getset_descriptor", data := Data.fields #[Value.str (Str.ofString "__weakref__") 405, Value.ref 148, Value.builtin "ExceptionGroup.__weakref__", Value.none] }) ::
  (nat_lit 153, { cls := Value.type "tuple", data := Data.seq #[] }) ::
  (nat_lit 155, { cls := Value.type "tuple", data := Data.seq #[Value.str (Str.ofString "node") 413, Value.str (Str.ofString "groups") 414, Value.str (Str.ofString "folds") 415, Value.str (Str.ofString "compiling") 416] }) ::
  (nat_lit 156, { cls := Value.type "tuple", data := Data.seq #[] }) ::
  (nat_lit 158, { cls := Value.type "code", data := Data.fields #[Value.str (Str.ofString "compile_node") 410, Value.str (Str.ofString "compile_node") 411, Value.str (Str.ofString "/claim/cut.py") 412, Value.int 110 0, Value.int 3 0, Value.int 0 0, Value.int 0 0, Value.int 3 0, Value.ref 153, Value.bool true, Value.int 181 0, Value.ref 154, Value.none, Value.ref 155, Value.ref 156, Value.ref 157, Value.int 417 0, Value.int 110 0, Value.str (Str.ofString "/claim/cut.py") 418] }) ::
  (nat_lit 159, { cls := Value.type "function", data := Data.func { name := Str.ofString "compile_node", qualname := Str.ofString "compile_node", params := fa_compile_node, body := FuncBody.stmts fb_compile_node, scope := fs_compile_node, globals := 3, closure := [], defaults := Value.none, kwdefaults := Value.none, pyModule := Value.str (Str.ofString "emacs.regcode") 236, code := Value.ref 158 } }) ::
  (nat_lit 160, { cls := Value.type "tuple", data := Data.seq #[] }) ::
  (nat_lit 162, { cls := Value.type "tuple", data := Data.seq #[Value.str (Str.ofString "deck") 425, Value.str (Str.ofString "many") 426] }) ::
  (nat_lit 163, { cls := Value.type "tuple", data := Data.seq #[] }) ::
  (nat_lit 165, { cls := Value.type "code", data := Data.fields #[Value.str (Str.ofString "_law_draw") 422, Value.str (Str.ofString "_law_draw") 423, Value.str (Str.ofString "/claim/cut.py") 424, Value.int 115 0, Value.int 2 0, Value.int 0 0, Value.int 0 0, Value.int 3 0, Value.ref 160, Value.bool true, Value.int 181 0, Value.ref 161, Value.none, Value.ref 162, Value.ref 163, Value.ref 164, Value.int 427 0, Value.int 115 0, Value.str (Str.ofString "/claim/cut.py") 428] }) ::
  (nat_lit 166, { cls := Value.type "function", data := Data.func { name := Str.ofString "_law_draw", qualname := Str.ofString "_law_draw", params := fa_law_draw, body := FuncBody.stmts fb_law_draw, scope := fs_law_draw, globals := 3, closure := [], defaults := Value.none, kwdefaults := Value.none, pyModule := Value.str (Str.ofString "law_oj0023_01") 420, code := Value.ref 165 } }) ::
  (nat_lit 167, { cls := Value.type "tuple", data := Data.seq #[] }) ::
  (nat_lit 169, { cls := Value.type "tuple", data := Data.seq #[Value.str (Str.ofString "deck") 433] }) ::
  (nat_lit 170, { cls := Value.type "tuple", data := Data.seq #[] }) ::
  (nat_lit 172, { cls := Value.type "code", data := Data.fields #[Value.str (Str.ofString "_law_simple") 430, Value.str (Str.ofString "_law_simple") 431, Value.str (Str.ofString "/claim/cut.py") 432, Value.int 117 0, Value.int 1 0, Value.int 0 0, Value.int 0 0, Value.int 3 0, Value.ref 167, Value.bool true, Value.int 181 0, Value.ref 168, Value.none, Value.ref 169, Value.ref 170, Value.ref 171, Value.int 434 0, Value.int 117 0, Value.str (Str.ofString "/claim/cut.py") 435] }) ::
  (nat_lit 173, { cls := Value.type "function", data := Data.func { name := Str.ofString "_law_simple", qualname := Str.ofString "_law_simple", params := fa_law_simple, body := FuncBody.stmts fb_law_simple, scope := fs_law_simple, globals := 3, closure := [], defaults := Value.none, kwdefaults := Value.none, pyModule := Value.str (Str.ofString "law_oj0023_01") 420, code := Value.ref 172 } }) ::
  (nat_lit 174, { cls := Value.type "tuple", data := Data.seq #[] }) ::
  (nat_lit 176, { cls := Value.type "tuple", data := Data.seq #[Value.str (Str.ofString "deck") 440, Value.str (Str.ofString "deep") 441, Value.str (Str.ofString "count") 442, Value.str (Str.ofString "way") 443, Value.str (Str.ofString "least") 444, Value.str (Str.ofString "many") 445, Value.str (Str.ofString "is_greedy") 446] }) ::
  (nat_lit 177, { cls := Value.type "tuple", data := Data.seq #[] }) ::
  (nat_lit 179, { cls := Value.type "code", data := Data.fields #[Value.str (Str.ofString "_law_node") 437, Value.str (Str.ofString "_law_node") 438, Value.str (Str.ofString "/claim/cut.py") 439, Value.int 119 0, Value.int 3 0, Value.int 0 0, Value.int 0 0, Value.int 3 0, Value.ref 174, Value.bool true, Value.int 181 0, Value.ref 175, Value.none, Value.ref 176, Value.ref 177, Value.ref 178, Value.int 447 0, Value.int 119 0, Value.str (Str.ofString "/claim/cut.py") 448] }) ::
  (nat_lit 180, { cls := Value.type "function", data := Data.func { name := Str.ofString "_law_node", qualname := Str.ofString "_law_node", params := fa_law_node, body := FuncBody.stmts fb_law_node, scope := fs_law_node, globals := 3, closure := [], defaults := Value.none, kwdefaults := Value.none, pyModule := Value.str (Str.ofString "law_oj0023_01") 420, code := Value.ref 179 } }) ::
  (nat_lit 181, { cls := Value.type "tuple", data := Data.seq #[] }) ::
  (nat_lit 183, { cls := Value.type "tuple", data := Data.seq #[Value.str (Str.ofString "code") 453] }) ::
  (nat_lit 184, { cls := Value.type "tuple", data := Data.seq #[] }) ::
  (nat_lit 186, { cls := Value.type "code", data := Data.fields #[Value.str (Str.ofString "_law_small") 450, Value.str (Str.ofString "_law_small") 451, Value.str (Str.ofString "/claim/cut.py") 452, Value.int 132 0, Value.int 1 0, Value.int 0 0, Value.int 0 0, Value.int 3 0, Value.ref 181, Value.bool true, Value.int 181 0, Value.ref 182, Value.none, Value.ref 183, Value.ref 184, Value.ref 185, Value.int 454 0, Value.int 132 0, Value.str (Str.ofString "/claim/cut.py") 455] }) ::
  (nat_lit 187, { cls := Value.type "function", data := Data.func { name := Str.ofString "_law_small", qualname := Str.ofString "_law_small", params := fa_law_small, body := FuncBody.stmts fb_law_small, scope := fs_law_small, globals := 3, closure := [], defaults := Value.none, kwdefaults := Value.none, pyModule := Value.str (Str.ofString "law_oj0023_01") 420, code := Value.ref 186 } }) ::
  (nat_lit 188, { cls := Value.type "tuple", data := Data.seq #[] }) ::
  (nat_lit 190, { cls := Value.type "tuple", data := Data.seq #[Value.str (Str.ofString "row") 460, Value.str (Str.ofString "code") 461, Value.str (Str.ofString "folds") 462] }) ::
  (nat_lit 191, { cls := Value.type "tuple", data := Data.seq #[] }) ::
  (nat_lit 193, { cls := Value.type "code", data := Data.fields #[Value.str (Str.ofString "_law_takes") 457, Value.str (Str.ofString "_law_takes") 458, Value.str (Str.ofString "/claim/cut.py") 459, Value.int 134 0, Value.int 3 0, Value.int 0 0, Value.int 0 0, Value.int 3 0, Value.ref 188, Value.bool true, Value.int 181 0, Value.ref 189, Value.none, Value.ref 190, Value.ref 191, Value.ref 192, Value.int 463 0, Value.int 134 0, Value.str (Str.ofString "/claim/cut.py") 464] }) ::
  (nat_lit 194, { cls := Value.type "function", data := Data.func { name := Str.ofString "_law_takes", qualname := Str.ofString "_law_takes", params := fa_law_takes, body := FuncBody.stmts fb_law_takes, scope := fs_law_takes, globals := 3, closure := [], defaults := Value.none, kwdefaults := Value.none, pyModule := Value.str (Str.ofString "law_oj0023_01") 420, code := Value.ref 193 } }) ::
  (nat_lit 195, { cls := Value.type "tuple", data := Data.seq #[] }) ::
  (nat_lit 197, { cls := Value.type "tuple", data := Data.seq #[Value.str (Str.ofString "kept") 469, Value.str (Str.ofString "number") 470, Value.str (Str.ofString "place") 471, Value.str (Str.ofString "later") 472] }) ::
  (nat_lit 198, { cls := Value.type "tuple", data := Data.seq #[] }) ::
  (nat_lit 200, { cls := Value.type "code", data := Data.fields #[Value.str (Str.ofString "_law_with") 466, Value.str (Str.ofString "_law_with") 467, Value.str (Str.ofString "/claim/cut.py") 468, Value.int 140 0, Value.int 3 0, Value.int 0 0, Value.int 0 0, Value.int 3 0, Value.ref 195, Value.bool true, Value.int 181 0, Value.ref 196, Value.none, Value.ref 197, Value.ref 198, Value.ref 199, Value.int 473 0, Value.int 140 0, Value.str (Str.ofString "/claim/cut.py") 474] }) ::
  (nat_lit 201, { cls := Value.type "function", data := Data.func { name := Str.ofString "_law_with", qualname := Str.ofString "_law_with", params := fa_law_with, body := FuncBody.stmts fb_law_with, scope := fs_law_with, globals := 3, closure := [], defaults := Value.none, kwdefaults := Value.none, pyModule := Value.str (Str.ofString "law_oj0023_01") 420, code := Value.ref 200 } }) ::
  (nat_lit 202, { cls := Value.type "tuple", data := Data.seq #[] }) ::
  (nat_lit 204, { cls := Value.type "tuple", data := Data.seq #[Value.str (Str.ofString "node") 479, Value.str (Str.ofString "states") 480, Value.str (Str.ofString "text") 481, Value.str (Str.ofString "folds") 482, Value.str (Str.ofString "found") 483, Value.str (Str.ofString "at") 484, Value.str (Str.ofString "kept") 485] }) ::
  (nat_lit 205, { cls := Value.type "tuple", data := Data.seq #[] }) ::
  (nat_lit 207, { cls := Value.type "code", data := Data.fields #[Value.str (Str.ofString "_law_each") 476, Value.str (Str.ofString "_law_each") 477, Value.str (Str.ofString "/claim/cut.py") 478, Value.int 144 0, Value.int 4 0, Value.int 0 0, Value.int 0 0, Value.int 3 0, Value.ref 202, Value.bool true, Value.int 181 0, Value.ref 203, Value.none, Value.ref 204, Value.ref 205, Value.ref 206, Value.int 486 0, Value.int 144 0, Value.str (Str.ofString "/claim/cut.py") 487] }) ::
  (nat_lit 208, { cls := Value.type "function", data := Data.func { name := Str.ofString "_law_each", qualname := Str.ofString "_law_each", params := fa_law_each, body := FuncBody.stmts fb_law_each, scope := fs_law_each, globals := 3, closure := [], defaults := Value.none, kwdefaults := Value.none, pyModule := Value.str (Str.ofString "law_oj0023_01") 420, code := Value.ref 207 } }) ::
  (nat_lit 209, { cls := Value.type "tuple", data := Data.seq #[] }) ::
  (nat_lit 211, { cls := Value.type "tuple", data := Data.seq #[Value.str (Str.ofString "node") 492, Value.str (Str.ofString "at") 493, Value.str (Str.ofString "kept") 494, Value.str (Str.ofString "text") 495, Value.str (Str.ofString "folds") 496, Value.str (Str.ofString "more_here") 497, Value.str (Str.ofString "end") 498, Value.str (Str.ofString "later") 499] }) ::
  (nat_lit 212, { cls := Value.type "tuple", data := Data.seq #[] }) ::
  (nat_lit 214, { cls := Value.type "code", data := Data.fields #[Value.str (Str.ofString "_law_star") 489, Value.str (Str.ofString "_law_star") 490, Value.str (Str.ofString "/claim/cut.py") 491, Value.int 149 0, Value.int 5 0, Value.int 0 0, Value.int 0 0, Value.int 3 0, Value.ref 209, Value.bool true, Value.int 181 0, Value.ref 210, Value.none, Value.ref 211, Value.ref 212, Value.ref 213, Value.int 500 0, Value.int 149 0, Value.str (Str.ofString "/claim/cut.py") 501] }) ::
  (nat_lit 215, { cls := Value.type "function", data := Data.func { name := Str.ofString "_law_star", qualname := Str.ofString "_law_star", params := fa_law_star, body := FuncBody.stmts fb_law_star, scope := fs_law_star, globals := 3, closure := [], defaults := Value.none, kwdefaults := Value.none, pyModule := Value.str (Str.ofString "law_oj0023_01") 420, code := Value.ref 214 } }) ::
  (nat_lit 216, { cls := Value.type "tuple", data := Data.seq #[] }) ::
  (nat_lit 218, { cls := Value.type "tuple", data := Data.seq #[Value.str (Str.ofString "node") 506, Value.str (Str.ofString "left") 507, Value.str (Str.ofString "at") 508, Value.str (Str.ofString "kept") 509, Value.str (Str.ofString "text") 510, Value.str (Str.ofString "folds") 511, Value.str (Str.ofString "more_here") 512, Value.str (Str.ofString "end") 513, Value.str (Str.ofString "later") 514] }) ::
  (nat_lit 219, { cls := Value.type "tuple", data := Data.seq #[] }) ::
  (nat_lit 221, { cls := Value.type "code", data := Data.fields #[Value.str (Str.ofString "_law_some") 503, Value.str (Str.ofString "_law_some") 504, Value.str (Str.ofString "/claim/cut.py") 505, Value.int 155 0, Value.int 6 0, Value.int 0 0, Value.int 0 0, Value.int 3 0, Value.ref 216, Value.bool true, Value.int 181 0, Value.ref 217, Value.none, Value.ref 218, Value.ref 219, Value.ref 220, Value.int 515 0, Value.int 155 0, Value.str (Str.ofString "/claim/cut.py") 516] }) ::
  (nat_lit 222, { cls := Value.type "function", data := Data.func { name := Str.ofString "_law_some", qualname := Str.ofString "_law_some", params := fa_law_some, body := FuncBody.stmts fb_law_some, scope := fs_law_some, globals := 3, closure := [], defaults := Value.none, kwdefaults := Value.none, pyModule := Value.str (Str.ofString "law_oj0023_01") 420, code := Value.ref 221 } }) ::
  (nat_lit 223, { cls := Value.type "tuple", data := Data.seq #[] }) ::
  (nat_lit 226, { cls := Value.type "code", data := Data.fields #[Value.str (Str.ofString "_law_ways") 518, Value.str (Str.ofString "_law_ways") 519, Value.str (Str.ofString "/claim/cut.py") 520, Value.int 162 0, Value.int 5 0, Value.int 0 0, Value.int 0 0, Value.int 3 0, Value.ref 223, Value.bool true, Value.int 181 0, Value.ref 224, Value.none, Value.none, Value.none, Value.ref 225, Value.int 521 0, Value.int 162 0, Value.str (Str.ofString "/claim/cut.py") 522] }) ::
  (nat_lit 227, { cls := Value.type "function", data := Data.func { name := Str.ofString "_law_ways", qualname := Str.ofString "_law_ways", params := fa_law_ways, body := FuncBody.stmts fb_law_ways, scope := fs_law_ways, globals := 3, closure := [], defaults := Value.none, kwdefaults := Value.none, pyModule := Value.str (Str.ofString "law_oj0023_01") 420, code := Value.ref 226 } }) ::
  (nat_lit 228, { cls := Value.type "tuple", data := Data.seq #[] }) ::
  (nat_lit 230, { cls := Value.type "tuple", data := Data.seq #[Value.str (Str.ofString "rows") 527, Value.str (Str.ofString "row") 528, Value.str (Str.ofString "place") 529, Value.str (Str.ofString "kept") 530, Value.str (Str.ofString "marks") 531, Value.str (Str.ofString "text") 532, Value.str (Str.ofString "folds") 533, Value.str (Str.ofString "own") 534, Value.str (Str.ofString "word") 535, Value.str (Str.ofString "first") 536] }) ::
  (nat_lit 231, { cls := Value.type "tuple", data := Data.seq #[] }) ::
  (nat_lit 233, { cls := Value.type "code", data := Data.fields #[Value.str (Str.ofString "_law_gone") 524, Value.str (Str.ofString "_law_gone") 525, Value.str (Str.ofString "/claim/cut.py") 526, Value.int 183 0, Value.int 7 0, Value.int 0 0, Value.int 0 0, Value.int 3 0, Value.ref 228, Value.bool true, Value.int 181 0, Value.ref 229, Value.none, Value.ref 230, Value.ref 231, Value.ref 232, Value.int 537 0, Value.int 183 0, Value.str (Str.ofString "/claim/cut.py") 538] }) ::
  (nat_lit 234, { cls := Value.type "function", data := Data.func { name := Str.ofString "_law_gone", qualname := Str.ofString "_law_gone", params := fa_law_gone, body := FuncBody.stmts fb_law_gone, scope := fs_law_gone, globals := 3, closure := [], defaults := Value.none, kwdefaults := Value.none, pyModule := Value.str (Str.ofString "law_oj0023_01") 420, code := Value.ref 233 } }) ::
  (nat_lit 235, { cls := Value.type "tuple", data := Data.seq #[] }) ::
  (nat_lit 238, { cls := Value.type "code", data := Data.fields #[Value.str (Str.ofString "_law_loops") 540, Value.str (Str.ofString "_law_loops") 541, Value.str (Str.ofString "/claim/cut.py") 542, Value.int 207 0, Value.int 1 0, Value.int 0 0, Value.int 0 0, Value.int 3 0, Value.ref 235, Value.bool true, Value.int 181 0, Value.ref 236, Value.none, Value.none, Value.none, Value.ref 237, Value.int 543 0, Value.int 207 0, Value.str (Str.ofString "/claim/cut.py") 544] }) ::
  (nat_lit 239, { cls := Value.type "function", data := Data.func { name := Str.ofString "_law_loops", qualname := Str.ofString "_law_loops", params := fa_law_loops, body := FuncBody.stmts fb_law_loops, scope := fs_law_loops, globals := 3, closure := [], defaults := Value.none, kwdefaults := Value.none, pyModule := Value.str (Str.ofString "law_oj0023_01") 420, code := Value.ref 238 } }) ::
  (nat_lit 240, { cls := Value.type "tuple", data := Data.seq #[] }) ::
  (nat_lit 243, { cls := Value.type "code", data := Data.fields #[Value.str (Str.ofString "law") 546, Value.str (Str.ofString "law") 547, Value.str (Str.ofString "/claim/cut.py") 548, Value.int 215 0, Value.int 1 0, Value.int 0 0, Value.int 0 0, Value.int 3 0, Value.ref 240, Value.bool true, Value.int 181 0, Value.ref 241, Value.none, Value.none, Value.none, Value.ref 242, Value.int 549 0, Value.int 215 0, Value.str (Str.ofString "/claim/cut.py") 550] }) ::
  (nat_lit 244, { cls := Value.type "function", data := Data.func { name := Str.ofString "law", qualname := Str.ofString "law", params := fa_law, body := FuncBody.stmts fb_law, scope := fs_law, globals := 3, closure := [], defaults := Value.none, kwdefaults := Value.none, pyModule := Value.str (Str.ofString "law_oj0023_01") 420, code := Value.ref 243 } }) :: []
noncomputable def hd.view_39 : Program := { prg with main := { prg.main with body := [st_1, st_2, st_4, st_6, st_7, st_8, st_9, st_10, st_12, st_13, st_14, st_15, st_16, st_17, st_18, st_19, st_20, st_21, st_22, st_23, st_24] } }
noncomputable abbrev HK : Hook := kHook hd.heap_39 (nat_lit 2 :: nat_lit 3 :: nat_lit 15 :: nat_lit 17 :: nat_lit 18 :: nat_lit 20 :: nat_lit 21 :: nat_lit 22 :: nat_lit 24 :: nat_lit 25 :: nat_lit 27 :: nat_lit 28 :: nat_lit 29 :: nat_lit 36 :: nat_lit 38 :: nat_lit 39 :: nat_lit 41 :: nat_lit 42 :: nat_lit 43 :: nat_lit 44 :: nat_lit 45 :: nat_lit 46 :: nat_lit 49 :: nat_lit 57 :: nat_lit 59 :: nat_lit 60 :: nat_lit 62 :: nat_lit 63 :: nat_lit 64 :: nat_lit 65 :: nat_lit 66 :: nat_lit 67 :: nat_lit 68 :: nat_lit 78 :: nat_lit 80 :: nat_lit 81 :: nat_lit 83 :: nat_lit 84 :: nat_lit 85 :: nat_lit 87 :: nat_lit 88 :: nat_lit 90 :: nat_lit 91 :: nat_lit 92 :: nat_lit 94 :: nat_lit 95 :: nat_lit 97 :: nat_lit 98 :: nat_lit 99 :: nat_lit 101 :: nat_lit 102 :: nat_lit 104 :: nat_lit 105 :: nat_lit 106 :: nat_lit 109 :: nat_lit 110 :: nat_lit 111 :: nat_lit 113 :: nat_lit 114 :: nat_lit 116 :: nat_lit 117 :: nat_lit 118 :: nat_lit 120 :: nat_lit 121 :: nat_lit 123 :: nat_lit 124 :: nat_lit 125 :: nat_lit 127 :: nat_lit 128 :: nat_lit 130 :: nat_lit 131 :: nat_lit 132 :: nat_lit 134 :: nat_lit 135 :: nat_lit 137 :: nat_lit 138 :: nat_lit 139 :: nat_lit 141 :: nat_lit 142 :: nat_lit 144 :: nat_lit 145 :: nat_lit 146 :: nat_lit 147 :: nat_lit 148 :: nat_lit 149 :: nat_lit 150 :: nat_lit 153 :: nat_lit 155 :: nat_lit 156 :: nat_lit 158 :: nat_lit 159 :: nat_lit 160 :: nat_lit 162 :: nat_lit 163 :: nat_lit 165 :: nat_lit 166 :: nat_lit 167 :: nat_lit 169 :: nat_lit 170 :: nat_lit 172 :: nat_lit 173 :: nat_lit 174 :: nat_lit 176 :: nat_lit 177 :: nat_lit 179 :: nat_lit 180 :: nat_lit 181 :: nat_lit 183 :: nat_lit 184 :: nat_lit 186 :: nat_lit 187 :: nat_lit 188 :: nat_lit 190 :: nat_lit 191 :: nat_lit 193 :: nat_lit 194 :: nat_lit 195 :: nat_lit 197 :: nat_lit 198 :: nat_lit 200 :: nat_lit 201 :: nat_lit 202 :: nat_lit 204 :: nat_lit 205 :: nat_lit 207 :: nat_lit 208 :: nat_lit 209 :: nat_lit 211 :: nat_lit 212 :: nat_lit 214 :: nat_lit 215 :: nat_lit 216 :: nat_lit 218 :: nat_lit 219 :: nat_lit 221 :: nat_lit 222 :: nat_lit 223 :: nat_lit 226 :: nat_lit 227 :: nat_lit 228 :: nat_lit 230 :: nat_lit 231 :: nat_lit 233 :: nat_lit 234 :: nat_lit 235 :: nat_lit 238 :: nat_lit 239 :: nat_lit 240 :: nat_lit 243 :: nat_lit 244 :: []) (fun _ => by kernel_rfl)
theorem boot_a : opening prg = plainProg prg.main.scope.names := by kernel_rfl
theorem boot_b : ∀ s, fenceModules? prg s = some s := fun s => by kernel_rfl
noncomputable def sg0 (P : Params) (t : List Obj) : List Obj :=
  { cls := Value.type "code", data := Data.fields #[Value.str (Str.ofString "<module>") 182, Value.str (Str.ofString "<module>") 183, Value.str (Str.ofString "/claim/cut.py") 184, Value.int 1 0, Value.int 0 0, Value.int 0 0, Value.int 0 0, Value.int 0 0, Value.ref 11, Value.bool false, Value.int 181 0, Value.ref 12, Value.none, Value.none, Value.none, Value.none, Value.int 185 0, Value.int 1 0, Value.str (Str.ofString "/claim/cut.py") 186] } ::
  { cls := Value.type "frame", slots := #[some (Value.ref 13), some (Value.ref 3), some (Value.ref 3), none, some (Value.str (Str.ofString "__main__") 164), none, some (Value.ref 0)] } :: t
noncomputable def sg1 (P : Params) (t : List Obj) : List Obj :=
  { cls := Value.type "tuple", data := Data.seq #[] } ::
  { cls := Value.none, data := Data.fields #[] } ::
  { cls := Value.type "tuple", data := Data.seq #[Value.str (Str.ofString "code") 192] } ::
  { cls := Value.type "tuple", data := Data.seq #[] } ::
  { cls := Value.none, data := Data.func { name := Str.ofString "downcase", qualname := Str.ofString "downcase", params := fa_downcase, body := FuncBody.stmts fb_downcase, scope := fs_downcase, globals := 0, closure := [], defaults := Value.none, kwdefaults := Value.none } } ::
  { cls := Value.type "code", data := Data.fields #[Value.str (Str.ofString "downcase") 189, Value.str (Str.ofString "downcase") 190, Value.str (Str.ofString "/claim/cut.py") 191, Value.int 2 0, Value.int 1 0, Value.int 0 0, Value.int 0 0, Value.int 3 0, Value.ref 15, Value.bool true, Value.int 181 0, Value.ref 16, Value.none, Value.ref 17, Value.ref 18, Value.ref 19, Value.int 193 0, Value.int 2 0, Value.str (Str.ofString "/claim/cut.py") 194] } ::
  { cls := Value.type "function", data := Data.func { name := Str.ofString "downcase", qualname := Str.ofString "downcase", params := fa_downcase, body := FuncBody.stmts fb_downcase, scope := fs_downcase, globals := 3, closure := [], defaults := Value.none, kwdefaults := Value.none, pyModule := Value.str (Str.ofString "emacs.casefold") 187, code := Value.ref 20 } } ::
  { cls := Value.type "tuple", data := Data.seq #[] } ::
  { cls := Value.none, data := Data.fields #[] } ::
  { cls := Value.type "tuple", data := Data.seq #[Value.str (Str.ofString "code") 199] } ::
  { cls := Value.type "tuple", data := Data.seq #[] } ::
  { cls := Value.none, data := Data.func { name := Str.ofString "fold", qualname := Str.ofString "fold", params := fa_fold, body := FuncBody.stmts fb_fold, scope := fs_fold, globals := 0, closure := [], defaults := Value.none, kwdefaults := Value.none } } ::
  { cls := Value.type "code", data := Data.fields #[Value.str (Str.ofString "fold") 196, Value.str (Str.ofString "fold") 197, Value.str (Str.ofString "/claim/cut.py") 198, Value.int 6 0, Value.int 1 0, Value.int 0 0, Value.int 0 0, Value.int 3 0, Value.ref 22, Value.bool true, Value.int 181 0, Value.ref 23, Value.none, Value.ref 24, Value.ref 25, Value.ref 26, Value.int 200 0, Value.int 6 0, Value.str (Str.ofString "/claim/cut.py") 201] } ::
  { cls := Value.type "function", data := Data.func { name := Str.ofString "fold", qualname := Str.ofString "fold", params := fa_fold, body := FuncBody.stmts fb_fold, scope := fs_fold, globals := 3, closure := [], defaults := Value.none, kwdefaults := Value.none, pyModule := Value.str (Str.ofString "emacs.casefold") 187, code := Value.ref 27 } } ::
  { cls := Value.type "tuple", data := Data.seq #[Value.type "Exception"] } ::
  { cls := Value.type "builtin_function_or_method", data := Data.fields #[Value.builtin "type.__prepare__", Value.type "type"] } ::
  { cls := Value.type "dict", data := Data.dict #[{ hash := PyData.keyHash P (Str.ofString "__module__"), key := Value.str (Str.ofString "__module__") 212, val := Value.str (Str.ofString "emacs.errors") 203 }, { hash := PyData.keyHash P (Str.ofString "__qualname__"), key := Value.str (Str.ofString "__qualname__") 214, val := Value.str (Str.ofString "LispSignal") 213 }, { hash := PyData.keyHash P (Str.ofString "__firstlineno__"), key := Value.str (Str.ofString "__firstlineno__") 216, val := Value.int 9 215 }, { hash := PyData.keyHash P (Str.ofString "__init__"), key := Value.str (Str.ofString "__init__") 225, val := Value.ref 42 }, { hash := PyData.keyHash P (Str.ofString "__static_attributes__"), key := Value.str (Str.ofString "__static_attributes__") 228, val := Value.ref 43 }] 5 } ::
  { cls := Value.type "tuple", data := Data.seq #[] } ::
  { cls := Value.none, data := Data.fields #[Value.int 11 0, Value.int 4 0, Value.ref 41] } ::
  { cls := Value.type "code", data := Data.fields #[Value.str (Str.ofString "LispSignal") 207, Value.str (Str.ofString "LispSignal") 208, Value.str (Str.ofString "/claim/cut.py") 209, Value.int 9 0, Value.int 0 0, Value.int 0 0, Value.int 0 0, Value.int 0 0, Value.ref 32, Value.bool false, Value.int 181 0, Value.ref 33, Value.none, Value.none, Value.none, Value.none, Value.int 210 0, Value.int 9 0, Value.str (Str.ofString "/claim/cut.py") 211] } ::
  { cls := Value.type "frame", slots := #[some (Value.ref 34), some (Value.ref 3), some (Value.ref 31), none, some (Value.str (Str.ofString "emacs.errors") 203), none, some (Value.ref 0)] } ::
  { cls := Value.type "tuple", data := Data.seq #[] } ::
  { cls := Value.none, data := Data.fields #[] } ::
  { cls := Value.type "tuple", data := Data.seq #[Value.str (Str.ofString "self") 220, Value.str (Str.ofString "symbol") 221, Value.str (Str.ofString "data") 222] } ::
  { cls := Value.type "tuple", data := Data.seq #[] } ::
  { cls := Value.none, data := Data.func { name := Str.ofString "__init__", qualname := Str.ofString "LispSignal.__init__", params := fa_LispSignal_init, body := FuncBody.stmts fb_LispSignal_init, scope := fs_LispSignal_init, globals := 0, closure := [], defaults := Value.none, kwdefaults := Value.none } } ::
  { cls := Value.type "code", data := Data.fields #[Value.str (Str.ofString "__init__") 217, Value.str (Str.ofString "LispSignal.__init__") 218, Value.str (Str.ofString "/claim/cut.py") 219, Value.int 11 0, Value.int 3 0, Value.int 0 0, Value.int 0 0, Value.int 3 0, Value.ref 36, Value.bool true, Value.int 181 0, Value.ref 37, Value.none, Value.ref 38, Value.ref 39, Value.ref 40, Value.int 223 0, Value.int 11 0, Value.str (Str.ofString "/claim/cut.py") 224] } ::
  { cls := Value.type "function", data := Data.func { name := Str.ofString "__init__", qualname := Str.ofString "LispSignal.__init__", params := fa_LispSignal_init, body := FuncBody.stmts fb_LispSignal_init, scope := fs_LispSignal_init, globals := 3, closure := [], defaults := Value.none, kwdefaults := Value.none, pyModule := Value.str (Str.ofString "emacs.errors") 203, code := Value.ref 41 } } ::
  { cls := Value.type "tuple", data := Data.seq #[Value.str (Str.ofString "data") 226, Value.str (Str.ofString "symbol") 227] } ::
  { cls := Value.type "dict", data := Data.dict #[{ hash := PyData.keyHash P (Str.ofString "__module__"), key := Value.str (Str.ofString "__module__") 212, val := Value.str (Str.ofString "emacs.errors") 203 }, { hash := PyData.keyHash P (Str.ofString "__firstlineno__"), key := Value.str (Str.ofString "__firstlineno__") 216, val := Value.int 9 215 }, { hash := PyData.keyHash P (Str.ofString "__init__"), key := Value.str (Str.ofString "__init__") 225, val := Value.ref 42 }, { hash := PyData.keyHash P (Str.ofString "__static_attributes__"), key := Value.str (Str.ofString "__static_attributes__") 228, val := Value.ref 43 }, { hash := PyData.keyHash P (Str.ofString "__weakref__"), key := Value.str (Str.ofString "__weakref__") 230, val := Value.ref 46 }, { hash := PyData.keyHash P (Str.ofString "__doc__"), key := Value.str (Str.ofString "__doc__") 231, val := Value.none }] 3 } ::
  { cls := Value.type "type", data := Data.cls { name := Str.ofString "LispSignal", bases := [Value.type "Exception"], mro := [Value.ref 45, Value.type "Exception", Value.type "BaseException", Value.type "object"], ns := 44, qualname := Str.ofString "LispSignal" }, slots := #[some (Value.ref 29), none, some (Value.str (Str.ofString "LispSignal") 205), some (Value.str (Str.ofString "LispSignal") 213), some (Value.builtin "Exception.__new__"), some (Value.bool true)] } ::
  { cls := Value.type "getset_descriptor", data := Data.fields #[Value.str (Str.ofString "__weakref__") 229, Value.ref 45, Value.builtin "ExceptionGroup.__weakref__", Value.none] } ::
  { cls := Value.type "super", data := Data.fields #[Value.ref 45, Value.ref 45, Value.ref 45] } ::
  { cls := Value.type "builtin_function_or_method", data := Data.fields #[Value.builtin "object.__init_subclass__", Value.ref 45] } ::
  { cls := Value.type "tuple", data := Data.seq #[Value.str (Str.ofString "any") 240, Value.str (Str.ofString "set") 241, Value.str (Str.ofString "syntax") 242, Value.str (Str.ofString "at") 243, Value.str (Str.ofString "back") 244] } ::
  { cls := Value.type "tuple", data := Data.seq #[] } ::
  { cls := Value.type "builtin_function_or_method", data := Data.fields #[Value.builtin "type.__prepare__", Value.type "type"] } ::
  { cls := Value.type "dict", data := Data.dict #[{ hash := PyData.keyHash P (Str.ofString "__module__"), key := Value.str (Str.ofString "__module__") 253, val := Value.str (Str.ofString "emacs.regcode") 236 }, { hash := PyData.keyHash P (Str.ofString "__qualname__"), key := Value.str (Str.ofString "__qualname__") 255, val := Value.str (Str.ofString "Regcode") 254 }, { hash := PyData.keyHash P (Str.ofString "__firstlineno__"), key := Value.str (Str.ofString "__firstlineno__") 257, val := Value.int 17 256 }, { hash := PyData.keyHash P (Str.ofString "__init__"), key := Value.str (Str.ofString "__init__") 268, val := Value.ref 63 }, { hash := PyData.keyHash P (Str.ofString "__static_attributes__"), key := Value.str (Str.ofString "__static_attributes__") 273, val := Value.ref 64 }] 5 } ::
  { cls := Value.type "tuple", data := Data.seq #[] } ::
  { cls := Value.none, data := Data.fields #[Value.int 19 0, Value.int 4 0, Value.ref 62] } ::
  { cls := Value.type "code", data := Data.fields #[Value.str (Str.ofString "Regcode") 248, Value.str (Str.ofString "Regcode") 249, Value.str (Str.ofString "/claim/cut.py") 250, Value.int 17 0, Value.int 0 0, Value.int 0 0, Value.int 0 0, Value.int 0 0, Value.ref 53, Value.bool false, Value.int 181 0, Value.ref 54, Value.none, Value.none, Value.none, Value.none, Value.int 251 0, Value.int 17 0, Value.str (Str.ofString "/claim/cut.py") 252] } ::
  { cls := Value.type "frame", slots := #[some (Value.ref 55), some (Value.ref 3), some (Value.ref 52), none, some (Value.str (Str.ofString "emacs.regcode") 236), none, some (Value.ref 0)] } ::
  { cls := Value.type "tuple", data := Data.seq #[] } ::
  { cls := Value.none, data := Data.fields #[] } ::
  { cls := Value.type "tuple", data := Data.seq #[Value.str (Str.ofString "self") 261, Value.str (Str.ofString "rows") 262, Value.str (Str.ofString "groups") 263, Value.str (Str.ofString "marks") 264, Value.str (Str.ofString "folds") 265] } ::
  { cls := Value.type "tuple", data := Data.seq #[] } ::
  { cls := Value.none, data := Data.func { name := Str.ofString "__init__", qualname := Str.ofString "Regcode.__init__", params := fa_Regcode_init, body := FuncBody.stmts fb_Regcode_init, scope := fs_Regcode_init, globals := 0, closure := [], defaults := Value.none, kwdefaults := Value.none } } ::
  { cls := Value.type "code", data := Data.fields #[Value.str (Str.ofString "__init__") 258, Value.str (Str.ofString "Regcode.__init__") 259, Value.str (Str.ofString "/claim/cut.py") 260, Value.int 19 0, Value.int 5 0, Value.int 0 0, Value.int 0 0, Value.int 3 0, Value.ref 57, Value.bool true, Value.int 181 0, Value.ref 58, Value.none, Value.ref 59, Value.ref 60, Value.ref 61, Value.int 266 0, Value.int 19 0, Value.str (Str.ofString "/claim/cut.py") 267] } ::
  { cls := Value.type "function", data := Data.func { name := Str.ofString "__init__", qualname := Str.ofString "Regcode.__init__", params := fa_Regcode_init, body := FuncBody.stmts fb_Regcode_init, scope := fs_Regcode_init, globals := 3, closure := [], defaults := Value.none, kwdefaults := Value.none, pyModule := Value.str (Str.ofString "emacs.regcode") 236, code := Value.ref 62 } } ::
  { cls := Value.type "tuple", data := Data.seq #[Value.str (Str.ofString "folds") 269, Value.str (Str.ofString "groups") 270, Value.str (Str.ofString "marks") 271, Value.str (Str.ofString "rows") 272] } ::
  { cls := Value.type "dict", data := Data.dict #[{ hash := PyData.keyHash P (Str.ofString "__module__"), key := Value.str (Str.ofString "__module__") 253, val := Value.str (Str.ofString "emacs.regcode") 236 }, { hash := PyData.keyHash P (Str.ofString "__firstlineno__"), key := Value.str (Str.ofString "__firstlineno__") 257, val := Value.int 17 256 }, { hash := PyData.keyHash P (Str.ofString "__init__"), key := Value.str (Str.ofString "__init__") 268, val := Value.ref 63 }, { hash := PyData.keyHash P (Str.ofString "__static_attributes__"), key := Value.str (Str.ofString "__static_attributes__") 273, val := Value.ref 64 }, { hash := PyData.keyHash P (Str.ofString "__dict__"), key := Value.str (Str.ofString "__dict__") 275, val := Value.ref 67 }, { hash := PyData.keyHash P (Str.ofString "__weakref__"), key := Value.str (Str.ofString "__weakref__") 277, val := Value.ref 68 }, { hash := PyData.keyHash P (Str.ofString "__doc__"), key := Value.str (Str.ofString "__doc__") 278, val := Value.none }] 4 } ::
  { cls := Value.type "type", data := Data.cls { name := Str.ofString "Regcode", bases := [Value.type "object"], mro := [Value.ref 66, Value.type "object"], ns := 65, qualname := Str.ofString "Regcode" }, slots := #[none, none, some (Value.str (Str.ofString "Regcode") 246), some (Value.str (Str.ofString "Regcode") 254), some (Value.builtin "object.__new__"), some (Value.bool true)] } ::
  { cls := Value.type "getset_descriptor", data := Data.fields #[Value.str (Str.ofString "__dict__") 274, Value.ref 66, Value.builtin "function.__dict__", Value.builtin "function.__dict__#set"] } ::
  { cls := Value.type "getset_descriptor", data := Data.fields #[Value.str (Str.ofString "__weakref__") 276, Value.ref 66, Value.builtin "ExceptionGroup.__weakref__", Value.none] } ::
  { cls := Value.type "super", data := Data.fields #[Value.ref 66, Value.ref 66, Value.ref 66] } ::
  { cls := Value.type "builtin_function_or_method", data := Data.fields #[Value.builtin "object.__init_subclass__", Value.ref 66] } :: t
noncomputable def sg2 (P : Params) (t : List Obj) : List Obj :=
  { cls := Value.type "tuple", data := Data.seq #[] } ::
  { cls := Value.type "builtin_function_or_method", data := Data.fields #[Value.builtin "type.__prepare__", Value.type "type"] } ::
  { cls := Value.type "dict", data := Data.dict #[{ hash := PyData.keyHash P (Str.ofString "__module__"), key := Value.str (Str.ofString "__module__") 288, val := Value.str (Str.ofString "emacs.regcode") 236 }, { hash := PyData.keyHash P (Str.ofString "__qualname__"), key := Value.str (Str.ofString "__qualname__") 290, val := Value.str (Str.ofString "Compiling") 289 }, { hash := PyData.keyHash P (Str.ofString "__firstlineno__"), key := Value.str (Str.ofString "__firstlineno__") 292, val := Value.int 24 291 }, { hash := PyData.keyHash P (Str.ofString "__init__"), key := Value.str (Str.ofString "__init__") 300, val := Value.ref 84 }, { hash := PyData.keyHash P (Str.ofString "label"), key := Value.str (Str.ofString "label") 307, val := Value.ref 91 }, { hash := PyData.keyHash P (Str.ofString "wait"), key := Value.str (Str.ofString "wait") 316, val := Value.ref 98 }, { hash := PyData.keyHash P (Str.ofString "run"), key := Value.str (Str.ofString "run") 326, val := Value.ref 105 }, { hash := PyData.keyHash P (Str.ofString "node"), key := Value.str (Str.ofString "node") 332, val := Value.ref 110 }, { hash := PyData.keyHash P (Str.ofString "alternatives"), key := Value.str (Str.ofString "alternatives") 345, val := Value.ref 117 }, { hash := PyData.keyHash P (Str.ofString "repeated"), key := Value.str (Str.ofString "repeated") 362, val := Value.ref 124 }, { hash := PyData.keyHash P (Str.ofString "split"), key := Value.str (Str.ofString "split") 372, val := Value.ref 131 }, { hash := PyData.keyHash P (Str.ofString "loop"), key := Value.str (Str.ofString "loop") 386, val := Value.ref 138 }, { hash := PyData.keyHash P (Str.ofString "settled"), key := Value.str (Str.ofString "settled") 395, val := Value.ref 145 }, { hash := PyData.keyHash P (Str.ofString "__static_attributes__"), key := Value.str (Str.ofString "__static_attributes__") 402, val := Value.ref 146 }] 14 } ::
  { cls := Value.type "tuple", data := Data.seq #[] } ::
  { cls := Value.none, data := Data.fields #[Value.int 26 0, Value.int 4 0, Value.ref 83, Value.int 34 0, Value.int 4 0, Value.ref 90, Value.int 38 0, Value.int 4 0, Value.ref 97, Value.int 44 0, Value.int 4 0, Value.ref 104, Value.int 55 0, Value.int 4 0, Value.ref 109, Value.int 72 0, Value.int 4 0, Value.ref 116, Value.int 80 0, Value.int 4 0, Value.ref 123, Value.int 92 0, Value.int 4 0, Value.ref 130, Value.int 95 0, Value.int 4 0, Value.ref 137, Value.int 102 0, Value.int 4 0, Value.ref 144] } ::
  { cls := Value.type "code", data := Data.fields #[Value.str (Str.ofString "Compiling") 283, Value.str (Str.ofString "Compiling") 284, Value.str (Str.ofString "/claim/cut.py") 285, Value.int 24 0, Value.int 0 0, Value.int 0 0, Value.int 0 0, Value.int 0 0, Value.ref 74, Value.bool false, Value.int 181 0, Value.ref 75, Value.none, Value.none, Value.none, Value.none, Value.int 286 0, Value.int 24 0, Value.str (Str.ofString "/claim/cut.py") 287] } ::
  { cls := Value.type "frame", slots := #[some (Value.ref 76), some (Value.ref 3), some (Value.ref 73), none, some (Value.str (Str.ofString "emacs.regcode") 236), none, some (Value.ref 0)] } ::
  { cls := Value.type "tuple", data := Data.seq #[] } ::
  { cls := Value.none, data := Data.fields #[] } ::
  { cls := Value.type "tuple", data := Data.seq #[Value.str (Str.ofString "self") 296, Value.str (Str.ofString "folds") 297] } ::
  { cls := Value.type "tuple", data := Data.seq #[] } ::
  { cls := Value.none, data := Data.func { name := Str.ofString "__init__", qualname := Str.ofString "Compiling.__init__", params := fa_Compiling_init, body := FuncBody.stmts fb_Compiling_init, scope := fs_Compiling_init, globals := 0, closure := [], defaults := Value.none, kwdefaults := Value.none } } ::
  { cls := Value.type "code", data := Data.fields #[Value.str (Str.ofString "__init__") 293, Value.str (Str.ofString "Compiling.__init__") 294, Value.str (Str.ofString "/claim/cut.py") 295, Value.int 26 0, Value.int 2 0, Value.int 0 0, Value.int 0 0, Value.int 3 0, Value.ref 78, Value.bool true, Value.int 181 0, Value.ref 79, Value.none, Value.ref 80, Value.ref 81, Value.ref 82, Value.int 298 0, Value.int 26 0, Value.str (Str.ofString "/claim/cut.py") 299] } ::
  { cls := Value.type "function", data := Data.func { name := Str.ofString "__init__", qualname := Str.ofString "Compiling.__init__", params := fa_Compiling_init, body := FuncBody.stmts fb_Compiling_init, scope := fs_Compiling_init, globals := 3, closure := [], defaults := Value.none, kwdefaults := Value.none, pyModule := Value.str (Str.ofString "emacs.regcode") 236, code := Value.ref 83 } } ::
  { cls := Value.type "tuple", data := Data.seq #[] } ::
  { cls := Value.none, data := Data.fields #[] } ::
  { cls := Value.type "tuple", data := Data.seq #[Value.str (Str.ofString "self") 304] } ::
  { cls := Value.type "tuple", data := Data.seq #[] } ::
  { cls := Value.none, data := Data.func { name := Str.ofString "label", qualname := Str.ofString "Compiling.label", params := fa_Compiling_label, body := FuncBody.stmts fb_Compiling_label, scope := fs_Compiling_label, globals := 0, closure := [], defaults := Value.none, kwdefaults := Value.none } } ::
  { cls := Value.type "code", data := Data.fields #[Value.str (Str.ofString "label") 301, Value.str (Str.ofString "Compiling.label") 302, Value.str (Str.ofString "/claim/cut.py") 303, Value.int 34 0, Value.int 1 0, Value.int 0 0, Value.int 0 0, Value.int 3 0, Value.ref 85, Value.bool true, Value.int 181 0, Value.ref 86, Value.none, Value.ref 87, Value.ref 88, Value.ref 89, Value.int 305 0, Value.int 34 0, Value.str (Str.ofString "/claim/cut.py") 306] } ::
  { cls := Value.type "function", data := Data.func { name := Str.ofString "label", qualname := Str.ofString "Compiling.label", params := fa_Compiling_label, body := FuncBody.stmts fb_Compiling_label, scope := fs_Compiling_label, globals := 3, closure := [], defaults := Value.none, kwdefaults := Value.none, pyModule := Value.str (Str.ofString "emacs.regcode") 236, code := Value.ref 90 } } ::
  { cls := Value.type "tuple", data := Data.seq #[] } ::
  { cls := Value.none, data := Data.fields #[] } ::
  { cls := Value.type "tuple", data := Data.seq #[Value.str (Str.ofString "self") 311, Value.str (Str.ofString "tasks") 312, Value.str (Str.ofString "task") 313] } ::
  { cls := Value.type "tuple", data := Data.seq #[] } ::
  { cls := Value.none, data := Data.func { name := Str.ofString "wait", qualname := Str.ofString "Compiling.wait", params := fa_Compiling_wait, body := FuncBody.stmts fb_Compiling_wait, scope := fs_Compiling_wait, globals := 0, closure := [], defaults := Value.none, kwdefaults := Value.none } } ::
  { cls := Value.type "code", data := Data.fields #[Value.str (Str.ofString "wait") 308, Value.str (Str.ofString "Compiling.wait") 309, Value.str (Str.ofString "/claim/cut.py") 310, Value.int 38 0, Value.int 2 0, Value.int 0 0, Value.int 0 0, Value.int 3 0, Value.ref 92, Value.bool true, Value.int 181 0, Value.ref 93, Value.none, Value.ref 94, Value.ref 95, Value.ref 96, Value.int 314 0, Value.int 38 0, Value.str (Str.ofString "/claim/cut.py") 315] } ::
  { cls := Value.type "function", data := Data.func { name := Str.ofString "wait", qualname := Str.ofString "Compiling.wait", params := fa_Compiling_wait, body := FuncBody.stmts fb_Compiling_wait, scope := fs_Compiling_wait, globals := 3, closure := [], defaults := Value.none, kwdefaults := Value.none, pyModule := Value.str (Str.ofString "emacs.regcode") 236, code := Value.ref 97 } } ::
  { cls := Value.type "tuple", data := Data.seq #[] } ::
  { cls := Value.none, data := Data.fields #[] } ::
  { cls := Value.type "tuple", data := Data.seq #[Value.str (Str.ofString "self") 320, Value.str (Str.ofString "node") 321, Value.str (Str.ofString "word") 322, Value.str (Str.ofString "thing") 323] } ::
  { cls := Value.type "tuple", data := Data.seq #[] } ::
  { cls := Value.none, data := Data.func { name := Str.ofString "run", qualname := Str.ofString "Compiling.run", params := fa_Compiling_run, body := FuncBody.stmts fb_Compiling_run, scope := fs_Compiling_run, globals := 0, closure := [], defaults := Value.none, kwdefaults := Value.none } } ::
  { cls := Value.type "code", data := Data.fields #[Value.str (Str.ofString "run") 317, Value.str (Str.ofString "Compiling.run") 318, Value.str (Str.ofString "/claim/cut.py") 319, Value.int 44 0, Value.int 2 0, Value.int 0 0, Value.int 0 0, Value.int 3 0, Value.ref 99, Value.bool true, Value.int 181 0, Value.ref 100, Value.none, Value.ref 101, Value.ref 102, Value.ref 103, Value.int 324 0, Value.int 44 0, Value.str (Str.ofString "/claim/cut.py") 325] } ::
  { cls := Value.type "function", data := Data.func { name := Str.ofString "run", qualname := Str.ofString "Compiling.run", params := fa_Compiling_run, body := FuncBody.stmts fb_Compiling_run, scope := fs_Compiling_run, globals := 3, closure := [], defaults := Value.none, kwdefaults := Value.none, pyModule := Value.str (Str.ofString "emacs.regcode") 236, code := Value.ref 104 } } ::
  { cls := Value.type "tuple", data := Data.seq #[] } ::
  { cls := Value.none, data := Data.fields #[] } ::
  { cls := Value.none, data := Data.func { name := Str.ofString "node", qualname := Str.ofString "Compiling.node", params := fa_Compiling_node, body := FuncBody.stmts fb_Compiling_node, scope := fs_Compiling_node, globals := 0, closure := [], defaults := Value.none, kwdefaults := Value.none } } ::
  { cls := Value.type "code", data := Data.fields #[Value.str (Str.ofString "node") 327, Value.str (Str.ofString "Compiling.node") 328, Value.str (Str.ofString "/claim/cut.py") 329, Value.int 55 0, Value.int 2 0, Value.int 0 0, Value.int 0 0, Value.int 3 0, Value.ref 106, Value.bool true, Value.int 181 0, Value.ref 107, Value.none, Value.none, Value.none, Value.ref 108, Value.int 330 0, Value.int 55 0, Value.str (Str.ofString "/claim/cut.py") 331] } ::
  { cls := Value.type "function", data := Data.func { name := Str.ofString "node", qualname := Str.ofString "Compiling.node", params := fa_Compiling_node, body := FuncBody.stmts fb_Compiling_node, scope := fs_Compiling_node, globals := 3, closure := [], defaults := Value.none, kwdefaults := Value.none, pyModule := Value.str (Str.ofString "emacs.regcode") 236, code := Value.ref 109 } } ::
  { cls := Value.type "tuple", data := Data.seq #[] } ::
  { cls := Value.none, data := Data.fields #[] } ::
  { cls := Value.type "tuple", data := Data.seq #[Value.str (Str.ofString "self") 336, Value.str (Str.ofString "nodes") 337, Value.str (Str.ofString "end") 338, Value.str (Str.ofString "tasks") 339, Value.str (Str.ofString "node") 340, Value.str (Str.ofString "here") 341, Value.str (Str.ofString "later") 342] } ::
  { cls := Value.type "tuple", data := Data.seq #[] } ::
  { cls := Value.none, data := Data.func { name := Str.ofString "alternatives", qualname := Str.ofString "Compiling.alternatives", params := fa_Compiling_alternatives, body := FuncBody.stmts fb_Compiling_alternatives, scope := fs_Compiling_alternatives, globals := 0, closure := [], defaults := Value.none, kwdefaults := Value.none } } ::
  { cls := Value.type "code", data := Data.fields #[Value.str (Str.ofString "alternatives") 333, Value.str (Str.ofString "Compiling.alternatives") 334, Value.str (Str.ofString "/claim/cut.py") 335, Value.int 72 0, Value.int 2 0, Value.int 0 0, Value.int 0 0, Value.int 3 0, Value.ref 111, Value.bool true, Value.int 181 0, Value.ref 112, Value.none, Value.ref 113, Value.ref 114, Value.ref 115, Value.int 343 0, Value.int 72 0, Value.str (Str.ofString "/claim/cut.py") 344] } ::
  { cls := Value.type "function", data := Data.func { name := Str.ofString "alternatives", qualname := Str.ofString "Compiling.alternatives", params := fa_Compiling_alternatives, body := FuncBody.stmts fb_Compiling_alternatives, scope := fs_Compiling_alternatives, globals := 3, closure := [], defaults := Value.none, kwdefaults := Value.none, pyModule := Value.str (Str.ofString "emacs.regcode") 236, code := Value.ref 116 } } ::
  { cls := Value.type "tuple", data := Data.seq #[] } ::
  { cls := Value.none, data := Data.fields #[] } ::
  { cls := Value.type "tuple", data := Data.seq #[Value.str (Str.ofString "self") 349, Value.str (Str.ofString "node") 350, Value.str (Str.ofString "word") 351, Value.str (Str.ofString "least") 352, Value.str (Str.ofString "most") 353, Value.str (Str.ofString "is_greedy") 354, Value.str (Str.ofString "part") 355, Value.str (Str.ofString "tasks") 356, Value.str (Str.ofString "end") 357, Value.str (Str.ofString "turn") 358, Value.str (Str.ofString "here") 359] } ::
  { cls := Value.type "tuple", data := Data.seq #[] } ::
  { cls := Value.none, data := Data.func { name := Str.ofString "repeated", qualname := Str.ofString "Compiling.repeated", params := fa_Compiling_repeated, body := FuncBody.stmts fb_Compiling_repeated, scope := fs_Compiling_repeated, globals := 0, closure := [], defaults := Value.none, kwdefaults := Value.none } } ::
  { cls := Value.type "code", data := Data.fields #[Value.str (Str.ofString "repeated") 346, Value.str (Str.ofString "Compiling.repeated") 347, Value.str (Str.ofString "/claim/cut.py") 348, Value.int 80 0, Value.int 2 0, Value.int 0 0, Value.int 0 0, Value.int 3 0, Value.ref 118, Value.bool true, Value.int 181 0, Value.ref 119, Value.none, Value.ref 120, Value.ref 121, Value.ref 122, Value.int 360 0, Value.int 80 0, Value.str (Str.ofString "/claim/cut.py") 361] } ::
  { cls := Value.type "function", data := Data.func { name := Str.ofString "repeated", qualname := Str.ofString "Compiling.repeated", params := fa_Compiling_repeated, body := FuncBody.stmts fb_Compiling_repeated, scope := fs_Compiling_repeated, globals := 3, closure := [], defaults := Value.none, kwdefaults := Value.none, pyModule := Value.str (Str.ofString "emacs.regcode") 236, code := Value.ref 123 } } ::
  { cls := Value.type "tuple", data := Data.seq #[] } ::
  { cls := Value.none, data := Data.fields #[] } ::
  { cls := Value.type "tuple", data := Data.seq #[Value.str (Str.ofString "self") 366, Value.str (Str.ofString "here") 367, Value.str (Str.ofString "end") 368, Value.str (Str.ofString "is_greedy") 369] } ::
  { cls := Value.type "tuple", data := Data.seq #[] } ::
  { cls := Value.none, data := Data.func { name := Str.ofString "split", qualname := Str.ofString "Compiling.split", params := fa_Compiling_split, body := FuncBody.stmts fb_Compiling_split, scope := fs_Compiling_split, globals := 0, closure := [], defaults := Value.none, kwdefaults := Value.none } } ::
  { cls := Value.type "code", data := Data.fields #[Value.str (Str.ofString "split") 363, Value.str (Str.ofString "Compiling.split") 364, Value.str (Str.ofString "/claim/cut.py") 365, Value.int 92 0, Value.int 4 0, Value.int 0 0, Value.int 0 0, Value.int 3 0, Value.ref 125, Value.bool true, Value.int 181 0, Value.ref 126, Value.none, Value.ref 127, Value.ref 128, Value.ref 129, Value.int 370 0, Value.int 92 0, Value.str (Str.ofString "/claim/cut.py") 371] } ::
  { cls := Value.type "function", data := Data.func { name := Str.ofString "split", qualname := Str.ofString "Compiling.split", params := fa_Compiling_split, body := FuncBody.stmts fb_Compiling_split, scope := fs_Compiling_split, globals := 3, closure := [], defaults := Value.none, kwdefaults := Value.none, pyModule := Value.str (Str.ofString "emacs.regcode") 236, code := Value.ref 130 } } ::
  { cls := Value.type "tuple", data := Data.seq #[] } ::
  { cls := Value.none, data := Data.fields #[] } ::
  { cls := Value.type "tuple", data := Data.seq #[Value.str (Str.ofString "self") 376, Value.str (Str.ofString "part") 377, Value.str (Str.ofString "is_greedy") 378, Value.str (Str.ofString "end") 379, Value.str (Str.ofString "begin") 380, Value.str (Str.ofString "here") 381, Value.str (Str.ofString "mark") 382, Value.str (Str.ofString "tasks") 383] } ::
  { cls := Value.type "tuple", data := Data.seq #[] } ::
  { cls := Value.none, data := Data.func { name := Str.ofString "loop", qualname := Str.ofString "Compiling.loop", params := fa_Compiling_loop, body := FuncBody.stmts fb_Compiling_loop, scope := fs_Compiling_loop, globals := 0, closure := [], defaults := Value.none, kwdefaults := Value.none } } ::
  { cls := Value.type "code", data := Data.fields #[Value.str (Str.ofString "loop") 373, Value.str (Str.ofString "Compiling.loop") 374, Value.str (Str.ofString "/claim/cut.py") 375, Value.int 95 0, Value.int 4 0, Value.int 0 0, Value.int 0 0, Value.int 3 0, Value.ref 132, Value.bool true, Value.int 181 0, Value.ref 133, Value.none, Value.ref 134, Value.ref 135, Value.ref 136, Value.int 384 0, Value.int 95 0, Value.str (Str.ofString "/claim/cut.py") 385] } ::
  { cls := Value.type "function", data := Data.func { name := Str.ofString "loop", qualname := Str.ofString "Compiling.loop", params := fa_Compiling_loop, body := FuncBody.stmts fb_Compiling_loop, scope := fs_Compiling_loop, globals := 3, closure := [], defaults := Value.none, kwdefaults := Value.none, pyModule := Value.str (Str.ofString "emacs.regcode") 236, code := Value.ref 137 } } ::
  { cls := Value.type "tuple", data := Data.seq #[] } ::
  { cls := Value.none, data := Data.fields #[] } ::
  { cls := Value.type "tuple", data := Data.seq #[Value.str (Str.ofString "self") 390, Value.str (Str.ofString "found") 391, Value.str (Str.ofString "row") 392] } ::
  { cls := Value.type "tuple", data := Data.seq #[] } ::
  { cls := Value.none, data := Data.func { name := Str.ofString "settled", qualname := Str.ofString "Compiling.settled", params := fa_Compiling_settled, body := FuncBody.stmts fb_Compiling_settled, scope := fs_Compiling_settled, globals := 0, closure := [], defaults := Value.none, kwdefaults := Value.none } } ::
  { cls := Value.type "code", data := Data.fields #[Value.str (Str.ofString "settled") 387, Value.str (Str.ofString "Compiling.settled") 388, Value.str (Str.ofString "/claim/cut.py") 389, Value.int 102 0, Value.int 1 0, Value.int 0 0, Value.int 0 0, Value.int 3 0, Value.ref 139, Value.bool true, Value.int 181 0, Value.ref 140, Value.none, Value.ref 141, Value.ref 142, Value.ref 143, Value.int 393 0, Value.int 102 0, Value.str (Str.ofString "/claim/cut.py") 394] } ::
  { cls := Value.type "function", data := Data.func { name := Str.ofString "settled", qualname := Str.ofString "Compiling.settled", params := fa_Compiling_settled, body := FuncBody.stmts fb_Compiling_settled, scope := fs_Compiling_settled, globals := 3, closure := [], defaults := Value.none, kwdefaults := Value.none, pyModule := Value.str (Str.ofString "emacs.regcode") 236, code := Value.ref 144 } } ::
  { cls := Value.type "tuple", data := Data.seq #[Value.str (Str.ofString "folds") 396, Value.str (Str.ofString "labels") 397, Value.str (Str.ofString "marks") 398, Value.str (Str.ofString "places") 399, Value.str (Str.ofString "rows") 400, Value.str (Str.ofString "waiting") 401] } ::
  { cls := Value.type "dict", data := Data.dict #[{ hash := PyData.keyHash P (Str.ofString "__module__"), key := Value.str (Str.ofString "__module__") 288, val := Value.str (Str.ofString "emacs.regcode") 236 }, { hash := PyData.keyHash P (Str.ofString "__firstlineno__"), key := Value.str (Str.ofString "__firstlineno__") 292, val := Value.int 24 291 }, { hash := PyData.keyHash P (Str.ofString "__init__"), key := Value.str (Str.ofString "__init__") 300, val := Value.ref 84 }, { hash := PyData.keyHash P (Str.ofString "label"), key := Value.str (Str.ofString "label") 307, val := Value.ref 91 }, { hash := PyData.keyHash P (Str.ofString "wait"), key := Value.str (Str.ofString "wait") 316, val := Value.ref 98 }, { hash := PyData.keyHash P (Str.ofString "run"), key := Value.str (Str.ofString "run") 326, val := Value.ref 105 }, { hash := PyData.keyHash P (Str.ofString "node"), key := Value.str (Str.ofString "node") 332, val := Value.ref 110 }, { hash := PyData.keyHash P (Str.ofString "alternatives"), key := Value.str (Str.ofString "alternatives") 345, val := Value.ref 117 }, { hash := PyData.keyHash P (Str.ofString "repeated"), key := Value.str (Str.ofString "repeated") 362, val := Value.ref 124 }, { hash := PyData.keyHash P (Str.ofString "split"), key := Value.str (Str.ofString "split") 372, val := Value.ref 131 }, { hash := PyData.keyHash P (Str.ofString "loop"), key := Value.str (Str.ofString "loop") 386, val := Value.ref 138 }, { hash := PyData.keyHash P (Str.ofString "settled"), key := Value.str (Str.ofString "settled") 395, val := Value.ref 145 }, { hash := PyData.keyHash P (Str.ofString "__static_attributes__"), key := Value.str (Str.ofString "__static_attributes__") 402, val := Value.ref 146 }, { hash := PyData.keyHash P (Str.ofString "__dict__"), key := Value.str (Str.ofString "__dict__") 404, val := Value.ref 149 }, { hash := PyData.keyHash P (Str.ofString "__weakref__"), key := Value.str (Str.ofString "__weakref__") 406, val := Value.ref 150 }, { hash := PyData.keyHash P (Str.ofString "__doc__"), key := Value.str (Str.ofString "__doc__") 407, val := Value.none }] 4 } ::
  { cls := Value.type "type", data := Data.cls { name := Str.ofString "Compiling", bases := [Value.type "object"], mro := [Value.ref 148, Value.type "object"], ns := 147, qualname := Str.ofString "Compiling" }, slots := #[none, none, some (Value.str (Str.ofString "Compiling") 281), some (Value.str (Str.ofString "Compiling") 289), some (Value.builtin "object.__new__"), some (Value.bool true)] } ::
  { cls := Value.type "getset_descriptor", data := Data.fields #[Value.str (Str.ofString "__dict__") 403, Value.ref 148, Value.builtin "function.__dict__", Value.builtin "function.__dict__#set"] } ::
  { cls := Value.type "getset_descriptor", data := Data.fields #[Value.str (Str.ofString "__weakref__") 405, Value.ref 148, Value.builtin "ExceptionGroup.__weakref__", Value.none] } ::
  { cls := Value.type "super", data := Data.fields #[Value.ref 148, Value.ref 148, Value.ref 148] } ::
  { cls := Value.type "builtin_function_or_method", data := Data.fields #[Value.builtin "object.__init_subclass__", Value.ref 148] } :: t
noncomputable def sg3 (P : Params) (t : List Obj) : List Obj :=
  { cls := Value.type "tuple", data := Data.seq #[] } ::
  { cls := Value.none, data := Data.fields #[] } ::
  { cls := Value.type "tuple", data := Data.seq #[Value.str (Str.ofString "node") 413, Value.str (Str.ofString "groups") 414, Value.str (Str.ofString "folds") 415, Value.str (Str.ofString "compiling") 416] } ::
  { cls := Value.type "tuple", data := Data.seq #[] } ::
  { cls := Value.none, data := Data.func { name := Str.ofString "compile_node", qualname := Str.ofString "compile_node", params := fa_compile_node, body := FuncBody.stmts fb_compile_node, scope := fs_compile_node, globals := 0, closure := [], defaults := Value.none, kwdefaults := Value.none } } ::
  { cls := Value.type "code", data := Data.fields #[Value.str (Str.ofString "compile_node") 410, Value.str (Str.ofString "compile_node") 411, Value.str (Str.ofString "/claim/cut.py") 412, Value.int 110 0, Value.int 3 0, Value.int 0 0, Value.int 0 0, Value.int 3 0, Value.ref 153, Value.bool true, Value.int 181 0, Value.ref 154, Value.none, Value.ref 155, Value.ref 156, Value.ref 157, Value.int 417 0, Value.int 110 0, Value.str (Str.ofString "/claim/cut.py") 418] } ::
  { cls := Value.type "function", data := Data.func { name := Str.ofString "compile_node", qualname := Str.ofString "compile_node", params := fa_compile_node, body := FuncBody.stmts fb_compile_node, scope := fs_compile_node, globals := 3, closure := [], defaults := Value.none, kwdefaults := Value.none, pyModule := Value.str (Str.ofString "emacs.regcode") 236, code := Value.ref 158 } } ::
  { cls := Value.type "tuple", data := Data.seq #[] } ::
  { cls := Value.none, data := Data.fields #[] } ::
  { cls := Value.type "tuple", data := Data.seq #[Value.str (Str.ofString "deck") 425, Value.str (Str.ofString "many") 426] } ::
  { cls := Value.type "tuple", data := Data.seq #[] } ::
  { cls := Value.none, data := Data.func { name := Str.ofString "_law_draw", qualname := Str.ofString "_law_draw", params := fa_law_draw, body := FuncBody.stmts fb_law_draw, scope := fs_law_draw, globals := 0, closure := [], defaults := Value.none, kwdefaults := Value.none } } ::
  { cls := Value.type "code", data := Data.fields #[Value.str (Str.ofString "_law_draw") 422, Value.str (Str.ofString "_law_draw") 423, Value.str (Str.ofString "/claim/cut.py") 424, Value.int 115 0, Value.int 2 0, Value.int 0 0, Value.int 0 0, Value.int 3 0, Value.ref 160, Value.bool true, Value.int 181 0, Value.ref 161, Value.none, Value.ref 162, Value.ref 163, Value.ref 164, Value.int 427 0, Value.int 115 0, Value.str (Str.ofString "/claim/cut.py") 428] } ::
  { cls := Value.type "function", data := Data.func { name := Str.ofString "_law_draw", qualname := Str.ofString "_law_draw", params := fa_law_draw, body := FuncBody.stmts fb_law_draw, scope := fs_law_draw, globals := 3, closure := [], defaults := Value.none, kwdefaults := Value.none, pyModule := Value.str (Str.ofString "law_oj0023_01") 420, code := Value.ref 165 } } ::
  { cls := Value.type "tuple", data := Data.seq #[] } ::
  { cls := Value.none, data := Data.fields #[] } ::
  { cls := Value.type "tuple", data := Data.seq #[Value.str (Str.ofString "deck") 433] } ::
  { cls := Value.type "tuple", data := Data.seq #[] } ::
  { cls := Value.none, data := Data.func { name := Str.ofString "_law_simple", qualname := Str.ofString "_law_simple", params := fa_law_simple, body := FuncBody.stmts fb_law_simple, scope := fs_law_simple, globals := 0, closure := [], defaults := Value.none, kwdefaults := Value.none } } ::
  { cls := Value.type "code", data := Data.fields #[Value.str (Str.ofString "_law_simple") 430, Value.str (Str.ofString "_law_simple") 431, Value.str (Str.ofString "/claim/cut.py") 432, Value.int 117 0, Value.int 1 0, Value.int 0 0, Value.int 0 0, Value.int 3 0, Value.ref 167, Value.bool true, Value.int 181 0, Value.ref 168, Value.none, Value.ref 169, Value.ref 170, Value.ref 171, Value.int 434 0, Value.int 117 0, Value.str (Str.ofString "/claim/cut.py") 435] } ::
  { cls := Value.type "function", data := Data.func { name := Str.ofString "_law_simple", qualname := Str.ofString "_law_simple", params := fa_law_simple, body := FuncBody.stmts fb_law_simple, scope := fs_law_simple, globals := 3, closure := [], defaults := Value.none, kwdefaults := Value.none, pyModule := Value.str (Str.ofString "law_oj0023_01") 420, code := Value.ref 172 } } ::
  { cls := Value.type "tuple", data := Data.seq #[] } ::
  { cls := Value.none, data := Data.fields #[] } ::
  { cls := Value.type "tuple", data := Data.seq #[Value.str (Str.ofString "deck") 440, Value.str (Str.ofString "deep") 441, Value.str (Str.ofString "count") 442, Value.str (Str.ofString "way") 443, Value.str (Str.ofString "least") 444, Value.str (Str.ofString "many") 445, Value.str (Str.ofString "is_greedy") 446] } ::
  { cls := Value.type "tuple", data := Data.seq #[] } ::
  { cls := Value.none, data := Data.func { name := Str.ofString "_law_node", qualname := Str.ofString "_law_node", params := fa_law_node, body := FuncBody.stmts fb_law_node, scope := fs_law_node, globals := 0, closure := [], defaults := Value.none, kwdefaults := Value.none } } ::
  { cls := Value.type "code", data := Data.fields #[Value.str (Str.ofString "_law_node") 437, Value.str (Str.ofString "_law_node") 438, Value.str (Str.ofString "/claim/cut.py") 439, Value.int 119 0, Value.int 3 0, Value.int 0 0, Value.int 0 0, Value.int 3 0, Value.ref 174, Value.bool true, Value.int 181 0, Value.ref 175, Value.none, Value.ref 176, Value.ref 177, Value.ref 178, Value.int 447 0, Value.int 119 0, Value.str (Str.ofString "/claim/cut.py") 448] } ::
  { cls := Value.type "function", data := Data.func { name := Str.ofString "_law_node", qualname := Str.ofString "_law_node", params := fa_law_node, body := FuncBody.stmts fb_law_node, scope := fs_law_node, globals := 3, closure := [], defaults := Value.none, kwdefaults := Value.none, pyModule := Value.str (Str.ofString "law_oj0023_01") 420, code := Value.ref 179 } } ::
  { cls := Value.type "tuple", data := Data.seq #[] } ::
  { cls := Value.none, data := Data.fields #[] } ::
  { cls := Value.type "tuple", data := Data.seq #[Value.str (Str.ofString "code") 453] } ::
  { cls := Value.type "tuple", data := Data.seq #[] } ::
  { cls := Value.none, data := Data.func { name := Str.ofString "_law_small", qualname := Str.ofString "_law_small", params := fa_law_small, body := FuncBody.stmts fb_law_small, scope := fs_law_small, globals := 0, closure := [], defaults := Value.none, kwdefaults := Value.none } } ::
  { cls := Value.type "code", data := Data.fields #[Value.str (Str.ofString "_law_small") 450, Value.str (Str.ofString "_law_small") 451, Value.str (Str.ofString "/claim/cut.py") 452, Value.int 132 0, Value.int 1 0, Value.int 0 0, Value.int 0 0, Value.int 3 0, Value.ref 181, Value.bool true, Value.int 181 0, Value.ref 182, Value.none, Value.ref 183, Value.ref 184, Value.ref 185, Value.int 454 0, Value.int 132 0, Value.str (Str.ofString "/claim/cut.py") 455] } ::
  { cls := Value.type "function", data := Data.func { name := Str.ofString "_law_small", qualname := Str.ofString "_law_small", params := fa_law_small, body := FuncBody.stmts fb_law_small, scope := fs_law_small, globals := 3, closure := [], defaults := Value.none, kwdefaults := Value.none, pyModule := Value.str (Str.ofString "law_oj0023_01") 420, code := Value.ref 186 } } ::
  { cls := Value.type "tuple", data := Data.seq #[] } ::
  { cls := Value.none, data := Data.fields #[] } ::
  { cls := Value.type "tuple", data := Data.seq #[Value.str (Str.ofString "row") 460, Value.str (Str.ofString "code") 461, Value.str (Str.ofString "folds") 462] } ::
  { cls := Value.type "tuple", data := Data.seq #[] } ::
  { cls := Value.none, data := Data.func { name := Str.ofString "_law_takes", qualname := Str.ofString "_law_takes", params := fa_law_takes, body := FuncBody.stmts fb_law_takes, scope := fs_law_takes, globals := 0, closure := [], defaults := Value.none, kwdefaults := Value.none } } ::
  { cls := Value.type "code", data := Data.fields #[Value.str (Str.ofString "_law_takes") 457, Value.str (Str.ofString "_law_takes") 458, Value.str (Str.ofString "/claim/cut.py") 459, Value.int 134 0, Value.int 3 0, Value.int 0 0, Value.int 0 0, Value.int 3 0, Value.ref 188, Value.bool true, Value.int 181 0, Value.ref 189, Value.none, Value.ref 190, Value.ref 191, Value.ref 192, Value.int 463 0, Value.int 134 0, Value.str (Str.ofString "/claim/cut.py") 464] } ::
  { cls := Value.type "function", data := Data.func { name := Str.ofString "_law_takes", qualname := Str.ofString "_law_takes", params := fa_law_takes, body := FuncBody.stmts fb_law_takes, scope := fs_law_takes, globals := 3, closure := [], defaults := Value.none, kwdefaults := Value.none, pyModule := Value.str (Str.ofString "law_oj0023_01") 420, code := Value.ref 193 } } ::
  { cls := Value.type "tuple", data := Data.seq #[] } ::
  { cls := Value.none, data := Data.fields #[] } ::
  { cls := Value.type "tuple", data := Data.seq #[Value.str (Str.ofString "kept") 469, Value.str (Str.ofString "number") 470, Value.str (Str.ofString "place") 471, Value.str (Str.ofString "later") 472] } ::
  { cls := Value.type "tuple", data := Data.seq #[] } ::
  { cls := Value.none, data := Data.func { name := Str.ofString "_law_with", qualname := Str.ofString "_law_with", params := fa_law_with, body := FuncBody.stmts fb_law_with, scope := fs_law_with, globals := 0, closure := [], defaults := Value.none, kwdefaults := Value.none } } ::
  { cls := Value.type "code", data := Data.fields #[Value.str (Str.ofString "_law_with") 466, Value.str (Str.ofString "_law_with") 467, Value.str (Str.ofString "/claim/cut.py") 468, Value.int 140 0, Value.int 3 0, Value.int 0 0, Value.int 0 0, Value.int 3 0, Value.ref 195, Value.bool true, Value.int 181 0, Value.ref 196, Value.none, Value.ref 197, Value.ref 198, Value.ref 199, Value.int 473 0, Value.int 140 0, Value.str (Str.ofString "/claim/cut.py") 474] } ::
  { cls := Value.type "function", data := Data.func { name := Str.ofString "_law_with", qualname := Str.ofString "_law_with", params := fa_law_with, body := FuncBody.stmts fb_law_with, scope := fs_law_with, globals := 3, closure := [], defaults := Value.none, kwdefaults := Value.none, pyModule := Value.str (Str.ofString "law_oj0023_01") 420, code := Value.ref 200 } } ::
  { cls := Value.type "tuple", data := Data.seq #[] } ::
  { cls := Value.none, data := Data.fields #[] } ::
  { cls := Value.type "tuple", data := Data.seq #[Value.str (Str.ofString "node") 479, Value.str (Str.ofString "states") 480, Value.str (Str.ofString "text") 481, Value.str (Str.ofString "folds") 482, Value.str (Str.ofString "found") 483, Value.str (Str.ofString "at") 484, Value.str (Str.ofString "kept") 485] } ::
  { cls := Value.type "tuple", data := Data.seq #[] } ::
  { cls := Value.none, data := Data.func { name := Str.ofString "_law_each", qualname := Str.ofString "_law_each", params := fa_law_each, body := FuncBody.stmts fb_law_each, scope := fs_law_each, globals := 0, closure := [], defaults := Value.none, kwdefaults := Value.none } } ::
  { cls := Value.type "code", data := Data.fields #[Value.str (Str.ofString "_law_each") 476, Value.str (Str.ofString "_law_each") 477, Value.str (Str.ofString "/claim/cut.py") 478, Value.int 144 0, Value.int 4 0, Value.int 0 0, Value.int 0 0, Value.int 3 0, Value.ref 202, Value.bool true, Value.int 181 0, Value.ref 203, Value.none, Value.ref 204, Value.ref 205, Value.ref 206, Value.int 486 0, Value.int 144 0, Value.str (Str.ofString "/claim/cut.py") 487] } ::
  { cls := Value.type "function", data := Data.func { name := Str.ofString "_law_each", qualname := Str.ofString "_law_each", params := fa_law_each, body := FuncBody.stmts fb_law_each, scope := fs_law_each, globals := 3, closure := [], defaults := Value.none, kwdefaults := Value.none, pyModule := Value.str (Str.ofString "law_oj0023_01") 420, code := Value.ref 207 } } ::
  { cls := Value.type "tuple", data := Data.seq #[] } ::
  { cls := Value.none, data := Data.fields #[] } ::
  { cls := Value.type "tuple", data := Data.seq #[Value.str (Str.ofString "node") 492, Value.str (Str.ofString "at") 493, Value.str (Str.ofString "kept") 494, Value.str (Str.ofString "text") 495, Value.str (Str.ofString "folds") 496, Value.str (Str.ofString "more_here") 497, Value.str (Str.ofString "end") 498, Value.str (Str.ofString "later") 499] } ::
  { cls := Value.type "tuple", data := Data.seq #[] } ::
  { cls := Value.none, data := Data.func { name := Str.ofString "_law_star", qualname := Str.ofString "_law_star", params := fa_law_star, body := FuncBody.stmts fb_law_star, scope := fs_law_star, globals := 0, closure := [], defaults := Value.none, kwdefaults := Value.none } } ::
  { cls := Value.type "code", data := Data.fields #[Value.str (Str.ofString "_law_star") 489, Value.str (Str.ofString "_law_star") 490, Value.str (Str.ofString "/claim/cut.py") 491, Value.int 149 0, Value.int 5 0, Value.int 0 0, Value.int 0 0, Value.int 3 0, Value.ref 209, Value.bool true, Value.int 181 0, Value.ref 210, Value.none, Value.ref 211, Value.ref 212, Value.ref 213, Value.int 500 0, Value.int 149 0, Value.str (Str.ofString "/claim/cut.py") 501] } ::
  { cls := Value.type "function", data := Data.func { name := Str.ofString "_law_star", qualname := Str.ofString "_law_star", params := fa_law_star, body := FuncBody.stmts fb_law_star, scope := fs_law_star, globals := 3, closure := [], defaults := Value.none, kwdefaults := Value.none, pyModule := Value.str (Str.ofString "law_oj0023_01") 420, code := Value.ref 214 } } ::
  { cls := Value.type "tuple", data := Data.seq #[] } ::
  { cls := Value.none, data := Data.fields #[] } ::
  { cls := Value.type "tuple", data := Data.seq #[Value.str (Str.ofString "node") 506, Value.str (Str.ofString "left") 507, Value.str (Str.ofString "at") 508, Value.str (Str.ofString "kept") 509, Value.str (Str.ofString "text") 510, Value.str (Str.ofString "folds") 511, Value.str (Str.ofString "more_here") 512, Value.str (Str.ofString "end") 513, Value.str (Str.ofString "later") 514] } ::
  { cls := Value.type "tuple", data := Data.seq #[] } ::
  { cls := Value.none, data := Data.func { name := Str.ofString "_law_some", qualname := Str.ofString "_law_some", params := fa_law_some, body := FuncBody.stmts fb_law_some, scope := fs_law_some, globals := 0, closure := [], defaults := Value.none, kwdefaults := Value.none } } ::
  { cls := Value.type "code", data := Data.fields #[Value.str (Str.ofString "_law_some") 503, Value.str (Str.ofString "_law_some") 504, Value.str (Str.ofString "/claim/cut.py") 505, Value.int 155 0, Value.int 6 0, Value.int 0 0, Value.int 0 0, Value.int 3 0, Value.ref 216, Value.bool true, Value.int 181 0, Value.ref 217, Value.none, Value.ref 218, Value.ref 219, Value.ref 220, Value.int 515 0, Value.int 155 0, Value.str (Str.ofString "/claim/cut.py") 516] } ::
  { cls := Value.type "function", data := Data.func { name := Str.ofString "_law_some", qualname := Str.ofString "_law_some", params := fa_law_some, body := FuncBody.stmts fb_law_some, scope := fs_law_some, globals := 3, closure := [], defaults := Value.none, kwdefaults := Value.none, pyModule := Value.str (Str.ofString "law_oj0023_01") 420, code := Value.ref 221 } } ::
  { cls := Value.type "tuple", data := Data.seq #[] } ::
  { cls := Value.none, data := Data.fields #[] } ::
  { cls := Value.none, data := Data.func { name := Str.ofString "_law_ways", qualname := Str.ofString "_law_ways", params := fa_law_ways, body := FuncBody.stmts fb_law_ways, scope := fs_law_ways, globals := 0, closure := [], defaults := Value.none, kwdefaults := Value.none } } ::
  { cls := Value.type "code", data := Data.fields #[Value.str (Str.ofString "_law_ways") 518, Value.str (Str.ofString "_law_ways") 519, Value.str (Str.ofString "/claim/cut.py") 520, Value.int 162 0, Value.int 5 0, Value.int 0 0, Value.int 0 0, Value.int 3 0, Value.ref 223, Value.bool true, Value.int 181 0, Value.ref 224, Value.none, Value.none, Value.none, Value.ref 225, Value.int 521 0, Value.int 162 0, Value.str (Str.ofString "/claim/cut.py") 522] } ::
  { cls := Value.type "function", data := Data.func { name := Str.ofString "_law_ways", qualname := Str.ofString "_law_ways", params := fa_law_ways, body := FuncBody.stmts fb_law_ways, scope := fs_law_ways, globals := 3, closure := [], defaults := Value.none, kwdefaults := Value.none, pyModule := Value.str (Str.ofString "law_oj0023_01") 420, code := Value.ref 226 } } ::
  { cls := Value.type "tuple", data := Data.seq #[] } ::
  { cls := Value.none, data := Data.fields #[] } ::
  { cls := Value.type "tuple", data := Data.seq #[Value.str (Str.ofString "rows") 527, Value.str (Str.ofString "row") 528, Value.str (Str.ofString "place") 529, Value.str (Str.ofString "kept") 530, Value.str (Str.ofString "marks") 531, Value.str (Str.ofString "text") 532, Value.str (Str.ofString "folds") 533, Value.str (Str.ofString "own") 534, Value.str (Str.ofString "word") 535, Value.str (Str.ofString "first") 536] } ::
  { cls := Value.type "tuple", data := Data.seq #[] } ::
  { cls := Value.none, data := Data.func { name := Str.ofString "_law_gone", qualname := Str.ofString "_law_gone", params := fa_law_gone, body := FuncBody.stmts fb_law_gone, scope := fs_law_gone, globals := 0, closure := [], defaults := Value.none, kwdefaults := Value.none } } ::
  { cls := Value.type "code", data := Data.fields #[Value.str (Str.ofString "_law_gone") 524, Value.str (Str.ofString "_law_gone") 525, Value.str (Str.ofString "/claim/cut.py") 526, Value.int 183 0, Value.int 7 0, Value.int 0 0, Value.int 0 0, Value.int 3 0, Value.ref 228, Value.bool true, Value.int 181 0, Value.ref 229, Value.none, Value.ref 230, Value.ref 231, Value.ref 232, Value.int 537 0, Value.int 183 0, Value.str (Str.ofString "/claim/cut.py") 538] } ::
  { cls := Value.type "function", data := Data.func { name := Str.ofString "_law_gone", qualname := Str.ofString "_law_gone", params := fa_law_gone, body := FuncBody.stmts fb_law_gone, scope := fs_law_gone, globals := 3, closure := [], defaults := Value.none, kwdefaults := Value.none, pyModule := Value.str (Str.ofString "law_oj0023_01") 420, code := Value.ref 233 } } ::
  { cls := Value.type "tuple", data := Data.seq #[] } ::
  { cls := Value.none, data := Data.fields #[] } ::
  { cls := Value.none, data := Data.func { name := Str.ofString "_law_loops", qualname := Str.ofString "_law_loops", params := fa_law_loops, body := FuncBody.stmts fb_law_loops, scope := fs_law_loops, globals := 0, closure := [], defaults := Value.none, kwdefaults := Value.none } } ::
  { cls := Value.type "code", data := Data.fields #[Value.str (Str.ofString "_law_loops") 540, Value.str (Str.ofString "_law_loops") 541, Value.str (Str.ofString "/claim/cut.py") 542, Value.int 207 0, Value.int 1 0, Value.int 0 0, Value.int 0 0, Value.int 3 0, Value.ref 235, Value.bool true, Value.int 181 0, Value.ref 236, Value.none, Value.none, Value.none, Value.ref 237, Value.int 543 0, Value.int 207 0, Value.str (Str.ofString "/claim/cut.py") 544] } ::
  { cls := Value.type "function", data := Data.func { name := Str.ofString "_law_loops", qualname := Str.ofString "_law_loops", params := fa_law_loops, body := FuncBody.stmts fb_law_loops, scope := fs_law_loops, globals := 3, closure := [], defaults := Value.none, kwdefaults := Value.none, pyModule := Value.str (Str.ofString "law_oj0023_01") 420, code := Value.ref 238 } } ::
  { cls := Value.type "tuple", data := Data.seq #[] } ::
  { cls := Value.none, data := Data.fields #[] } ::
  { cls := Value.none, data := Data.func { name := Str.ofString "law", qualname := Str.ofString "law", params := fa_law, body := FuncBody.stmts fb_law, scope := fs_law, globals := 0, closure := [], defaults := Value.none, kwdefaults := Value.none } } ::
  { cls := Value.type "code", data := Data.fields #[Value.str (Str.ofString "law") 546, Value.str (Str.ofString "law") 547, Value.str (Str.ofString "/claim/cut.py") 548, Value.int 215 0, Value.int 1 0, Value.int 0 0, Value.int 0 0, Value.int 3 0, Value.ref 240, Value.bool true, Value.int 181 0, Value.ref 241, Value.none, Value.none, Value.none, Value.ref 242, Value.int 549 0, Value.int 215 0, Value.str (Str.ofString "/claim/cut.py") 550] } ::
  { cls := Value.type "function", data := Data.func { name := Str.ofString "law", qualname := Str.ofString "law", params := fa_law, body := FuncBody.stmts fb_law, scope := fs_law, globals := 3, closure := [], defaults := Value.none, kwdefaults := Value.none, pyModule := Value.str (Str.ofString "law_oj0023_01") 420, code := Value.ref 243 } } :: t
noncomputable def hp (P : Params) (a b c : Obj) (t : List Obj) : Heap := ⟨⟨boot_o_0 P :: boot_o_1 P :: a :: b :: boot_o_4 P :: boot_o_5 P :: boot_o_6 P :: boot_o_7 P :: boot_o_8 P :: boot_o_9 P :: boot_o_10 P :: { cls := Value.type "tuple", data := Data.seq #[] } :: c :: t⟩, { }⟩
noncomputable def hp0 (P : Params) : Heap := hp P (boot_o_2 P) (boot_o_3 P) ({ cls := Value.none, data := Data.fields #[] }) (sg0 P [])
noncomputable def hp1 (P : Params) : Heap := hp P ({ cls := Value.none, data := Data.dict #[{ hash := PyData.keyHash P (Str.ofString "type.__subclasses__.Exception.0"), key := Value.str (Str.ofString "type.__subclasses__.Exception.0") 232, val := Value.int 45 0 }, { hash := PyData.keyHash P (Str.ofString "type.__subclasses__.Exception.n"), key := Value.str (Str.ofString "type.__subclasses__.Exception.n") 233, val := Value.int 1 0 }] 2 }) ({ cls := Value.type "dict", data := Data.dict #[{ hash := PyData.keyHash P (Str.ofString "__name__"), key := Value.str (Str.ofString "__name__") 165, val := Value.str (Str.ofString "emacs.regcode") 236 }, { hash := PyData.keyHash P (Str.ofString "__doc__"), key := Value.str (Str.ofString "__doc__") 166, val := Value.none }, { hash := PyData.keyHash P (Str.ofString "__package__"), key := Value.str (Str.ofString "__package__") 167, val := Value.none }, { hash := PyData.keyHash P (Str.ofString "__loader__"), key := Value.str (Str.ofString "__loader__") 168, val := Value.builtin "__main__.__loader__#opaque" }, { hash := PyData.keyHash P (Str.ofString "__spec__"), key := Value.str (Str.ofString "__spec__") 169, val := Value.none }, { hash := PyData.keyHash P (Str.ofString "__annotations__"), key := Value.str (Str.ofString "__annotations__") 170, val := Value.ref 6 }, { hash := PyData.keyHash P (Str.ofString "__builtins__"), key := Value.str (Str.ofString "__builtins__") 171, val := Value.ref 4 }, { hash := PyData.keyHash P (Str.ofString "__file__"), key := Value.str (Str.ofString "__file__") 173, val := Value.str (Str.ofString "/claim/cut.py") 172 }, { hash := PyData.keyHash P (Str.ofString "__cached__"), key := Value.str (Str.ofString "__cached__") 174, val := Value.none }, { hash := PyData.keyHash P (Str.ofString "downcase"), key := Value.str (Str.ofString "downcase") 195, val := Value.ref 21 }, { hash := PyData.keyHash P (Str.ofString "fold"), key := Value.str (Str.ofString "fold") 202, val := Value.ref 28 }, { hash := PyData.keyHash P (Str.ofString "LispSignal"), key := Value.str (Str.ofString "LispSignal") 235, val := Value.ref 45 }, { hash := PyData.keyHash P (Str.ofString "MOST_ROWS"), key := Value.str (Str.ofString "MOST_ROWS") 239, val := Value.int 20000 238 }, { hash := PyData.keyHash P (Str.ofString "PLAIN"), key := Value.str (Str.ofString "PLAIN") 245, val := Value.ref 49 }, { hash := PyData.keyHash P (Str.ofString "Regcode"), key := Value.str (Str.ofString "Regcode") 280, val := Value.ref 66 }] 15 }) ({ cls := Value.none, data := Data.fields #[Value.int 2 0, Value.int 0 0, Value.ref 20, Value.int 6 0, Value.int 0 0, Value.ref 27, Value.int 9 0, Value.int 0 0, Value.ref 34, Value.int 17 0, Value.int 0 0, Value.ref 55] }) (sg0 P (sg1 P []))
noncomputable def hp2 (P : Params) : Heap := hp P ({ cls := Value.none, data := Data.dict #[{ hash := PyData.keyHash P (Str.ofString "type.__subclasses__.Exception.0"), key := Value.str (Str.ofString "type.__subclasses__.Exception.0") 232, val := Value.int 45 0 }, { hash := PyData.keyHash P (Str.ofString "type.__subclasses__.Exception.n"), key := Value.str (Str.ofString "type.__subclasses__.Exception.n") 233, val := Value.int 1 0 }] 2 }) ({ cls := Value.type "dict", data := Data.dict #[{ hash := PyData.keyHash P (Str.ofString "__name__"), key := Value.str (Str.ofString "__name__") 165, val := Value.str (Str.ofString "emacs.regcode") 236 }, { hash := PyData.keyHash P (Str.ofString "__doc__"), key := Value.str (Str.ofString "__doc__") 166, val := Value.none }, { hash := PyData.keyHash P (Str.ofString "__package__"), key := Value.str (Str.ofString "__package__") 167, val := Value.none }, { hash := PyData.keyHash P (Str.ofString "__loader__"), key := Value.str (Str.ofString "__loader__") 168, val := Value.builtin "__main__.__loader__#opaque" }, { hash := PyData.keyHash P (Str.ofString "__spec__"), key := Value.str (Str.ofString "__spec__") 169, val := Value.none }, { hash := PyData.keyHash P (Str.ofString "__annotations__"), key := Value.str (Str.ofString "__annotations__") 170, val := Value.ref 6 }, { hash := PyData.keyHash P (Str.ofString "__builtins__"), key := Value.str (Str.ofString "__builtins__") 171, val := Value.ref 4 }, { hash := PyData.keyHash P (Str.ofString "__file__"), key := Value.str (Str.ofString "__file__") 173, val := Value.str (Str.ofString "/claim/cut.py") 172 }, { hash := PyData.keyHash P (Str.ofString "__cached__"), key := Value.str (Str.ofString "__cached__") 174, val := Value.none }, { hash := PyData.keyHash P (Str.ofString "downcase"), key := Value.str (Str.ofString "downcase") 195, val := Value.ref 21 }, { hash := PyData.keyHash P (Str.ofString "fold"), key := Value.str (Str.ofString "fold") 202, val := Value.ref 28 }, { hash := PyData.keyHash P (Str.ofString "LispSignal"), key := Value.str (Str.ofString "LispSignal") 235, val := Value.ref 45 }, { hash := PyData.keyHash P (Str.ofString "MOST_ROWS"), key := Value.str (Str.ofString "MOST_ROWS") 239, val := Value.int 20000 238 }, { hash := PyData.keyHash P (Str.ofString "PLAIN"), key := Value.str (Str.ofString "PLAIN") 245, val := Value.ref 49 }, { hash := PyData.keyHash P (Str.ofString "Regcode"), key := Value.str (Str.ofString "Regcode") 280, val := Value.ref 66 }, { hash := PyData.keyHash P (Str.ofString "Compiling"), key := Value.str (Str.ofString "Compiling") 409, val := Value.ref 148 }] 16 }) ({ cls := Value.none, data := Data.fields #[Value.int 2 0, Value.int 0 0, Value.ref 20, Value.int 6 0, Value.int 0 0, Value.ref 27, Value.int 9 0, Value.int 0 0, Value.ref 34, Value.int 17 0, Value.int 0 0, Value.ref 55, Value.int 24 0, Value.int 0 0, Value.ref 76] }) (sg0 P (sg1 P (sg2 P [])))
noncomputable def hp3 (P : Params) : Heap := hp P ({ cls := Value.none, data := Data.dict #[{ hash := PyData.keyHash P (Str.ofString "type.__subclasses__.Exception.0"), key := Value.str (Str.ofString "type.__subclasses__.Exception.0") 232, val := Value.int 45 0 }, { hash := PyData.keyHash P (Str.ofString "type.__subclasses__.Exception.n"), key := Value.str (Str.ofString "type.__subclasses__.Exception.n") 233, val := Value.int 1 0 }] 2 }) ({ cls := Value.type "dict", data := Data.dict #[{ hash := PyData.keyHash P (Str.ofString "__name__"), key := Value.str (Str.ofString "__name__") 165, val := Value.str (Str.ofString "law_oj0023_01") 420 }, { hash := PyData.keyHash P (Str.ofString "__doc__"), key := Value.str (Str.ofString "__doc__") 166, val := Value.none }, { hash := PyData.keyHash P (Str.ofString "__package__"), key := Value.str (Str.ofString "__package__") 167, val := Value.none }, { hash := PyData.keyHash P (Str.ofString "__loader__"), key := Value.str (Str.ofString "__loader__") 168, val := Value.builtin "__main__.__loader__#opaque" }, { hash := PyData.keyHash P (Str.ofString "__spec__"), key := Value.str (Str.ofString "__spec__") 169, val := Value.none }, { hash := PyData.keyHash P (Str.ofString "__annotations__"), key := Value.str (Str.ofString "__annotations__") 170, val := Value.ref 6 }, { hash := PyData.keyHash P (Str.ofString "__builtins__"), key := Value.str (Str.ofString "__builtins__") 171, val := Value.ref 4 }, { hash := PyData.keyHash P (Str.ofString "__file__"), key := Value.str (Str.ofString "__file__") 173, val := Value.str (Str.ofString "/claim/cut.py") 172 }, { hash := PyData.keyHash P (Str.ofString "__cached__"), key := Value.str (Str.ofString "__cached__") 174, val := Value.none }, { hash := PyData.keyHash P (Str.ofString "downcase"), key := Value.str (Str.ofString "downcase") 195, val := Value.ref 21 }, { hash := PyData.keyHash P (Str.ofString "fold"), key := Value.str (Str.ofString "fold") 202, val := Value.ref 28 }, { hash := PyData.keyHash P (Str.ofString "LispSignal"), key := Value.str (Str.ofString "LispSignal") 235, val := Value.ref 45 }, { hash := PyData.keyHash P (Str.ofString "MOST_ROWS"), key := Value.str (Str.ofString "MOST_ROWS") 239, val := Value.int 20000 238 }, { hash := PyData.keyHash P (Str.ofString "PLAIN"), key := Value.str (Str.ofString "PLAIN") 245, val := Value.ref 49 }, { hash := PyData.keyHash P (Str.ofString "Regcode"), key := Value.str (Str.ofString "Regcode") 280, val := Value.ref 66 }, { hash := PyData.keyHash P (Str.ofString "Compiling"), key := Value.str (Str.ofString "Compiling") 409, val := Value.ref 148 }, { hash := PyData.keyHash P (Str.ofString "compile_node"), key := Value.str (Str.ofString "compile_node") 419, val := Value.ref 159 }, { hash := PyData.keyHash P (Str.ofString "_law_draw"), key := Value.str (Str.ofString "_law_draw") 429, val := Value.ref 166 }, { hash := PyData.keyHash P (Str.ofString "_law_simple"), key := Value.str (Str.ofString "_law_simple") 436, val := Value.ref 173 }, { hash := PyData.keyHash P (Str.ofString "_law_node"), key := Value.str (Str.ofString "_law_node") 449, val := Value.ref 180 }, { hash := PyData.keyHash P (Str.ofString "_law_small"), key := Value.str (Str.ofString "_law_small") 456, val := Value.ref 187 }, { hash := PyData.keyHash P (Str.ofString "_law_takes"), key := Value.str (Str.ofString "_law_takes") 465, val := Value.ref 194 }, { hash := PyData.keyHash P (Str.ofString "_law_with"), key := Value.str (Str.ofString "_law_with") 475, val := Value.ref 201 }, { hash := PyData.keyHash P (Str.ofString "_law_each"), key := Value.str (Str.ofString "_law_each") 488, val := Value.ref 208 }, { hash := PyData.keyHash P (Str.ofString "_law_star"), key := Value.str (Str.ofString "_law_star") 502, val := Value.ref 215 }, { hash := PyData.keyHash P (Str.ofString "_law_some"), key := Value.str (Str.ofString "_law_some") 517, val := Value.ref 222 }, { hash := PyData.keyHash P (Str.ofString "_law_ways"), key := Value.str (Str.ofString "_law_ways") 523, val := Value.ref 227 }, { hash := PyData.keyHash P (Str.ofString "_law_gone"), key := Value.str (Str.ofString "_law_gone") 539, val := Value.ref 234 }, { hash := PyData.keyHash P (Str.ofString "_law_loops"), key := Value.str (Str.ofString "_law_loops") 545, val := Value.ref 239 }, { hash := PyData.keyHash P (Str.ofString "law"), key := Value.str (Str.ofString "law") 551, val := Value.ref 244 }] 30 }) ({ cls := Value.none, data := Data.fields #[Value.int 2 0, Value.int 0 0, Value.ref 20, Value.int 6 0, Value.int 0 0, Value.ref 27, Value.int 9 0, Value.int 0 0, Value.ref 34, Value.int 17 0, Value.int 0 0, Value.ref 55, Value.int 24 0, Value.int 0 0, Value.ref 76, Value.int 110 0, Value.int 0 0, Value.ref 158, Value.int 115 0, Value.int 0 0, Value.ref 165, Value.int 117 0, Value.int 0 0, Value.ref 172, Value.int 119 0, Value.int 0 0, Value.ref 179, Value.int 132 0, Value.int 0 0, Value.ref 186, Value.int 134 0, Value.int 0 0, Value.ref 193, Value.int 140 0, Value.int 0 0, Value.ref 200, Value.int 144 0, Value.int 0 0, Value.ref 207, Value.int 149 0, Value.int 0 0, Value.ref 214, Value.int 155 0, Value.int 0 0, Value.ref 221, Value.int 162 0, Value.int 0 0, Value.ref 226, Value.int 183 0, Value.int 0 0, Value.ref 233, Value.int 207 0, Value.int 0 0, Value.ref 238, Value.int 215 0, Value.int 0 0, Value.ref 243] }) (sg0 P (sg1 P (sg2 P (sg3 P []))))
noncomputable def envA : Env := { scope := prg.main.scope, locals := mainNs, globals := mainNs, cells := [], code := Value.ref 13, frame := some 14 }
noncomputable abbrev cE : Code := Code.body (behindTheImports prg) envA
noncomputable abbrev q0 : Pos := { line := 0, col := 0, endLine := 0, endCol := 0 }
noncomputable abbrev st (H : Params → Heap) (w : World) (k : Nat) (os : OsState) : Shared := ⟨H w.params, Array.mk [], { }, k, os⟩
noncomputable abbrev rs (i j : Nat) : List Stmt := ((behindTheImports prg).drop i).take j
theorem bt_pre (w : World) (os : OsState) : topGo treeTable prg w 11 (some (Value.ref 6)) 12 ⟨boot_heap w.params, Array.mk [], boot_drawn, boot_toks, os⟩ (topStub prg) = some (st hp0 w 187 os, ⟨denote treeTable cE, cE, q0, [topFrame q0]⟩) := by kernel_rfl
theorem bt_block (w : World) (os : OsState) : segRun treeTable prg w 11 (some (Value.ref 6)) 1 1 (st hp0 w 187 os) (blockOf (behindTheImports prg) envA cE q0 [topFrame q0]) = some (Flow.next, st hp0 w 187 os, cE, q0) := by kernel_rfl
theorem bt_1 (w : World) (os : OsState) : segRun treeTable prg w 11 (some (Value.ref 6)) 1 569 (st hp0 w 187 os) (piecesOf (rs 0 9) envA cE q0 [topFrame q0]) = some (Flow.next, st hp1 w 281 os, cE, { line := 17, col := 0, endLine := 23, endCol := 26 }) := by kernel_rfl
theorem bt_2 (w : World) (os : OsState) : segRun treeTable prg w 11 (some (Value.ref 6)) 1 537 (st hp1 w 281 os) (piecesOf (rs 9 1) envA cE { line := 17, col := 0, endLine := 23, endCol := 26 } [topFrame q0]) = some (Flow.next, st hp2 w 410 os, cE, { line := 24, col := 0, endLine := 109, endCol := 20 }) := by kernel_rfl
theorem bt_3 (w : World) (os : OsState) : segRun treeTable prg w 11 (some (Value.ref 6)) 1 453 (st hp2 w 410 os) (piecesOf (rs 10 15) envA cE { line := 24, col := 0, endLine := 109, endCol := 20 } [topFrame q0]) = some (Flow.next, st hp3 w 552 os, cE, { line := 215, col := 0, endLine := 222, endCol := 104 }) := by kernel_rfl
theorem bt_fin (w : World) (os : OsState) : topRun treeTable prg w 11 (some (Value.ref 6)) 2 (st hp3 w 552 os) ⟨doneF Flow.next, cE, { line := 215, col := 0, endLine := 222, endCol := 104 }, [topFrame q0]⟩ = some (st hp3 w 552 os) := by kernel_rfl
theorem bt_end : (behindTheImports prg).drop 25 = [] := by kernel_rfl
theorem rs_cut (i j : Nat) : (behindTheImports prg).drop i = rs i j ++ (behindTheImports prg).drop (i + j) := by
  rw [← List.drop_drop]; exact (List.take_append_drop j _).symm
theorem bt_run (w : World) (os : OsState) : topRun treeTable prg w 11 (some (Value.ref 6)) (12 + (1 + (569 + (537 + (453 + 2))))) ⟨boot_heap w.params, Array.mk [], boot_drawn, boot_toks, os⟩ (topStub prg) = some (st hp3 w 552 os) := by
  refine go_top (bt_pre w os) (piece_block (bt_block w os) ?_)
  rw [show behindTheImports prg = (behindTheImports prg).drop 0 from rfl, rs_cut 0 9]
  refine piece_app (bt_1 w os) ?_
  rw [rs_cut 9 1]
  refine piece_app (bt_2 w os) ?_
  rw [rs_cut 10 15]
  refine piece_app (bt_3 w os) ?_
  rw [bt_end]
  exact piece_nil (bt_fin w os)
theorem bt_size (w : World) : ((boot_heap w.params).isNs mainGlobals && (Array.mk ([] : List GenState)).size == 0, (boot_heap w.params).objs.size, (boot_heap w.params).nsMap mainGlobals "__annotations__") = (true, 11, some (Value.ref 6)) := by kernel_rfl
theorem lk_a (w : World) (os : OsState) : (staticsOk (importedModules prg.main.body) (boot_heap w.params) (hp3 w.params) && namesBound prg (hp3 w.params) && gensDone (st hp3 w 552 os) && laidKept (boot_heap w.params) (hp3 w.params)) = true := by kernel_rfl
theorem lk_b (w : World) (os : OsState) : openSeen hd.view_39 [] (importedModules prg.main.body) (fun s => xlAt hd.view_39 [] s && recOk PySem.Challenge.rw_oj0023_01.row.records s) true (st hp3 w 552 os) = openGood hd.view_39 [] := by kernel_rfl
theorem lk_c (w : World) (os : OsState) : Hook.obs HK (st hp3 w 552 os) = Hook.val HK w := by kernel_rfl
theorem left1 : LeftO prg hd.view_39 [] (fun s => xlAt hd.view_39 [] s && recOk PySem.Challenge.rw_oj0023_01.row.records s) (Hook.obs HK) (Hook.val HK) 3234 :=
  LeftO.of_pieces (boot_open boot_a rfl boot_b) bt_size bt_run rfl (fun w => funext fun os => looks_pair (lk_a w os) (looks_pair (lk_b w os) (lk_c w os)))
@[reducible] noncomputable def fp_law : Pos := by
  refine (fun (y : Pos) (_ : fdP (stm 24) = y) => y) ?y ?h
  case h => conv => lhs; whnf
@[reducible] noncomputable def ldef : DefRec := { name := Str.ofString "law", params := fa_law, body := fb_law, scope := fs_law, pos := fp_law }
theorem said_road : noRoadLSs
      { strict := !(importedModules PySem.Challenge.rw_oj0023_01.row.prog.main.body).all cThrough.contains, foot := none, bare := List.filter (readsOut PySem.Challenge.rw_oj0023_01.row.prog PySem.Challenge.rw_oj0023_01.row.prog.main.body) [Str.ofString "vars", Str.ofString "dir", Str.ofString "locals"] }
      PySem.Challenge.rw_oj0023_01.row.prog.main.body = true := by kernel_rfl
theorem said_row : PySem.Challenge.rw_oj0023_01.row.wellSaid = true := by
  delta OpenRow.wellSaid
  repeat' (with_reducible refine look_both ?_ ?_)
  all_goals (try (delta OpenRow.partSaid; repeat' (with_reducible refine look_both ?_ ?_)))
  all_goals (try (delta looksOpen; repeat' (with_reducible refine look_both ?_ ?_)))
  all_goals first | with_reducible exact said_road | kernel_rfl
theorem said1 : PySem.Challenge.rw_oj0023_01.wellSaid = true := by
  delta OpenLaw.wellSaid
  repeat' (with_reducible refine look_both ?_ ?_)
  all_goals first | with_reducible exact said_row | kernel_rfl
end Mine
end
open PySem PySem.W PyProof.Rows PyProof.V
local macro_rules | `(tactic| walk_at $s:str) => `(tactic| k_extra $s)
local macro_rules | `(tactic| k_mem) => `(tactic| k_extra "mem0")
local macro_rules | `(tactic| k_all) => `(tactic| k_extra "all0")

section
/-! The plain law: no program in sight. -/
open PySem.W
namespace Mine

inductive Nd where
  | chr (c : Int) | any | set
  | times (least : Nat) (most : Int) (g : Bool) (n : Nd)
  | seq (a b : Nd) | alt (a b : Nd) | group (k : Nat) (n : Nd)

inductive Rw where
  | done | split (a b : Nat) | jump (a : Nat) | save (k : Nat) | mark (k : Nat) | prog (k : Nat)
  | chr (c : Int) | any | set

noncomputable abbrev Kept := List (Int × Int)
noncomputable abbrev St := Nat × Kept

noncomputable def put (k v : Nat) (c : Kept) : Kept := kdfPut c k v
noncomputable def get (k : Nat) (c : Kept) : Option Int := if kdfHas c k = true then some (kdfLook c k 0) else none

theorem find_put (k j v : Int) (c : Kept) : (kdfPut c k v).find? (fun p => decide (p.1 = j)) = if j = k then some (k, v) else c.find? (fun p => decide (p.1 = j)) := by
  unfold kdfPut
  by_cases hc : (c.any fun p => decide (p.1 = k)) = true
  · rw [if_pos hc]
    induction c with
    | nil => simp at hc
    | cons q r ih =>
      by_cases hq : q.1 = k
      · by_cases hj : j = k
        · subst hj; simp [hq]
        · have h2 : ¬ k = j := fun e => hj e.symm
          have h3 : ¬ q.1 = j := by rw [hq]; exact h2
          rw [if_neg hj]
          simp only [List.map_cons, List.find?_cons, hq, decide_true, if_true, h2, decide_false, if_false]
          clear ih hc
          induction r with
          | nil => rfl
          | cons p r ih =>
            by_cases hp : p.1 = k
            · simp [-List.find?_map, hp, h2]; simpa [-List.find?_map] using ih
            · by_cases hpj : p.1 = j
              · have h5 : ¬ j = k := hj
                simp [-List.find?_map, hpj, h5]
              · simp [-List.find?_map, hp, hpj]; simpa [-List.find?_map] using ih
      · have hc' : (r.any fun p => decide (p.1 = k)) = true := by simpa [hq] using hc
        by_cases hqj : q.1 = j
        · have h5 : ¬ j = k := by rw [← hqj]; exact hq
          simp [-List.find?_map, hq, hqj, h5]
        · have := ih hc'; simp [-List.find?_map, hq, hqj]; simpa [-List.find?_map] using this
  · rw [if_neg hc]
    have hn : c.find? (fun p => decide (p.1 = k)) = none := by
      rw [List.find?_eq_none]
      intro x hx hk
      exact hc (List.any_eq_true.mpr ⟨x, hx, hk⟩)
    by_cases hj : j = k
    · subst hj
      rw [if_pos rfl, List.find?_append, hn]; simp
    · have h2 : ¬ k = j := fun e => hj e.symm
      rw [if_neg hj, List.find?_append]; simp [h2]
theorem has_find (c : Kept) (k : Int) : kdfHas c k = (c.find? fun p => decide (p.1 = k)).isSome := by
  unfold kdfHas
  induction c with
  | nil => rfl
  | cons p r ih =>
    by_cases h : p.1 = k
    · simp [h]
    · simp [h, ih]
theorem get_find (k : Nat) (c : Kept) : get k c = (c.find? fun p => decide (p.1 = (k : Int))).map (·.2) := by
  unfold get
  rw [has_find]
  unfold kdfLook
  cases c.find? fun p => decide (p.1 = (k : Int)) <;> simp

theorem get_put_self (k v : Nat) (m : Kept) : get k (put k v m) = some (v : Int) := by
  rw [get_find, put, find_put, if_pos rfl]; rfl
theorem get_put_ne {k j : Nat} (v : Nat) (hj : j ≠ k) (m : Kept) : get j (put k v m) = get j m := by
  rw [get_find, put, find_put, if_neg (by omega), ← get_find]

noncomputable def small (c : Int) : Int := if 65 ≤ c ∧ c ≤ 90 then c + 32 else c
noncomputable def fold1 (c : Int) : Int := if (65 ≤ c ∧ c ≤ 90) ∨ ((192 ≤ c ∧ c ≤ 222) ∧ c ≠ 215) then c + 32 else c
noncomputable def tkChr (folds : Bool) (c code : Int) : Bool := if folds then decide (small c = small code) else decide (c = code)
noncomputable def tkAny (code : Int) : Bool := decide (code ≠ 10)
noncomputable def tkSet (code : Int) : Bool := decide (97 ≤ code ∧ code ≤ 98)

/-- what a row that stands for one sign takes; none: no such row -/
noncomputable def Rw.tk (folds : Bool) : Rw → Option (Int → Bool)
  | .chr c => some (tkChr folds c)
  | .any => some tkAny
  | .set => some tkSet
  | _ => none

section
variable (text : List Int) (folds : Bool)

noncomputable def one (t : Int → Bool) (p : Nat) (k : Kept) : List St :=
  match text[p]? with
  | some c => if t c then [(p + 1, k)] else []
  | none => []
noncomputable def eachF (W : Nat → Kept → List St) (sts : List St) : List St := sts.flatMap fun s => W s.1 s.2
noncomputable def iterF (W : Nat → Kept → List St) : Nat → List St → List St
  | 0, s => s
  | n + 1, s => iterF W n (eachF W s)
theorem iterF_q1 : iterF W 0 s = (s) := rfl
theorem iterF_q2 : iterF W (n + 1) s = (iterF W n (eachF W s)) := rfl
noncomputable def starF (W : Nat → Kept → List St) (g : Bool) : Nat → Nat → Kept → List St
  | 0, p, k => [(p, k)]
  | f + 1, p, k =>
    if g then ((W p k).flatMap fun s => if p < s.1 then starF W g f s.1 s.2 else []) ++ [(p, k)]
    else (p, k) :: ((W p k).flatMap fun s => if p < s.1 then starF W g f s.1 s.2 else [])
theorem starF_q1 : starF W g 0 p k = ([(p, k)]) := rfl
theorem starF_q2 : starF W g (f + 1) p k = (if g then ((W p k).flatMap fun s => if p < s.1 then starF W g f s.1 s.2 else []) ++ [(p, k)] else (p, k) :: ((W p k).flatMap fun s => if p < s.1 then starF W g f s.1 s.2 else [])) := rfl
noncomputable def someF (W : Nat → Kept → List St) (g : Bool) : Nat → Nat → Kept → List St
  | 0, p, k => [(p, k)]
  | f + 1, p, k =>
    if g then ((W p k).flatMap fun s => someF W g f s.1 s.2) ++ [(p, k)]
    else (p, k) :: ((W p k).flatMap fun s => someF W g f s.1 s.2)
theorem someF_q1 : someF W g 0 p k = ([(p, k)]) := rfl
theorem someF_q2 : someF W g (f + 1) p k = (if g then ((W p k).flatMap fun s => someF W g f s.1 s.2) ++ [(p, k)] else (p, k) :: ((W p k).flatMap fun s => someF W g f s.1 s.2)) := rfl

noncomputable def ways : Nd → Nat → Kept → List St
  | .seq a b, p, k => eachF (ways b) (ways a p k)
  | .alt a b, p, k => ways a p k ++ ways b p k
  | .group g n, p, k => (ways n p (put (2 * g) p k)).map fun s => (s.1, put (2 * g + 1) s.1 s.2)
  | .times least most g n, p, k => (iterF (ways n) least [(p, k)]).flatMap fun s =>
      if most < 0 then starF (ways n) g (text.length - s.1 + 1) s.1 s.2 else someF (ways n) g (most - least).toNat s.1 s.2
  | .chr c, p, k => one text (tkChr folds c) p k
  | .any, p, k => one text tkAny p k
  | .set, p, k => one text tkSet p k
theorem ways_q1 : ways text folds (.seq a b) p k = (eachF (ways text folds b) (ways text folds a p k)) := rfl
theorem ways_q2 : ways text folds (.alt a b) p k = (ways text folds a p k ++ ways text folds b p k) := rfl
theorem ways_q3 : ways text folds (.group g n) p k = ((ways text folds n p (put (2 * g) p k)).map fun s => (s.1, put (2 * g + 1) s.1 s.2)) := rfl
theorem ways_q4 : ways text folds (.times least most g n) p k = ((iterF (ways text folds n) least [(p, k)]).flatMap fun s => if most < 0 then starF (ways text folds n) g (text.length - s.1 + 1) s.1 s.2 else someF (ways text folds n) g (most - least).toNat s.1 s.2) := rfl
theorem ways_q5 : ways text folds (.chr c) p k = (one text (tkChr folds c) p k) := rfl
theorem ways_q6 : ways text folds .any p k = (one text tkAny p k) := rfl
theorem ways_q7 : ways text folds .set p k = (one text tkSet p k) := rfl

variable (R : List Rw)
/-- the machine: big steps; the first number bounds how deep it calls itself -/
inductive Gone : Nat → Nat → Nat → Kept → Kept → List St → Prop
  | done {d r p k m} : R[r]? = some .done → Gone d r p k m [(p, k)]
  | split {d r p k m a b x y} : R[r]? = some (.split a b) → Gone d a p k m x → Gone d b p k m y → Gone (d + 1) r p k m (x ++ y)
  | jump {d r p k m a x} : R[r]? = some (.jump a) → Gone d a p k m x → Gone d r p k m x
  | save {d r p k m i x} : R[r]? = some (.save i) → Gone d (r + 1) p (put i p k) m x → Gone d r p k m x
  | mark {d r p k m i x} : R[r]? = some (.mark i) → Gone d (r + 1) p k (put i p m) x → Gone d r p k m x
  | stuck {d r p : Nat} {k m i} {q : Int} : R[r]? = some (.prog i) → get i m = some q → (p : Int) ≤ q → Gone d r p k m []
  | prog {d r p : Nat} {k m i x} {q : Int} : R[r]? = some (.prog i) → get i m = some q → q < (p : Int) → Gone d (r + 1) p k m x → Gone d r p k m x
  | take {d r p k m w t c x} : R[r]? = some w → w.tk folds = some t → text[p]? = some c → t c = true → Gone d (r + 1) (p + 1) k m x → Gone d r p k m x
  | miss {d r p k m w t c} : R[r]? = some w → w.tk folds = some t → text[p]? = some c → t c = false → Gone d r p k m []
  | over {d r p k m w t} : R[r]? = some w → w.tk folds = some t → text.length ≤ p → Gone d r p k m []

theorem Gone.mono {text folds R} {d r p k m x} (h : Gone text folds R d r p k m x) : ∀ d', d ≤ d' → Gone text folds R d' r p k m x := by
  induction h with
  | done h => exact fun _ _ => .done h
  | split h _ _ ia ib =>
    intro d' hd
    match d', hd with
    | d' + 1, hd => exact .split h (ia d' (by omega)) (ib d' (by omega))
  | jump h _ i => exact fun d' hd => .jump h (i d' hd)
  | save h _ i => exact fun d' hd => .save h (i d' hd)
  | mark h _ i => exact fun d' hd => .mark h (i d' hd)
  | stuck h g q => exact fun _ _ => .stuck h g q
  | prog h g q _ i => exact fun d' hd => .prog h g q (i d' hd)
  | take h a b c _ i => exact fun d' hd => .take h a b c (i d' hd)
  | miss h a b c => exact fun _ _ => .miss h a b c
  | over h a b => exact fun _ _ => .over h a b

noncomputable def spl (g : Bool) (here e : Nat) : Rw := if g then .split here e else .split e here
noncomputable def Copies (C : Nat → Nat → Nat → Nat → Prop) : Nat → Nat → Nat → Nat → Nat → Prop
  | 0, pc, pc', mk, mk' => pc = pc' ∧ mk = mk'
  | n + 1, pc, pc', mk, mk' => ∃ p m, C pc p mk m ∧ Copies C n p pc' m mk'
noncomputable def Opts (g : Bool) (C : Nat → Nat → Nat → Nat → Prop) (e : Nat) : Nat → Nat → Nat → Nat → Nat → Prop
  | 0, pc, pc', mk, mk' => pc = pc' ∧ mk = mk'
  | n + 1, pc, pc', mk, mk' => ∃ p m, R[pc]? = some (spl g (pc + 1) e) ∧ C (pc + 1) p mk m ∧ Opts g C e n p pc' m mk'
noncomputable def foldIf (c : Int) : Int := if folds then fold1 c else c

/-- the rows from pc up to pc' do the node's work; its marks are mk up to mk' -/
noncomputable def Cod : Nd → Nat → Nat → Nat → Nat → Prop
  | .chr c, pc, pc', mk, mk' => R[pc]? = some (.chr (foldIf folds c)) ∧ pc' = pc + 1 ∧ mk' = mk
  | .any, pc, pc', mk, mk' => R[pc]? = some .any ∧ pc' = pc + 1 ∧ mk' = mk
  | .set, pc, pc', mk, mk' => R[pc]? = some .set ∧ pc' = pc + 1 ∧ mk' = mk
  | .seq a b, pc, pc', mk, mk' => ∃ p m, Cod a pc p mk m ∧ Cod b p pc' m mk'
  | .alt a b, pc, pc', mk, mk' => ∃ p m, R[pc]? = some (.split (pc + 1) (p + 1)) ∧ Cod a (pc + 1) p mk m ∧ R[p]? = some (.jump pc') ∧ Cod b (p + 1) pc' m mk'
  | .group g n, pc, pc', mk, mk' => ∃ p, R[pc]? = some (.save (2 * g)) ∧ Cod n (pc + 1) p mk mk' ∧ R[p]? = some (.save (2 * g + 1)) ∧ pc' = p + 1
  | .times least most g n, pc, pc', mk, mk' =>
      if most < 0 then ∃ p m q, Copies (Cod n) least pc p (mk + 1) m ∧ R[p]? = some (spl g (p + 1) pc') ∧ R[p + 1]? = some (.mark mk) ∧ Cod n (p + 2) q m mk' ∧ R[q]? = some (.prog mk) ∧ R[q + 1]? = some (.jump p) ∧ pc' = q + 2
      else ∃ p m, Copies (Cod n) least pc p mk m ∧ Opts R g (Cod n) pc' (most - least).toNat p pc' m mk'
theorem Cod_q1 : Cod folds R (.chr c) pc pc' mk mk' = (R[pc]? = some (.chr (foldIf folds c)) ∧ pc' = pc + 1 ∧ mk' = mk) := rfl
theorem Cod_q2 : Cod folds R .any pc pc' mk mk' = (R[pc]? = some .any ∧ pc' = pc + 1 ∧ mk' = mk) := rfl
theorem Cod_q3 : Cod folds R .set pc pc' mk mk' = (R[pc]? = some .set ∧ pc' = pc + 1 ∧ mk' = mk) := rfl
theorem Cod_q4 : Cod folds R (.seq a b) pc pc' mk mk' = (∃ p m, Cod folds R a pc p mk m ∧ Cod folds R b p pc' m mk') := rfl
theorem Cod_q5 : Cod folds R (.alt a b) pc pc' mk mk' = (∃ p m, R[pc]? = some (.split (pc + 1) (p + 1)) ∧ Cod folds R a (pc + 1) p mk m ∧ R[p]? = some (.jump pc') ∧ Cod folds R b (p + 1) pc' m mk') := rfl
theorem Cod_q6 : Cod folds R (.group g n) pc pc' mk mk' = (∃ p, R[pc]? = some (.save (2 * g)) ∧ Cod folds R n (pc + 1) p mk mk' ∧ R[p]? = some (.save (2 * g + 1)) ∧ pc' = p + 1) := rfl
theorem Cod_q7 : Cod folds R (.times least most g n) pc pc' mk mk' = (if most < 0 then ∃ p m q, Copies (Cod folds R n) least pc p (mk + 1) m ∧ R[p]? = some (spl g (p + 1) pc') ∧ R[p + 1]? = some (.mark mk) ∧ Cod folds R n (p + 2) q m mk' ∧ R[q]? = some (.prog mk) ∧ R[q + 1]? = some (.jump p) ∧ pc' = q + 2 else ∃ p m, Copies (Cod folds R n) least pc p mk m ∧ Opts R g (Cod folds R n) pc' (most - least).toNat p pc' m mk') := rfl

noncomputable def Nd.ok : Nd → Prop
  | .chr c => c = 97 ∨ c = 98 ∨ c = 65
  | .any => True
  | .set => True
  | .seq a b => a.ok ∧ b.ok
  | .alt a b => a.ok ∧ b.ok
  | .group _ n => n.ok
  | .times least most _ n => n.ok ∧ (most < 0 ∨ (least : Int) ≤ most)

noncomputable def loops : Nd → Nat
  | .seq a b => loops a + loops b
  | .alt a b => loops a + loops b
  | .group _ n => loops n
  | .times least most _ n => loops n * (if most < 0 then least + 1 else most.toNat) + (if most < 0 then 1 else 0)
  | _ => 0
theorem loops_q1 : loops (.seq a b) = (loops a + loops b) := rfl
theorem loops_q2 : loops (.alt a b) = (loops a + loops b) := rfl
theorem loops_q3 : loops (.group z01 n) = (loops n) := rfl
theorem loops_q4 : loops (.times least most z01 n) = (loops n * (if most < 0 then least + 1 else most.toNat) + (if most < 0 then 1 else 0)) := rfl
theorem loops_q5 : loops (.chr c) = (0) := rfl
theorem loops_q6 : loops .any = (0) := rfl
theorem loops_q7 : loops .set = (0) := rfl

theorem copies_marks {C : Nat → Nat → Nat → Nat → Prop} {c : Nat} (h : ∀ pc pc' mk mk', C pc pc' mk mk' → mk' = mk + c) : ∀ n pc pc' mk mk', Copies C n pc pc' mk mk' → mk' = mk + c * n
  | 0, _, _, _, _, ⟨_, e⟩ => by simp [e]
  | n + 1, _, _, _, _, ⟨p, m, a, b⟩ => by
    have := h _ _ _ _ a
    have := copies_marks h n _ _ _ _ b
    rw [Nat.mul_succ]; omega
theorem opts_marks {R} {g} {C : Nat → Nat → Nat → Nat → Prop} {e : Nat} {c : Nat} (h : ∀ pc pc' mk mk', C pc pc' mk mk' → mk' = mk + c) : ∀ n pc pc' mk mk', Opts R g C e n pc pc' mk mk' → mk' = mk + c * n
  | 0, _, _, _, _, ⟨_, e⟩ => by simp [e]
  | n + 1, _, _, _, _, ⟨p, m, _, a, b⟩ => by
    have := h _ _ _ _ a
    have := opts_marks h n _ _ _ _ b
    rw [Nat.mul_succ]; omega

theorem code_marks {folds R} : ∀ (n : Nd), n.ok → ∀ pc pc' mk mk', Cod folds R n pc pc' mk mk' → mk' = mk + loops n
  | .chr c, _, _, _, _, _, h => by simpa [loops_q1, loops_q2, loops_q3, loops_q4, loops_q5, loops_q6, loops_q7] using h.2.2
  | .any, _, _, _, _, _, h => by simpa [loops_q1, loops_q2, loops_q3, loops_q4, loops_q5, loops_q6, loops_q7] using h.2.2
  | .set, _, _, _, _, _, h => by simpa [loops_q1, loops_q2, loops_q3, loops_q4, loops_q5, loops_q6, loops_q7] using h.2.2
  | .seq a b, o, _, _, _, _, h => by
    obtain ⟨p, m, h1, h2⟩ := h
    have := code_marks a o.1 _ _ _ _ h1
    have := code_marks b o.2 _ _ _ _ h2
    simp only [loops_q1, loops_q2, loops_q3, loops_q4, loops_q5, loops_q6, loops_q7]; omega
  | .alt a b, o, _, _, _, _, h => by
    obtain ⟨p, m, _, h1, _, h2⟩ := h
    have := code_marks a o.1 _ _ _ _ h1
    have := code_marks b o.2 _ _ _ _ h2
    simp only [loops_q1, loops_q2, loops_q3, loops_q4, loops_q5, loops_q6, loops_q7]; omega
  | .group g n, o, _, _, _, _, h => by
    obtain ⟨p, _, h1, _⟩ := h
    have := code_marks n o _ _ _ _ h1
    simp only [loops_q1, loops_q2, loops_q3, loops_q4, loops_q5, loops_q6, loops_q7]; omega
  | .times least most g n, o, _, _, _, _, h => by
    simp only [Cod_q1, Cod_q2, Cod_q3, Cod_q4, Cod_q5, Cod_q6, Cod_q7] at h
    by_cases hm : most < 0
    · rw [if_pos hm] at h
      obtain ⟨p, m, q, h1, _, _, h3, _⟩ := h
      have e1 := copies_marks (code_marks n o.1) _ _ _ _ _ h1
      have := code_marks n o.1 _ _ _ _ h3
      simp only [loops_q1, loops_q2, loops_q3, loops_q4, loops_q5, loops_q6, loops_q7, if_pos hm, Nat.mul_succ]; omega
    · rw [if_neg hm] at h
      obtain ⟨p, m, h1, h2⟩ := h
      have e1 := copies_marks (code_marks n o.1) _ _ _ _ _ h1
      have e2 := opts_marks (code_marks n o.1) _ _ _ _ _ h2
      simp only [loops_q1, loops_q2, loops_q3, loops_q4, loops_q5, loops_q6, loops_q7, if_neg hm]
      have e3 : most.toNat = least + (most - least).toNat := by
        rcases o.2 with h | h <;> omega
      rw [e3, Nat.mul_add]; omega

/-- what a piece of code does: the ways, each gone on with -/
noncomputable def SemL (W : Nat → Kept → List St) (dp pc pc' mk mk' : Nat) : Prop :=
  ∀ (p : Nat) (k ms : Kept) (D : Nat) (K : St → List St), p ≤ text.length →
    (∀ p' k' ms', p ≤ p' → p' ≤ text.length → (∀ i, i < mk ∨ mk' ≤ i → get i ms' = get i ms) → Gone text folds R D pc' p' k' ms' (K (p', k'))) →
    Gone text folds R (D + dp) pc p k ms ((W p k).flatMap K)

variable {text folds R}

theorem SemL.one {t : Int → Bool} {w : Rw} {pc mk dp : Nat} (h : R[pc]? = some w) (hw : w.tk folds = some t) : SemL text folds R (one text t) dp pc (pc + 1) mk mk := by
  intro p k ms D K hp hK
  unfold Mine.one
  cases hc : text[p]? with
  | none =>
    have : text.length ≤ p := by simpa using hc
    exact .over h hw this
  | some c =>
    have hlt : p < text.length := by
      obtain ⟨h, _⟩ := List.getElem?_eq_some_iff.mp hc
      exact h
    cases ht : t c with
    | false => simp [ht]; exact .miss h hw hc ht
    | true => simp [ht]; exact .take h hw hc ht ((hK (p + 1) k ms (by omega) (by omega) fun _ _ => rfl).mono _ (by omega))

theorem SemL.seq {W V : Nat → Kept → List St} {d e pc p pc' mk m mk' : Nat} (h1 : mk ≤ m) (h2 : m ≤ mk') (a : SemL text folds R W d pc p mk m) (b : SemL text folds R V e p pc' m mk') :
    SemL text folds R (fun q k => eachF V (W q k)) (d + e) pc pc' mk mk' := by
  intro q k ms D K hq hK
  have := a q k ms (D + e) (fun s => (V s.1 s.2).flatMap K) hq fun p' k' ms' hp' hp'' hag => by
    refine b p' k' ms' D K hp'' fun p2 k2 ms2 a1 a2 a3 => hK p2 k2 ms2 (by omega) a2 fun i hi => ?_
    rw [a3 i (by omega), hag i (by omega)]
  have e : (eachF V (W q k)).flatMap K = (W q k).flatMap fun s => (V s.1 s.2).flatMap K := by
    unfold eachF; rw [List.flatMap_assoc]
  rw [e]
  exact this.mono _ (by omega)

theorem copies_mono {C : Nat → Nat → Nat → Nat → Prop} (h : ∀ pc pc' mk mk', C pc pc' mk mk' → mk ≤ mk') : ∀ n pc pc' mk mk', Copies C n pc pc' mk mk' → mk ≤ mk'
  | 0, _, _, _, _, ⟨_, e⟩ => by omega
  | n + 1, _, _, _, _, ⟨p, m, a, b⟩ => by
    have := h _ _ _ _ a
    have := copies_mono h n _ _ _ _ b
    omega
theorem opts_mono {g} {C : Nat → Nat → Nat → Nat → Prop} {e : Nat} (h : ∀ pc pc' mk mk', C pc pc' mk mk' → mk ≤ mk') : ∀ n pc pc' mk mk', Opts R g C e n pc pc' mk mk' → mk ≤ mk'
  | 0, _, _, _, _, ⟨_, e⟩ => by omega
  | n + 1, _, _, _, _, ⟨p, m, _, a, b⟩ => by
    have := h _ _ _ _ a
    have := opts_mono h n _ _ _ _ b
    omega
theorem code_mono (n : Nd) (o : n.ok) {pc pc' mk mk' : Nat} (h : Cod folds R n pc pc' mk mk') : mk ≤ mk' := by
  have := code_marks n o _ _ _ _ h
  omega

theorem iter_one (W : Nat → Kept → List St) : ∀ (n : Nat) (sts : List St) , iterF W n sts = sts.flatMap fun s => iterF W n [s]
  | 0, sts => by simp [iterF_q1, iterF_q2]
  | n + 1, sts => by
    show iterF W n (eachF W sts) = _
    rw [iter_one W n]
    unfold eachF
    rw [List.flatMap_assoc]
    congr 1
    funext s
    show _ = iterF W n (eachF W [s])
    rw [iter_one W n (eachF W [s])]
    simp [eachF]

theorem SemL.copies {W : Nat → Kept → List St} {d : Nat} {C : Nat → Nat → Nat → Nat → Prop} (hC : ∀ pc pc' mk mk', C pc pc' mk mk' → mk ≤ mk') (h : ∀ pc pc' mk mk', C pc pc' mk mk' → SemL text folds R W d pc pc' mk mk') :
    ∀ n pc pc' mk mk', Copies C n pc pc' mk mk' → SemL text folds R (fun p k => iterF W n [(p, k)]) (n * d) pc pc' mk mk'
  | 0, pc, pc', mk, mk', ⟨e1, e2⟩ => by
    subst e1; subst e2
    intro p k ms D K hp hK
    simp only [iterF_q1, iterF_q2, List.flatMap_cons, List.flatMap_nil, List.append_nil]
    exact (hK p k ms (Nat.le_refl _) hp fun _ _ => rfl).mono _ (by omega)
  | n + 1, pc, pc', mk, mk', ⟨p, m, a, b⟩ => by
    have h1 := h _ _ _ _ a
    have h2 := SemL.copies hC h n _ _ _ _ b
    have h3 := SemL.seq (hC _ _ _ _ a) (copies_mono hC _ _ _ _ _ b) h1 h2
    have e : (fun p k => iterF W (n + 1) [(p, k)]) = fun q k => eachF (fun p k => iterF W n [(p, k)]) (W q k) := by
      funext q k
      show iterF W n (eachF W [(q, k)]) = _
      rw [iter_one]
      simp [eachF]
    rw [e]
    have e2 : (n + 1) * d = d + n * d := by rw [Nat.succ_mul]; omega
    rw [e2]
    exact h3

theorem gone_spl {g : Bool} {d r h e p : Nat} {k m : Kept} {x y : List St} (hr : R[r]? = some (spl g h e)) (a : Gone text folds R d h p k m x) (b : Gone text folds R d e p k m y) :
    Gone text folds R (d + 1) r p k m (if g then x ++ y else y ++ x) := by
  cases g with
  | true => exact .split hr a b
  | false => exact .split hr b a

theorem SemL.opts {W : Nat → Kept → List St} {g : Bool} {d e : Nat} {C : Nat → Nat → Nat → Nat → Prop} (hC : ∀ pc pc' mk mk', C pc pc' mk mk' → mk ≤ mk') (h : ∀ pc pc' mk mk', C pc pc' mk mk' → SemL text folds R W d pc pc' mk mk') :
    ∀ n pc mk mk', Opts R g C e n pc e mk mk' → SemL text folds R (someF W g n) (n * (1 + d)) pc e mk mk'
  | 0, pc, mk, mk', ⟨e1, e2⟩ => by
    subst e1; subst e2
    intro p k ms D K hp hK
    simp only [someF_q1, someF_q2, List.flatMap_cons, List.flatMap_nil, List.append_nil]
    exact (hK p k ms (Nat.le_refl _) hp fun _ _ => rfl).mono _ (by omega)
  | n + 1, pc, mk, mk', ⟨p, m, r, a, b⟩ => by
    have h1 := h _ _ _ _ a
    have h2 := SemL.opts hC h n _ _ _ b
    have m1 := hC _ _ _ _ a
    have m2 := opts_mono hC _ _ _ _ _ b
    have h3 := SemL.seq m1 m2 h1 h2
    intro q k ms D K hq hK
    have b1 := h3 q k ms D K hq hK
    have b2 := hK q k ms (Nat.le_refl _) hq fun _ _ => rfl
    have b3 := gone_spl r b1 (b2.mono (D + (d + n * (1 + d))) (by omega))
    have e2 : D + (n + 1) * (1 + d) = D + (d + n * (1 + d)) + 1 := by rw [Nat.succ_mul]; omega
    rw [e2]
    have e3 : (someF W g (n + 1) q k).flatMap K = (if g then (eachF (someF W g n) (W q k)).flatMap K ++ K (q, k) else K (q, k) ++ (eachF (someF W g n) (W q k)).flatMap K) := by
      cases g <;> simp [someF_q1, someF_q2, eachF]
    rw [e3]
    exact b3

theorem SemL.star {W : Nat → Kept → List St} {g : Bool} {d p q e i m mk' : Nat} (hm : i < m) (h : SemL text folds R W d (p + 2) q m mk') (r0 : R[p]? = some (spl g (p + 1) e)) (r1 : R[p + 1]? = some (.mark i)) (r2 : R[q]? = some (.prog i)) (r3 : R[q + 1]? = some (.jump p)) :
    ∀ (f a : Nat) (k ms : Kept) (D : Nat) (K : St → List St), a ≤ text.length → text.length - a < f →
    (∀ p' k' ms', a ≤ p' → p' ≤ text.length → (∀ j, j < i ∨ (i < j ∧ j < m) ∨ mk' ≤ j ∧ i ≠ j → get j ms' = get j ms) → Gone text folds R D e p' k' ms' (K (p', k'))) →
    Gone text folds R (D + f * (1 + d)) p a k ms ((starF W g f a k).flatMap K)
  | 0, a, k, ms, D, K, ha, hf, hK => by omega
  | f + 1, a, k, ms, D, K, ha, hf, hK => by
    have b2 := hK a k ms (Nat.le_refl _) ha fun _ _ => rfl
    have b1 := h a k (put i a ms) (D + f * (1 + d)) (fun s => if a < s.1 then (starF W g f s.1 s.2).flatMap K else []) ha fun p' k' ms' h1 h2 h3 => by
      have hg : get i ms' = some (a : Int) := by rw [h3 i (by omega)]; exact get_put_self _ _ _
      by_cases hlt : a < p'
      · simp only [hlt, if_true]
        refine .prog r2 hg (by omega) (.jump r3 ?_)
        refine SemL.star hm h r0 r1 r2 r3 f p' k' ms' D K h2 (by omega) fun p2 k2 ms2 c1 c2 c3 => hK p2 k2 ms2 (by omega) c2 fun j hj => ?_
        rw [c3 j hj, h3 j (by omega), get_put_ne _ (by omega)]
      · simp only [hlt, if_false]
        exact .stuck r2 hg (by omega)
    have b3 := gone_spl r0 (.mark r1 b1) (b2.mono (D + f * (1 + d) + d) (by omega))
    have e2 : D + (f + 1) * (1 + d) = D + f * (1 + d) + d + 1 := by rw [Nat.succ_mul]; omega
    rw [e2]
    have e3 : (starF W g (f + 1) a k).flatMap K = (if g then (W a k).flatMap (fun s => if a < s.1 then (starF W g f s.1 s.2).flatMap K else []) ++ K (a, k) else K (a, k) ++ (W a k).flatMap (fun s => if a < s.1 then (starF W g f s.1 s.2).flatMap K else [])) := by
      have e4 : ∀ l : List St, (l.flatMap fun s => if a < s.1 then starF W g f s.1 s.2 else []).flatMap K = l.flatMap (fun s => if a < s.1 then (starF W g f s.1 s.2).flatMap K else []) := by
        intro l
        rw [List.flatMap_assoc]
        congr 1
        funext s
        split <;> simp
      cases g <;> simp [starF_q1, starF_q2, e4]
    rw [e3]
    exact b3

theorem SemL.widen {W : Nat → Kept → List St} {d pc pc' mk mk' a b : Nat} (ha : a ≤ mk) (hb : mk' ≤ b) (h : SemL text folds R W d pc pc' mk mk') : SemL text folds R W d pc pc' a b :=
  fun p k ms D K hp hK => h p k ms D K hp fun p' k' ms' c1 c2 c3 => hK p' k' ms' c1 c2 fun i hi => c3 i (by omega)
theorem SemL.seqW {W V : Nat → Kept → List St} {d e pc p pc' mk mk' : Nat} (a : SemL text folds R W d pc p mk mk') (b : SemL text folds R V e p pc' mk mk') :
    SemL text folds R (fun q k => eachF V (W q k)) (d + e) pc pc' mk mk' := by
  intro q k ms D K hq hK
  have := a q k ms (D + e) (fun s => (V s.1 s.2).flatMap K) hq fun p' k' ms' hp' hp'' hag => by
    refine b p' k' ms' D K hp'' fun p2 k2 ms2 a1 a2 a3 => hK p2 k2 ms2 (by omega) a2 fun i hi => ?_
    rw [a3 i (by omega), hag i (by omega)]
  have e : (eachF V (W q k)).flatMap K = (W q k).flatMap fun s => (V s.1 s.2).flatMap K := by
    unfold eachF; rw [List.flatMap_assoc]
  rw [e]
  exact this.mono _ (by omega)

noncomputable def dep (T : Nat) : Nd → Nat
  | .seq a b => dep T a + dep T b
  | .alt a b => 1 + (dep T a + dep T b)
  | .group _ n => dep T n
  | .times least most _ n => least * dep T n + (if most < 0 then (T + 1) * (1 + dep T n) else (most - least).toNat * (1 + dep T n))
  | _ => 0
theorem dep_q1 : dep T (.seq a b) = (dep T a + dep T b) := rfl
theorem dep_q2 : dep T (.alt a b) = (1 + (dep T a + dep T b)) := rfl
theorem dep_q3 : dep T (.group z01 n) = (dep T n) := rfl
theorem dep_q4 : dep T (.times least most z01 n) = (least * dep T n + (if most < 0 then (T + 1) * (1 + dep T n) else (most - least).toNat * (1 + dep T n))) := rfl
theorem dep_q5 : dep T (.chr c) = (0) := rfl
theorem dep_q6 : dep T .any = (0) := rfl
theorem dep_q7 : dep T .set = (0) := rfl

theorem small_fold {c : Int} (h : c = 97 ∨ c = 98 ∨ c = 65) : small (fold1 c) = small c := by
  rcases h with h | h | h <;> subst h <;> decide
theorem tk_fold {c : Int} (h : c = 97 ∨ c = 98 ∨ c = 65) : tkChr folds (foldIf folds c) = tkChr folds c := by
  funext code
  unfold tkChr foldIf
  cases folds with
  | false => rfl
  | true => simp only [if_true, small_fold h]

theorem SemL.weaken {W : Nat → Kept → List St} {d d' pc pc' mk mk' : Nat} (hd : d ≤ d') (h : SemL text folds R W d pc pc' mk mk') : SemL text folds R W d' pc pc' mk mk' :=
  fun p k ms D K hp hK => (h p k ms D K hp hK).mono _ (by omega)

theorem sem : ∀ (n : Nd), n.ok → ∀ pc pc' mk mk', Cod folds R n pc pc' mk mk' → SemL text folds R (ways text folds n) (dep text.length n) pc pc' mk mk'
  | .chr c, o, pc, pc', mk, mk', ⟨h, e1, e2⟩ => by
    subst e1; subst e2
    have := SemL.one (text := text) (folds := folds) (R := R) (t := tkChr folds c) (dp := 0) (mk := mk') h (by rw [Rw.tk, tk_fold o])
    exact this
  | .any, _, pc, pc', mk, mk', ⟨h, e1, e2⟩ => by
    subst e1; subst e2
    exact SemL.one h rfl
  | .set, _, pc, pc', mk, mk', ⟨h, e1, e2⟩ => by
    subst e1; subst e2
    exact SemL.one h rfl
  | .seq a b, o, pc, pc', mk, mk', ⟨p, m, h1, h2⟩ =>
    SemL.seq (code_mono a o.1 h1) (code_mono b o.2 h2) (sem a o.1 _ _ _ _ h1) (sem b o.2 _ _ _ _ h2)
  | .alt a b, o, pc, pc', mk, mk', ⟨p, m, r1, h1, r2, h2⟩ => by
    have m1 := code_mono a o.1 h1
    have m2 := code_mono b o.2 h2
    have s1 : SemL text folds R _ _ _ _ _ _ := sem a o.1 _ _ _ _ h1
    have s2 : SemL text folds R _ _ _ _ _ _ := sem b o.2 _ _ _ _ h2
    intro q k ms D K hq hK
    have b1 := s1 q k ms D K hq fun p' k' ms' c1 c2 c3 => Gone.jump r2 (hK p' k' ms' c1 c2 fun i hi => c3 i (by omega))
    have b2 := s2 q k ms D K hq fun p' k' ms' c1 c2 c3 => hK p' k' ms' c1 c2 fun i hi => c3 i (by omega)
    have b3 := Gone.split r1 (b1.mono (D + (dep text.length a + dep text.length b)) (by omega)) (b2.mono (D + (dep text.length a + dep text.length b)) (by omega))
    simp only [ways_q1, ways_q2, ways_q3, ways_q4, ways_q5, ways_q6, ways_q7, dep_q1, dep_q2, dep_q3, dep_q4, dep_q5, dep_q6, dep_q7, List.flatMap_append]
    exact b3.mono _ (by omega)
  | .group g n, o, pc, pc', mk, mk', ⟨p, r1, h1, r2, e⟩ => by
    subst e
    have s1 : SemL text folds R _ _ _ _ _ _ := sem n o _ _ _ _ h1
    intro q k ms D K hq hK
    have b1 := s1 q (put (2 * g) q k) ms D (fun s => K (s.1, put (2 * g + 1) s.1 s.2)) hq fun p' k' ms' c1 c2 c3 => Gone.save r2 (hK p' (put (2 * g + 1) p' k') ms' c1 c2 c3)
    have e : (ways text folds (.group g n) q k).flatMap K = (ways text folds n q (put (2 * g) q k)).flatMap fun s => K (s.1, put (2 * g + 1) s.1 s.2) := by
      simp [ways_q1, ways_q2, ways_q3, ways_q4, ways_q5, ways_q6, ways_q7, List.flatMap_map]
    rw [e]
    exact .save r1 b1
  | .times least most g n, o, pc, pc', mk, mk', h => by
    simp only [Cod_q1, Cod_q2, Cod_q3, Cod_q4, Cod_q5, Cod_q6, Cod_q7] at h
    have hC : ∀ pc pc' mk mk', Cod folds R n pc pc' mk mk' → mk ≤ mk' := fun _ _ _ _ h => code_mono n o.1 h
    have hS : ∀ pc pc' mk mk', Cod folds R n pc pc' mk mk' → SemL text folds R (ways text folds n) (dep text.length n) pc pc' mk mk' := fun _ _ _ _ h => sem n o.1 _ _ _ _ h
    by_cases hm : most < 0
    · rw [if_pos hm] at h
      obtain ⟨p, m, q, h1, r0, r1, h3, r2, r3, e⟩ := h
      have s1 := SemL.copies (text := text) hC hS _ _ _ _ _ h1
      have m1 := copies_mono hC _ _ _ _ _ h1
      have m3 := hC _ _ _ _ h3
      have s3 := hS _ _ _ _ h3
      have s2 : SemL text folds R (fun a k => starF (ways text folds n) g (text.length - a + 1) a k) ((text.length + 1) * (1 + dep text.length n)) p pc' mk mk' := by
        intro a k ms D K ha hK
        refine (SemL.star (by omega) s3 r0 r1 r2 r3 (text.length - a + 1) a k ms D K ha (by omega) fun p' k' ms' c1 c2 c3 => hK p' k' ms' c1 c2 fun j hj => c3 j (by omega)).mono _ ?_
        have : (text.length - a + 1) * (1 + dep text.length n) ≤ (text.length + 1) * (1 + dep text.length n) := Nat.mul_le_mul_right _ (by omega)
        omega
      have s4 := SemL.seqW (s1.widen (a := mk) (b := mk') (by omega) (by omega)) s2
      have e1 : ways text folds (.times least most g n) = fun a k => eachF (fun a k => starF (ways text folds n) g (text.length - a + 1) a k) (iterF (ways text folds n) least [(a, k)]) := by
        funext a k
        simp only [ways_q1, ways_q2, ways_q3, ways_q4, ways_q5, ways_q6, ways_q7, if_pos hm, eachF]
      have e2 : dep text.length (.times least most g n) = least * dep text.length n + (text.length + 1) * (1 + dep text.length n) := by simp only [dep_q1, dep_q2, dep_q3, dep_q4, dep_q5, dep_q6, dep_q7, if_pos hm]
      rw [e1, e2]
      exact s4
    · rw [if_neg hm] at h
      obtain ⟨p, m, h1, h2⟩ := h
      have s1 := SemL.copies (text := text) hC hS _ _ _ _ _ h1
      have m1 := copies_mono hC _ _ _ _ _ h1
      have s2 := SemL.opts (text := text) hC hS _ _ _ _ h2
      have m2 := opts_mono hC _ _ _ _ _ h2
      have s4 := SemL.seq m1 m2 s1 s2
      have e1 : ways text folds (.times least most g n) = fun a k => eachF (someF (ways text folds n) g (most - least).toNat) (iterF (ways text folds n) least [(a, k)]) := by
        funext a k
        simp only [ways_q1, ways_q2, ways_q3, ways_q4, ways_q5, ways_q6, ways_q7, if_neg hm, eachF]
      have e2 : dep text.length (.times least most g n) = least * dep text.length n + (most - least).toNat * (1 + dep text.length n) := by simp only [dep_q1, dep_q2, dep_q3, dep_q4, dep_q5, dep_q6, dep_q7, if_neg hm]
      rw [e1, e2]
      exact s4

theorem gone_all {n : Nd} (o : n.ok) {pc mk' : Nat} (h : Cod folds R n 0 pc 0 mk') (hd : R[pc]? = some .done) : Gone text folds R (dep text.length n) 0 0 [] [] (ways text folds n 0 []) := by
  have := sem (text := text) n o _ _ _ _ h 0 [] [] 0 (fun s => [s]) (Nat.zero_le _) fun p k ms _ _ _ => .done hd
  simpa using this
end
end Mine
end
section
/-! The plain law, second part: the compiling machine of tasks and labels. -/
namespace Mine

inductive Tk where
  | node (n : Nd) | row (r : Rw) | label (l : Nat)

structure CS where
  rows : List Rw
  places : Kept
  labels : Nat
  marks : Nat

noncomputable def optTasks (g : Bool) (e : Nat) (p : Nd) : Nat → Nat → List Tk
  | 0, _ => []
  | n + 1, l => [.row (spl g (l + 1) e), .label (l + 1), .node p] ++ optTasks g e p n (l + 1)
theorem optTasks_q1 : optTasks g e p 0 z11 = ([]) := rfl
theorem optTasks_q2 : optTasks g e p (n + 1) l = ([.row (spl g (l + 1) e), .label (l + 1), .node p] ++ optTasks g e p n (l + 1)) := rfl

/-- what a node's turn adds: rows, the tasks in their order -/
noncomputable def expand (folds : Bool) (n : Nd) (s : CS) : CS × List Tk :=
  match n with
  | .chr c => ({ s with rows := s.rows ++ [.chr (foldIf folds c)] }, [])
  | .any => ({ s with rows := s.rows ++ [.any] }, [])
  | .set => ({ s with rows := s.rows ++ [.set] }, [])
  | .seq a b => (s, [.node a, .node b])
  | .group g n => (s, [.row (.save (2 * g)), .node n, .row (.save (2 * g + 1))])
  | .alt a b => ({ s with labels := s.labels + 3 },
      [.row (.split (s.labels + 2) (s.labels + 3)), .label (s.labels + 2), .node a, .row (.jump (s.labels + 1)), .label (s.labels + 3), .node b, .label (s.labels + 1)])
  | .times least most g p =>
    if most < 0 then ({ s with labels := s.labels + 3, marks := s.marks + 1 },
      List.replicate least (.node p) ++ [.label (s.labels + 2), .row (spl g (s.labels + 3) (s.labels + 1)), .label (s.labels + 3), .row (.mark s.marks), .node p, .row (.prog s.marks), .row (.jump (s.labels + 2)), .label (s.labels + 1)])
    else ({ s with labels := s.labels + 1 + (most - least).toNat },
      List.replicate least (.node p) ++ (optTasks g (s.labels + 1) p (most - least).toNat (s.labels + 1) ++ [.label (s.labels + 1)]))

section
variable {folds : Bool} {s : CS}
theorem expand_q1 {c} : expand folds (.chr c) s = ({ s with rows := s.rows ++ [.chr (foldIf folds c)] }, []) := rfl
theorem expand_q2 : expand folds .any s = ({ s with rows := s.rows ++ [.any] }, []) := rfl
theorem expand_q3 : expand folds .set s = ({ s with rows := s.rows ++ [.set] }, []) := rfl
theorem expand_q4 {a b} : expand folds (.seq a b) s = (s, [.node a, .node b]) := rfl
theorem expand_q5 {g n} : expand folds (.group g n) s = (s, [.row (.save (2 * g)), .node n, .row (.save (2 * g + 1))]) := rfl
theorem expand_q6 {a b} : expand folds (.alt a b) s = ({ s with labels := s.labels + 3 },
      [.row (.split (s.labels + 2) (s.labels + 3)), .label (s.labels + 2), .node a, .row (.jump (s.labels + 1)), .label (s.labels + 3), .node b, .label (s.labels + 1)]) := rfl
theorem expand_q7 {least most g p} : expand folds (.times least most g p) s =
    if most < 0 then ({ s with labels := s.labels + 3, marks := s.marks + 1 },
      List.replicate least (.node p) ++ [.label (s.labels + 2), .row (spl g (s.labels + 3) (s.labels + 1)), .label (s.labels + 3), .row (.mark s.marks), .node p, .row (.prog s.marks), .row (.jump (s.labels + 2)), .label (s.labels + 1)])
    else ({ s with labels := s.labels + 1 + (most - least).toNat },
      List.replicate least (.node p) ++ (optTasks g (s.labels + 1) p (most - least).toNat (s.labels + 1) ++ [.label (s.labels + 1)])) := rfl
end

/-- the run of the tasks; what is waiting stands with its next task first -/
inductive RunL (folds : Bool) : CS → List Tk → CS → Prop
  | nil {s} : RunL folds s [] s
  | row {s r ts s'} : RunL folds { s with rows := s.rows ++ [r] } ts s' → RunL folds s (.row r :: ts) s'
  | label {s l ts s'} : RunL folds { s with places := put l s.rows.length s.places } ts s' → RunL folds s (.label l :: ts) s'
  | node {s n ts s'} : s.rows.length + ts.length + (expand folds n s).2.length ≤ 20000 → RunL folds (expand folds n s).1 ((expand folds n s).2 ++ ts) s' → RunL folds s (.node n :: ts) s'

noncomputable def cost : Nd → Nat
  | .seq a b => 1 + (cost a + cost b)
  | .alt a b => 6 + (cost a + cost b)
  | .group _ n => 3 + cost n
  | .times least most _ n => 2 + (least * cost n + (if most < 0 then 6 + cost n else (most - least).toNat * (2 + cost n)))
  | _ => 1
theorem cost_q1 : cost (.seq a b) = (1 + (cost a + cost b)) := rfl
theorem cost_q2 : cost (.alt a b) = (6 + (cost a + cost b)) := rfl
theorem cost_q3 : cost (.group z01 n) = (3 + cost n) := rfl
theorem cost_q4 : cost (.times least most z01 n) = (2 + (least * cost n + (if most < 0 then 6 + cost n else (most - least).toNat * (2 + cost n)))) := rfl
theorem cost_q5 : cost (.chr c) = (1) := rfl
theorem cost_q6 : cost .any = (1) := rfl
theorem cost_q7 : cost .set = (1) := rfl
noncomputable def Tk.cost : Tk → Nat
  | .node n => Mine.cost n
  | _ => 1
noncomputable def costs : List Tk → Nat
  | [] => 0
  | t :: r => t.cost + costs r
theorem costs_q1 : costs [] = (0) := rfl
theorem costs_q2 : costs (t :: r) = (t.cost + costs r) := rfl
theorem costs_n {n r} : costs (.node n :: r) = cost n + costs r := rfl
theorem costs_r {x r} : costs (.row x :: r) = 1 + costs r := rfl
theorem costs_l {x r} : costs (.label x :: r) = 1 + costs r := rfl
theorem cost_pos (n : Nd) : 1 ≤ cost n := by cases n <;> simp only [cost_q1, cost_q2, cost_q3, cost_q4, cost_q5, cost_q6, cost_q7] <;> omega
theorem costs_append (a b : List Tk) : costs (a ++ b) = costs a + costs b := by
  induction a with
  | nil => simp [costs_q1, costs_q2]
  | cons t r ih => simp only [List.cons_append, costs_q1, costs_q2, ih]; omega
theorem costs_rep (n : Nd) : ∀ k, costs (List.replicate k (.node n)) = k * cost n
  | 0 => by simp [costs_q1, costs_q2]
  | k + 1 => by rw [List.replicate_succ]; simp only [costs_q1, costs_n, costs_r, costs_l, costs_rep n k, Nat.succ_mul]; omega
theorem costs_opt (g : Bool) (e : Nat) (p : Nd) : ∀ n l, costs (optTasks g e p n l) = n * (2 + cost p)
  | 0, l => by simp [optTasks_q1, optTasks_q2, costs_q1, costs_q2]
  | n + 1, l => by
    rw [optTasks_q2, costs_append, costs_opt g e p n]
    simp only [costs_q1, costs_n, costs_r, costs_l, Nat.succ_mul]; omega
theorem length_costs : ∀ ts : List Tk, ts.length ≤ costs ts
  | [] => by simp [costs_q1, costs_q2]
  | t :: r => by
    have := length_costs r
    have h : 1 ≤ t.cost := by cases t <;> first | exact cost_pos _ | exact Nat.le_refl _
    simp only [costs_q1, costs_q2, List.length_cons]; omega
set_option tactic.hygienic true in
theorem expand_cost (folds : Bool) (n : Nd) (s : CS) : costs (expand folds n s).2 + (expand folds n s).1.rows.length ≤ s.rows.length + cost n ∧ costs (expand folds n s).2 < cost n := by
  cases n with
  | times least most g p =>
    simp only [expand_q1, expand_q2, expand_q3, expand_q4, expand_q5, expand_q6, expand_q7]
    split
    · rename_i h
      simp only [costs_append, costs_rep, costs_q1, costs_n, costs_r, costs_l, cost_q1, cost_q2, cost_q3, cost_q4, cost_q5, cost_q6, cost_q7, if_pos h]; omega
    · rename_i h
      simp only [costs_append, costs_rep, costs_opt, costs_q1, costs_n, costs_r, costs_l, cost_q1, cost_q2, cost_q3, cost_q4, cost_q5, cost_q6, cost_q7, if_neg h]; omega
  | _ => simp [expand_q1, expand_q2, expand_q3, expand_q4, expand_q5, expand_q6, expand_q7, costs_q1, costs_n, costs_r, costs_l, cost_q1, cost_q2, cost_q3, cost_q4, cost_q5, cost_q6, cost_q7] <;> omega

theorem run_exists (folds : Bool) : ∀ (c : Nat) (s : CS) (ts : List Tk), costs ts ≤ c → s.rows.length + costs ts ≤ 20000 → ∃ s', RunL folds s ts s'
  | _, s, [], _, _ => ⟨s, .nil⟩
  | 0, s, t :: r, h, _ => by
    have := length_costs (t :: r)
    simp only [List.length_cons] at this
    omega
  | c + 1, s, .row x :: r, h, hz => by
    simp only [costs_q1, costs_n, costs_r, costs_l] at h hz
    obtain ⟨s', h'⟩ := run_exists folds c { s with rows := s.rows ++ [x] } r (by omega) (by simp; omega)
    exact ⟨s', .row h'⟩
  | c + 1, s, .label x :: r, h, hz => by
    simp only [costs_q1, costs_n, costs_r, costs_l] at h hz
    obtain ⟨s', h'⟩ := run_exists folds c { s with places := put x s.rows.length s.places } r (by omega) (by simp; omega)
    exact ⟨s', .label h'⟩
  | c + 1, s, .node n :: r, h, hz => by
    simp only [costs_q1, costs_n, costs_r, costs_l] at h hz
    have e := expand_cost folds n s
    have l1 := length_costs (expand folds n s).2
    have l2 := length_costs r
    obtain ⟨s', h'⟩ := run_exists folds c (expand folds n s).1 ((expand folds n s).2 ++ r) (by rw [costs_append]; omega) (by rw [costs_append]; omega)
    exact ⟨s', .node (by omega) h'⟩

/-! labels -/
noncomputable def labs : List Tk → List Nat
  | [] => []
  | .label l :: r => l :: labs r
  | _ :: r => labs r
theorem labs_q1 : labs [] = ([]) := rfl
theorem labs_q2 : labs (.label l :: r) = (l :: labs r) := rfl
theorem labs_q3 : labs (.node n :: r) = (labs r) := rfl
theorem labs_q4 : labs (.row x :: r) = (labs r) := rfl
theorem labs_append (a b : List Tk) : labs (a ++ b) = labs a ++ labs b := by
  induction a with
  | nil => rfl
  | cons t r ih => cases t <;> simp [labs_q1, labs_q2, labs_q3, labs_q4, ih]
theorem labs_rep (n : Nd) : ∀ k, labs (List.replicate k (.node n)) = []
  | 0 => rfl
  | k + 1 => by rw [List.replicate_succ]; exact labs_rep n k
theorem labs_opt (g : Bool) (e : Nat) (p : Nd) : ∀ n l x, x ∈ labs (optTasks g e p n l) → l < x ∧ x ≤ l + n
  | 0, l, x, h => by simp [optTasks_q1, optTasks_q2, labs_q1, labs_q2, labs_q3, labs_q4] at h
  | n + 1, l, x, h => by
    rw [optTasks_q2, labs_append] at h
    simp only [labs_q1, labs_q2, labs_q3, labs_q4, List.cons_append, List.nil_append, List.mem_cons] at h
    rcases h with h | h
    · omega
    · have := labs_opt g e p n (l + 1) x h; omega
theorem nodup_opt (g : Bool) (e : Nat) (p : Nd) : ∀ n l, (labs (optTasks g e p n l)).Nodup
  | 0, l => by simp [optTasks_q1, optTasks_q2, labs_q1, labs_q2, labs_q3, labs_q4]
  | n + 1, l => by
    rw [optTasks_q2, labs_append]
    simp only [labs_q1, labs_q2, labs_q3, labs_q4, List.cons_append, List.nil_append, List.nodup_cons]
    exact ⟨fun h => by have := labs_opt g e p n (l + 1) _ h; omega, nodup_opt g e p n (l + 1)⟩

/-- the labels that wait are each their own, and none is yet to come -/
noncomputable def Inv (s : CS) (ts : List Tk) : Prop := (labs ts).Nodup ∧ ∀ l ∈ labs ts, l ≤ s.labels

theorem expand_labels (folds : Bool) (n : Nd) (s : CS) : s.labels ≤ (expand folds n s).1.labels := by
  cases n with
  | times least most g p => simp only [expand_q1, expand_q2, expand_q3, expand_q4, expand_q5, expand_q6, expand_q7]; split <;> simp only [] <;> omega
  | _ => simp [expand_q1, expand_q2, expand_q3, expand_q4, expand_q5, expand_q6, expand_q7]
theorem expand_places (folds : Bool) (n : Nd) (s : CS) : (expand folds n s).1.places = s.places := by
  cases n with
  | times least most g p => simp only [expand_q1, expand_q2, expand_q3, expand_q4, expand_q5, expand_q6, expand_q7]; split <;> rfl
  | _ => rfl
theorem expand_rows (folds : Bool) (n : Nd) (s : CS) : s.rows <+: (expand folds n s).1.rows := by
  cases n with
  | times least most g p => simp only [expand_q1, expand_q2, expand_q3, expand_q4, expand_q5, expand_q6, expand_q7]; split <;> exact List.prefix_refl _
  | _ => simp [expand_q1, expand_q2, expand_q3, expand_q4, expand_q5, expand_q6, expand_q7]
theorem expand_labs (folds : Bool) (n : Nd) (s : CS) : (labs (expand folds n s).2).Nodup ∧ ∀ l ∈ labs (expand folds n s).2, s.labels < l ∧ l ≤ (expand folds n s).1.labels := by
  cases n with
  | times least most g p =>
    simp only [expand_q1, expand_q2, expand_q3, expand_q4, expand_q5, expand_q6, expand_q7]
    split
    · simp only [labs_append, labs_rep, labs_q1, labs_q2, labs_q3, labs_q4, List.nil_append]
      refine ⟨by simp, fun l hl => ?_⟩
      simp at hl; omega
    · simp only [labs_append, labs_rep, labs_q1, labs_q2, labs_q3, labs_q4, List.nil_append]
      refine ⟨List.nodup_append.mpr ⟨nodup_opt _ _ _ _ _, by simp, fun a ha b hb e => ?_⟩, fun l hl => ?_⟩
      · have := labs_opt _ _ _ _ _ _ ha
        simp at hb; omega
      · rcases List.mem_append.mp hl with h | h
        · have := labs_opt _ _ _ _ _ _ h; omega
        · simp at h; omega
  | alt a b => simp [expand_q1, expand_q2, expand_q3, expand_q4, expand_q5, expand_q6, expand_q7, labs_q1, labs_q2, labs_q3, labs_q4]; try omega
  | _ => simp [expand_q1, expand_q2, expand_q3, expand_q4, expand_q5, expand_q6, expand_q7, labs_q1, labs_q2, labs_q3, labs_q4]
theorem Inv.expand {folds : Bool} {n : Nd} {s : CS} {ts : List Tk} (i : Inv s (.node n :: ts)) : Inv (expand folds n s).1 ((expand folds n s).2 ++ ts) := by
  obtain ⟨a, b⟩ := expand_labs folds n s
  have c := expand_labels folds n s
  have i1 : (labs ts).Nodup := i.1
  have i2 : ∀ l ∈ labs ts, l ≤ s.labels := i.2
  refine ⟨?_, fun l hl => ?_⟩
  · rw [labs_append]
    exact List.nodup_append.mpr ⟨a, i1, fun x hx y hy e => by have := b x hx; have := i2 y hy; omega⟩
  · rw [labs_append] at hl
    rcases List.mem_append.mp hl with h | h
    · exact (b l h).2
    · have := i2 l h; omega

theorem RunL.rows {folds s ts s'} (h : RunL folds s ts s') : s.rows <+: s'.rows := by
  induction h with
  | nil => exact List.prefix_refl _
  | row _ ih => exact (List.prefix_append _ _).trans ih
  | label _ ih => exact ih
  | node _ _ ih => exact (expand_rows _ _ _).trans ih
theorem RunL.keeps {folds s ts s'} (h : RunL folds s ts s') : ∀ l, l ≤ s.labels → l ∉ labs ts → get l s'.places = get l s.places := by
  induction h with
  | nil => exact fun _ _ _ => rfl
  | row _ ih => exact fun l h1 h2 => ih l h1 h2
  | label _ ih =>
    intro l h1 h2
    simp only [labs_q1, labs_q2, labs_q3, labs_q4, List.mem_cons, not_or] at h2
    rw [ih l h1 h2.2]
    exact get_put_ne _ h2.1 _
  | @node s n ts s' _ _ ih =>
    intro l h1 h2
    have h3 := expand_labels folds n s
    have h4 := (expand_labs folds n s).2
    rw [ih l (by omega) fun hm => ?_, expand_places]
    rw [labs_append] at hm
    rcases List.mem_append.mp hm with h | h
    · have := h4 l h; omega
    · exact h2 h

/-! the rows when all labels are known -/
noncomputable def settle (P : Kept) : Rw → Rw
  | .split a b => .split ((get a P).getD 0).toNat ((get b P).getD 0).toNat
  | .jump a => .jump ((get a P).getD 0).toNat
  | r => r
noncomputable def settled (s : CS) : List Rw := s.rows.map (settle s.places)

noncomputable def RunLI (folds : Bool) (s : CS) : List Tk → CS → Prop
  | [], s' => s = s'
  | .row r :: ts, s' => RunL folds { s with rows := s.rows ++ [r] } ts s'
  | .label l :: ts, s' => RunL folds { s with places := put l s.rows.length s.places } ts s'
  | .node n :: ts, s' => s.rows.length + ts.length + (expand folds n s).2.length ≤ 20000 ∧ RunL folds (expand folds n s).1 ((expand folds n s).2 ++ ts) s'
theorem RunL.inv {folds s ts s'} (h : RunL folds s ts s') : RunLI folds s ts s' := by
  induction h with
  | nil => exact rfl
  | row h _ => exact h
  | label h _ => exact h
  | node hl h _ => exact ⟨hl, h⟩
theorem RunL.got {folds : Bool} {s s' : CS} {r : Rw} {ts : List Tk} (h : RunL folds { s with rows := s.rows ++ [r] } ts s') : (settled s')[s.rows.length]? = some (settle s'.places r) := by
  obtain ⟨t, e⟩ := h.rows
  rw [settled, List.getElem?_map, ← e]
  simp
theorem settle_spl {P : Kept} {g : Bool} {a b x y : Nat} (ha : get a P = some (x : Int)) (hb : ((get b P).getD 0).toNat = y) : settle P (spl g a b) = spl g x y := by
  subst hb
  cases g
  · exact (congrArg (fun o : Option Int => Rw.split ((get b P).getD 0).toNat (o.getD 0).toNat) ha)
  · exact (congrArg (fun o : Option Int => Rw.split (o.getD 0).toNat ((get b P).getD 0).toNat) ha)

/-- where a run stands: its next row, its next mark, the tasks to come -/
noncomputable def At (folds : Bool) (s' : CS) (pc mk : Nat) (ts : List Tk) : Prop := ∃ s, RunL folds s ts s' ∧ Inv s ts ∧ s.rows.length = pc ∧ s.marks = mk
section
variable {folds : Bool} {s' : CS} {pc mk : Nat} {ts : List Tk}
theorem At.nil (h : At folds s' pc mk []) : s'.marks = mk := let ⟨_, r, _, _, e⟩ := h; (RunL.inv r ▸ rfl : s'.marks = _).trans e
theorem At.row {r : Rw} (h : At folds s' pc mk (.row r :: ts)) : (settled s')[pc]? = some (settle s'.places r) ∧ At folds s' (pc + 1) mk ts := by
  obtain ⟨s, h, i, rfl, e⟩ := h
  exact ⟨RunL.got h.inv, _, h.inv, i, List.length_append, e⟩
theorem At.label {l : Nat} (h : At folds s' pc mk (.label l :: ts)) : get l s'.places = some (pc : Int) ∧ At folds s' pc mk ts := by
  obtain ⟨s, h, i, rfl, e⟩ := h
  have i1 : (l :: labs ts).Nodup := i.1
  have i1 := List.nodup_cons.mp i1
  refine ⟨?_, _, h.inv, ⟨i1.2, fun x hx => i.2 x (.tail _ hx)⟩, rfl, e⟩
  rw [RunL.keeps h.inv l (i.2 l (.head _)) i1.1]
  exact get_put_self _ _ _
theorem At.node {n : Nd} (h : At folds s' pc mk (.node n :: ts)) : ∃ s, RunL folds (Mine.expand folds n s).1 ((Mine.expand folds n s).2 ++ ts) s' ∧ Inv (Mine.expand folds n s).1 ((Mine.expand folds n s).2 ++ ts) ∧ s.rows.length = pc ∧ s.marks = mk :=
  let ⟨s, h, i, e⟩ := h; ⟨s, h.inv.2, i.expand, e⟩
theorem At.leaf {n : Nd} {r : Rw} (e : ∀ s, Mine.expand folds n s = ({ s with rows := s.rows ++ [r] }, [])) (h : At folds s' pc mk (.node n :: ts)) : (settled s')[pc]? = some (settle s'.places r) ∧ At folds s' (pc + 1) mk ts := by
  obtain ⟨s, h1, i, rfl, rfl⟩ := h.node
  rw [e] at h1 i
  exact ⟨RunL.got h1, _, h1, i, List.length_append, rfl⟩
theorem At.seq {a b : Nd} (h : At folds s' pc mk (.node (.seq a b) :: ts)) : At folds s' pc mk (.node a :: .node b :: ts) :=
  let ⟨s, h, i, e⟩ := h.node; ⟨s, h, i, e⟩
theorem At.group {g : Nat} {n : Nd} (h : At folds s' pc mk (.node (.group g n) :: ts)) : At folds s' pc mk (.row (.save (2 * g)) :: .node n :: .row (.save (2 * g + 1)) :: ts) :=
  let ⟨s, h, i, e⟩ := h.node; ⟨s, h, i, e⟩
theorem At.alt {a b : Nd} (h : At folds s' pc mk (.node (.alt a b) :: ts)) : ∃ x y z, At folds s' pc mk (.row (.split y z) :: .label y :: .node a :: .row (.jump x) :: .label z :: .node b :: .label x :: ts) :=
  let ⟨_, h, i, e⟩ := h.node; ⟨_, _, _, _, h, i, e⟩
theorem At.loop {least : Nat} {most : Int} {g : Bool} {p : Nd} (hm : most < 0) (h : At folds s' pc mk (.node (.times least most g p) :: ts)) :
    ∃ x y z, At folds s' pc (mk + 1) (List.replicate least (.node p) ++ (.label y :: .row (spl g z x) :: .label z :: .row (.mark mk) :: .node p :: .row (.prog mk) :: .row (.jump y) :: .label x :: ts)) := by
  obtain ⟨s, h1, i, rfl, rfl⟩ := h.node
  rw [expand_q7, if_pos hm] at h1 i
  rw [List.append_assoc] at h1 i
  exact ⟨_, _, _, _, h1, i, rfl, rfl⟩
theorem At.most {least : Nat} {most : Int} {g : Bool} {p : Nd} (hm : ¬ most < 0) (h : At folds s' pc mk (.node (.times least most g p) :: ts)) :
    ∃ x, At folds s' pc mk (List.replicate least (.node p) ++ (optTasks g x p (most - least).toNat x ++ (.label x :: ts))) := by
  obtain ⟨s, h1, i, rfl, rfl⟩ := h.node
  rw [expand_q7, if_neg hm] at h1 i
  rw [List.append_assoc, List.append_assoc] at h1 i
  exact ⟨_, _, h1, i, rfl, rfl⟩
end
/-- a node's whole task, as the code it leaves -/
noncomputable def Does (folds : Bool) (s' : CS) (n : Nd) : Prop := ∀ pc mk ts, At folds s' pc mk (.node n :: ts) → ∃ pc' mk', At folds s' pc' mk' ts ∧ Cod folds (settled s') n pc pc' mk mk'
theorem Does.rep {folds s' n} (h : Does folds s' n) : ∀ k pc mk ts, At folds s' pc mk (List.replicate k (.node n) ++ ts) → ∃ pc' mk', At folds s' pc' mk' ts ∧ Copies (Cod folds (settled s') n) k pc pc' mk mk'
  | 0, _, _, _, r => ⟨_, _, r, rfl, rfl⟩
  | k + 1, _, _, ts, r =>
    let ⟨_, _, r1, c1⟩ := h _ _ (List.replicate k (.node n) ++ ts) r
    let ⟨_, _, r2, c2⟩ := Does.rep h k _ _ ts r1
    ⟨_, _, r2, _, _, c1, c2⟩
theorem Does.opts {folds s' n g e q} (h : Does folds s' n) (he : ((get e s'.places).getD 0).toNat = q) : ∀ k l pc mk ts, At folds s' pc mk (optTasks g e n k l ++ ts) → ∃ pc' mk', At folds s' pc' mk' ts ∧ Opts (settled s') g (Cod folds (settled s') n) q k pc pc' mk mk'
  | 0, _, _, _, _, r => ⟨_, _, r, rfl, rfl⟩
  | k + 1, l, _, _, ts, r =>
    let ⟨a1, r1⟩ := At.row (ts := .label (l + 1) :: .node n :: (optTasks g e n k (l + 1) ++ ts)) r
    let ⟨a2, r2⟩ := r1.label
    let ⟨_, _, r3, c3⟩ := h _ _ _ r2
    let ⟨_, _, r4, c4⟩ := Does.opts h he k _ _ _ _ r3
    ⟨_, _, r4, _, _, a1.trans (congrArg some (settle_spl a2 he)), c3, c4⟩
theorem put_at {P : Kept} {l pc : Nat} (h : get l P = some (pc : Int)) : ((get l P).getD 0).toNat = pc := by rw [h]; rfl
theorem does (folds : Bool) (s' : CS) : ∀ n, Does folds s' n
  | .chr c => fun _ _ _ r => let ⟨a, r⟩ := At.leaf (r := .chr (foldIf folds c)) (fun _ => rfl) r; ⟨_, _, r, a, rfl, rfl⟩
  | .any => fun _ _ _ r => let ⟨a, r⟩ := At.leaf (r := .any) (fun _ => rfl) r; ⟨_, _, r, a, rfl, rfl⟩
  | .set => fun _ _ _ r => let ⟨a, r⟩ := At.leaf (r := .set) (fun _ => rfl) r; ⟨_, _, r, a, rfl, rfl⟩
  | .seq a b => fun _ _ _ r =>
    let ⟨_, _, r2, c2⟩ := does folds s' a _ _ _ r.seq
    let ⟨_, _, r3, c3⟩ := does folds s' b _ _ _ r2
    ⟨_, _, r3, _, _, c2, c3⟩
  | .group _ n => fun _ _ _ r =>
    let ⟨a1, r2⟩ := r.group.row
    let ⟨_, _, r3, c3⟩ := does folds s' n _ _ _ r2
    let ⟨a4, r4⟩ := r3.row
    ⟨_, _, r4, _, a1, c3, a4, rfl⟩
  | .alt a b => fun _ _ _ r => by
    obtain ⟨_, _, _, r1⟩ := r.alt
    obtain ⟨a1, r2⟩ := r1.row
    obtain ⟨a2, r3⟩ := r2.label
    obtain ⟨_, _, r4, c4⟩ := does folds s' a _ _ _ r3
    obtain ⟨a5, r5⟩ := r4.row
    obtain ⟨a6, r6⟩ := r5.label
    obtain ⟨_, _, r7, c7⟩ := does folds s' b _ _ _ r6
    obtain ⟨a8, r8⟩ := r7.label
    refine ⟨_, _, r8, _, _, a1.trans (congrArg some ?_), c4, a5.trans (congrArg some ?_), c7⟩
    · exact (congrArg (Rw.split · _) (put_at a2)).trans (congrArg (Rw.split _ ·) (put_at a6))
    · exact congrArg Rw.jump (put_at a8)
  | .times least most g n => fun _ _ _ r => by
    by_cases hm : most < 0
    · obtain ⟨_, _, _, r1⟩ := r.loop hm
      obtain ⟨_, _, r2, c2⟩ := (does folds s' n).rep _ _ _ _ r1
      obtain ⟨a3, r3⟩ := r2.label
      obtain ⟨a4, r4⟩ := r3.row
      obtain ⟨a5, r5⟩ := r4.label
      obtain ⟨a6, r6⟩ := r5.row
      obtain ⟨_, _, r7, c7⟩ := does folds s' n _ _ _ r6
      obtain ⟨a8, r8⟩ := r7.row
      obtain ⟨a9, r9⟩ := r8.row
      obtain ⟨a10, r10⟩ := r9.label
      refine ⟨_, _, r10, ?_⟩
      rw [Cod_q7, if_pos hm]
      exact ⟨_, _, _, c2, a4.trans (congrArg some (settle_spl a5 (put_at a10))), a6, c7, a8, a9.trans (congrArg some (congrArg Rw.jump (put_at a3))), rfl⟩
    · obtain ⟨_, r1⟩ := r.most hm
      obtain ⟨_, _, r2, c2⟩ := (does folds s' n).rep _ _ _ _ r1
      obtain ⟨_, _, r3, c3⟩ := (does folds s' n).opts rfl _ _ _ _ _ r2
      obtain ⟨a4, r4⟩ := r3.label
      rw [put_at a4] at c3
      refine ⟨_, _, r4, ?_⟩
      rw [Cod_q7, if_neg hm]
      exact ⟨_, _, c2, c3⟩

/-- every label of a row has its place, or is still to come -/
noncomputable def Rw.labels : Rw → List Nat
  | .split a b => [a, b]
  | .jump a => [a]
  | _ => []
noncomputable def uses : List Tk → List Nat
  | [] => []
  | .row r :: ts => r.labels ++ uses ts
  | .node _ :: ts => uses ts
  | .label _ :: ts => uses ts
noncomputable def Known (s : CS) (ts : List Tk) : Prop := (∀ r ∈ s.rows, ∀ l ∈ r.labels, (get l s.places).isSome ∨ l ∈ labs ts) ∧ ∀ l ∈ uses ts, (get l s.places).isSome ∨ l ∈ labs ts
theorem uses_append : ∀ (a b : List Tk), uses (a ++ b) = uses a ++ uses b
  | [], _ => rfl
  | .row r :: a, b => (congrArg (r.labels ++ ·) (uses_append a b)).trans (List.append_assoc ..).symm
  | .node _ :: a, b => uses_append a b
  | .label _ :: a, b => uses_append a b
theorem uses_rep (n : Nd) : ∀ k ts, uses (List.replicate k (.node n) ++ ts) = uses ts
  | 0, _ => rfl
  | k + 1, ts => uses_rep n k ts
theorem mem_swap {x a b : Nat} {l : List Nat} (h : x ∈ [b, a]) : x ∈ a :: b :: l := by
  rcases List.mem_cons.mp h with h | h
  · exact h ▸ .tail _ (.head _)
  · exact List.mem_singleton.mp h ▸ .head _
theorem mem_same {x a b : Nat} {l : List Nat} (h : x ∈ [a, b]) : x ∈ a :: b :: l := List.mem_append.mpr (.inl h)
theorem mem_rot {x a b c : Nat} (h : x ∈ b :: c :: [a]) : x ∈ [a, b, c] := by
  rcases List.mem_cons.mp h with h | h
  · exact h ▸ .tail _ (.head _)
  · rcases List.mem_cons.mp h with h | h
    · exact h ▸ .tail _ (.tail _ (.head _))
    · exact List.mem_singleton.mp h ▸ .head _
theorem spl_labels {g : Bool} {a b x : Nat} (h : x ∈ (spl g a b).labels) {l : List Nat} : x ∈ b :: a :: l := by
  cases g
  · exact mem_same h
  · exact mem_swap h

theorem get_put_some {k j v : Nat} {m : Kept} (h : (get j m).isSome) : (get j (put k v m)).isSome := by
  by_cases e : j = k
  · subst e; rw [get_put_self]; rfl
  · rw [get_put_ne v e]; exact h

theorem uses_opt (g : Bool) (e : Nat) (p : Nd) : ∀ n l, ∀ x ∈ uses (optTasks g e p n l), x ∈ e :: labs (optTasks g e p n l)
  | 0, _, _, h => (List.not_mem_nil h).elim
  | n + 1, l, x, h => by
    have h : x ∈ (spl g (l + 1) e).labels ++ uses (optTasks g e p n (l + 1)) := h
    show x ∈ e :: (l + 1) :: labs (optTasks g e p n (l + 1))
    rcases List.mem_append.mp h with h | h
    · exact spl_labels h
    · rcases List.mem_cons.mp (uses_opt g e p n (l + 1) x h) with h | h
      · exact h ▸ .head _
      · exact .tail _ (.tail _ h)
set_option tactic.hygienic true in
theorem expand_uses (folds : Bool) (n : Nd) (s : CS) : ∀ x ∈ uses (expand folds n s).2, x ∈ labs (expand folds n s).2 := by
  intro x hx
  cases n with
  | times least most g p =>
    rw [expand_q7] at hx ⊢
    split at hx
    · rename_i hm
      rw [if_pos hm, labs_append, labs_rep]
      rw [uses_rep] at hx
      cases g
      · exact List.mem_reverse.mp hx
      · exact mem_rot hx
    · rename_i hm
      rw [if_neg hm, labs_append, labs_rep, List.nil_append, labs_append]
      rw [uses_rep, uses_append] at hx
      have hx := List.mem_append.mp hx
      rcases List.mem_cons.mp (uses_opt _ _ _ _ _ _ (hx.resolve_right List.not_mem_nil)) with h | h
      · exact List.mem_append.mpr (.inr (h ▸ .head _))
      · exact List.mem_append.mpr (.inl h)
  | alt a b => exact hx
  | _ => exact (List.not_mem_nil hx).elim
theorem expand_new (folds : Bool) (n : Nd) (s : CS) : ∀ r ∈ (expand folds n s).1.rows, r ∈ s.rows ∨ r.labels = [] := by
  intro r hr
  cases n with
  | times least most g p => simp only [expand_q1, expand_q2, expand_q3, expand_q4, expand_q5, expand_q6, expand_q7] at hr; split at hr <;> exact .inl hr
  | chr c => simp only [expand_q1, expand_q2, expand_q3, expand_q4, expand_q5, expand_q6, expand_q7, List.mem_append, List.mem_singleton] at hr; exact hr.imp id fun e => by rw [e]; rfl
  | any => simp only [expand_q1, expand_q2, expand_q3, expand_q4, expand_q5, expand_q6, expand_q7, List.mem_append, List.mem_singleton] at hr; exact hr.imp id fun e => by rw [e]; rfl
  | set => simp only [expand_q1, expand_q2, expand_q3, expand_q4, expand_q5, expand_q6, expand_q7, List.mem_append, List.mem_singleton] at hr; exact hr.imp id fun e => by rw [e]; rfl
  | _ => exact .inl hr

theorem RunL.known {folds s ts s'} (h : RunL folds s ts s') : Known s ts → Known s' [] := by
  induction h with
  | nil => exact id
  | @row s r ts s' _ ih =>
    intro k
    refine ih ⟨fun x hx l hl => ?_, fun l hl => k.2 l (List.mem_append.mpr (.inr hl))⟩
    rcases List.mem_append.mp hx with hx | hx
    · exact k.1 x hx l hl
    · rw [List.mem_singleton.mp hx] at hl
      exact k.2 l (List.mem_append.mpr (.inl hl))
  | @label s l ts s' _ ih =>
    intro k
    have step : ∀ x, (get x s.places).isSome ∨ x ∈ labs (.label l :: ts) → (get x (put l s.rows.length s.places)).isSome ∨ x ∈ labs ts := by
      intro x hx
      rcases hx with hx | hx
      · exact .inl (get_put_some hx)
      · simp only [labs_q1, labs_q2, labs_q3, labs_q4, List.mem_cons] at hx
        rcases hx with hx | hx
        · subst hx; exact .inl (by rw [get_put_self]; rfl)
        · exact .inr hx
    exact ih ⟨fun x hx y hy => step y (k.1 x hx y hy), fun y hy => step y (k.2 y hy)⟩
  | @node s n ts s' _ _ ih =>
    intro k
    have step : ∀ x, (get x s.places).isSome ∨ x ∈ labs (.node n :: ts) → (get x (expand folds n s).1.places).isSome ∨ x ∈ labs ((expand folds n s).2 ++ ts) := by
      intro x hx
      rw [expand_places, labs_append]
      exact hx.imp id fun h => List.mem_append.mpr (.inr h)
    refine ih ⟨fun x hx y hy => ?_, fun y hy => ?_⟩
    · rcases expand_new folds n s x hx with h | h
      · exact step y (k.1 x h y hy)
      · rw [h] at hy; cases hy
    · rw [uses_append] at hy
      rcases List.mem_append.mp hy with h | h
      · exact .inr (by rw [labs_append]; exact List.mem_append.mpr (.inl (expand_uses folds n s y h)))
      · exact step y (k.2 y h)

noncomputable def st0 : CS := ⟨[], [], 0, 0⟩
theorem compiled {folds : Bool} {n : Nd} (o : n.ok) {s' : CS} (r : RunL folds st0 [.node n, .row .done] s') :
    s'.marks = loops n ∧ (∀ x ∈ s'.rows, ∀ l ∈ x.labels, (get l s'.places).isSome) ∧ ∀ text, Gone text folds (settled s') (dep text.length n) 0 0 [] [] (ways text folds n 0 []) := by
  have i : Inv st0 [.node n, .row .done] := ⟨by simp [labs_q1, labs_q2, labs_q3, labs_q4], by simp [labs_q1, labs_q2, labs_q3, labs_q4]⟩
  have k : Known st0 [.node n, .row .done] := ⟨fun _ h => (List.not_mem_nil h).elim, fun _ h => (List.not_mem_nil h).elim⟩
  obtain ⟨pc, mk, r1, c1⟩ := does folds s' n 0 0 _ ⟨_, r, i, rfl, rfl⟩
  obtain ⟨a2, r2⟩ := r1.row
  refine ⟨?_, fun x hx l hl => ?_, fun text => gone_all o c1 ?_⟩
  · have := code_marks n o _ _ _ _ c1
    rw [r2.nil, this, Nat.zero_add]
  · rcases (r.known k).1 x hx l hl with h | h
    · exact h
    · simp [labs_q1, labs_q2, labs_q3, labs_q4] at h
  · rw [a2]; rfl
end Mine
end
section
/-! The plain law, third part: bounds of the ways. -/
namespace Mine
section
variable {text : List Int} {folds : Bool}

noncomputable def Bnd (T : Nat) (W : Nat → Kept → List St) : Prop := ∀ p k, p ≤ T → ∀ s ∈ W p k, p ≤ s.1 ∧ s.1 ≤ T
theorem iter_bnd {T : Nat} {W : Nat → Kept → List St} (h : Bnd T W) (p : Nat) : ∀ n sts, (∀ s ∈ sts, p ≤ s.1 ∧ s.1 ≤ T) → ∀ s ∈ iterF W n sts, p ≤ s.1 ∧ s.1 ≤ T
  | 0, sts, hs => hs
  | n + 1, sts, hs => by
    refine iter_bnd h p n _ fun s hm => ?_
    obtain ⟨q, hq, hm⟩ := List.mem_flatMap.mp hm
    have h1 := hs q hq
    have h2 := h q.1 q.2 h1.2 s hm
    exact ⟨Nat.le_trans h1.1 h2.1, h2.2⟩
/-! what is kept from one end to the next -/
theorem star_mem {W : Nat → Kept → List St} {g : Bool} {f p : Nat} {k : Kept} {s : St} (hs : s ∈ starF W g (f + 1) p k) : s = (p, k) ∨ ∃ q, q ∈ W p k ∧ s ∈ starF W g f q.1 q.2 := by
  rw [starF_q2] at hs
  have key : s = (p, k) ∨ s ∈ (W p k).flatMap fun s => if p < s.1 then starF W g f s.1 s.2 else [] := by
    split at hs
    · exact (List.mem_append.mp hs).symm.imp List.mem_singleton.mp id
    · exact List.mem_cons.mp hs
  refine key.imp id fun hm => ?_
  obtain ⟨q, hq, hm⟩ := List.mem_flatMap.mp hm
  split at hm
  · exact ⟨q, hq, hm⟩
  · cases hm
theorem some_mem {W : Nat → Kept → List St} {g : Bool} {f p : Nat} {k : Kept} {s : St} (hs : s ∈ someF W g (f + 1) p k) : s = (p, k) ∨ ∃ q, q ∈ W p k ∧ s ∈ someF W g f q.1 q.2 := by
  rw [someF_q2] at hs
  have key : s = (p, k) ∨ s ∈ (W p k).flatMap fun s => someF W g f s.1 s.2 := by
    split at hs
    · exact (List.mem_append.mp hs).symm.imp List.mem_singleton.mp id
    · exact List.mem_cons.mp hs
  exact key.imp id fun hm => let ⟨q, hq, hm⟩ := List.mem_flatMap.mp hm; ⟨q, hq, hm⟩
set_option tactic.hygienic true in
theorem one_mem {t : Int → Bool} {p : Nat} {k : Kept} {s : St} (hs : s ∈ one text t p k) : s = (p + 1, k) ∧ p < text.length := by
  unfold one at hs
  split at hs
  · rename_i c hc
    split at hs
    · exact ⟨List.mem_singleton.mp hs, (List.getElem?_eq_some_iff.mp hc).1⟩
    · cases hs
  · cases hs
noncomputable def Rel (M : St → St → Prop) (W : Nat → Kept → List St) : Prop := ∀ p k, ∀ s ∈ W p k, M (p, k) s
section
variable {M : St → St → Prop} (rf : ∀ s, M s s) (tr : ∀ a b c, M a b → M b c → M a c) {W : Nat → Kept → List St} (h : Rel M W)
include tr h
theorem Rel.each {V : Nat → Kept → List St} (h' : Rel M V) (p : Nat) (k : Kept) (s : St) (hs : s ∈ eachF V (W p k)) : M (p, k) s :=
  let ⟨q, hq, hm⟩ := List.mem_flatMap.mp hs
  tr _ _ _ (h p k q hq) (h' q.1 q.2 s hm)
theorem Rel.iter (o : St) : ∀ n sts, (∀ s ∈ sts, M o s) → ∀ s ∈ iterF W n sts, M o s
  | 0, _, hs => hs
  | n + 1, _, hs => Rel.iter o n _ fun s hm =>
    let ⟨q, hq, hm⟩ := List.mem_flatMap.mp hm
    tr _ _ _ (hs q hq) (h q.1 q.2 s hm)
include rf
theorem Rel.star (g : Bool) : ∀ f, Rel M (starF W g f)
  | 0 => fun _ _ _ hs => List.mem_singleton.mp hs ▸ rf _
  | f + 1 => fun p k s hs => (star_mem hs).elim (fun e => e ▸ rf _) fun ⟨q, hq, hm⟩ => tr _ _ _ (h p k q hq) (Rel.star g f q.1 q.2 s hm)
theorem Rel.some (g : Bool) : ∀ f, Rel M (someF W g f)
  | 0 => fun _ _ _ hs => List.mem_singleton.mp hs ▸ rf _
  | f + 1 => fun p k s hs => (some_mem hs).elim (fun e => e ▸ rf _) fun ⟨q, hq, hm⟩ => tr _ _ _ (h p k q hq) (Rel.some g f q.1 q.2 s hm)
theorem Rel.times (least : Nat) (most : Int) (g : Bool) (T : Nat) : Rel M fun p k => (iterF W least [(p, k)]).flatMap fun s => if most < 0 then starF W g (T - s.1 + 1) s.1 s.2 else someF W g (most - least).toNat s.1 s.2 := fun p k s hs => by
  obtain ⟨q, hq, hm⟩ := List.mem_flatMap.mp hs
  have h1 := Rel.iter tr h (p, k) least [(p, k)] (fun s hs => List.mem_singleton.mp hs ▸ rf _) q hq
  split at hm
  · exact tr _ _ _ h1 (Rel.star rf tr h g _ q.1 q.2 s hm)
  · exact tr _ _ _ h1 (Rel.some rf tr h g _ q.1 q.2 s hm)
end
noncomputable def Mv (T : Nat) (a b : St) : Prop := a.1 ≤ b.1 ∧ (b.1 ≤ a.1 ∨ b.1 ≤ T)
theorem mv_refl (T : Nat) (s : St) : Mv T s s := ⟨Nat.le_refl _, .inl (Nat.le_refl _)⟩
theorem mv_trans (T : Nat) (a b c : St) (h : Mv T a b) (h' : Mv T b c) : Mv T a c :=
  ⟨Nat.le_trans h.1 h'.1, h'.2.elim (fun e => h.2.imp (Nat.le_trans e) (Nat.le_trans e)) .inr⟩
/-- the ends wherever the start is -/
theorem one_mv (t : Int → Bool) : Rel (Mv text.length) (one text t) := fun p k s hs => by
  obtain ⟨e, hlt⟩ := one_mem hs
  rw [e]; exact ⟨Nat.le_succ _, .inr hlt⟩
theorem ways_mv : ∀ n : Nd, Rel (Mv text.length) (ways text folds n)
  | .chr _ => one_mv _
  | .any => one_mv _
  | .set => one_mv _
  | .seq a b => Rel.each (mv_trans _) (ways_mv a) (ways_mv b)
  | .alt a b => fun p k s hs => (List.mem_append.mp hs).elim (ways_mv a p k s) (ways_mv b p k s)
  | .group g n => fun p k s hs => by
    obtain ⟨q, hq, e⟩ := List.mem_map.mp hs
    rw [← e]
    exact ways_mv n p (put (2 * g) p k) q hq
  | .times least most g n => Rel.times (mv_refl _) (mv_trans _) (ways_mv n) least most g _
theorem ways_bnd (n : Nd) : Bnd text.length (ways text folds n) := fun p k hp s hs =>
  have h := ways_mv n p k s hs
  ⟨h.1, h.2.elim (fun e => Nat.le_trans e hp) id⟩

/-! how many -/
noncomputable def geo (B : Nat) : Nat → Nat
  | 0 => 1
  | n + 1 => 1 + B * geo B n
theorem geo_pos (B : Nat) : ∀ n, 1 ≤ geo B n
  | 0 => Nat.le_refl _
  | _ + 1 => Nat.le_add_right _ _
theorem geo_mono (B : Nat) : ∀ {m n : Nat}, m ≤ n → geo B m ≤ geo B n
  | 0, n, _ => geo_pos B n
  | m + 1, 0, h => by omega
  | m + 1, n + 1, h => by
    have := Nat.mul_le_mul_left B (geo_mono B (m := m) (n := n) (by omega))
    show 1 + B * geo B m ≤ 1 + B * geo B n
    omega
noncomputable def Wid (B : Nat) (W : Nat → Kept → List St) : Prop := ∀ p k, (W p k).length ≤ B
theorem flat_len {α β : Type} (f : α → List β) (B : Nat) : ∀ l : List α, (∀ x ∈ l, (f x).length ≤ B) → (l.flatMap f).length ≤ l.length * B
  | [], _ => by simp
  | a :: r, h => by
    have h1 := h a (.head _)
    have h2 := flat_len f B r fun x hx => h x (.tail _ hx)
    simp only [List.flatMap_cons, List.length_append, List.length_cons, Nat.succ_mul]
    omega
theorem one_wid (t : Int → Bool) : Wid 1 (one text t) := by
  intro p k
  unfold one
  split
  · split <;> simp
  · simp
theorem iter_wid {B : Nat} {W : Nat → Kept → List St} (h : Wid B W) : ∀ n sts, (iterF W n sts).length ≤ sts.length * B ^ n
  | 0, sts => by rw [iterF_q1, Nat.pow_zero, Nat.mul_one]; exact Nat.le_refl _
  | n + 1, sts => by
    have h1 := iter_wid h n (eachF W sts)
    have h2 : (eachF W sts).length ≤ sts.length * B := flat_len _ _ _ fun x _ => h x.1 x.2
    have h3 := Nat.mul_le_mul_right (B ^ n) h2
    show (iterF W n (eachF W sts)).length ≤ _
    have e : sts.length * B ^ (n + 1) = sts.length * B * B ^ n := by rw [Nat.pow_succ, Nat.mul_assoc, Nat.mul_comm B]
    rw [e]; omega
theorem pow_one_le (B f : Nat) : 1 ≤ (1 + B) ^ f := Nat.one_le_pow _ _ (by omega)
theorem star_wid {T B : Nat} {W : Nat → Kept → List St} (h : Wid B W) (hb : Rel (Mv T) W) (g : Bool) : ∀ f p k, (starF W g f p k).length ≤ geo B (T - p)
  | 0, p, k => geo_pos _ _
  | f + 1, p, k => by
    have key : ((W p k).flatMap fun s => if p < s.1 then starF W g f s.1 s.2 else []).length + 1 ≤ geo B (T - p) := by
      cases hT : T - p with
      | zero =>
        have h1 : ((W p k).flatMap fun s => if p < s.1 then starF W g f s.1 s.2 else []).length ≤ (W p k).length * 0 := flat_len _ _ _ fun x hx => by
          have : p ≤ x.1 ∧ (x.1 ≤ p ∨ x.1 ≤ T) := hb p k x hx
          rw [if_neg (by omega)]; exact Nat.le_refl _
        have := geo_pos B 0
        omega
      | succ m =>
        have h1 : ((W p k).flatMap fun s => if p < s.1 then starF W g f s.1 s.2 else []).length ≤ (W p k).length * geo B m := flat_len _ _ _ fun x hx => by
          split
          · exact Nat.le_trans (star_wid h hb g f x.1 x.2) (geo_mono B (by omega))
          · simp
        have h2 := Nat.mul_le_mul_right (geo B m) (h p k)
        show _ ≤ 1 + B * geo B m
        omega
    rw [starF_q2]
    split
    · rw [List.length_append]; exact key
    · exact key
theorem some_wid {B : Nat} {W : Nat → Kept → List St} (h : Wid B W) (g : Bool) : ∀ f, Wid ((1 + B) ^ f) (someF W g f)
  | 0 => fun _ _ => Nat.le_refl _
  | f + 1 => fun p k => by
    have h1 : ((W p k).flatMap fun s => someF W g f s.1 s.2).length ≤ (W p k).length * (1 + B) ^ f := flat_len _ _ _ fun x _ => some_wid h g f x.1 x.2
    have h2 := Nat.mul_le_mul_right ((1 + B) ^ f) (h p k)
    have h3 := pow_one_le B f
    have e : (1 + B) ^ (f + 1) = (1 + B) ^ f + B * (1 + B) ^ f := by rw [Nat.pow_succ, Nat.mul_add, Nat.mul_one, Nat.mul_comm B]
    have key : ((W p k).flatMap fun s => someF W g f s.1 s.2).length + 1 ≤ (1 + B) ^ f + B * (1 + B) ^ f := by
      rw [Nat.add_comm]; exact Nat.add_le_add h3 (Nat.le_trans h1 h2)
    rw [e]
    rw [someF_q2]
    split
    · rw [List.length_append]; exact key
    · exact key
noncomputable def wid (T : Nat) : Nd → Nat
  | .seq a b => wid T a * wid T b
  | .alt a b => wid T a + wid T b
  | .group _ n => wid T n
  | .times least most _ n => wid T n ^ least * (if most < 0 then geo (wid T n) T else (1 + wid T n) ^ (most - least).toNat)
  | _ => 1
theorem wid_q1 : wid T (.seq a b) = (wid T a * wid T b) := rfl
theorem wid_q2 : wid T (.alt a b) = (wid T a + wid T b) := rfl
theorem wid_q3 : wid T (.group z01 n) = (wid T n) := rfl
theorem wid_q4 : wid T (.times least most z01 n) = (wid T n ^ least * (if most < 0 then geo (wid T n) T else (1 + wid T n) ^ (most - least).toNat)) := rfl
theorem ways_wid : ∀ n : Nd, Wid (wid text.length n) (ways text folds n)
  | .chr _ => one_wid _
  | .any => one_wid _
  | .set => one_wid _
  | .seq a b => fun p k => by
    have h1 := ways_wid a p k
    have h2 : (eachF (ways text folds b) (ways text folds a p k)).length ≤ (ways text folds a p k).length * wid text.length b := flat_len _ _ _ fun x _ => ways_wid b x.1 x.2
    exact Nat.le_trans h2 (Nat.mul_le_mul_right _ h1)
  | .alt a b => fun p k => by
    have h1 := ways_wid a p k
    have h2 := ways_wid b p k
    rw [ways_q2, wid_q2, List.length_append]; exact Nat.add_le_add h1 h2
  | .group g n => fun p k => by
    have h1 := ways_wid n p (put (2 * g) p k)
    rw [ways_q3, wid_q3, List.length_map]; exact h1
  | .times least most g n => fun p k => by
    have h1 := iter_wid (ways_wid n) least [(p, k)]
    simp only [List.length_singleton, Nat.one_mul] at h1
    rw [ways_q4, wid_q4]
    refine Nat.le_trans (flat_len _ (if most < 0 then geo (wid text.length n) text.length else (1 + wid text.length n) ^ (most - least).toNat) _ fun s _ => ?_) (Nat.mul_le_mul_right _ h1)
    split
    · exact Nat.le_trans (star_wid (ways_wid n) (ways_mv n) g _ _ _) (geo_mono _ (Nat.sub_le _ _))
    · exact some_wid (ways_wid n) g _ _ _
theorem iter_succ (W : Nat → Kept → List St) : ∀ n s, iterF W (n + 1) s = eachF W (iterF W n s)
  | 0, s => rfl
  | n + 1, s => by
    show iterF W (n + 1) (eachF W s) = _
    rw [iter_succ W n]; rfl
theorem wid_pos (T : Nat) : ∀ n, 1 ≤ wid T n
  | .chr _ => Nat.le_refl _
  | .any => Nat.le_refl _
  | .set => Nat.le_refl _
  | .seq a b => Nat.mul_pos (wid_pos T a) (wid_pos T b)
  | .alt a b => Nat.le_trans (wid_pos T a) (Nat.le_add_right _ _)
  | .group _ n => wid_pos T n
  | .times least most _ n => by
    rw [wid_q4]
    refine Nat.mul_pos (Nat.pow_pos (wid_pos T n)) ?_
    split <;> first | exact geo_pos _ _ | exact pow_one_le _ _
theorem iter_le {least i : Nat} {most : Int} {g : Bool} {n : Nd} (p : Nat) (c : Kept) (h : i ≤ least) : (iterF (ways text folds n) i [(p, c)]).length ≤ wid text.length (.times least most g n) := by
  have h1 := iter_wid (ways_wid (text := text) (folds := folds) n) i [(p, c)]
  simp only [List.length_singleton, Nat.one_mul] at h1
  have h2 := Nat.pow_le_pow_right (wid_pos text.length n) h
  refine Nat.le_trans h1 (Nat.le_trans h2 ?_)
  rw [wid_q4]
  exact Nat.le_mul_of_pos_right _ (by split <;> first | exact geo_pos _ _ | exact pow_one_le _ _)
end
end Mine
end
section
namespace Mine
section
variable (text : List Int) (folds : Bool) (R : List Rw)
/-- the machine, its own steps counted -/
inductive GoneN : Nat → Nat → Nat → Nat → Kept → Kept → List St → Prop
  | done {n d r p k m} : R[r]? = some .done → GoneN n d r p k m [(p, k)]
  | split {n n1 n2 d r p k m a b x y} : R[r]? = some (.split a b) → GoneN n1 d a p k m x → GoneN n2 d b p k m y → GoneN n (d + 1) r p k m (x ++ y)
  | jump {n d r p k m a x} : R[r]? = some (.jump a) → GoneN n d a p k m x → GoneN (n + 1) d r p k m x
  | save {n d r p k m i x} : R[r]? = some (.save i) → GoneN n d (r + 1) p (put i p k) m x → GoneN (n + 1) d r p k m x
  | mark {n d r p k m i x} : R[r]? = some (.mark i) → GoneN n d (r + 1) p k (put i p m) x → GoneN (n + 1) d r p k m x
  | stuck {n d r p : Nat} {k m i} {q : Int} : R[r]? = some (.prog i) → get i m = some q → (p : Int) ≤ q → GoneN n d r p k m []
  | prog {n d r p : Nat} {k m i x} {q : Int} : R[r]? = some (.prog i) → get i m = some q → q < (p : Int) → GoneN n d (r + 1) p k m x → GoneN (n + 1) d r p k m x
  | take {n d r p k m w t c x} : R[r]? = some w → w.tk folds = some t → text[p]? = some c → t c = true → GoneN n d (r + 1) (p + 1) k m x → GoneN (n + 1) d r p k m x
  | miss {n d r p k m w t c} : R[r]? = some w → w.tk folds = some t → text[p]? = some c → t c = false → GoneN n d r p k m []
  | over {n d r p k m w t} : R[r]? = some w → w.tk folds = some t → text.length ≤ p → GoneN n d r p k m []
theorem Gone.steps {text folds R} {d r p k m x} (h : Gone text folds R d r p k m x) : ∃ n, GoneN text folds R n d r p k m x := by
  induction h with
  | done h => exact ⟨0, .done h⟩
  | split h _ _ ia ib => obtain ⟨n1, i1⟩ := ia; obtain ⟨n2, i2⟩ := ib; exact ⟨0, .split h i1 i2⟩
  | jump h _ i => obtain ⟨n, i⟩ := i; exact ⟨_, .jump h i⟩
  | save h _ i => obtain ⟨n, i⟩ := i; exact ⟨_, .save h i⟩
  | mark h _ i => obtain ⟨n, i⟩ := i; exact ⟨_, .mark h i⟩
  | stuck h g q => exact ⟨0, .stuck h g q⟩
  | prog h g q _ i => obtain ⟨n, i⟩ := i; exact ⟨_, .prog h g q i⟩
  | take h a b c _ i => obtain ⟨n, i⟩ := i; exact ⟨_, .take h a b c i⟩
  | miss h a b c => exact ⟨0, .miss h a b c⟩
  | over h a b => exact ⟨0, .over h a b⟩
end
noncomputable def Rw.fine : Rw → Prop
  | .save i => i < 20000
  | .mark i => i < 20000
  | .prog i => i < 20000
  | .chr c => 0 ≤ c ∧ c < 1000
  | _ => True
end Mine
end
section
open PySem PySem.W PyProof.Rows PyProof.V
set_option Elab.async false
set_option maxRecDepth 100000
set_option maxHeartbeats 8000000
namespace Mine
/-- a call's contract: size bounds the frames beneath, Post speaks over the grown ledger -/
noncomputable def Con (w : World) (size : Nat) (f : Addr) (vs : List Value) (news : List (Addr × Obj)) (Post : List (Addr × Obj) → Value → Prop) : Prop :=
  ∀ (p : Program) (loose : List Str) (mean : ExcName → Option Value) (mg mb : Str → Option Value) (dp un : Nat) (gd : Option (List Code)) (cn : Str) (cs : Scope) (a : Addr) (ccd : Value) (cl : List (Str × Addr)) (outer : List Env) (A₀ : Around) (base h₀ : Heap) (L : Addr) (m : Str → Option Value) (s : Shared)
    (Q E : Value → Shared → Prop),
    Below A₀ base outer h₀ → Fr h₀ L s.heap m → (hd.heap_39 w.params).In h₀ → News h₀ L s.heap news → Top p loose mean mg mb h₀ → cs.kind = .function → dp + size < recursionLimit → un + 8 * size + 300 < cLine →
    (∀ r tl h' tk', Fr h₀ L h' m → News h₀ L h' (tl ++ news) → Post (tl ++ news) r → Q r { s with heap := h', toks := tk' }) →
    wpAny (model PySem.Challenge.rw_oj0023_01.row.prog w) (ktrTop dp un gd cn cs L a ccd cl outer) (call (.ref f) vs) Q E s

noncomputable def ConM (w : World) (size : Nat) (f : Addr) (vs : List Value) (mu news : List (Addr × Obj)) (Post : List (Addr × Obj) → List (Addr × Obj) → Value → Prop) : Prop :=
  ∀ (p : Program) (loose : List Str) (mean : ExcName → Option Value) (mg mb : Str → Option Value) (dp un : Nat) (gd : Option (List PySem.Code)) (cn : Str) (cs : Scope) (a : Addr) (ccd : Value) (cl : List (Str × Addr)) (outer : List Env) (A₀ : Around) (base h₀ : Heap) (L : Addr) (m : Str → Option Value) (s : Shared)
    (Q E : Value → Shared → Prop),
    Below A₀ base outer h₀ → Fr h₀ L s.heap m → (hd.heap_39 w.params).In h₀ → News h₀ L s.heap (mu ++ news) → Top p loose mean mg mb h₀ → cs.kind = .function → dp + size < recursionLimit → un + 8 * size + 300 < cLine →
    (∀ r mu' tl h' tk', Fr h₀ L h' m → News h₀ L h' (mu' ++ (tl ++ news)) → Post mu' tl r → Q r { s with heap := h', toks := tk' }) →
    wpAny (model PySem.Challenge.rw_oj0023_01.row.prog w) (ktrTop dp un gd cn cs L a ccd cl outer) (call (.ref f) vs) Q E s

section
variable {w : World} {size : Nat} {f : Addr} {vs : List Value} {mu news : List (Addr × Obj)} {p : Program} {loose : List Str} {mean : ExcName → Option Value} {mg mb : Str → Option Value} {dp un : Nat} {gd : Option (List PySem.Code)} {cn : Str} {cs : Scope} {a : Addr} {ccd : Value} {cl : List (Str × Addr)} {outer : List Env} {A₀ : Around} {base h₀ : Heap} {L : Addr} {m : Str → Option Value} {s : Shared}
    {Q E : Value → Shared → Prop}
theorem Con.use {Post : List (Addr × Obj) → Value → Prop} (C : Con w size f vs news Post) (B : Below A₀ base outer h₀) (F : Fr h₀ L s.heap m) (X : (hd.heap_39 w.params).In h₀) (N : News h₀ L s.heap news) (T : Top p loose mean mg mb h₀) (k : cs.kind = .function) (d : dp + size < recursionLimit) (u : un + 8 * size + 300 < cLine)
    (ret : ∀ r tl h' tk', Fr h₀ L h' m → News h₀ L h' (tl ++ news) → Post (tl ++ news) r → Q r { s with heap := h', toks := tk' }) :
    wpAny (model PySem.Challenge.rw_oj0023_01.row.prog w) (ktrTop dp un gd cn cs L a ccd cl outer) (call (.ref f) vs) Q E s := C _ _ _ _ _ _ _ _ _ _ _ _ _ _ _ _ _ _ _ _ _ _ B F X N T k d u ret
theorem ConM.use {Post : List (Addr × Obj) → List (Addr × Obj) → Value → Prop} (C : ConM w size f vs mu news Post) (B : Below A₀ base outer h₀) (F : Fr h₀ L s.heap m) (X : (hd.heap_39 w.params).In h₀) (N : News h₀ L s.heap (mu ++ news)) (T : Top p loose mean mg mb h₀) (k : cs.kind = .function) (d : dp + size < recursionLimit) (u : un + 8 * size + 300 < cLine)
    (ret : ∀ r mu' tl h' tk', Fr h₀ L h' m → News h₀ L h' (mu' ++ (tl ++ news)) → Post mu' tl r → Q r { s with heap := h', toks := tk' }) :
    wpAny (model PySem.Challenge.rw_oj0023_01.row.prog w) (ktrTop dp un gd cn cs L a ccd cl outer) (call (.ref f) vs) Q E s := C _ _ _ _ _ _ _ _ _ _ _ _ _ _ _ _ _ _ _ _ _ _ B F X N T k d u ret
end

/-- an entry taken out of the ledger -/
inductive Pull (D : Addr) (o : Obj) : List (Addr × Obj) → List (Addr × Obj) → Prop
  | head {r} : Pull D o ((D, o) :: r) r
  | tail {p r r'} : Pull D o r r' → Pull D o (p :: r) (p :: r')
  | app {l r r'} : Pull D o r r' → Pull D o (l ++ r) (l ++ r')
theorem Pull.sub {D : Addr} {o : Obj} {l r : List (Addr × Obj)} (P : Pull D o l r) : ∀ p ∈ (D, o) :: r, p ∈ l := by
  induction P with
  | head => exact fun _ h => h
  | tail _ ih =>
    intro p hp
    rcases List.mem_cons.mp hp with h | h
    · exact .tail _ (ih _ (by rw [h]; exact .head _))
    · rcases List.mem_cons.mp h with h | h
      · rw [h]; exact .head _
      · exact .tail _ (ih _ (.tail _ h))
  | app _ ih =>
    intro p hp
    rcases List.mem_cons.mp hp with h | h
    · exact List.mem_append.mpr (.inr (ih _ (by rw [h]; exact .head _)))
    · rcases List.mem_append.mp h with h | h
      · exact List.mem_append.mpr (.inl h)
      · exact List.mem_append.mpr (.inr (ih _ (.tail _ h)))
theorem Pull.use {G : Prop} {h₀ h : Heap} {L D : Addr} {o : Obj} {l r : List (Addr × Obj)} (N : News h₀ L h l) (P : Pull D o l r) (k : News h₀ L h ((D, o) :: r) → G) : G := k fun p hp => N p (P.sub p hp)
theorem Pull.use2 {G : Prop} {h₀ h : Heap} {L D C : Addr} {o o' : Obj} {l r r' : List (Addr × Obj)} (N : News h₀ L h l) (P : Pull D o l r) (P' : Pull C o' r r') (k : News h₀ L h ((D, o) :: (C, o') :: r') → G) : G :=
  k fun p hp => N p (P.sub p (by
    rcases List.mem_cons.mp hp with h | h
    · rw [h]; exact .head _
    · exact .tail _ (P'.sub p h)))

theorem dup0 {h₀ h : Heap} {L : Addr} {R news : List (Addr × Obj)} (N : News h₀ L h R) (hs : ∀ p ∈ news, p ∈ R) : News h₀ L h (R ++ news) :=
  fun p hp => N p ((List.mem_append.mp hp).elim id (hs p))
theorem dup1 {h₀ h : Heap} {L : Addr} {q : Addr × Obj} {R news : List (Addr × Obj)} (N : News h₀ L h (q :: R)) (hs : ∀ p ∈ news, p ∈ R) : News h₀ L h ([q] ++ (R ++ news)) :=
  fun p hp => N p ((List.mem_cons.mp (show p ∈ q :: (R ++ news) from hp)).elim (fun h => by rw [h]; exact .head _) fun h => .tail _ ((List.mem_append.mp h).elim id (hs p)))
theorem dup2 {h₀ h : Heap} {L : Addr} {q q' : Addr × Obj} {R news : List (Addr × Obj)} (N : News h₀ L h (q :: q' :: R)) (hs : ∀ p ∈ news, p ∈ R) : News h₀ L h ([q, q'] ++ (R ++ news)) :=
  fun p hp => N p ((List.mem_cons.mp (show p ∈ q :: q' :: (R ++ news) from hp)).elim (fun h => by rw [h]; exact .head _) fun h => (List.mem_cons.mp h).elim (fun h => by rw [h]; exact .tail _ (.head _)) fun h => .tail _ (.tail _ ((List.mem_append.mp h).elim id (hs p))))

noncomputable abbrev tup (vs : List Value) : Obj := { cls := .type "tuple", data := .seq vs.toArray }
noncomputable abbrev wd (s : String) (t : Tok) : Value := .str (PySem.Str.ofString s) t

/-- the tuples of a ledger -/
noncomputable def isTp (p : Addr × Obj) : Bool := p.2.cls == .type "tuple"
noncomputable def tps (l : List (Addr × Obj)) : List (Addr × Obj) := l.filter isTp
noncomputable def Tups (l : List (Addr × Obj)) : Prop := ∀ p ∈ l, isTp p = true
theorem tups_tps (l : List (Addr × Obj)) : Tups (tps l) := fun _ hp => (List.mem_filter.mp hp).2
theorem tups_app {a b : List (Addr × Obj)} (x : Tups a) (y : Tups b) : Tups (a ++ b) := fun p hp => (List.mem_append.mp hp).elim (x p) (y p)
theorem tps_sub {l : List (Addr × Obj)} : ∀ p ∈ tps l, p ∈ l := fun _ hp => (List.mem_filter.mp hp).1
theorem mem_tps {a : Addr} {vs : List Value} {l : List (Addr × Obj)} (h : (a, tup vs) ∈ l) : (a, tup vs) ∈ tps l := List.mem_filter.mpr ⟨h, by simp [isTp]⟩
theorem tps_of {l : List (Addr × Obj)} {news : List (Addr × Obj)} (t : Tups news) (h : ∀ p ∈ news, p ∈ l) : ∀ p ∈ news, p ∈ tps l := fun p hp => List.mem_filter.mpr ⟨h p hp, t p hp⟩
theorem apart {h₀ h : Heap} {L D : Addr} {its : Array Value} {n : Nat} {l r : List (Addr × Obj)} (N : News h₀ L h l) (hm : (D, listOf its n) ∈ l) (hr : ∀ p ∈ r, p ∈ l) (t : Tups r) : ∀ p ∈ r, p.1 ≠ D := by
  intro p hp e
  have h1 := (N p (hr p hp)).1
  have h2 := (N _ hm).1
  rw [e] at h1
  have h3 := t p hp
  have h4 : p.2 = listOf its n := Option.some.inj (h1.symm.trans h2)
  rw [isTp, h4] at h3
  simp at h3
theorem dup1t {h₀ h : Heap} {L : Addr} {q : Addr × Obj} {R news : List (Addr × Obj)} (N : News h₀ L h (q :: R)) (hs : ∀ p ∈ news, p ∈ R) : News h₀ L h ([q] ++ (tps R ++ news)) :=
  fun p hp => N p ((List.mem_cons.mp (show p ∈ q :: (tps R ++ news) from hp)).elim (fun h => by rw [h]; exact .head _) fun h => .tail _ ((List.mem_append.mp h).elim (tps_sub p) (hs p)))
theorem dup2t {h₀ h : Heap} {L : Addr} {q q' : Addr × Obj} {R news : List (Addr × Obj)} (N : News h₀ L h (q :: q' :: R)) (hs : ∀ p ∈ news, p ∈ R) : News h₀ L h ([q, q'] ++ (tps R ++ news)) :=
  fun p hp => N p ((List.mem_cons.mp (show p ∈ q :: q' :: (tps R ++ news) from hp)).elim (fun h => by rw [h]; exact .head _) fun h => (List.mem_cons.mp h).elim (fun h => by rw [h]; exact .tail _ (.head _)) fun h => .tail _ (.tail _ ((List.mem_append.mp h).elim (tps_sub p) (hs p))))

inductive RowIn (ns : List (Addr × Obj)) : Value → Rw → Prop
  | done {a t} : (a, tup [wd "done" t]) ∈ ns → RowIn ns (.ref a) .done
  | split {a t tx ty} {x y : Nat} : (a, tup [wd "split" t, .int x tx, .int y ty]) ∈ ns → RowIn ns (.ref a) (.split x y)
  | jump {a t tx} {x : Nat} : (a, tup [wd "jump" t, .int x tx]) ∈ ns → RowIn ns (.ref a) (.jump x)
  | save {a t tx} {x : Nat} : (a, tup [wd "save" t, .int x tx]) ∈ ns → RowIn ns (.ref a) (.save x)
  | mark {a t tx} {x : Nat} : (a, tup [wd "mark" t, .int x tx]) ∈ ns → RowIn ns (.ref a) (.mark x)
  | prog {a t tx} {x : Nat} : (a, tup [wd "progress" t, .int x tx]) ∈ ns → RowIn ns (.ref a) (.prog x)
  | chr {a t tc} {c : Int} : (a, tup [wd "char" t, .int c tc]) ∈ ns → RowIn ns (.ref a) (.chr c)
  | any {a t} : (a, tup [wd "any" t]) ∈ ns → RowIn ns (.ref a) .any
  | set {a b c e : Addr} {t t1 t2} : (a, tup [wd "set" t, .bool false, .ref b, .ref e]) ∈ ns → (b, tup [.ref c]) ∈ ns → (c, tup [.int 97 t1, .int 98 t2]) ∈ ns → (e, tup []) ∈ ns → RowIn ns (.ref a) .set
section
variable {ns ns' : List (Addr × Obj)} {v : Value}
theorem RowIn.monoV {r : Rw} (h : RowIn ns v r) (hs : ∀ {a : Addr} {vs : List Value}, (a, tup vs) ∈ ns → (a, tup vs) ∈ ns') : RowIn ns' v r := by
  induction h with
  | done h => exact .done (hs h)
  | split h => exact .split (hs h)
  | jump h => exact .jump (hs h)
  | save h => exact .save (hs h)
  | mark h => exact .mark (hs h)
  | prog h => exact .prog (hs h)
  | chr h => exact .chr (hs h)
  | any h => exact .any (hs h)
  | set h1 h2 h3 h4 => exact .set (hs h1) (hs h2) (hs h3) (hs h4)
theorem RowIn.mono {r : Rw} (h : RowIn ns v r) (hs : ∀ p ∈ ns, p ∈ ns') : RowIn ns' v r := h.monoV fun h => hs _ h
end

inductive NodeIn (ns : List (Addr × Obj)) : Value → Nd → Prop
  | chr {a t tc} {c : Int} : (a, tup [wd "char" t, .int c tc]) ∈ ns → NodeIn ns (.ref a) (.chr c)
  | any {a t} : (a, tup [wd "any" t]) ∈ ns → NodeIn ns (.ref a) .any
  | set {a b c e : Addr} {t t1 t2} : (a, tup [wd "set" t, .bool false, .ref b, .ref e]) ∈ ns → (b, tup [.ref c]) ∈ ns → (c, tup [.int 97 t1, .int 98 t2]) ∈ ns → (e, tup []) ∈ ns → NodeIn ns (.ref a) .set
  | times {a : Addr} {t t1 t2} {least : Nat} {most : Int} {g : Bool} {v : Value} {n : Nd} : (a, tup [wd "times" t, .int least t1, .int most t2, .bool g, v]) ∈ ns → NodeIn ns v n → NodeIn ns (.ref a) (.times least most g n)
  | seq {a b : Addr} {t} {x y : Value} {m n : Nd} : (a, tup [wd "seq" t, .ref b]) ∈ ns → (b, tup [x, y]) ∈ ns → NodeIn ns x m → NodeIn ns y n → NodeIn ns (.ref a) (.seq m n)
  | alt {a b : Addr} {t} {x y : Value} {m n : Nd} : (a, tup [wd "alt" t, .ref b]) ∈ ns → (b, tup [x, y]) ∈ ns → NodeIn ns x m → NodeIn ns y n → NodeIn ns (.ref a) (.alt m n)
  | group {a : Addr} {t tk} {k : Nat} {v : Value} {n : Nd} : (a, tup [wd "group" t, .int k tk, v]) ∈ ns → NodeIn ns v n → NodeIn ns (.ref a) (.group k n)
section
variable {ns ns' : List (Addr × Obj)} {v : Value}
theorem NodeIn.monoV {n : Nd} (h : NodeIn ns v n) (hs : ∀ {a : Addr} {vs : List Value}, (a, tup vs) ∈ ns → (a, tup vs) ∈ ns') : NodeIn ns' v n := by
  induction h with
  | chr h => exact .chr (hs h)
  | any h => exact .any (hs h)
  | set h1 h2 h3 h4 => exact .set (hs h1) (hs h2) (hs h3) (hs h4)
  | times h _ ih => exact .times (hs h) ih
  | seq h1 h2 _ _ i1 i2 => exact .seq (hs h1) (hs h2) i1 i2
  | alt h1 h2 _ _ i1 i2 => exact .alt (hs h1) (hs h2) i1 i2
  | group h _ ih => exact .group (hs h) ih
theorem NodeIn.mono {n : Nd} (h : NodeIn ns v n) (hs : ∀ p ∈ ns, p ∈ ns') : NodeIn ns' v n := h.monoV fun h => hs _ h
end

/-- the nodes that the law draws, by their depth -/
noncomputable def Gen : Nat → Nd → Prop
  | _, .chr c => c = 97 ∨ c = 98 ∨ c = 65
  | _, .any => True
  | _, .set => True
  | k + 1, .times least most _ n => least ≤ 2 ∧ (most = -1 ∨ ((least : Int) ≤ most ∧ most ≤ least + 1)) ∧ Gen k n
  | k + 1, .seq a b => Gen k a ∧ Gen k b
  | k + 1, .alt a b => Gen k a ∧ Gen k b
  | k + 1, .group g n => g ≤ 100 ∧ Gen k n
  | 0, _ => False
theorem gen_chr {k : Nat} {c : Int} : Gen k (.chr c) = (c = 97 ∨ c = 98 ∨ c = 65) := by cases k <;> rfl
theorem gen_any (k : Nat) : Gen k .any := by cases k <;> exact trivial
theorem gen_set (k : Nat) : Gen k .set := by cases k <;> exact trivial

noncomputable abbrev IK (w : World) := intKind PySem.Challenge.rw_oj0023_01.row.prog w

/-- the ledger bears the dict c at v -/
noncomputable def KeptIn (w : World) (news : List (Addr × Obj)) (v : Value) (c : Kept) : Prop :=
  ∃ d o kvs, v = .ref d ∧ (d, o) ∈ news ∧ (d == sysModules) = false ∧ o.IsDictOf (IK w) kvs ∧ FlatPairs PyData.int kvs (kdfD c) ∧ ∀ p ∈ c, 0 ≤ p.1 ∧ p.1 < 20000

theorem KeptIn.mono {w} {ns ns' : List (Addr × Obj)} {v : Value} {c : Kept} (h : KeptIn w ns v c) (hs : ∀ p ∈ ns, p ∈ ns') : KeptIn w ns' v c :=
  let ⟨d, o, kvs, a, b, r⟩ := h; ⟨d, o, kvs, a, hs _ b, r⟩
section
variable {prog : Program} {w : World} {M : Model} {A : Around} {E : Value → Shared → Prop} {s : Shared} {h₀ : Heap} {L D b : Addr} {m : Str → Option Value} {news : List (Addr × Obj)} {vs ws : List Value}
theorem newTuple_let {Q : Value → Shared → Prop} (F : Fr h₀ L s.heap m) (N : News h₀ L s.heap news)
    (h : ∀ D h', Fr h₀ L h' m → (let ob := tup vs; News h₀ L h' ((D, ob) :: news) → (∀ p ∈ news, p.1 < D) → Q (.ref D) { s with heap := h' })) (hz : vs.length ≤ sizeLine) : wpAny M A (newTuple vs) Q E s :=
  kup_newTuple F N h hz
theorem newList_let {Q : Value → Shared → Prop} (F : Fr h₀ L s.heap m) (N : News h₀ L s.heap news)
    (h : ∀ l h', Fr h₀ L h' m → (let ob := listOf vs.toArray 0; News h₀ L h' ((l, ob) :: news) → (∀ p ∈ news, p.1 < l) → Q (.ref l) { s with heap := h' })) (hsz : vs.length ≤ sizeLine := by size_fits) : wpAny M A (newList vs) Q E s :=
  newList_K F N h hsz
theorem add_let {l b : Addr} {us : List Value} {Q : Value → Shared → Prop} (F : Fr h₀ L s.heap m) (N : News h₀ L s.heap news) {n1 n2 : Nat} (hl : (l, listOf vs.toArray n1) ∈ news) (hb : (b, listOf ws.toArray n2) ∈ news) (e : vs ++ ws = us)
    (h : ∀ D h', Fr h₀ L h' m → (let ob := listOf us.toArray 0; News h₀ L h' ((D, ob) :: news) → (∀ p ∈ news, p.1 < D) → Q (.ref D) { s with heap := h' })) (hsz : us.length ≤ sizeLine) :
    wpAny (model prog w) A (binaryOp .Add (.ref l) (.ref b)) Q E s := by
  subst e
  exact PyProof.Rows.add_lists F N (N.isList hl) (N.isList hb) (fun h' F' N' => h _ h' F' N' fun p hp => Heap.lt_size (N p hp).1) (by rw [← List.length_append]; exact hsz)
end
theorem neL {l : List (Addr × Obj)} {D W : Addr} {o : Obj} (h : ∀ p ∈ l, p.1 < D) (m : (W, o) ∈ l) : D ≠ W := Nat.ne_of_gt (h _ m)
theorem FrL {G : Prop} {h₀ h : Heap} {L : Addr} {m : Str → Option Value} (F : Fr h₀ L h m) (k : let m' := m; Fr h₀ L h m' → G) : G := k F
theorem dlt {a b : Nat} (h : a + b < recursionLimit) (c : Nat) (hb : c + 1 ≤ b) : a + 1 + c < recursionLimit := by omega
theorem ult {a b : Nat} (h : a + 8 * b + 300 < cLine) (c : Nat) (hb : c + 1 ≤ b) : a + 3 + 8 * c + 300 < cLine := by omega
theorem dlt3 {a b : Nat} (h : a + b < recursionLimit) (c : Nat) (hb : c + 2 ≤ b) : a + 1 + 1 + c < recursionLimit := by omega
theorem ult3 {a b : Nat} (h : a + 8 * b + 300 < cLine) (c : Nat) (hb : c + 2 ≤ b) : a + 3 + 3 + 8 * c + 300 < cLine := by omega
theorem ult2 {a b : Nat} (h : a + 8 * b + 300 < cLine) : a + 3 + 64 < cLine := by omega
end Mine
end
section
open PySem PySem.W PyProof.Rows PyProof.V
set_option Elab.async false
set_option maxRecDepth 100000
set_option maxHeartbeats 8000000
namespace Mine


theorem Con.at {w : World} {size : Nat} {f : Addr} {vs : List Value} {news : List (Addr × Obj)} {p : Program} {loose : List Str} {mean : ExcName → Option Value} {mg mb : Str → Option Value} {dp un : Nat} {gd : Option (List PySem.Code)} {cn : Str} {cs : Scope} {a : Addr} {ccd : Value} {cl : List (Str × Addr)} {outer : List Env} {A₀ : Around} {base h₀ : Heap} {L : Addr} {m : Str → Option Value} {s : Shared}
    {Q E : Value → Shared → Prop} {Post : List (Addr × Obj) → Value → Prop} (N : News h₀ L s.heap news) (C : Con w size f vs news Post) (B : Below A₀ base outer h₀) (F : Fr h₀ L s.heap m) (X : (hd.heap_39 w.params).In h₀) (T : Top p loose mean mg mb h₀) (k : cs.kind = .function) (d : dp + size < recursionLimit) (u : un + 8 * size + 300 < cLine)
    (ret : ∀ r tl h' tk', Fr h₀ L h' m → News h₀ L h' (tl ++ news) → Post (tl ++ news) r → Q r { s with heap := h', toks := tk' }) :
    wpAny (model PySem.Challenge.rw_oj0023_01.row.prog w) (ktrTop dp un gd cn cs L a ccd cl outer) (call (.ref f) vs) Q E s := C _ _ _ _ _ _ _ _ _ _ _ _ _ _ _ _ _ _ _ _ _ _ B F X N T k d u ret
theorem ConM.at {w : World} {size : Nat} {f : Addr} {vs : List Value} {mu news : List (Addr × Obj)} {p : Program} {loose : List Str} {mean : ExcName → Option Value} {mg mb : Str → Option Value} {dp un : Nat} {gd : Option (List PySem.Code)} {cn : Str} {cs : Scope} {a : Addr} {ccd : Value} {cl : List (Str × Addr)} {outer : List Env} {A₀ : Around} {base h₀ : Heap} {L : Addr} {m : Str → Option Value} {s : Shared}
    {Q E : Value → Shared → Prop} {Post : List (Addr × Obj) → List (Addr × Obj) → Value → Prop} (N : News h₀ L s.heap (mu ++ news)) (C : ConM w size f vs mu news Post) (B : Below A₀ base outer h₀) (F : Fr h₀ L s.heap m) (X : (hd.heap_39 w.params).In h₀) (T : Top p loose mean mg mb h₀) (k : cs.kind = .function) (d : dp + size < recursionLimit) (u : un + 8 * size + 300 < cLine)
    (ret : ∀ r mu' tl h' tk', Fr h₀ L h' m → News h₀ L h' (mu' ++ (tl ++ news)) → Post mu' tl r → Q r { s with heap := h', toks := tk' }) :
    wpAny (model PySem.Challenge.rw_oj0023_01.row.prog w) (ktrTop dp un gd cn cs L a ccd cl outer) (call (.ref f) vs) Q E s := C _ _ _ _ _ _ _ _ _ _ _ _ _ _ _ _ _ _ _ _ _ _ B F X N T k d u ret
/-- what iterators are not -/
noncomputable def isPl (p : Addr × Obj) : Bool := p.2.cls == .type "tuple" || p.2.cls == .type "list" || p.2.cls == .type "dict"
noncomputable def SubP (ns ns' : List (Addr × Obj)) : Prop := ∀ p ∈ ns, isPl p = true → p ∈ ns'
theorem SubP.of {ns ns' : List (Addr × Obj)} (h : ∀ p ∈ ns, p ∈ ns') : SubP ns ns' := fun p hp _ => h p hp
theorem SubP.tup {ns ns' : List (Addr × Obj)} (h : SubP ns ns') {a : Addr} {vs : List Value} (hm : (a, tup vs) ∈ ns) : (a, tup vs) ∈ ns' := h _ hm (by simp [isPl])
theorem SubP.lst {ns ns' : List (Addr × Obj)} (h : SubP ns ns') {a : Addr} {vs : List Value} {n : Nat} (hm : (a, listOf vs.toArray n) ∈ ns) : (a, listOf vs.toArray n) ∈ ns' := h _ hm (by simp [isPl])

theorem subA {ns news : List (Addr × Obj)} : SubP ns (ns ++ news) := SubP.of fun _ hp => List.mem_append.mpr (.inl hp)
theorem subA1 {ns news : List (Addr × Obj)} {a : Addr × Obj} : SubP ns (a :: ns ++ news) := SubP.of fun _ hp => .tail _ (List.mem_append.mpr (.inl hp))
theorem subA2 {ns news : List (Addr × Obj)} {a b : Addr × Obj} : SubP ns (a :: b :: ns ++ news) := SubP.of fun _ hp => .tail _ (.tail _ (List.mem_append.mpr (.inl hp)))
theorem subA3 {ns news : List (Addr × Obj)} {a b c : Addr × Obj} : SubP ns (a :: b :: c :: ns ++ news) := SubP.of fun _ hp => .tail _ (.tail _ (.tail _ (List.mem_append.mpr (.inl hp))))
theorem subT {ns : List (Addr × Obj)} {a : Addr × Obj} : SubP ns (a :: ns) := SubP.of fun _ hp => .tail _ hp
theorem RowIn.monoP {ns ns' : List (Addr × Obj)} {v : Value} {r : Rw} (h : RowIn ns v r) (hs : SubP ns ns') : RowIn ns' v r := h.monoV hs.tup
theorem NodeIn.monoP {ns ns' : List (Addr × Obj)} {v : Value} {n : Nd} (h : NodeIn ns v n) (hs : SubP ns ns') : NodeIn ns' v n := h.monoV hs.tup
theorem dict_pl {w : World} {o : Obj} {kvs : List (Int × Value)} (h : o.IsDictOf (IK w) kvs) (d : Addr) : isPl (d, o) = true := by
  obtain ⟨es, ep, hx, _⟩ := h
  have : o.cls = .type "dict" := hx.1
  simp [isPl, this]
theorem KeptIn.monoP {w} {ns ns' : List (Addr × Obj)} {v : Value} {c : Kept} (h : KeptIn w ns v c) (hs : SubP ns ns') : KeptIn w ns' v c :=
  let ⟨d, o, kvs, a, b, l, r⟩ := h; ⟨d, o, kvs, a, hs _ b (dict_pl r.1 d), l, r⟩

noncomputable def TextIn (ns : List (Addr × Obj)) (v : Value) (text : List Int) : Prop :=
  ∃ a n vs, v = .ref a ∧ (a, listOf (List.toArray vs) n) ∈ ns ∧ IntsAre vs text ∧ (∀ c ∈ text, 0 ≤ c ∧ c < 1000) ∧ text.length ≤ 4
theorem TextIn.monoP {ns ns' : List (Addr × Obj)} {v : Value} {c : List Int} (h : TextIn ns v c) (hs : SubP ns ns') : TextIn ns' v c :=
  let ⟨a, n, vs, e, m, r⟩ := h; ⟨a, n, vs, e, hs.lst m, r⟩

inductive Each {α β : Type} (R : α → β → Prop) : List α → List β → Prop
  | nil : Each R [] []
  | cons {a b as bs} : R a b → Each R as bs → Each R (a :: as) (b :: bs)
theorem Each.length {α β : Type} {R : α → β → Prop} {as : List α} {bs : List β} (h : Each R as bs) : as.length = bs.length := by
  induction h with
  | nil => rfl
  | cons _ _ ih => simp [ih]
theorem Each.append {α β : Type} {R : α → β → Prop} {as as' : List α} {bs bs' : List β} (h : Each R as bs) (h' : Each R as' bs') : Each R (as ++ as') (bs ++ bs') := by
  induction h with
  | nil => exact h'
  | cons a _ ih => exact .cons a ih
theorem Each.imp {α β : Type} {R S : α → β → Prop} {as : List α} {bs : List β} (h : Each R as bs) (f : ∀ a b, R a b → S a b) : Each S as bs := by
  induction h with
  | nil => exact .nil
  | cons a _ ih => exact .cons (f _ _ a) ih

/-- a pair of a place and what is kept -/
noncomputable def StIn (w : World) (ns : List (Addr × Obj)) (v : Value) (s : St) : Prop :=
  ∃ a t kv, v = .ref a ∧ (a, tup [.int (s.1 : Int) t, kv]) ∈ ns ∧ KeptIn w ns kv s.2
theorem StIn.monoP {w} {ns ns' : List (Addr × Obj)} {v : Value} {c : St} (h : StIn w ns v c) (hs : SubP ns ns') : StIn w ns' v c :=
  let ⟨a, t, kv, e, m, k⟩ := h; ⟨a, t, kv, e, hs.tup m, k.monoP hs⟩
noncomputable def StsIn (w : World) (ns : List (Addr × Obj)) (v : Value) (l : List St) : Prop :=
  ∃ a n vs, v = .ref a ∧ (a, listOf (List.toArray vs) n) ∈ ns ∧ Each (StIn w ns) vs l
theorem StsIn.monoP {w} {ns ns' : List (Addr × Obj)} {v : Value} {c : List St} (h : StsIn w ns v c) (hs : SubP ns ns') : StsIn w ns' v c :=
  let ⟨a, n, vs, e, m, k⟩ := h; ⟨a, n, vs, e, hs.lst m, k.imp fun _ _ x => x.monoP hs⟩

/-! a loop over a list of the ledger that changes one name -/
noncomputable def Rest (I : Addr) (all : List (Addr × Obj)) : List (Addr × Obj) := all.filter fun p => decide (p.1 ≠ I)
theorem mem_rest {I : Addr} {all : List (Addr × Obj)} {p : Addr × Obj} (h : p ∈ all) (hn : p.1 ≠ I) : p ∈ Rest I all := List.mem_filter.mpr ⟨h, by simpa using hn⟩
theorem subP_rest {h₀ h : Heap} {L I : Addr} {o : Obj} {all : List (Addr × Obj)} (N : News h₀ L h all) (hI : (I, o) ∈ all) (ho : isPl (I, o) = false) : SubP all (Rest I all) := by
  intro p hp hc
  refine mem_rest hp fun e => ?_
  have h1 := (N p hp).1
  have h2 := (N _ hI).1
  rw [e] at h1
  have h3 : p.2 = o := Option.some.inj (h1.symm.trans h2)
  rw [isPl, h3] at hc
  rw [isPl] at ho
  rw [hc] at ho
  cases ho

noncomputable def AccEnd (h₀ : Heap) (L : Addr) (s₁ : Shared) (I : Addr) (o : Obj) (y : Str) (stored : List Str) (m₀ : Str → Option Value) (news : List (Addr × Obj)) (J : List (Addr × Obj) → Value → Prop) (s₂ : Shared) : Prop :=
  ∃ h' tk m' all fv, s₂ = { s₁ with heap := h', toks := tk } ∧ Fr h₀ L h' m' ∧ News h₀ L h' all ∧ (I, o) ∈ all ∧ (∀ p ∈ news, p ∈ all) ∧ m' y = some fv ∧ (∀ z, z ≠ y → stored.contains z = false → m' z = m₀ z) ∧ J (Rest I all) fv
noncomputable def AccPost (h₀ : Heap) (L : Addr) (s₁ : Shared) (I : Addr) (o : Obj) (y : Str) (stored : List Str) (m₀ : Str → Option Value) (news : List (Addr × Obj)) (J : List (Addr × Obj) → Value → Prop) (Q : Flow → Shared → Prop) (f : Flow) (s₂ : Shared) : Prop :=
  match f with
  | .ret v => Q (.ret v) s₂
  | .brk => Q .next s₂
  | _ => AccEnd h₀ L s₁ I o y stored m₀ news J s₂
theorem AccEnd.intro {h₀ h' : Heap} {L I : Addr} {s₁ : Shared} {o : Obj} {y : Str} {stored : List Str} {m₀ m' : Str → Option Value} {news all : List (Addr × Obj)} {J : List (Addr × Obj) → Value → Prop} {tk : Nat} {fv : Value}
    (F : Fr h₀ L h' m') (N : News h₀ L h' all) (hI : (I, o) ∈ all) (hs : ∀ p ∈ news, p ∈ all) (hy : m' y = some fv) (hm : ∀ z, z ≠ y → stored.contains z = false → m' z = m₀ z) (ho : isPl (I, o) = false) (hJ : SubP all (Rest I all) → J (Rest I all) fv) :
    AccEnd h₀ L s₁ I o y stored m₀ news J { s₁ with heap := h', toks := tk } := ⟨h', tk, m', all, fv, rfl, F, N, hI, hs, hy, hm, hJ (subP_rest N hI ho)⟩

section
variable {prog : Program} {w : World} {A : Around} {E : Value → Shared → Prop} {s : Shared} {env : Env} {h₀ : Heap} {target : Expr} {body : List Stmt} {Q : Flow → Shared → Prop}
theorem acc_fun {y : Str} {stored : List Str} {m₀ m₁ : Str → Option Value} {fv : Value} (hy : m₁ y = some fv) (hm : ∀ z, z ≠ y → stored.contains z = false → m₁ z = m₀ z) :
    m₁ = fun z => if z = y then some fv else if stored.contains z then m₁ z else m₀ z := by
  funext z
  by_cases h1 : z = y
  · simp [h1, hy]
  · simp only [if_neg h1]
    cases h2 : stored.contains z with
    | true => simp
    | false => simp only [Bool.false_eq_true, if_false]; exact hm z h1 h2
theorem acc_rest {I : Addr} {ax : Addr} {lo : Obj} {cl : String} {m₀ : Str → Option Value} {news : List (Addr × Obj)} {y : Str} (stored : List Str) (Inv : List Value → List (Addr × Obj) → Value → Prop) (hcl : ∀ o : Obj, o.cls = .type cl → ∀ a, isPl (a, o) = false)
    (hm : (ax, lo) ∈ news) (hlt : ∀ p ∈ news, p.1 < I)
    (turn : ∀ v r fv (u : Str → Option Value) news₁ I o h tk, Inv (v :: r) news₁ fv → (∀ p ∈ news, p ∈ news₁) → isPl (I, o) = false → (∀ p ∈ news, p.1 < I) → Fr h₀ env.locals h (fun z => if z = y then some fv else if stored.contains z then u z else m₀ z) → News h₀ env.locals h ((I, o) :: news₁) →
      wpAny (model prog w) A (assign target env v) (fun _ s₂ => wpAny (model prog w) A (execs body env) (AccPost h₀ env.locals { s with heap := h, toks := tk } I o y stored m₀ news (Inv r) Q) E s₂) E { s with heap := h, toks := tk })
    (done : ∀ fv (u : Str → Option Value) news₁ h tk, Inv [] news₁ fv → (∀ p ∈ news, p ∈ news₁) → Fr h₀ env.locals h (fun z => if z = y then some fv else if stored.contains z then u z else m₀ z) → News h₀ env.locals h news₁ → Q .next { s with heap := h, toks := tk }) :
    ∀ (vs : List Value) (m₁ : Str → Option Value) (news₁ : List (Addr × Obj)) (fv : Value), m₁ y = some fv → (∀ z, z ≠ y → stored.contains z = false → m₁ z = m₀ z) → (∀ p ∈ news, p ∈ news₁) → Inv vs news₁ fv →
    ItemsRest prog w A E h₀ env target body Q s [(I, cl)] [(ax, lo)] (vs.map .val) m₁ news₁
  | [], m₁, news₁, fv, hy, hz, hs, hv => by
    intro h tk F N
    rw [acc_fun hy hz] at F
    exact done fv m₁ news₁ h tk hv hs F N
  | v :: r, m₁, news₁, fv, hy, hz, hs, hv => by
    intro v' h tk e F
    have e' : v' = v := e
    subst e'
    intro o ho N
    rw [acc_fun hy hz] at F
    refine wpAny_mono (turn v' r fv m₁ news₁ I o h tk hv hs (hcl o ho I) hlt F N) (fun _ s₂ h₂ => wpAny_mono h₂ (fun f s₃ p => ?_) fun _ _ e => e) fun _ _ e => e
    have fin : AccEnd h₀ env.locals { s with heap := h, toks := tk } I o y stored m₀ news (Inv r) s₃ → UnrEndW h₀ env.locals { s with heap := h, toks := tk } [(I, o)] (fun m' n' => SubL [(ax, lo)] n' ∧ ItemsRest prog w A E h₀ env target body Q s [(I, cl)] [(ax, lo)] (r.map .val) m' n') s₃ := by
      rintro ⟨h', tk', m', all, fv', rfl, F', N', hI, hs', hy', hz', hJ⟩
      have keep : ∀ p ∈ news, p ∈ Rest I all := fun p hp => mem_rest (hs' p hp) (Nat.ne_of_lt (hlt p hp))
      refine ⟨h', tk', m', Rest I all, rfl, F', fun p hp => ?_, fun p hp q hq => ?_, ⟨keep _ hm, trivial⟩, acc_rest stored Inv hcl hm hlt turn done r m' _ fv' hy' hz' keep hJ⟩
      · rcases List.mem_append.mp hp with hp | hp
        · rw [List.mem_singleton.mp hp]; exact N' _ hI
        · exact N' p (List.mem_filter.mp hp).1
      · rw [List.mem_singleton.mp hq]
        have := (List.mem_filter.mp hp).2
        simpa using this
    cases f with
    | ret v => exact p
    | brk => exact p
    | next => exact fin p
    | cont => exact fin p
theorem turns_acc {ax : Addr} {vs : List Value} {n : Nat} {m₀ : Str → Option Value} {news : List (Addr × Obj)} {y : Str} {fv₀ : Value} (stored : List Str) (Inv : List Value → List (Addr × Obj) → Value → Prop)
    (hh : A.handled = none) (F : Fr h₀ env.locals s.heap m₀) (N : News h₀ env.locals s.heap news) (hm : (ax, listOf vs.toArray n) ∈ news) (hy : m₀ y = some fv₀) (h0 : Inv vs news fv₀)
    (turn : ∀ v r fv (u : Str → Option Value) news₁ I o h tk, Inv (v :: r) news₁ fv → (∀ p ∈ news, p ∈ news₁) → isPl (I, o) = false → (∀ p ∈ news, p.1 < I) → Fr h₀ env.locals h (fun z => if z = y then some fv else if stored.contains z then u z else m₀ z) → News h₀ env.locals h ((I, o) :: news₁) →
      wpAny (model prog w) A (assign target env v) (fun _ s₂ => wpAny (model prog w) A (execs body env) (AccPost h₀ env.locals { s with heap := h, toks := tk } I o y stored m₀ news (Inv r) Q) E s₂) E { s with heap := h, toks := tk })
    (done : ∀ fv (u : Str → Option Value) news₁ h tk, Inv [] news₁ fv → (∀ p ∈ news, p ∈ news₁) → Fr h₀ env.locals h (fun z => if z = y then some fv else if stored.contains z then u z else m₀ z) → News h₀ env.locals h news₁ → Q .next { s with heap := h, toks := tk }) :
    wpAny (model prog w) A (pyIter (.ref ax)) (fun it s₂ => TurnsAt prog w A h₀ env target body Q E it s₂) E s :=
  iter_listTurns hh F N hm rfl rfl fun I hlt => acc_rest stored Inv (fun o ho a => by simp [isPl, ho]) hm hlt turn done vs m₀ news fv₀ hy (fun _ _ _ => rfl) (fun _ h => h) h0
end
end Mine
end
section
open PySem PySem.W PyProof.Rows PyProof.V PySem.Spec PySem.Calls
set_option Elab.async false
set_option maxRecDepth 100000
set_option maxHeartbeats 8000000
namespace Mine

open PyProof.Rows.LCg PyProof.Rows.LCp

/-- a goal that the walk leaves alone -/
noncomputable def Hold (p : Prop) : Prop := p
theorem Hold.out {p : Prop} (h : Hold p) : p := h
theorem Hold.of {p : Prop} (h : p) : Hold p := h

noncomputable def Rest3 (I C D : Addr) (all : List (Addr × Obj)) : List (Addr × Obj) := all.filter fun p => decide (p.1 ≠ I) && decide (p.1 ≠ C) && decide (p.1 ≠ D)
theorem mem_rest3 {I C D : Addr} {all : List (Addr × Obj)} {p : Addr × Obj} (h : p ∈ all) (h1 : p.1 ≠ I) (h2 : p.1 ≠ C) (h3 : p.1 ≠ D) : p ∈ Rest3 I C D all := List.mem_filter.mpr ⟨h, by simp [h1, h2, h3]⟩
theorem off_rest3 {I C D : Addr} {all : List (Addr × Obj)} : Off3 I C D (Rest3 I C D all) := Off3.of fun p hp => by
  have := (List.mem_filter.mp hp).2
  simp only [Bool.and_eq_true, decide_eq_true_eq] at this
  exact ⟨this.1.1, this.1.2, this.2⟩

section
variable {prog : Program} {w : World} {A : Around} {E : Value → Shared → Prop} {s : Shared} {h₀ : Heap} {L : Addr} {m : Str → Option Value} {env : Env}
theorem comp_end {I C D : Addr} {m : Str → Option Value} {s₁ : Shared} {oI oC oD : Obj} {S : List (Addr × Obj) → Prop} {rest : Value → List (Addr × Obj) → Prop} {y : Value} {h' : Heap} {tk : Nat} {all : List (Addr × Obj)}
    (F : Fr h₀ L h' m) (N : News h₀ L h' all) (hI : (I, oI) ∈ all) (hC : (C, oC) ∈ all) (hD : (D, oD) ∈ all) (hS : S (Rest3 I C D all)) (r : rest y (Rest3 I C D all)) :
    CompEnd h₀ L m s₁ I oI C oC D oD S rest y { s₁ with heap := h', toks := tk } :=
  CompEnd.intro F N _ (fun p hp => by
    rcases List.mem_cons.mp hp with e | hp
    · rw [e]; exact hI
    · rcases List.mem_cons.mp hp with e | hp
      · rw [e]; exact hC
      · rcases List.mem_cons.mp hp with e | hp
        · rw [e]; exact hD
        · exact (List.mem_filter.mp hp).1) off_rest3 hS r
theorem compEnd_mono {I C D : Addr} {m : Str → Option Value} {s₁ s₂ : Shared} {oI oC oD : Obj} {S : List (Addr × Obj) → Prop} {r r' : Value → List (Addr × Obj) → Prop} {y : Value}
    (h : CompEnd h₀ L m s₁ I oI C oC D oD S r y s₂) (k : ∀ n, r y n → r' y n) : CompEnd h₀ L m s₁ I oI C oC D oD S r' y s₂ :=
  let ⟨h', tk, n', e, F, N, o, hS, hr⟩ := h; ⟨h', tk, n', e, F, N, o, hS, k _ hr⟩

theorem compP_rest {elt : Expr} {x x₂ : Str} {scope : Scope} {cl : List (Str × Addr)} {S : List (Addr × Obj) → Prop} {Fin : List Value → List (Addr × Obj) → Prop} {vs : List Value} (Inv : List Value → List Value → List (Addr × Obj) → Prop)
    (turn : ∀ v r ys news, Inv (v :: r) ys news → ∃ (t : Addr) (ot : Obj) (v₁ v₂ : Value) (nt : Nat), v = .ref t ∧ (t, ot) ∈ news ∧ ot.cls = .type "tuple" ∧ ot.data = .seq #[v₁, v₂] nt ∧
      ∀ I oI C oC D m₂ h tk (E' : Value → Shared → Prop), NsObj oC m₂ → m₂ x = some v₁ → m₂ x₂ = some v₂ → Fr h₀ L h m → News h₀ L h ((I, oI) :: (C, oC) :: (D, lst ys) :: news) → Off3 I C D news → ((@Ne Nat I C) ∧ (@Ne Nat I D) ∧ (@Ne Nat C D)) →
      wpAny (model prog w) A (eval elt (compEnvC scope cl C env)) (CompEnd h₀ L m { s with heap := h, toks := tk } I oI C oC D (lst ys) S (fun y news' => Inv r (ys ++ [y]) news')) E' { s with heap := h, toks := tk })
    (fin : ∀ ys news, Inv [] ys news → Fin ys news) :
    ∀ (k i : Nat) (ys : List Value) (news : List (Addr × Obj)), (vs.drop i).length = k → Inv (vs.drop i) ys news →
      CompRestP prog w A h₀ L m env elt x x₂ scope cl s S (fun i v => vs.toArray[i]? = some v) Fin k i ys news
  | 0, i, ys, news, hk, hi => by
    rw [List.eq_nil_of_length_eq_zero hk] at hi
    exact CompRestP.zero (fin ys news hi)
  | k + 1, i, ys, news, hk, hi => by
    refine CompRestP.succ fun v hv => ?_
    have hv' : vs[i]? = some v := by simpa using hv
    have hlt : i < vs.length := (List.getElem?_eq_some_iff.mp hv').1
    have hd : vs.drop i = v :: vs.drop (i + 1) := by
      rw [List.drop_eq_getElem_cons hlt]
      congr 1
      exact Option.some.inj ((List.getElem?_eq_getElem hlt).symm.trans hv')
    rw [hd] at hi hk
    obtain ⟨t, ot, v₁, v₂, nt, e, hm, hc, hdt, R⟩ := turn v _ ys news hi
    refine ⟨t, ot, v₁, v₂, nt, e, hm, hc, hdt, fun I oI C oC D m₂ h tk E' a1 a2 a3 a4 a5 a6 a7 => ?_⟩
    refine wpAny_mono (R I oI C oC D m₂ h tk E' a1 a2 a3 a4 a5 a6 a7) (fun y s₂ h₂ => ?_) fun _ _ e => e
    exact compEnd_mono h₂ fun n' hn' => compP_rest Inv turn fin k (i + 1) _ n' (by simpa using hk) hn'

theorem comp_rest {elt : Expr} {x : Str} {scope : Scope} {cl : List (Str × Addr)} {S : List (Addr × Obj) → Prop} {Fin : List Value → List (Addr × Obj) → Prop} {P : Nat → Value → Prop} (n : Nat) (Inv : Nat → List Value → List (Addr × Obj) → Prop)
    (turn : ∀ i ys news v, i < n → P i v → Inv i ys news →
      ∀ I oI C oC D m₂ h tk (E' : Value → Shared → Prop), NsObj oC m₂ → m₂ x = some v → Fr h₀ L h m → News h₀ L h ((I, oI) :: (C, oC) :: (D, lst ys) :: news) → Off3 I C D news → ((@Ne Nat I C) ∧ (@Ne Nat I D) ∧ (@Ne Nat C D)) →
      wpAny (model prog w) A (eval elt (compEnvC scope cl C env)) (CompEnd h₀ L m { s with heap := h, toks := tk } I oI C oC D (lst ys) S (fun y news' => Inv (i + 1) (ys ++ [y]) news')) E' { s with heap := h, toks := tk })
    (fin : ∀ ys news, Inv n ys news → Fin ys news) :
    ∀ (k i : Nat) (ys : List Value) (news : List (Addr × Obj)), i + k = n → Inv i ys news →
      CompRest prog w A h₀ L m env elt x scope cl s S P Fin k i ys news
  | 0, i, ys, news, hk, hi => by
    have : i = n := by omega
    subst this
    exact CompRest.zero (fin ys news hi)
  | k + 1, i, ys, news, hk, hi => by
    refine CompRest.succ fun v I oI C oC D m₂ h tk E' hv a1 a2 a4 a5 a6 a7 => ?_
    refine wpAny_mono (turn i ys news v (by omega) hv hi I oI C oC D m₂ h tk E' a1 a2 a4 a5 a6 a7) (fun y s₂ h₂ => ?_) fun _ _ e => e
    exact compEnd_mono h₂ fun n' hn' => comp_rest n Inv turn fin k (i + 1) _ n' (by omega) hn'

theorem range_rest {I : Addr} {x : Str} {body : List Stmt} {Q : Flow → Shared → Prop} {m₀ : Str → Option Value} {news : List (Addr × Obj)} {y : Str} {a₀ : Int} {n : Nat} (stored : List Str) (Inv : Nat → List (Addr × Obj) → Value → Prop) (hxy : y ≠ x)
    (hlt : ∀ p ∈ news, p.1 < I)
    (turn : ∀ i fv (u : Str → Option Value) news₁ I o t h tk, i < n → Inv i news₁ fv → (∀ p ∈ news, p ∈ news₁) → isPl (I, o) = false → (∀ p ∈ news, p.1 < I) → Fr h₀ env.locals h (fun z => if z = x then some (.int (a₀ + (i : Int)) t) else if z = y then some fv else if (x :: stored).contains z then u z else m₀ z) → News h₀ env.locals h ((I, o) :: news₁) →
      wpAny (model prog w) A (execs body env) (AccPost h₀ env.locals { s with heap := h, toks := tk } I o y (x :: stored) m₀ news (Inv (i + 1)) Q) E { s with heap := h, toks := tk })
    (done : ∀ fv (u : Str → Option Value) news₁ h tk, Inv n news₁ fv → (∀ p ∈ news, p ∈ news₁) → Fr h₀ env.locals h (fun z => if z = y then some fv else if (x :: stored).contains z then u z else m₀ z) → News h₀ env.locals h news₁ → Q .next { s with heap := h, toks := tk }) :
    ∀ (k i : Nat) (m₁ : Str → Option Value) (news₁ : List (Addr × Obj)) (fv : Value), i + k = n → m₁ y = some fv → (∀ z, z ≠ y → (x :: stored).contains z = false → m₁ z = m₀ z) → (∀ p ∈ news, p ∈ news₁) → Inv i news₁ fv →
    RangeRest prog w A E h₀ env x body Q s I a₀ n k i m₁ news₁
  | 0, i, m₁, news₁, fv, hk, hy, hz, hs, hv => by
    have : i = n := by omega
    subst this
    refine RangeRest.zero fun h tk F N => ?_
    rw [acc_fun hy hz] at F
    exact done fv m₁ news₁ h tk hv hs F N
  | k + 1, i, m₁, news₁, fv, hk, hy, hz, hs, hv => by
    refine RangeRest.succ fun t h tk F N => ?_
    have eF : (fun z => if z = x then some (Value.int (a₀ + (i : Int)) t) else m₁ z) = fun z => if z = x then some (.int (a₀ + (i : Int)) t) else if z = y then some fv else if (x :: stored).contains z then m₁ z else m₀ z := by
      funext z
      by_cases h1 : z = x
      · simp [h1]
      · simp only [if_neg h1]
        by_cases h2 : z = y
        · subst h2; simp [hy]
        · simp only [if_neg h2]
          cases h3 : (x :: stored).contains z with
          | true => simp
          | false => simp only [Bool.false_eq_true, if_false]; exact hz z h2 h3
    rw [eF] at F
    refine wpAny_mono (turn i fv m₁ news₁ I _ t h tk (by omega) hv hs rfl hlt F N) (fun f s₃ p => ?_) fun _ _ e => e
    have fin : AccEnd h₀ env.locals { s with heap := h, toks := tk } I (itR (a₀ + ((i + 1 : Nat) : Int)) ((n : Int) - ((i + 1 : Nat) : Int))) y (x :: stored) m₀ news (Inv (i + 1)) s₃ → UnrEnd h₀ env.locals { s with heap := h, toks := tk } I (itR (a₀ + ((i + 1 : Nat) : Int)) ((n : Int) - ((i + 1 : Nat) : Int))) (RangeRest prog w A E h₀ env x body Q s I a₀ n k (i + 1)) s₃ := by
      rintro ⟨h', tk', m', all, fv', rfl, F', N', hI, hs', hy', hz', hJ⟩
      have keep : ∀ p ∈ news, p ∈ Rest I all := fun p hp => mem_rest (hs' p hp) (Nat.ne_of_lt (hlt p hp))
      refine ⟨h', tk', m', Rest I all, rfl, F', fun p hp => ?_, fun p hp => ?_, range_rest stored Inv hxy hlt turn done k (i + 1) m' _ fv' (by omega) hy' hz' keep hJ⟩
      · rcases List.mem_cons.mp hp with hp | hp
        · rw [hp]; exact N' _ hI
        · exact N' p (List.mem_filter.mp hp).1
      · have := (List.mem_filter.mp hp).2
        simpa using this
    cases f with
    | ret v => exact p
    | brk => exact p
    | next => exact fin p
    | cont => exact fin p
theorem range_acc {r : Addr} {x : Str} {body : List Stmt} {Q : Flow → Shared → Prop} {a₀ b₀ : Int} {t₀ u₀ v₀ : Tok} {m₀ : Str → Option Value} {news : List (Addr × Obj)} {y : Str} {fv₀ : Value} (stored : List Str) (Inv : Nat → List (Addr × Obj) → Value → Prop) (n : Nat)
    (hh : A.handled = none) (hr : IsRange s.heap r a₀ b₀ 1 t₀ u₀ v₀) (hsmall : Builtin.Range.small a₀ b₀ 1 = true) (hn : Builtin.Range.rangeSize a₀ b₀ 1 = (n : Int)) (F : Fr h₀ env.locals s.heap m₀) (N : News h₀ env.locals s.heap news) (hxy : y ≠ x) (hy : m₀ y = some fv₀) (h0 : Inv 0 news fv₀)
    (turn : ∀ i fv (u : Str → Option Value) news₁ I o t h tk, i < n → Inv i news₁ fv → (∀ p ∈ news, p ∈ news₁) → isPl (I, o) = false → (∀ p ∈ news, p.1 < I) → Fr h₀ env.locals h (fun z => if z = x then some (.int (a₀ + (i : Int)) t) else if z = y then some fv else if (x :: stored).contains z then u z else m₀ z) → News h₀ env.locals h ((I, o) :: news₁) →
      wpAny (model prog w) A (execs body env) (AccPost h₀ env.locals { s with heap := h, toks := tk } I o y (x :: stored) m₀ news (Inv (i + 1)) Q) E { s with heap := h, toks := tk })
    (done : ∀ fv (u : Str → Option Value) news₁ h tk, Inv n news₁ fv → (∀ p ∈ news, p ∈ news₁) → Fr h₀ env.locals h (fun z => if z = y then some fv else if (x :: stored).contains z then u z else m₀ z) → News h₀ env.locals h news₁ → Q .next { s with heap := h, toks := tk }) :
    wpAny (model prog w) A (pyIter (.ref r)) (fun it s₂ => LoopAtV prog w A h₀ env x body Q E it s₂) E s :=
  iter_rangeUnr hh hr hsmall hn F N fun I hlt => range_rest stored Inv hxy hlt turn done n 0 m₀ news fv₀ (by omega) hy (fun _ _ _ => rfl) (fun _ h => h) h0
end
end Mine
end
section
open PySem PySem.W PyProof.Rows PyProof.V PySem.Spec PySem.Calls
set_option Elab.async false
set_option maxRecDepth 100000
set_option maxHeartbeats 8000000
namespace Mine

theorem Each.get {α β : Type} {R : α → β → Prop} {as : List α} {bs : List β} (h : Each R as bs) : ∀ {i : Nat} {b : β}, bs[i]? = some b → ∃ a, as[i]? = some a ∧ R a b := by
  induction h with
  | nil => intro i b e; simp at e
  | @cons a b as bs hab _ ih =>
    intro i x e
    cases i with
    | zero => simp at e; subst e; exact ⟨a, rfl, hab⟩
    | succ i => simpa using ih (by simpa using e)
noncomputable def RowsIn (ns : List (Addr × Obj)) (v : Value) (R : List Rw) : Prop :=
  ∃ a n vs, v = .ref a ∧ (a, listOf (List.toArray vs) n) ∈ ns ∧ Each (RowIn ns) vs R ∧ R.length ≤ 30000 ∧ ∀ r ∈ R, r.fine
theorem RowsIn.monoP {ns ns' : List (Addr × Obj)} {v : Value} {c : List Rw} (h : RowsIn ns v c) (hs : SubP ns ns') : RowsIn ns' v c :=
  let ⟨a, n, vs, e, m, k, r⟩ := h; ⟨a, n, vs, e, hs.lst m, k.imp fun _ _ x => x.monoP hs, r⟩
section
variable {prog : Program} {w : World} {A : Around} {E : Value → Shared → Prop} {s : Shared} {h₀ : Heap} {L : Addr} {news : List (Addr × Obj)}
theorem item_vs {Q : Value → Shared → Prop} {value slice : Expr} {ta : Addr} {tn : Nat} {vs : List Value} {k : Nat} {u : Tok} {v : Value} (N : News h₀ L s.heap news) (hm : (ta, listOf vs.toArray tn) ∈ news) (hx : vs[k]? = some v) (hk : k < 100000) (h : Q v s)
    (hs : subscripted slice false (.ref ta) (.int (k : Int) u) = operate [.ref ta, .int (k : Int) u] (getItem (.ref ta) (.int (k : Int) u))) (hg : ∀ r, letTemporaryGo value (.ref ta) r = pure ()) :
    wpAny (model prog w) A (subscriptTail value slice (.ref ta) (.int (k : Int) u)) Q E s :=
  PyProof.Rows.item_list (x := v) (N.isList hm) (by omega) (by omega) (by simpa using hx) h hs hg
set_option tactic.hygienic true in
theorem kept_item {Q : Value → Shared → Prop} {value slice : Expr} {d : Addr} {k : Nat} {u : Tok} {c : Kept} {q : Int} (N : News h₀ L s.heap news) (hK : KeptIn w news (.ref d) c) (hq : get k c = some q) (h : ∀ t, Q (.int q t) { s with toks := s.toks + 1 })
    (hs : subscripted slice false (.ref d) (.int (k : Int) u) = operate [.ref d, .int (k : Int) u] (getItem (.ref d) (.int (k : Int) u))) (hg : ∀ r, letTemporaryGo value (.ref d) r = pure ()) :
    wpAny (model PySem.Challenge.rw_oj0023_01.row.prog w) A (subscriptTail value slice (.ref d) (.int (k : Int) u)) Q E s := by
  obtain ⟨d', o, kvs, e, hm, lo, hD, hf, _⟩ := hK
  cases e
  unfold get at hq
  split at hq
  · rename_i hk
    cases hq
    exact kdf_item (TabAt.ofNews N hm lo hD hf) hk h hs hg
  · cases hq
theorem whl_ind {env : Env} {test : PySem.Expr} {body orelse : List Stmt} {Q : Flow → Shared → Prop} (Inv : Nat → Shared → Prop)
    (turn : ∀ n s', Inv n s' → (∀ n' s'', n' < n → Inv n' s'' → WhlRest prog w A E env test body orelse Q 0 s'') → WhlRest prog w A E env test body orelse Q 1 s') :
    ∀ n s', Inv n s' → WhlRest prog w A E env test body orelse Q 0 s' := by
  intro n
  induction n using Nat.strongRecOn with
  | _ n ih => exact fun s' hs => turn n s' hs fun n' s'' hn hs' => ih n' hn s'' hs'
end
/-- four names that a loop changes -/
theorem fn4 {y1 y2 y3 y4 : Str} {stored : List Str} {m₀ m₁ : Str → Option Value} {v1 v2 v3 v4 : Value} (h1 : m₁ y1 = some v1) (h2 : m₁ y2 = some v2) (h3 : m₁ y3 = some v3) (h4 : m₁ y4 = some v4) (hm : ∀ z, z ≠ y1 → z ≠ y2 → z ≠ y3 → z ≠ y4 → stored.contains z = false → m₁ z = m₀ z) :
    m₁ = fun z => if z = y1 then some v1 else if z = y2 then some v2 else if z = y3 then some v3 else if z = y4 then some v4 else if stored.contains z then m₁ z else m₀ z := by
  funext z
  by_cases e1 : z = y1
  · simp [e1, h1]
  · simp only [if_neg e1]
    by_cases e2 : z = y2
    · simp [e2, h2]
    · simp only [if_neg e2]
      by_cases e3 : z = y3
      · simp [e3, h3]
      · simp only [if_neg e3]
        by_cases e4 : z = y4
        · simp [e4, h4]
        · simp only [if_neg e4]
          cases e5 : stored.contains z with
          | true => simp
          | false => simp only [Bool.false_eq_true, if_false]; exact hm z e1 e2 e3 e4 e5
end Mine
end
section
open PySem PySem.W PyProof.Rows PyProof.V PySem.Spec PySem.Calls
set_option Elab.async false
set_option maxRecDepth 100000
set_option maxHeartbeats 8000000
namespace Mine

open PyProof.Rows.LCg
section
variable {prog : Program} {w : World} {A : Around} {E : Value → Shared → Prop} {s : Shared} {h₀ : Heap} {L : Addr} {m : Str → Option Value} {env : Env}
/-- a comprehension over a tuple of the ledger -/
noncomputable def SrcT (prog : Program) (w : World) (A : Around) (h₀ : Heap) (L : Addr) (m : Str → Option Value) (env : Env) (elt : Expr) (x : Str) (scope : Scope) (cl : List (Str × Addr)) (Fin : Shared → List Value → List (Addr × Obj) → Prop) (xv : Value) (s₁ : Shared) : Prop :=
  ∃ (ax : Addr) (vs : List Value) (news : List (Addr × Obj)), xv = .ref ax ∧ A.handled = none ∧ Fr h₀ L s₁.heap m ∧ News h₀ L s₁.heap news ∧ (ax, tup vs) ∈ news ∧ vs.length ≤ sizeLine ∧
    ∀ g : Heap, CompRest prog w A h₀ L m env elt x scope cl { s₁ with heap := g } (fun ns => (ax, tup vs) ∈ ns) (fun i v => vs.toArray[i]? = some v) (Fin { s₁ with heap := g }) vs.length 0 [] news
theorem tup_st {ax I : Addr} {vs : List Value} : ∀ i (h h' : Heap) (o : Obj) (nw : List (Addr × Obj)), (h.IsTupleIter I ax i ∧ h.IsTuple ax vs.toArray) → h.get? I = some o → h'.get? I = some o → (∀ b o, h₀.get? b = some o → h'.get? b = some o) → News h₀ L h' nw → (ax, tup vs) ∈ nw → (h'.IsTupleIter I ax i ∧ h'.IsTuple ax vs.toArray) :=
  fun i h h' o nw st e e' k N S => ⟨by obtain ⟨o', q, r⟩ := st.1; rw [e] at q; cases q; exact ⟨o, e', r⟩, ⟨_, (N _ S).1, rfl, _, rfl⟩⟩
theorem ListComp_tup {elt iter : Expr} {x : Str} {px : Pos} {scope : Scope} {cl : List (Str × Addr)} {pos : Pos} {Q : Value → Shared → Prop} (F₀ : Fr h₀ L s.heap m)
    (hclos : closureFor scope env = pure cl) (hcell : ∀ y ∈ scope.names, y.2 ≠ .cell) (hkind : scope.kind = .function)
    (hnames : ∀ y ∈ scope.names, y.2 = .local → scope.names.lookup y.1 = some .local) (hx : scope.names.lookup x = some .local)
    (h : wpAny (model prog w) A (eval iter env) (SrcT prog w A h₀ L m env elt x scope cl (fun s₂ => FinE h₀ L m s₂ Q)) E s)
    (hs : ∀ x, foldedSetIterable iter env x = pure x := by intro _; rfl) :
    wpAny (model prog w) A (eval (.ListComp elt [⟨.Name x px, iter, [], 0⟩] scope pos) env) Q E s := by
  rw [eval_ListComp]
  refine wpAny_comprehension_free (use := none) rfl hs hclos hkind hnames (wpAny_mono h (fun xv s₁ h₁ => ?_) fun _ _ e => e)
  obtain ⟨ax, vs, news, rfl, hh, F, N, hm, hsz, R⟩ := h₁
  have hl : s₁.heap.IsTuple ax vs.toArray := ⟨_, (N _ hm).1, rfl, _, rfl⟩
  have hlt : ax < s₁.heap.objs.size := Heap.lt_size (N _ hm).1
  refine wpAny_pyIter_tuple hl ?_
  have up : ∀ b o, s₁.heap.get? b = some o → (s₁.heap.push { cls := .type "tuple_iterator", data := .fields #[.ref ax, .int 0 0] }).get? b = some o := fun b o e => Heap.get?_push_of_some _ e
  refine block_U (Walks.tuple hh s₁.heap.objs.size ax (Nat.ne_of_lt hlt) vs.toArray) (by simpa using hsz) (fun i h st => by obtain ⟨o, e, _⟩ := st.1; exact ⟨o, e⟩) tup_st hcell hkind hx ⟨⟨_, Heap.get?_push_size _ rfl, rfl, rfl⟩, hl.at fun o e => Heap.get?_push_of_some _ e⟩ (fun b hb => ?_)
      (F.keeps up) (N.grown up) (Nat.ne_of_lt F.ns.lt) (next_is_new F) (fun p hp => Nat.ne_of_lt (Heap.lt_size (N p hp).1)) hm (by simpa using R _) ?_
  · show b < (s₁.heap.push _).objs.size
    rw [Heap.size_push]
    rcases List.mem_cons.mp hb with rfl | hb
    · exact Nat.lt_succ_self _
    · rw [List.mem_singleton.mp hb]; exact Nat.lt_succ_of_lt hlt
  · intro D C h tk m' ys news' F' N' o1 hn hC₀ hD₀ hCL hDL hCD offC fin
    refine ⟨m', hn, fun h'' hs'' => fin D h'' tk (F'.change hs'' hCL hC₀) (fun p hp => ?_) o1⟩
    refine ⟨hs''.extBut _ _ ?_ (N' p hp).1, (N' p hp).2⟩
    rcases List.mem_cons.mp hp with rfl | hp
    · exact Ne.symm hCD
    · exact offC p hp
end
end Mine
end
section
open PySem PySem.W PyProof.Rows PyProof.V
set_option Elab.async false
set_option maxRecDepth 100000
set_option maxHeartbeats 8000000
namespace Mine


theorem setup_W1_1 : True := by
  k_with_none
  k_with "mem0" => first | with_reducible exact List.mem_cons_self | (refine List.mem_cons_of_mem _ ?_; k_mem)
  k_with "all0" => first | assumption | exact fun p hp => Nat.ne_of_lt (ktn_ltOf (by assumption) p hp)
  k_with "execs cons" => (k_here; k_fold; (try ((rename Fr _ _ _ _ => lF9); (refine FrL lF9 ?_); clear lF9; intro mL9 lF9)))
  k_with "eval Tuple" => (k_here; k_fold)
  k_with "eval List" => (k_here; k_fold)
  k_with "eval BinOp" => (k_here; k_fold)
  k_with "exec Assign" => (k_here; k_fold)
  k_with "eval IfExp" => (k_here; k_fold)
  trivial
theorem nodup_lt : ∀ (n : Nat) (l : List Nat), l.Nodup → (∀ x ∈ l, x < n) → l.length ≤ n
  | 0, [], _, _ => Nat.le_refl _
  | 0, x :: _, _, h => absurd (h x (.head _)) (Nat.not_lt_zero _)
  | n + 1, l, hn, h => by
    have h1 := nodup_lt n (l.filter (· ≠ n)) (hn.filter _) fun x hx => by
      have := List.mem_filter.mp hx
      have h2 := h x this.1
      have h3 : x ≠ n := by simpa using this.2
      omega
    have h2 : l.length ≤ (l.filter (· ≠ n)).length + 1 := by
      clear h h1
      induction l with
      | nil => simp
      | cons a r ih =>
        have hr := (List.nodup_cons.mp hn)
        by_cases ha : a = n
        · subst ha
          have e : r.filter (· ≠ a) = r := List.filter_eq_self.mpr fun x hx => by
            have : x ≠ a := fun e => hr.1 (e ▸ hx)
            simpa using this
          simp only [List.filter_cons, ne_eq, not_true_eq_false, decide_false, Bool.false_eq_true, if_false, List.length_cons]
          rw [show (r.filter fun x => decide (¬x = a)) = r from e]
          omega
        · have := ih hr.2
          simp only [List.filter_cons, ne_eq, ha, not_false_eq_true, decide_true, if_true, List.length_cons] at this ⊢
          omega
    omega
theorem flat_keys {kvs : List (Int × Value)} : ∀ {c : Kept}, FlatPairs PyData.int kvs (kdfD c) → kvs.map (·.1) = c.map (·.1) := by
  induction kvs with
  | nil => intro c h; cases c with
    | nil => rfl
    | cons p r => exact nomatch h
  | cons q r ih => intro c h; cases c with
    | nil => exact nomatch h
    | cons p r' =>
      cases h with
      | cons hv ht => rw [List.map_cons, List.map_cons, ih ht]
theorem kept_nodup {w : World} {o : Obj} {kvs : List (Int × Value)} {c : Kept} (hD : o.IsDictOf (IK w) kvs) (hf : FlatPairs PyData.int kvs (kdfD c)) : (c.map (·.1)).Nodup := by
  obtain ⟨_, _, _, _, _, _, hn⟩ := hD
  rw [← flat_keys hf]; exact hn
theorem kept_len {w : World} {o : Obj} {kvs : List (Int × Value)} {c : Kept} (hD : o.IsDictOf (IK w) kvs) (hf : FlatPairs PyData.int kvs (kdfD c)) (hc : ∀ p ∈ c, 0 ≤ p.1 ∧ p.1 < 20000) : c.length ≤ 20000 := by
  have h := kept_nodup hD hf
  have h2 := nodup_lt 20000 ((c.map (·.1)).map Int.toNat) (by
    have : ∀ x ∈ c.map (·.1), 0 ≤ x := fun x hx => by obtain ⟨p, hp, rfl⟩ := List.mem_map.mp hx; exact (hc p hp).1
    revert h this
    generalize c.map (·.1) = l
    intro h this
    induction l with
    | nil => simp
    | cons a r ih =>
      have hh := List.nodup_cons.mp h
      rw [List.map_cons, List.nodup_cons]
      refine ⟨fun hm => ?_, ih hh.2 fun x hx => this x (.tail _ hx)⟩
      obtain ⟨y, hy, e⟩ := List.mem_map.mp hm
      have h3 := this a (.head _)
      have h4 := this y (.tail _ hy)
      have : y = a := by omega
      exact hh.1 (this ▸ hy)) fun x hx => by
    obtain ⟨y, hy, rfl⟩ := List.mem_map.mp hx
    obtain ⟨p, hp, rfl⟩ := List.mem_map.mp hy
    have := hc p hp
    omega
  simpa using h2
theorem keys_put {c : Kept} {k p : Int} (hc : ∀ q ∈ c, 0 ≤ q.1 ∧ q.1 < 20000) (h0 : 0 ≤ k) (h1 : k < 20000) : ∀ q ∈ kdfPut c k p, 0 ≤ q.1 ∧ q.1 < 20000 := by
  intro q hq
  unfold kdfPut at hq
  split at hq
  · obtain ⟨r, hr, rfl⟩ := List.mem_map.mp hq
    have := hc r hr
    split <;> exact this
  · rcases List.mem_append.mp hq with h | h
    · exact hc q h
    · rw [List.mem_singleton.mp h]; exact ⟨h0, h1⟩

theorem setup_W1_2 : True := by
  k_with "call type:dict" => (k_here; (with_reducible show wpAny _ _ (call (Value.type "dict") [Value.ref _]) _ _ _); k_dflt (refine kt_dict_K (knd := PySem.intKind _ _) (enc := PyData.int) (by k_asm) (by k_asm) (Top.nolimit (by k_asm)) (by k_tabat) (by rw [kdfD_length, sizeLine_eq]; omega) ?_); intro d' h' o' kvs' F' N' l1 lo' hd' hf'; (try k_lt l1))
  k_with "setItem ref int" => (k_here; k_dflt (refine' kdf_setItem ?zzF ?zzN ?zzU ?zzd ?zzf ?zzz ?_; (case zzF => k_asm); (case zzN => k_asm); (case zzU => k_updF); (case zzd => k_asm); (case zzf => k_asm); (case zzz => omega)); intro h' o' kvs' F' N' hd' hf'; (try dsimp only at N'))
  trivial
theorem with_ok (w : World) (news : List (Addr × Obj)) (v : Value) (c : Kept) (k p : Int) (kt pt : Tok) (hK : KeptIn w news v c) (h0 : 0 ≤ k) (h1 : k < 20000) :
    Con w 1 201 [v, .int k kt, .int p pt] news (fun ns r => KeptIn w ns r (kdfPut c k p)) := by
  obtain ⟨d, o, kvs, rfl, hm, lo, hD, hf, hc⟩ := hK
  have hlen := kept_len hD hf hc
  unfold Con
  k_fill
  intro pg loose mean mg mb dp un gd cn cs a ccd cl outer A₀ base h₀ L m s Q E B F X N T hk hd hu hret
  refine wpAny_call ?_
  k_dflt ktr_enter
  rename Fr _ _ _ _ => lF9
  refine FrL lF9 ?_
  clear lF9
  intro mL9 lF9
  k_steps
  exact hret _ [_] _ _ (by k_asm) (by k_asm) ⟨_, _, _, rfl, .head _, by assumption, by assumption, by assumption, keys_put hc h0 h1⟩
end Mine
end
section
open PySem PySem.W PyProof.Rows PyProof.V
set_option Elab.async false
set_option maxRecDepth 100000
set_option maxHeartbeats 8000000
namespace Mine


theorem setup_W1b_1 : True := by
  k_with_none
  k_with "mem0" => first | with_reducible exact List.mem_cons_self | (refine List.mem_cons_of_mem _ ?_; k_mem)
  k_with "all0" => first | assumption | exact fun p hp => Nat.ne_of_lt (ktn_ltOf (by assumption) p hp)
  k_with "execs cons" => (k_here; k_fold)
  k_with "eval Tuple" => (k_here; k_fold)
  k_with "eval List" => (k_here; k_fold)
  k_with "eval BinOp" => (k_here; k_fold)
  k_with "exec Assign" => (k_here; k_fold)
  k_with "eval IfExp" => (k_here; k_fold)
  k_with "call type:dict" => (k_here; (with_reducible show wpAny _ _ (call (Value.type "dict") [Value.ref _]) _ _ _); k_dflt (refine kt_dict_K (knd := PySem.intKind _ _) (enc := PyData.int) (by k_asm) (by k_asm) (Top.nolimit (by k_asm)) (by k_tabat) (by rw [kdfD_length, sizeLine_eq]; omega) ?_); intro d' h' o' kvs' F' N' l1 lo' hd' hf'; (try k_lt l1))
  k_with "setItem ref int" => (k_here; k_dflt (refine' kdf_setItem ?zzF ?zzN ?zzU ?zzd ?zzf ?zzz ?_; (case zzF => k_asm); (case zzN => k_asm); (case zzU => k_updF); (case zzd => k_asm); (case zzf => k_asm); (case zzz => omega)); intro h' o' kvs' F' N' hd' hf'; (try dsimp only at N'))
  trivial
noncomputable def DictK (w : World) (d : Addr) (o : Obj) (c : Kept) : Prop := (d == sysModules) = false ∧ ∃ kvs, o.IsDictOf (IK w) kvs ∧ FlatPairs PyData.int kvs (kdfD c) ∧ ∀ p ∈ c, 0 ≤ p.1 ∧ p.1 < 20000
theorem DictK.kept {w : World} {d : Addr} {o : Obj} {c : Kept} {ns : List (Addr × Obj)} (h : DictK w d o c) (hm : (d, o) ∈ ns) : KeptIn w ns (.ref d) c := let ⟨l, kvs, a, b, r⟩ := h; ⟨d, o, kvs, rfl, hm, l, a, b, r⟩
theorem withM_ok (w : World) (news : List (Addr × Obj)) (v : Value) (c : Kept) (k p : Int) (kt pt : Tok) (hK : KeptIn w news v c) (h0 : 0 ≤ k) (h1 : k < 20000) :
    ConM w 1 201 [v, .int k kt, .int p pt] [] news (fun mu' tl r => mu' = [] ∧ ∃ d o, tl = [(d, o)] ∧ (∀ q ∈ news, q.1 < d) ∧ r = .ref d ∧ isPl (d, o) = true ∧ DictK w d o (kdfPut c k p)) := by
  obtain ⟨d, o, kvs, rfl, hm, lo, hD, hf, hc⟩ := hK
  have hlen := kept_len hD hf hc
  unfold ConM
  k_fill
  intro pg loose mean mg mb dp un gd cn cs a ccd cl outer A₀ base h₀ L m s Q E B F X N T hk hd hu hret
  refine wpAny_call ?_
  k_dflt ktr_enter
  k_steps
  rename News _ _ _ _ => kN
  rename Fr _ _ _ _ => kF
  rename (∀ p ∈ news, p.1 < _) => l1
  refine hret _ [] [_] _ _ kF kN ⟨rfl, _, _, rfl, l1, rfl, ?_, ⟨by assumption, _, by assumption, by assumption, keys_put hc h0 h1⟩⟩
  exact dict_pl (by assumption) _
end Mine
end
section
open PySem PySem.W PyProof.Rows PyProof.V
set_option Elab.async false
set_option maxRecDepth 100000
set_option maxHeartbeats 8000000
namespace Mine

theorem setup_W2_1 : True := by
  k_with_none
  k_with "mem0" => first | with_reducible exact List.mem_cons_self | (refine List.mem_cons_of_mem _ ?_; k_mem)
  k_with "all0" => first | assumption | exact fun p hp => Nat.ne_of_lt (ktn_ltOf (by assumption) p hp)
  k_with "execs cons" => (k_here; k_fold)
  k_with "eval Tuple" => (k_here; k_fold)
  k_with "eval List" => (k_here; k_fold)
  k_with "eval BinOp" => (k_here; k_fold)
  k_with "exec Assign" => (k_here; k_fold)
  k_with "eval IfExp" => (k_here; k_fold)
  trivial
theorem seq0 (x : Value) (r : List Value) : seqIndex? 0 (List.toArray (x :: r)).size = some 0 := by
  simp [seqIndex?]
theorem setup_W2_2 : True := by
  k_with "compareOp NotEq ref ref" => (k_here; (with_reducible show wpAny _ _ (compareOp CmpOp.NotEq (Value.ref _) (Value.ref _)) _ _ _); (with_unfolding_all refine' ne_intsK ?zzk1 ?zzk2 ?zzk3 .nil ?zzk5 ?_; (case zzk1 => exact News.isList (by k_asm) (by k_mem)); (case zzk2 => assumption); (case zzk3 => exact News.isList (by k_asm) (by k_mem)); (case zzk5 => ((simp only [units_in1, units_deeper, Around.mark_units] at *); (try dsimp only [ktrTop]); omega)); k_whole))
  k_with "call builtin:list.pop" => (k_here; k_dflt ((with_reducible show wpAny _ _ (call (Value.builtin _) [Value.ref _, Value.int _ _]) _ _ _); refine' kl_popAt ?zzF ?zzN ?zzf ?zzk ?zze ?zzU ?zzz ?_; (case zzF => k_asm); (case zzN => k_asm); (case zzU => k_upd); (case zzf => rfl); (case zzk => exact seq0 _ _); (case zze => rfl); (case zzz => (rw [sizeLine_eq]; simp at *; omega))); kl_rest)
  trivial
theorem draw_ok (w : World) (news : List (Addr × Obj)) (D : Addr) (vs : List Value) (n : Nat) (ns : List Int) (many : Int) (mt : Tok) (hi : IntsAre vs ns) (hm : 0 < many) (hm2 : many < 100) (hsep : ∀ p ∈ news, p.1 ≠ D) (hsz : vs.length < 1000) :
    ConM w 1 166 [.ref D, .int many mt] [(D, listOf vs.toArray n)] news (fun mu' tl r => ∃ vs' n' ns', mu' = [(D, listOf (List.toArray vs') n')] ∧ tl = [] ∧ IntsAre vs' ns' ∧ vs'.length < 1000 ∧ ∃ x t, r = .int x t ∧ 0 ≤ x ∧ x < many) := by
  unfold ConM
  k_fill
  intro pg loose mean mg mb dp un gd cn cs a ccd cl outer A₀ base h₀ L m s Q E B F X N T hk hd hu hret
  simp only [List.cons_append, List.nil_append] at N hret
  cases hi with
  | nil =>
    refine wpAny_call ?_
    k_dflt ktr_enter
    k_steps
    rename News _ _ _ _ => kN; exact hret _ [_] [] _ _ (by k_asm) (fun p hp => kN p (.tail _ hp)) ⟨[], _, [], rfl, rfl, .nil, hsz, 0, _, rfl, Int.le_refl _, hm⟩
  | cons i t hr =>
    refine wpAny_call ?_
    k_dflt ktr_enter
    k_steps
    · rename News _ _ _ _ => kN; exact hret _ [_] [] _ _ (by k_asm) (fun p hp => kN p (.tail _ hp)) ⟨_, _, _, rfl, rfl, .cons i t hr, hsz, 0, _, rfl, Int.le_refl _, hm⟩
    · rename News _ _ _ _ => kN; exact hret _ [_] [] _ _ (by k_asm) (fun p hp => kN p (.tail _ hp)) ⟨_, _, _, rfl, rfl, hr, Nat.lt_of_succ_lt hsz, _, _, rfl, Int.fmod_nonneg_of_pos _ hm, Int.fmod_lt_of_pos _ hm⟩
end Mine
end
section
open PySem PySem.W PyProof.Rows PyProof.V
set_option Elab.async false
set_option maxRecDepth 100000
set_option maxHeartbeats 8000000
namespace Mine

theorem setup_W3_1 : True := by
  k_with_none
  k_with "mem0" => first | with_reducible exact List.mem_cons_self | (refine List.mem_cons_of_mem _ ?_; k_mem)
  k_with "all0" => first | assumption | exact fun p hp => Nat.ne_of_lt (ktn_ltOf (by assumption) p hp)
  k_with "execs cons" => (k_here; k_fold)
  k_with "eval Tuple" => (k_here; k_fold)
  k_with "eval List" => (k_here; k_fold)
  k_with "eval BinOp" => (k_here; k_fold)
  k_with "exec Assign" => (k_here; k_fold)
  k_with "eval IfExp" => (k_here; k_fold)
  k_with "pull" => first | exact Pull.head | (refine' Pull.tail ?zzb; (case zzb => walk_at "pull")) | (refine' Pull.app ?zzb; (case zzb => walk_at "pull"))
  k_with "sub" => (intro p hp; simp only [List.mem_cons, List.mem_append, hp, or_true, true_or])
  k_with "call ref" => (k_here; (with_reducible show wpAny _ _ (call (Value.ref 166) _) _ _ _); (rename IntsAre _ _ => hIA); (rename List.length _ < 1000 => hLL); (rename News _ _ _ _ => nN); k_dflt (refine' (draw_ok _ _ _ _ _ _ _ _ hIA ?zza1 ?zza2 ?zzsep hLL).use ?zzB ?zzF ?zzX ?zzN ?zzT ?zzk ?zzd ?zzu ?_; (case zzB => k_asm); (case zzF => k_asm); (case zzX => k_asm); (case zzN => (refine Pull.use nN ?zzpl id; walk_at "pull")); (case zzT => k_asm); (case zzk => first | exact rfl | assumption); (case zzd => (first | exact dlt (by assumption) _ (by first | exact Nat.le_refl _ | exact Nat.le_of_ble_eq_true rfl | decide | omega) | ((try simp only [depth_deeper]); (try dsimp only [ktrTop]); first | exact dlt (by assumption) _ (by first | exact Nat.le_refl _ | exact Nat.le_of_ble_eq_true rfl | decide | omega) | exact dlt3 (by assumption) _ (by first | exact Nat.le_refl _ | exact Nat.le_of_ble_eq_true rfl | decide | omega)) | ((try simp only [depth_deeper, recursionLimit] at *); (try dsimp only [ktrTop] at *); omega))); (case zzu => (first | exact ult (by assumption) _ (by first | exact Nat.le_refl _ | exact Nat.le_of_ble_eq_true rfl | decide | omega) | exact ult2 (by assumption) | ((try simp only [units_deeper]); (try dsimp only [ktrTop]); first | exact ult (by assumption) _ (by first | exact Nat.le_refl _ | exact Nat.le_of_ble_eq_true rfl | decide | omega) | exact ult2 (by assumption) | exact ult3 (by assumption) _ (by first | exact Nat.le_refl _ | exact Nat.le_of_ble_eq_true rfl | decide | omega)) | ((try simp only [units_deeper] at *); (try dsimp only [ktrTop] at *); omega))); (case zza1 => decide); (case zza2 => decide); (case zzsep => k_all)); intro r' mu' tl' h' tk' F' N' hP; obtain ⟨vs', n', ns', e1, e2, hi', hlen', x, t, e3, hx0, hx1⟩ := hP; subst e1; subst e2; subst e3; (try simp only [List.cons_append, List.nil_append] at N'); (try dsimp only at N'); (try dsimp only); (try k_fold))
  trivial
theorem five {x : Int} (h0 : 0 ≤ x) (h1 : x < 5) : x = 0 ∨ x = 1 ∨ x = 2 ∨ x = 3 ∨ x = 4 := by omega
theorem setup_W3_2 : True := by
  k_with "subscriptTail" => (k_here; (with_reducible show wpAny _ _ (subscriptTail _ _ (Value.ref _) (Value.int _ _)) _ _ _); (rename _ < (5 : Int) => hy1); (rename (0 : Int) ≤ _ => hy0); (have hy5 := five hy0 hy1); clear hy0 hy1; rcases hy5 with hy | hy | hy | hy | hy <;> subst hy)
  k_with "newTuple" => (k_here; kup_bare; k_dflt (refine' newTuple_let ?zzF ?zzN ?_ ?zzz; (case zzF => k_asm); (case zzN => k_asm); (case zzz => kmk_size)); intro D' h' F' ob' N' l1; (try k_lt l1); (try k_sweep))
  k_with "newList" => (k_here; k_dflt (refine' newList_let ?zzk1 ?zzk2 ?_; (case zzk1 => k_asm); (case zzk2 => k_asm); k_whole); intro l' h' F' ob' N' l1; (try k_lt l1); (try k_sweep))
  trivial
theorem simple_ok (w : World) (news : List (Addr × Obj)) (D : Addr) (vs : List Value) (n : Nat) (ns : List Int) (hi : IntsAre vs ns) (hsep : ∀ p ∈ news, p.1 ≠ D) (hsz : vs.length < 1000) :
    ConM w 2 173 [.ref D] [(D, listOf vs.toArray n)] news (fun mu' tl r => ∃ vs' n' ns', mu' = [(D, listOf (List.toArray vs') n')] ∧ IntsAre vs' ns' ∧ vs'.length < 1000 ∧ ∃ nd, NodeIn (tl ++ news) r nd ∧ (∀ k, Gen k nd) ∧ Tups tl) := by
  unfold ConM
  k_fill
  intro pg loose mean mg mb dp un gd cn cs a ccd cl outer A₀ base h₀ L m s Q E B F X N T hk hd hu hret
  simp only [List.cons_append, List.nil_append] at N hret
  refine wpAny_call ?_
  k_dflt ktr_enter
  k_steps
  all_goals (rename News _ _ _ _ => kN; rename IntsAre _ _ => hi'; rename List.length _ < 1000 => hl'; refine hret _ [_] _ _ _ (by k_asm) (dup1t kN (by walk_at "sub")) ⟨_, _, _, rfl, hi', hl', ?_⟩)
  · exact ⟨.chr 97, .chr (by k_mem), fun k => by rw [gen_chr]; exact .inl rfl, tups_tps _⟩
  · exact ⟨.chr 98, .chr (by k_mem), fun k => by rw [gen_chr]; exact .inr (.inl rfl), tups_tps _⟩
  · exact ⟨.any, .any (by k_mem), gen_any, tups_tps _⟩
  · exact ⟨.set, .set (by k_mem) (by k_mem) (by k_mem) (by k_mem), gen_set, tups_tps _⟩
  · exact ⟨.chr 65, .chr (by k_mem), fun k => by rw [gen_chr]; exact .inr (.inr rfl), tups_tps _⟩
end Mine
end
section
open PySem PySem.W PyProof.Rows PyProof.V
set_option Elab.async false
set_option maxRecDepth 100000
set_option maxHeartbeats 8000000
namespace Mine


theorem setup_W4_1 : True := by
  k_with_none
  k_with "mem0" => first | with_reducible exact List.mem_cons_self | (refine List.mem_cons_of_mem _ ?_; k_mem)
  k_with "all0" => first | assumption | exact fun p hp => Nat.ne_of_lt (ktn_ltOf (by assumption) p hp)
  k_with "execs cons" => (k_here; k_fold)
  k_with "eval Tuple" => (k_here; k_fold)
  k_with "eval List" => (k_here; k_fold)
  k_with "eval BinOp" => (k_here; k_fold)
  k_with "exec Assign" => (k_here; k_fold)
  k_with "eval IfExp" => (k_here; k_fold)
  k_with "eval Call" => (k_here; (try k_fold); k_dflt (refine Call_ ?_))
  trivial
theorem small_ok (w : World) (news : List (Addr × Obj)) (c : Int) (tc : Tok) (h0 : 0 ≤ c) (h1 : c < 1000) :
    Con w 1 187 [.int c tc] news (fun _ res => ∃ t, res = .int (small c) t) := by
  unfold Con
  k_fill
  intro pg loose mean mg mb dp un gd cn cs a ccd cl outer A₀ base h₀ L m s Q E B F X N T hk hd hu hret
  refine wpAny_call ?_
  k_dflt ktr_enter
  k_steps
  · exact hret _ [] _ _ (by k_asm) (by k_asm) ⟨_, by rw [show small c = c + 32 from by unfold small; rw [if_pos (by omega)]]⟩
  · exact hret _ [] _ _ (by k_asm) (by k_asm) ⟨_, by rw [show small c = c from by unfold small; rw [if_neg (by omega)]]⟩
  · exact hret _ [] _ _ (by k_asm) (by k_asm) ⟨_, by rw [show small c = c from by unfold small; rw [if_neg (by omega)]]⟩
theorem setup_W4_2 : True := by
  k_with "call ref" => (k_here; (with_reducible show wpAny _ _ (call (Value.ref 187) [Value.int _ _]) _ _ _); k_dflt (refine' (small_ok _ _ _ _ ?zza1 ?zza2).use ?zzB ?zzF ?zzX ?zzN ?zzT ?zzk ?zzd ?zzu ?_; (case zzB => k_asm); (case zzF => k_asm); (case zzX => k_asm); (case zzN => k_asm); (case zzT => k_asm); (case zzk => first | exact rfl | assumption); (case zzd => (first | exact dlt (by assumption) _ (by first | exact Nat.le_refl _ | exact Nat.le_of_ble_eq_true rfl | decide | omega) | ((try simp only [depth_deeper]); (try dsimp only [ktrTop]); first | exact dlt (by assumption) _ (by first | exact Nat.le_refl _ | exact Nat.le_of_ble_eq_true rfl | decide | omega) | exact dlt3 (by assumption) _ (by first | exact Nat.le_refl _ | exact Nat.le_of_ble_eq_true rfl | decide | omega)) | ((try simp only [depth_deeper, recursionLimit] at *); (try dsimp only [ktrTop] at *); omega))); (case zzu => (first | exact ult (by assumption) _ (by first | exact Nat.le_refl _ | exact Nat.le_of_ble_eq_true rfl | decide | omega) | exact ult2 (by assumption) | ((try simp only [units_deeper]); (try dsimp only [ktrTop]); first | exact ult (by assumption) _ (by first | exact Nat.le_refl _ | exact Nat.le_of_ble_eq_true rfl | decide | omega) | exact ult2 (by assumption) | exact ult3 (by assumption) _ (by first | exact Nat.le_refl _ | exact Nat.le_of_ble_eq_true rfl | decide | omega)) | ((try simp only [units_deeper] at *); (try dsimp only [ktrTop] at *); omega))); (case zza1 => assumption); (case zza2 => assumption)); intro r' tl' h' tk' F' N' hP; obtain ⟨t', e3⟩ := hP; subst e3; (try dsimp only); (try k_fold))
  trivial
theorem takes_ok (w : World) (news : List (Addr × Obj)) (v : Value) (r : Rw) (t : Int → Bool) (folds : Bool) (code : Int) (ct : Tok) (hR : RowIn news v r) (ht : r.tk folds = some t) (hc0 : 0 ≤ code) (hc1 : code < 1000) (hr : ∀ c, r = .chr c → 0 ≤ c ∧ c < 1000) :
    Con w 2 194 [v, .int code ct, .bool folds] news (fun _ res => res = .bool (t code)) := by
  unfold Con
  k_fill
  intro pg loose mean mg mb dp un gd cn cs a ccd cl outer A₀ base h₀ L m s Q E B F X N T hk hd hu hret
  cases hR with
  | @chr a t' tc c hm =>
    obtain ⟨h0, h1⟩ := hr _ rfl
    cases ht
    cases folds
    · refine wpAny_call ?_
      k_dflt ktr_enter
      k_steps
      exact hret _ [] _ _ (by k_asm) (by k_asm) (by simp [tkChr]; rfl)
    · refine wpAny_call ?_
      k_dflt ktr_enter
      k_steps
      rename News _ _ _ _ => kN
      exact hret _ _ _ _ (by k_asm) (by rw [← List.append_assoc] at kN; exact kN) (by simp [tkChr]; rfl)
  | @any a t' hm =>
    cases ht
    refine wpAny_call ?_
    k_dflt ktr_enter
    k_steps
    exact hret _ [] _ _ (by k_asm) (by k_asm) (by simp [tkAny]; by_cases h : code = 10 <;> simp [h])
  | @set a b c e t' t1 t2 hm h2 h3 h4 =>
    cases ht
    refine wpAny_call ?_
    k_dflt ktr_enter
    k_steps
    · exact hret _ [] _ _ (by k_asm) (by k_asm) (by simp [tkSet]; omega)
    · exact hret _ [] _ _ (by k_asm) (by k_asm) (by simp [tkSet]; omega)
  | _ => cases ht
end Mine
end
section
open PySem PySem.W PyProof.Rows PyProof.V
set_option Elab.async false
set_option maxRecDepth 100000
set_option maxHeartbeats 8000000
namespace Mine


theorem setup_W5_1 : True := by
  k_with_none
  k_with "mem0" => first | with_reducible exact List.mem_cons_self | (refine List.mem_cons_of_mem _ ?_; k_mem)
  k_with "all0" => first | assumption | exact fun p hp => Nat.ne_of_lt (ktn_ltOf (by assumption) p hp)
  k_with "execs cons" => (k_here; k_fold; (try ((rename Fr _ _ _ _ => lF9); (refine FrL lF9 ?_); clear lF9; intro mL9 lF9)))
  k_with "eval Tuple" => (k_here; k_fold)
  k_with "eval List" => (k_here; k_fold)
  k_with "eval BinOp" => (k_here; k_fold)
  k_with "exec Assign" => (k_here; k_fold)
  k_with "eval IfExp" => (k_here; k_fold)
  trivial
/-- the ways of a node, as the program tells them -/
noncomputable def WaysC (w : World) (text : List Int) (folds : Bool) (size : Nat) (n : Nd) : Prop :=
  ∀ (news : List (Addr × Obj)) (nv kv tv : Value) (p : Nat) (pt : Tok) (c : Kept), NodeIn news nv n → KeptIn w news kv c → TextIn news tv text → p ≤ text.length →
    Con w size 227 [nv, .int (p : Int) pt, kv, tv, .bool folds] news (fun ns r => StsIn w ns r (ways text folds n p c))


theorem setup_W5_2 : True := by
  k_with "binaryOp Add ref ref" => (k_here; (with_reducible show wpAny _ _ (binaryOp Operator.Add (Value.ref _) (Value.ref _)) _ _ _); k_dflt (refine' add_lists ?zzF ?zzN ?zzl ?zzb ?_ ?zzz; (case zzF => k_asm); (case zzN => k_asm); (case zzl => exact News.isList (by k_asm) (by k_mem)); (case zzb => exact News.isList (by k_asm) (by k_mem)); (case zzz => assumption)); intro h' F' N'; (try dsimp only))
  k_with "eval Call" => (k_here; (try k_fold); k_dflt (refine Call_ ?_))
  k_with "exec For Tuple Name cons nil" => (k_here; (rename Fr _ _ _ _ => lF'); (with_unfolding_all refine' For_turns lF' ?_; k_whole))
  k_with "same" => (intro z h1 h3; (simp only [List.contains_cons, List.contains_nil, Bool.or_false, Bool.or_eq_false_iff, beq_eq_false_iff_ne, ne_eq] at h3); (simp +zetaDelta [h1, h3]; done))
  trivial
noncomputable def Bd (text : List Int) (sts : List St) : Prop := ∀ s ∈ sts, s.1 ≤ text.length
theorem setup_W5_3 : True := by
  k_with "con" => ((case B => k_asm); (case F => k_asm); (case X => k_asm); (case T => k_asm); (case k => first | exact rfl | assumption); (case d => (first | exact dlt (by assumption) _ (by first | exact Nat.le_refl _ | exact Nat.le_of_ble_eq_true rfl | decide | omega) | ((try simp only [depth_deeper]); (try dsimp only [ktrTop]); first | exact dlt (by assumption) _ (by first | exact Nat.le_refl _ | exact Nat.le_of_ble_eq_true rfl | decide | omega) | exact dlt3 (by assumption) _ (by first | exact Nat.le_refl _ | exact Nat.le_of_ble_eq_true rfl | decide | omega)) | ((try simp only [depth_deeper, recursionLimit] at *); (try dsimp only [ktrTop] at *); omega))); (case u => (first | exact ult (by assumption) _ (by first | exact Nat.le_refl _ | exact Nat.le_of_ble_eq_true rfl | decide | omega) | exact ult2 (by assumption) | ((try simp only [units_deeper]); (try dsimp only [ktrTop]); first | exact ult (by assumption) _ (by first | exact Nat.le_refl _ | exact Nat.le_of_ble_eq_true rfl | decide | omega) | exact ult2 (by assumption) | exact ult3 (by assumption) _ (by first | exact Nat.le_refl _ | exact Nat.le_of_ble_eq_true rfl | decide | omega)) | ((try simp only [units_deeper] at *); (try dsimp only [ktrTop] at *); omega))))
  trivial
theorem each_ok (w : World) (text : List Int) (folds : Bool) (size : Nat) (n : Nd) (W : WaysC w text folds size n) (news : List (Addr × Obj)) (nv sv tv : Value) (sts : List St) (hn : NodeIn news nv n) (hs : StsIn w news sv sts) (ht : TextIn news tv text)
    (hb : Bd text sts) (hz : (eachF (ways text folds n) sts).length ≤ 1000000) :
    Con w (size + 1) 208 [nv, sv, tv, .bool folds] news (fun ns r => StsIn w ns r (eachF (ways text folds n) sts)) := by
  obtain ⟨sa, sn, svs, rfl, hsm, hse⟩ := hs
  unfold Con
  k_fill
  intro pg loose mean mg mb dp un gd cn cs a ccd cl outer A₀ base h₀ L m s Q E B F X N T hk hd hu hret
  refine wpAny_call ?_
  k_dflt ktr_enter
  rename Fr _ _ _ _ => lF9
  refine FrL lF9 ?_
  clear lF9
  intro mL9 lF9
  k_steps
  rename News _ _ _ _ => kN
  rename Fr _ _ _ _ => kF
  rename Below _ _ _ _ => kB
  rename (∀ p ∈ news, p.1 < _) => l1
  refine turns_acc (y := Str.ofString "found") [Str.ofString "at", Str.ofString "kept"] (fun r ns fv => ∃ xs acc, Each (StIn w ns) r xs ∧ StsIn w ns fv acc ∧ Bd text xs ∧ acc ++ eachF (ways text folds n) xs = eachF (ways text folds n) sts) rfl kF kN (.tail _ hsm) rfl ?h0 ?turn ?done
  case h0 => exact ⟨sts, [], hse.imp fun _ _ h => h.monoP (SubP.of fun p hp => .tail _ hp), ⟨_, _, [], rfl, .head _, .nil⟩, hb, rfl⟩
  case turn =>
    rintro v r fv u news₁ I o h tk ⟨xs, acc, hx, hacc, hbx, htot⟩ hsub hpl hlt F₁ N₁
    cases hx with
    | @cons _ b _ bs hv hr =>
      obtain ⟨va, vt, kv, rfl, hvm, hkv⟩ := hv
      obtain ⟨fa, fn, fvs, rfl, hfm, hfe⟩ := hacc
      dsimp only [envOf] at F₁ N₁
      k_steps
      rename News _ _ _ _ => kN2
      have hs1 : ∀ p ∈ news, p ∈ (I, o) :: news₁ := fun p hp => .tail _ (hsub p (.tail _ hp))
      refine' Con.at kN2 (W _ _ _ _ _ _ _ (hn.monoP (SubP.of hs1)) (hkv.monoP (SubP.of fun p hp => .tail _ hp)) (ht.monoP (SubP.of hs1)) (hbx _ (.head _))) ?B ?F ?X ?T ?k ?d ?u ?_
      walk_at "con"
      intro r' tl' h' tk' F' N' hP
      obtain ⟨ra, rn, rvs, rfl, rm, re⟩ := hP
      (try dsimp only)
      (try k_fold)
      have hz1 : fvs.length + rvs.length ≤ sizeLine := by
        rw [sizeLine_eq, hfe.length, re.length]
        have := congrArg List.length htot
        simp only [eachF, List.flatMap_cons, List.length_append] at this hz
        omega
      k_steps
      rename News _ _ _ _ => kN3
      rename Fr _ _ _ _ => kF3
      dsimp only [AccPost]
      refine AccEnd.intro kF3 kN3 (.tail _ (List.mem_append.mpr (.inr (.head _)))) (fun p hp => .tail _ (List.mem_append.mpr (.inr (.tail _ (hsub p hp))))) rfl ?e hpl fun hP => ?_
      case e => walk_at "same"
      have hQ : SubP (tl' ++ (I, o) :: news₁) (Rest I _) := fun p hp => hP p (.tail _ hp)
      have hQ1 : SubP news₁ (Rest I _) := fun p hp => hQ p (List.mem_append.mpr (.inr (.tail _ hp)))
      exact ⟨bs, acc ++ ways text folds n b.1 b.2, hr.imp fun _ _ h => h.monoP hQ1, ⟨_, _, _, rfl, hP.lst (.head _), (hfe.imp fun _ _ h => h.monoP hQ1).append (re.imp fun _ _ h => h.monoP hQ)⟩, fun s hs => hbx s (.tail _ hs), by rw [← htot]; simp [eachF]⟩
  case done => 
    rintro fv u news₁ h tk ⟨xs, acc, hx, hacc, hbx, htot⟩ hsub F₁ N₁
    cases hx
    k_steps
    rename News _ _ _ _ => kN3
    rename Fr _ _ _ _ => kF3
    obtain ⟨fa, fn, fvs, rfl, hfm, hfe⟩ := hacc
    have hP : SubP news₁ (news₁ ++ news) := SubP.of fun p hp => List.mem_append.mpr (.inl hp)
    refine hret _ news₁ _ _ kF3 (dup0 kN3 fun p hp => hsub p (.tail _ hp)) ⟨_, _, _, rfl, hP.lst hfm, ?_⟩
    rw [show eachF (ways text folds n) sts = acc from by rw [← htot]; simp [eachF]]
    exact hfe.imp fun _ _ h => h.monoP hP
end Mine
end
section
open PySem PySem.W PyProof.Rows PyProof.V
set_option Elab.async false
set_option maxRecDepth 100000
set_option maxHeartbeats 8000000
namespace Mine

theorem setup_W6_1 : True := by
  k_with_none
  k_with "mem0" => first | with_reducible exact List.mem_cons_self | (refine List.mem_cons_of_mem _ ?_; k_mem)
  k_with "all0" => first | assumption | exact fun p hp => Nat.ne_of_lt (ktn_ltOf (by assumption) p hp)
  k_with "execs cons" => (k_here; k_fold)
  k_with "eval Tuple" => (k_here; k_fold)
  k_with "eval List" => (k_here; k_fold)
  k_with "eval BinOp" => (k_here; k_fold)
  k_with "exec Assign" => (k_here; k_fold)
  k_with "eval IfExp" => (k_here; k_fold)
  k_with "binaryOp Add ref ref" => (k_here; (with_reducible show wpAny _ _ (binaryOp Operator.Add (Value.ref _) (Value.ref _)) _ _ _); k_dflt (refine' add_lists ?zzF ?zzN ?zzl ?zzb ?_ ?zzz; (case zzF => k_asm); (case zzN => k_asm); (case zzl => exact News.isList (by k_asm) (by k_mem)); (case zzb => exact News.isList (by k_asm) (by k_mem)); (case zzz => first | assumption | (simp only [List.length_cons, List.length_nil] at *; rw [sizeLine_eq] at *; omega))); intro h' F' N'; (try dsimp only))
  k_with "eval Call" => (k_here; (try k_fold); k_dflt (refine Call_ ?_))
  k_with "exec For Tuple Name cons nil" => (k_here; (rename Fr _ _ _ _ => lF'); (with_unfolding_all refine' For_turns lF' ?_; k_whole))
  k_with "exec For Tuple Call cons nil" => (k_here; (rename Fr _ _ _ _ => lF'); (with_unfolding_all refine' For_turns lF' ?_; k_whole))
  k_with "AccPost" => dsimp only [AccPost]
  k_with "same" => (intro z h1 h3; (simp only [List.contains_cons, List.contains_nil, Bool.or_false, Bool.or_eq_false_iff, beq_eq_false_iff_ne, ne_eq] at h3); (simp [h1, h3]; done))
  k_with "app" => (intro p hp; simp only [List.mem_append, List.mem_cons, hp, true_or, or_true])
  k_with "con" => ((case B => k_asm); (case F => k_asm); (case X => k_asm); (case T => k_asm); (case k => first | exact rfl | assumption); (case d => (first | exact dlt (by assumption) _ (by first | exact Nat.le_refl _ | exact Nat.le_of_ble_eq_true rfl | decide | omega) | ((try simp only [depth_deeper]); (try dsimp only [ktrTop]); first | exact dlt (by assumption) _ (by first | exact Nat.le_refl _ | exact Nat.le_of_ble_eq_true rfl | decide | omega) | exact dlt3 (by assumption) _ (by first | exact Nat.le_refl _ | exact Nat.le_of_ble_eq_true rfl | decide | omega)) | ((try simp only [depth_deeper, recursionLimit] at *); (try dsimp only [ktrTop] at *); omega))); (case u => (first | exact ult (by assumption) _ (by first | exact Nat.le_refl _ | exact Nat.le_of_ble_eq_true rfl | decide | omega) | exact ult2 (by assumption) | ((try simp only [units_deeper]); (try dsimp only [ktrTop]); first | exact ult (by assumption) _ (by first | exact Nat.le_refl _ | exact Nat.le_of_ble_eq_true rfl | decide | omega) | exact ult2 (by assumption) | exact ult3 (by assumption) _ (by first | exact Nat.le_refl _ | exact Nat.le_of_ble_eq_true rfl | decide | omega)) | ((try simp only [units_deeper] at *); (try dsimp only [ktrTop] at *); omega))))
  trivial
theorem star_ok (w : World) (text : List Int) (folds : Bool) (size : Nat) (n : Nd) (W : WaysC w text folds size n) (least : Nat) (most : Int) (g : Bool) :
    ∀ (f : Nat) (news : List (Addr × Obj)) (nv kv tv : Value) (p : Nat) (pt : Tok) (c : Kept) (hn : NodeIn news nv (.times least most g n)) (hkv : KeptIn w news kv c) (ht : TextIn news tv text) (hp : p ≤ text.length) (hf : text.length - p < f)
    (hz : (starF (ways text folds n) g f p c).length ≤ 1000000),
    Con w (size + f) 215 [nv, .int (p : Int) pt, kv, tv, .bool folds] news (fun ns r => StsIn w ns r (starF (ways text folds n) g f p c))
  | 0 => fun news nv kv tv p pt c hn hkv ht hp hf => by omega
  | f + 1 => fun news nv kv tv p pt c hn hkv ht hp hf hz => by
    have IH := star_ok w text folds size n W least most g f
    have hnn := hn
    cases hn with
    | @times na nt nt1 nt2 _ _ _ v _ hnm hsub0 =>
    unfold Con
    k_fill
    intro pg loose mean mg mb dp un gd cn cs a ccd cl outer A₀ base h₀ L m s Q E B F X N T hk hd hu hret
    have hz0 : ((ways text folds n p c).flatMap fun s => if p < s.1 then starF (ways text folds n) g f s.1 s.2 else []).length ≤ 999999 := by
      rw [starF_q2] at hz
      split at hz <;> simp only [List.length_append, List.length_cons, List.length_nil] at hz <;> omega
    refine wpAny_call ?_
    k_dflt ktr_enter
    k_steps
    rename News _ _ _ _ => kN1
    refine' Con.at kN1 (W _ _ _ _ _ _ _ (hsub0.monoP (SubP.of fun p hp => .tail _ hp)) (hkv.monoP (SubP.of fun p hp => .tail _ hp)) (ht.monoP (SubP.of fun p hp => .tail _ hp)) hp) ?B ?F ?X ?T ?k ?d ?u ?_
    walk_at "con"
    intro r' tl' h' tk' F' N' hP
    obtain ⟨ra, rn, rvs, rfl, rm, re⟩ := hP
    (try dsimp only)
    (try k_fold)
    refine turns_acc (y := Str.ofString "more_here") [Str.ofString "end", Str.ofString "later"] (fun r ns fv => ∃ xs acc, Each (StIn w ns) r xs ∧ StsIn w ns fv acc ∧ (∀ s ∈ xs, p ≤ s.1 ∧ s.1 ≤ text.length) ∧ acc ++ (xs.flatMap fun s => if p < s.1 then starF (ways text folds n) g f s.1 s.2 else []) = ((ways text folds n p c).flatMap fun s => if p < s.1 then starF (ways text folds n) g f s.1 s.2 else [])) rfl F' N' rm rfl ?h0 ?turn ?done
    case h0 => exact ⟨_, [], re, ⟨_, _, [], rfl, List.mem_append.mpr (.inr (.head _)), .nil⟩, fun s hs => ways_bnd n p c hp s hs, rfl⟩
    case turn =>
      rintro v r fv u news₁ I o h tk ⟨xs, acc, hx, hacc, hbx, htot⟩ hsub hpl hlt F₁ N₁
      have hsub' : ∀ p ∈ news, p ∈ news₁ := fun p hp => hsub p (List.mem_append.mpr (.inr (.tail _ hp)))
      cases hx with
      | @cons _ b _ bs hv hr =>
        obtain ⟨va, vt, kv, rfl, hvm, hkv'⟩ := hv
        obtain ⟨fa, fn, fvs, rfl, hfm, hfe⟩ := hacc
        dsimp only [envOf] at F₁ N₁
        obtain ⟨hb1, hb2⟩ := hbx _ (.head _)
        have hin : SubP news ((I, o) :: news₁) := SubP.of fun p hp => .tail _ (hsub' p hp)
        k_steps
        · rename News _ _ _ _ => kN2
          have hlt1 : p < b.1 := by omega
          have hz2 : (starF (ways text folds n) g f b.1 b.2).length + acc.length ≤ 999999 := by
            rw [← htot] at hz0
            simp only [List.flatMap_cons, List.length_append, hlt1, if_true] at hz0
            omega
          refine' Con.at kN2 (IH _ _ _ _ _ _ _ (hnn.monoP hin) (hkv'.monoP (SubP.of fun p hp => .tail _ hp)) (ht.monoP hin) hb2 (by omega) (by omega)) ?B ?F ?X ?T ?k ?d ?u ?_
          walk_at "con"
          intro r' tl2 h' tk' F' N' hP
          obtain ⟨qa, qn, qvs, rfl, qm, qe⟩ := hP
          (try dsimp only)
          (try k_fold)
          have hz1 : fvs.length + qvs.length ≤ sizeLine := by
            rw [sizeLine_eq, hfe.length, qe.length]; omega
          k_steps
          rename News _ _ _ _ => kN3
          rename Fr _ _ _ _ => kF3
          refine' AccEnd.intro kF3 kN3 (.tail _ (List.mem_append.mpr (.inr (.head _)))) (fun p hp => .tail _ (List.mem_append.mpr (.inr (.tail _ (hsub p hp))))) ?y ?e hpl ?J
          case y => with_unfolding_all exact rfl
          case e => walk_at "same"
          intro hP
          have hQ : SubP (tl2 ++ (I, o) :: news₁) (Rest I _) := fun p hp => hP p (.tail _ hp)
          have hQ1 : SubP news₁ (Rest I _) := fun p hp => hQ p (List.mem_append.mpr (.inr (.tail _ hp)))
          exact ⟨bs, acc ++ starF (ways text folds n) g f b.1 b.2, hr.imp fun _ _ h => h.monoP hQ1, ⟨_, _, _, rfl, hP.lst (.head _), (hfe.imp fun _ _ h => h.monoP hQ1).append (qe.imp fun _ _ h => h.monoP hQ)⟩, fun s hs => hbx s (.tail _ hs), by rw [← htot]; simp [hlt1]⟩
        · rename News _ _ _ _ => kN3
          rename Fr _ _ _ _ => kF3
          have hlt1 : ¬ p < b.1 := by omega
          refine' AccEnd.intro kF3 kN3 (.head _) (fun p hp => .tail _ (hsub p hp)) ?y2 ?e2 hpl ?J2
          case y2 => with_unfolding_all exact rfl
          case e2 => walk_at "same"
          intro hP
          have hQ1 : SubP news₁ (Rest I _) := fun p hp => hP p (.tail _ hp)
          exact ⟨bs, acc, hr.imp fun _ _ h => h.monoP hQ1, ⟨_, _, _, rfl, hQ1.lst hfm, hfe.imp fun _ _ h => h.monoP hQ1⟩, fun s hs => hbx s (.tail _ hs), by rw [← htot]; simp [hlt1]⟩
    case done =>
      rintro fv u news₁ h tk ⟨xs, acc, hx, hacc, hbx, htot⟩ hsub F₁ N₁
      have hsub' : ∀ p ∈ news, p ∈ news₁ := fun p hp => hsub p (List.mem_append.mpr (.inr (.tail _ hp)))
      cases hx
      obtain ⟨fa, fn, fvs, rfl, hfm, hfe⟩ := hacc
      dsimp only [envOf] at F₁ N₁
      have hz1 : fvs.length ≤ 999999 := by
        rw [hfe.length]
        simp only [List.flatMap_nil, List.append_nil] at htot
        rw [htot]; exact hz0
      have hnm1 := hsub' _ hnm
      have hkv1 := hkv.monoP (SubP.of hsub')
      simp only [List.flatMap_nil, List.append_nil] at htot
      cases g
      · k_steps
        rename News _ _ _ _ => kN3
        rename Fr _ _ _ _ => kF3
        refine hret _ _ _ _ kF3 (dup0 kN3 fun p hp => .tail _ (.tail _ (.tail _ (hsub' p hp)))) ⟨_, _, _, rfl, List.mem_append.mpr (.inl (.head _)), ?_⟩
        rw [show starF (ways text folds n) false (f + 1) p c = (p, c) :: acc from by simp [starF_q1, starF_q2, htot]]
        exact .cons ⟨_, _, _, rfl, .tail _ (.tail _ (.head _)), hkv1.monoP subA3⟩ (hfe.imp fun _ _ h => h.monoP subA3)
      · k_steps
        rename News _ _ _ _ => kN3
        rename Fr _ _ _ _ => kF3
        refine hret _ _ _ _ kF3 (dup0 kN3 fun p hp => .tail _ (.tail _ (.tail _ (hsub' p hp)))) ⟨_, _, _, rfl, List.mem_append.mpr (.inl (.head _)), ?_⟩
        rw [show starF (ways text folds n) true (f + 1) p c = acc ++ [(p, c)] from by simp [starF_q1, starF_q2, htot]]
        exact (hfe.imp fun _ _ h => h.monoP subA3).append (.cons ⟨_, _, _, rfl, .tail _ (.tail _ (.head _)), hkv1.monoP subA3⟩ .nil)
end Mine
end
section
open PySem PySem.W PyProof.Rows PyProof.V
set_option Elab.async false
set_option maxRecDepth 100000
set_option maxHeartbeats 8000000
namespace Mine

theorem setup_W7_1 : True := by
  k_with_none
  k_with "mem0" => first | with_reducible exact List.mem_cons_self | (refine List.mem_cons_of_mem _ ?_; k_mem)
  k_with "all0" => first | assumption | exact fun p hp => Nat.ne_of_lt (ktn_ltOf (by assumption) p hp)
  k_with "execs cons" => (k_here; k_fold; (try ((rename Fr _ _ _ _ => lF9); (refine FrL lF9 ?_); clear lF9; intro mL9 lF9)))
  k_with "eval Tuple" => (k_here; k_fold)
  k_with "eval List" => (k_here; k_fold)
  k_with "eval BinOp" => (k_here; k_fold)
  k_with "exec Assign" => (k_here; k_fold)
  k_with "eval IfExp" => (k_here; k_fold)
  k_with "binaryOp Add ref ref" => (k_here; (with_reducible show wpAny _ _ (binaryOp Operator.Add (Value.ref _) (Value.ref _)) _ _ _); k_dflt (refine' add_lists ?zzF ?zzN ?zzl ?zzb ?_ ?zzz; (case zzF => k_asm); (case zzN => k_asm); (case zzl => exact News.isList (by k_asm) (by k_mem)); (case zzb => exact News.isList (by k_asm) (by k_mem)); (case zzz => first | assumption | (simp only [List.length_cons, List.length_nil] at *; rw [sizeLine_eq] at *; omega))); intro h' F' N'; (try dsimp only))
  k_with "eval Call" => (k_here; (try k_fold); k_dflt (refine Call_ ?_))
  k_with "exec For Tuple Name cons nil" => (k_here; (rename Fr _ _ _ _ => lF'); (with_unfolding_all refine' For_turns lF' ?_; k_whole))
  k_with "exec For Tuple Call cons nil" => (k_here; (rename Fr _ _ _ _ => lF'); (with_unfolding_all refine' For_turns lF' ?_; k_whole))
  k_with "AccPost" => dsimp only [AccPost]
  k_with "same" => (intro z h1 h3; (simp only [List.contains_cons, List.contains_nil, Bool.or_false, Bool.or_eq_false_iff, beq_eq_false_iff_ne, ne_eq] at h3); (simp +zetaDelta [h1, h3]; done))
  k_with "app" => (intro p hp; simp only [List.mem_append, List.mem_cons, hp, true_or, or_true])
  k_with "con" => ((case B => k_asm); (case F => k_asm); (case X => k_asm); (case T => k_asm); (case k => first | exact rfl | assumption); (case d => (first | exact dlt (by assumption) _ (by first | exact Nat.le_refl _ | exact Nat.le_of_ble_eq_true rfl | decide | omega) | ((try simp only [depth_deeper]); (try dsimp only [ktrTop]); first | exact dlt (by assumption) _ (by first | exact Nat.le_refl _ | exact Nat.le_of_ble_eq_true rfl | decide | omega) | exact dlt3 (by assumption) _ (by first | exact Nat.le_refl _ | exact Nat.le_of_ble_eq_true rfl | decide | omega)) | ((try simp only [depth_deeper, recursionLimit] at *); (try dsimp only [ktrTop] at *); omega))); (case u => (first | exact ult (by assumption) _ (by first | exact Nat.le_refl _ | exact Nat.le_of_ble_eq_true rfl | decide | omega) | exact ult2 (by assumption) | ((try simp only [units_deeper]); (try dsimp only [ktrTop]); first | exact ult (by assumption) _ (by first | exact Nat.le_refl _ | exact Nat.le_of_ble_eq_true rfl | decide | omega) | exact ult2 (by assumption) | exact ult3 (by assumption) _ (by first | exact Nat.le_refl _ | exact Nat.le_of_ble_eq_true rfl | decide | omega)) | ((try simp only [units_deeper] at *); (try dsimp only [ktrTop] at *); omega))))
  trivial
theorem some_ok (w : World) (text : List Int) (folds : Bool) (size : Nat) (n : Nd) (W : WaysC w text folds size n) (least : Nat) (most : Int) (g : Bool) :
    ∀ (f : Nat) (news : List (Addr × Obj)) (nv kv tv : Value) (li : Int) (lt : Tok) (p : Nat) (pt : Tok) (c : Kept) (hli : li = (f : Int)) (hn : NodeIn news nv (.times least most g n)) (hkv : KeptIn w news kv c) (ht : TextIn news tv text) (hp : p ≤ text.length) 
    (hz : (someF (ways text folds n) g f p c).length ≤ 1000000),
    Con w (size + f + 1) 222 [nv, .int li lt, .int (p : Int) pt, kv, tv, .bool folds] news (fun ns r => StsIn w ns r (someF (ways text folds n) g f p c))
  | 0 => fun news nv kv tv li lt p pt c hli hn hkv ht hp hz => by
    subst hli
    unfold Con
    k_fill
    intro pg loose mean mg mb dp un gd cn cs a ccd cl outer A₀ base h₀ L m s Q E B F X N T hk hd hu hret
    refine wpAny_call ?_
    k_dflt ktr_enter
    rename Fr _ _ _ _ => lF9
    refine FrL lF9 ?_
    clear lF9
    intro mL9 lF9
    k_steps
    rename News _ _ _ _ => kN3
    rename Fr _ _ _ _ => kF3
    exact hret _ [_, _] _ _ kF3 kN3 ⟨_, _, _, rfl, .head _, .cons ⟨_, _, _, rfl, .tail _ (.head _), hkv.monoP (SubP.of fun p hp => .tail _ (.tail _ hp))⟩ .nil⟩
  | f + 1 => fun news nv kv tv li lt p pt c hli hn hkv ht hp hz => by
    have IH := some_ok w text folds size n W least most g f
    have hnn := hn
    cases hn with
    | @times na nt nt1 nt2 _ _ _ v _ hnm hsub0 =>
    unfold Con
    k_fill
    intro pg loose mean mg mb dp un gd cn cs a ccd cl outer A₀ base h₀ L m s Q E B F X N T hk hd hu hret
    have hz0 : ((ways text folds n p c).flatMap fun s => someF (ways text folds n) g f s.1 s.2).length ≤ 999999 := by
      rw [someF_q2] at hz
      split at hz <;> simp only [List.length_append, List.length_cons, List.length_nil] at hz <;> omega
    refine wpAny_call ?_
    k_dflt ktr_enter
    rename Fr _ _ _ _ => lF9
    refine FrL lF9 ?_
    clear lF9
    intro mL9 lF9
    k_steps
    · exfalso; omega
    rename News _ _ _ _ => kN1
    refine' Con.at kN1 (W _ _ _ _ _ _ _ (hsub0.monoP (SubP.of fun p hp => .tail _ hp)) (hkv.monoP (SubP.of fun p hp => .tail _ hp)) (ht.monoP (SubP.of fun p hp => .tail _ hp)) hp) ?B ?F ?X ?T ?k ?d ?u ?_
    walk_at "con"
    intro r' tl' h' tk' F' N' hP
    obtain ⟨ra, rn, rvs, rfl, rm, re⟩ := hP
    (try dsimp only)
    (try k_fold)
    refine turns_acc (y := Str.ofString "more_here") [Str.ofString "end", Str.ofString "later"] (fun r ns fv => ∃ xs acc, Each (StIn w ns) r xs ∧ StsIn w ns fv acc ∧ (∀ s ∈ xs, p ≤ s.1 ∧ s.1 ≤ text.length) ∧ acc ++ (xs.flatMap fun s => someF (ways text folds n) g f s.1 s.2) = ((ways text folds n p c).flatMap fun s => someF (ways text folds n) g f s.1 s.2)) rfl F' N' rm rfl ?h0 ?turn ?done
    case h0 => exact ⟨_, [], re, ⟨_, _, [], rfl, List.mem_append.mpr (.inr (.head _)), .nil⟩, fun s hs => ways_bnd n p c hp s hs, rfl⟩
    case turn =>
      rintro v r fv u news₁ I o h tk ⟨xs, acc, hx, hacc, hbx, htot⟩ hsub hpl hlt F₁ N₁
      have hsub' : ∀ p ∈ news, p ∈ news₁ := fun p hp => hsub p (List.mem_append.mpr (.inr (.tail _ hp)))
      cases hx with
      | @cons _ b _ bs hv hr =>
        obtain ⟨va, vt, kv, rfl, hvm, hkv'⟩ := hv
        obtain ⟨fa, fn, fvs, rfl, hfm, hfe⟩ := hacc
        dsimp only [envOf] at F₁ N₁
        obtain ⟨hb1, hb2⟩ := hbx _ (.head _)
        have hin : SubP news ((I, o) :: news₁) := SubP.of fun p hp => .tail _ (hsub' p hp)
        k_steps
        · rename News _ _ _ _ => kN2
          have hz2 : (someF (ways text folds n) g f b.1 b.2).length + acc.length ≤ 999999 := by
            rw [← htot] at hz0
            simp only [List.flatMap_cons, List.length_append] at hz0
            omega
          refine' Con.at kN2 (IH _ _ _ _ _ _ _ _ _ (by omega) (hnn.monoP hin) (hkv'.monoP (SubP.of fun p hp => .tail _ hp)) (ht.monoP hin) hb2 (by omega)) ?B ?F ?X ?T ?k ?d ?u ?_
          walk_at "con"
          intro r' tl2 h' tk' F' N' hP
          obtain ⟨qa, qn, qvs, rfl, qm, qe⟩ := hP
          (try dsimp only)
          (try k_fold)
          have hz1 : fvs.length + qvs.length ≤ sizeLine := by
            rw [sizeLine_eq, hfe.length, qe.length]; omega
          k_steps
          rename News _ _ _ _ => kN3
          rename Fr _ _ _ _ => kF3
          refine' AccEnd.intro kF3 kN3 (.tail _ (List.mem_append.mpr (.inr (.head _)))) (fun p hp => .tail _ (List.mem_append.mpr (.inr (.tail _ (hsub p hp))))) ?y ?e hpl ?J
          case y => with_unfolding_all exact rfl
          case e => walk_at "same"
          intro hP
          have hQ : SubP (tl2 ++ (I, o) :: news₁) (Rest I _) := fun p hp => hP p (.tail _ hp)
          have hQ1 : SubP news₁ (Rest I _) := fun p hp => hQ p (List.mem_append.mpr (.inr (.tail _ hp)))
          exact ⟨bs, acc ++ someF (ways text folds n) g f b.1 b.2, hr.imp fun _ _ h => h.monoP hQ1, ⟨_, _, _, rfl, hP.lst (.head _), (hfe.imp fun _ _ h => h.monoP hQ1).append (qe.imp fun _ _ h => h.monoP hQ)⟩, fun s hs => hbx s (.tail _ hs), by rw [← htot]; simp⟩
    case done =>
      rintro fv u news₁ h tk ⟨xs, acc, hx, hacc, hbx, htot⟩ hsub F₁ N₁
      have hsub' : ∀ p ∈ news, p ∈ news₁ := fun p hp => hsub p (List.mem_append.mpr (.inr (.tail _ hp)))
      cases hx
      obtain ⟨fa, fn, fvs, rfl, hfm, hfe⟩ := hacc
      dsimp only [envOf] at F₁ N₁
      have hz1 : fvs.length ≤ 999999 := by
        rw [hfe.length]
        simp only [List.flatMap_nil, List.append_nil] at htot
        rw [htot]; exact hz0
      have hnm1 := hsub' _ hnm
      have hkv1 := hkv.monoP (SubP.of hsub')
      simp only [List.flatMap_nil, List.append_nil] at htot
      cases g
      · k_steps
        rename News _ _ _ _ => kN3
        rename Fr _ _ _ _ => kF3
        refine hret _ _ _ _ kF3 (dup0 kN3 fun p hp => .tail _ (.tail _ (.tail _ (hsub' p hp)))) ⟨_, _, _, rfl, List.mem_append.mpr (.inl (.head _)), ?_⟩
        rw [show someF (ways text folds n) false (f + 1) p c = (p, c) :: acc from by simp [someF_q1, someF_q2, htot]]
        exact .cons ⟨_, _, _, rfl, .tail _ (.tail _ (.head _)), hkv1.monoP subA3⟩ (hfe.imp fun _ _ h => h.monoP subA3)
      · k_steps
        rename News _ _ _ _ => kN3
        rename Fr _ _ _ _ => kF3
        refine hret _ _ _ _ kF3 (dup0 kN3 fun p hp => .tail _ (.tail _ (.tail _ (hsub' p hp)))) ⟨_, _, _, rfl, List.mem_append.mpr (.inl (.head _)), ?_⟩
        rw [show someF (ways text folds n) true (f + 1) p c = acc ++ [(p, c)] from by simp [someF_q1, someF_q2, htot]]
        exact (hfe.imp fun _ _ h => h.monoP subA3).append (.cons ⟨_, _, _, rfl, .tail _ (.tail _ (.head _)), hkv1.monoP subA3⟩ .nil)
end Mine
end
section
open PySem PySem.W PyProof.Rows PyProof.V
set_option Elab.async false
set_option maxRecDepth 100000
set_option maxHeartbeats 8000000
namespace Mine

theorem setup_W8_1 : True := by
  k_with_none
  k_with "mem0" => first | with_reducible exact List.mem_cons_self | (refine List.mem_cons_of_mem _ ?_; k_mem)
  k_with "all0" => first | assumption | exact fun p hp => Nat.ne_of_lt (ktn_ltOf (by assumption) p hp)
  k_with "execs cons" => (k_here; k_fold; (try ((rename Fr _ _ _ _ => lF9); (refine FrL lF9 ?_); clear lF9; intro mL9 lF9)))
  k_with "eval Tuple" => (k_here; k_fold)
  k_with "eval List" => (k_here; k_fold)
  k_with "eval BinOp" => (k_here; k_fold)
  k_with "exec Assign" => (k_here; k_fold)
  k_with "eval IfExp" => (k_here; k_fold)
  k_with "binaryOp Add ref ref" => (k_here; (with_reducible show wpAny _ _ (binaryOp Operator.Add (Value.ref _) (Value.ref _)) _ _ _); k_dflt (refine' add_lists ?zzF ?zzN ?zzl ?zzb ?_ ?zzz; (case zzF => k_asm); (case zzN => k_asm); (case zzl => exact News.isList (by k_asm) (by k_mem)); (case zzb => exact News.isList (by k_asm) (by k_mem)); (case zzz => first | assumption | (simp only [List.length_cons, List.length_nil] at *; rw [sizeLine_eq] at *; omega))); intro h' F' N'; (try dsimp only))
  k_with "eval Call" => (k_here; (try k_fold); k_dflt (refine Call_ ?_))
  k_with "exec For Tuple Name cons nil" => (k_here; (rename Fr _ _ _ _ => lF'); (with_unfolding_all refine' For_turns lF' ?_; k_whole))
  k_with "exec For Tuple Call cons nil" => (k_here; (rename Fr _ _ _ _ => lF'); (with_unfolding_all refine' For_turns lF' ?_; k_whole))
  k_with "AccPost" => dsimp only [AccPost]
  k_with "same" => (intro z h1 h3; (simp only [List.contains_cons, List.contains_nil, Bool.or_false, Bool.or_eq_false_iff, beq_eq_false_iff_ne, ne_eq] at h3); (simp +zetaDelta [h1, h3]; done))
  k_with "mem" => first | with_reducible assumption | (refine List.mem_cons_of_mem _ ?_; walk_at "mem") | (refine List.mem_append.mpr (Or.inr ?_); walk_at "mem") | (refine List.mem_append.mpr (Or.inl ?_); walk_at "mem")
  k_with "app" => (intro p hp; walk_at "mem")
  k_with "con" => ((case B => k_asm); (case F => k_asm); (case X => k_asm); (case T => k_asm); (case k => first | exact rfl | assumption); (case d => (first | exact dlt (by assumption) _ (by first | exact Nat.le_refl _ | exact Nat.le_of_ble_eq_true rfl | decide | omega) | ((try simp only [depth_deeper]); (try dsimp only [ktrTop]); first | exact dlt (by assumption) _ (by first | exact Nat.le_refl _ | exact Nat.le_of_ble_eq_true rfl | decide | omega) | exact dlt3 (by assumption) _ (by first | exact Nat.le_refl _ | exact Nat.le_of_ble_eq_true rfl | decide | omega)) | ((try simp only [depth_deeper, recursionLimit] at *); (try dsimp only [ktrTop] at *); omega))); (case u => (first | exact ult (by assumption) _ (by first | exact Nat.le_refl _ | exact Nat.le_of_ble_eq_true rfl | decide | omega) | exact ult2 (by assumption) | ((try simp only [units_deeper]); (try dsimp only [ktrTop]); first | exact ult (by assumption) _ (by first | exact Nat.le_refl _ | exact Nat.le_of_ble_eq_true rfl | decide | omega) | exact ult2 (by assumption) | exact ult3 (by assumption) _ (by first | exact Nat.le_refl _ | exact Nat.le_of_ble_eq_true rfl | decide | omega)) | ((try simp only [units_deeper] at *); (try dsimp only [ktrTop] at *); omega))))
  k_with "enterC" => (refine' code_defC ?zzk1 ?zzk2 ?zzk3 ?zzk4 ?zzk5 ?zzkA ?zzkF ?zzkK ?zzk6 ?zzk7 ?zzk8 ?zzk9 ?zzkB ?zzkD ?_ ?zzc2 ?zzc3 ?zzc4; (case zzkA => exact rfl); (case zzkF => exact rfl); (case zzkK => assumption); (case zzk1 => k_asm); (case zzk2 => k_asm); (case zzk3 => k_asm); (case zzk4 => k_asm); (case zzk5 => k_asm); (case zzk6 => k_is); (case zzk7 => k_is); (case zzk8 => ktr_room); (case zzk9 => exact BindsTo.of_eq rfl); (case zzkB => exact rfl); (case zzkD => decide +kernel); (case zzc2 => exact rfl); (case zzc3 => exact rfl); (case zzc4 => exact rfl); k_whole; intro g' L' h' tk' cells' FG' F' N' Y' B' X' T' l1; (try k_lt l1); k_cells Y'; (try simp only [List.cons_append, List.nil_append] at N'); (try dsimp only); (try k_fold))
  trivial
theorem Con.mono {w : World} {size size' : Nat} {f : Addr} {vs : List Value} {news : List (Addr × Obj)} {Post : List (Addr × Obj) → Value → Prop} (C : Con w size f vs news Post) (h : size ≤ size') : Con w size' f vs news Post := by
  intro p loose mean mg mb dp un gd cn cs a ccd cl outer A₀ base h₀ L m s Q E B F X N T hk hd hu hret
  exact C _ _ _ _ _ _ _ _ _ _ _ _ _ _ _ _ _ _ _ _ _ _ B F X N T hk (by omega) (by omega) hret
section
variable {w : World} {A : Around} {E : Value → Shared → Prop} {s : Shared} {h₀ : Heap} {L : Addr} {news : List (Addr × Obj)} {Q : Value → Shared → Prop}
theorem len_text {prog : Program} {ta : Addr} {tn : Nat} {tvs : List Value} {text : List Int} (N : News h₀ L s.heap news) (hm : (ta, listOf tvs.toArray tn) ∈ news) (hti : IntsAre tvs text) (htl : text.length ≤ 4)
    (h : Q (.int (text.length : Int) (s.toks + 1)) { s with toks := s.toks + 1 + 1 }) : wpAny (model prog w) A (call (.builtin "len") [.ref ta]) Q E s := by
  have e : ((tvs.toArray.size : Nat) : Int) = (text.length : Int) := by simp [hti.length]
  refine PyProof.Rows.len_list (N.isList hm) (by rw [e]; omega) ?_
  rw [e]; exact h
theorem item_text {prog : Program} {value slice : Expr} {ta : Addr} {tn : Nat} {tvs : List Value} {text : List Int} {k : Nat} {u : Tok} {c : Int} (N : News h₀ L s.heap news) (hm : (ta, listOf tvs.toArray tn) ∈ news) (hti : IntsAre tvs text) (htl : text.length ≤ 4) (hc : text[k]? = some c)
    (h : ∀ t, Q (.int c t) s)
    (hs : subscripted slice false (.ref ta) (.int (k : Int) u) = operate [.ref ta, .int (k : Int) u] (getItem (.ref ta) (.int (k : Int) u))) (hg : ∀ r, letTemporaryGo value (.ref ta) r = pure ()) :
    wpAny (model prog w) A (subscriptTail value slice (.ref ta) (.int (k : Int) u)) Q E s := by
  have hk : k < text.length := (List.getElem?_eq_some_iff.mp hc).1
  obtain ⟨t, ht⟩ := hti.get k c hc
  refine PyProof.Rows.item_list (x := .int c t) (N.isList hm) (by omega) (by omega) ?_ (h t) hs hg
  simpa using ht
end
theorem leaf_ok (w : World) (text : List Int) (folds : Bool) (t : Int → Bool) (r : Rw) (news : List (Addr × Obj)) (nv kv tv : Value) (p : Nat) (pt : Tok) (c : Kept) (hR : RowIn news nv r) (hr : r.tk folds = some t) (hr2 : ∀ c, r = .chr c → 0 ≤ c ∧ c < 1000) (hkv : KeptIn w news kv c) (ht : TextIn news tv text) (hp : p ≤ text.length) :
    Con w 3 227 [nv, .int (p : Int) pt, kv, tv, .bool folds] news (fun ns r => StsIn w ns r (one text t p c)) := by
  have hR0 := hR
  obtain ⟨ta, tn, tvs, rfl, htm, hti, htb, htl⟩ := ht
  unfold Con
  k_fill
  intro pg loose mean mg mb dp un gd cn cs a ccd cl outer A₀ base h₀ L m s Q E B F X N T hk hd hu hret
  have hcode : ∀ h : (p : Int) < (text.length : Int), 0 ≤ text.getD (p : Int).toNat 0 ∧ text.getD (p : Int).toNat 0 < 1000 ∧ text[p]? = some (text.getD (p : Int).toNat 0) := fun h => by
    have h1 : p < text.length := by omega
    have e : text.getD (p : Int).toNat 0 = text[p] := by simp [h1]
    rw [e]
    have := htb _ (List.getElem_mem h1)
    exact ⟨this.1, this.2, by simp [h1]⟩
  cases hR
  all_goals (first | (cases hr; done) | skip)
  all_goals (
    refine wpAny_call ?_
    k_dflt (walk_at "enterC")
    k_steps
    (rename News _ _ _ _ => kN)
    refine len_text kN (.tail _ htm) hti htl ?_
    k_steps)
  all_goals first
    | (rename News _ _ _ _ => kN1
       rename (p : Int) < _ => hlt
       obtain ⟨c0, c1, ce⟩ := hcode hlt
       refine' Con.at kN1 (takes_ok w _ _ _ t folds _ _ (hR0.monoP (SubP.of fun p hp => .tail _ hp)) hr c0 c1 hr2) ?B ?F ?X ?T ?k ?d ?u ?_
       walk_at "con"
       intro r' tl' h' tk' F' N' hP
       subst hP
       generalize hct : t (text.getD (p : Int).toNat 0) = bt
       cases bt
       · (try dsimp only)
         (try k_fold)
         k_steps
         rename News _ _ _ _ => kN3
         rename Fr _ _ _ _ => kF3
         refine hret _ _ _ _ kF3 (dup0 kN3 (by walk_at "app")) ?_
         rw [show one text t p c = [] from by unfold one; rw [ce]; dsimp only; rw [hct]; rfl]
         exact ⟨_, _, [], rfl, .head _, .nil⟩
       · (try dsimp only)
         (try k_fold)
         k_steps
         rename News _ _ _ _ => kN3
         rename Fr _ _ _ _ => kF3
         refine hret _ _ _ _ kF3 (dup0 kN3 (by walk_at "app")) ?_
         rw [show one text t p c = [(p + 1, c)] from by unfold one; rw [ce]; dsimp only; rw [hct]; rfl]
         exact ⟨_, _, [_], rfl, .head _, .cons ⟨_, _, _, rfl, .tail _ (.head _), hkv.monoP (SubP.of (by walk_at "app"))⟩ .nil⟩)
    | (rename News _ _ _ _ => kN1
       rename Fr _ _ _ _ => kF1
       have e : one text t p c = [] := by
         have : text[p]? = none := List.getElem?_eq_none (by omega)
         simp [one, this]
       refine hret _ _ _ _ kF1 (dup0 kN1 (by walk_at "app")) ?_
       rw [e]
       exact ⟨_, _, [], rfl, .head _, .nil⟩)
end Mine
end
section
open PySem PySem.W PyProof.Rows PyProof.V
set_option Elab.async false
set_option maxRecDepth 100000
set_option maxHeartbeats 8000000
namespace Mine

theorem setup_W9_1 : True := by
  k_with_none
  k_with "mem0" => first | with_reducible exact List.mem_cons_self | (refine List.mem_cons_of_mem _ ?_; k_mem)
  k_with "all0" => first | assumption | exact fun p hp => Nat.ne_of_lt (ktn_ltOf (by assumption) p hp)
  k_with "execs cons" => (k_here; k_fold; (try ((rename Fr _ _ _ _ => lF9); (refine FrL lF9 ?_); clear lF9; intro mL9 lF9)))
  k_with "eval Tuple" => (k_here; k_fold)
  k_with "eval List" => (k_here; k_fold)
  k_with "eval BinOp" => (k_here; k_fold)
  k_with "exec Assign" => (k_here; k_fold)
  k_with "eval IfExp" => (k_here; k_fold)
  k_with "binaryOp Add ref ref" => (k_here; (with_reducible show wpAny _ _ (binaryOp Operator.Add (Value.ref _) (Value.ref _)) _ _ _); k_dflt (refine' add_lists ?zzF ?zzN ?zzl ?zzb ?_ ?zzz; (case zzF => k_asm); (case zzN => k_asm); (case zzl => exact News.isList (by k_asm) (by k_mem)); (case zzb => exact News.isList (by k_asm) (by k_mem)); (case zzz => first | assumption | (simp only [List.length_cons, List.length_nil] at *; rw [sizeLine_eq] at *; omega))); intro h' F' N'; (try dsimp only))
  k_with "eval Call" => (k_here; (try k_fold); k_dflt (refine Call_ ?_))
  k_with "exec For Tuple Name cons nil" => (k_here; (rename Fr _ _ _ _ => lF'); (with_unfolding_all refine' For_turns lF' ?_; k_whole))
  k_with "exec For Tuple Call cons nil" => (k_here; (rename Fr _ _ _ _ => lF'); (with_unfolding_all refine' For_turns lF' ?_; k_whole))
  k_with "AccPost" => dsimp only [AccPost]
  k_with "same" => (intro z h1 h3; (simp only [List.contains_cons, List.contains_nil, Bool.or_false, Bool.or_eq_false_iff, beq_eq_false_iff_ne, ne_eq] at h3); (simp +zetaDelta [h1, h3]; done))
  k_with "mem" => first | with_reducible assumption | with_reducible exact List.mem_cons_self | (refine List.mem_cons_of_mem _ ?_; walk_at "mem") | (refine List.mem_append.mpr (Or.inr ?_); walk_at "mem") | (refine List.mem_append.mpr (Or.inl ?_); walk_at "mem")
  k_with "app" => (intro p hp; walk_at "mem")
  k_with "con" => ((case B => k_asm); (case F => k_asm); (case X => k_asm); (case T => k_asm); (case k => first | exact rfl | assumption); (case d => (first | exact dlt (by assumption) _ (by first | exact Nat.le_refl _ | exact Nat.le_of_ble_eq_true rfl | decide | omega) | ((try simp only [depth_deeper]); (try dsimp only [ktrTop]); first | exact dlt (by assumption) _ (by first | exact Nat.le_refl _ | exact Nat.le_of_ble_eq_true rfl | decide | omega) | exact dlt3 (by assumption) _ (by first | exact Nat.le_refl _ | exact Nat.le_of_ble_eq_true rfl | decide | omega)) | ((try simp only [depth_deeper, recursionLimit] at *); (try dsimp only [ktrTop] at *); omega))); (case u => (first | exact ult (by assumption) _ (by first | exact Nat.le_refl _ | exact Nat.le_of_ble_eq_true rfl | decide | omega) | exact ult2 (by assumption) | ((try simp only [units_deeper]); (try dsimp only [ktrTop]); first | exact ult (by assumption) _ (by first | exact Nat.le_refl _ | exact Nat.le_of_ble_eq_true rfl | decide | omega) | exact ult2 (by assumption) | exact ult3 (by assumption) _ (by first | exact Nat.le_refl _ | exact Nat.le_of_ble_eq_true rfl | decide | omega)) | ((try simp only [units_deeper] at *); (try dsimp only [ktrTop] at *); omega))))
  k_with "enterC" => (refine' code_defC ?zzk1 ?zzk2 ?zzk3 ?zzk4 ?zzk5 ?zzkA ?zzkF ?zzkK ?zzk6 ?zzk7 ?zzk8 ?zzk9 ?zzkB ?zzkD ?_ ?zzc2 ?zzc3 ?zzc4; (case zzkA => exact rfl); (case zzkF => exact rfl); (case zzkK => assumption); (case zzk1 => k_asm); (case zzk2 => k_asm); (case zzk3 => k_asm); (case zzk4 => k_asm); (case zzk5 => k_asm); (case zzk6 => k_is); (case zzk7 => k_is); (case zzk8 => ktr_room); (case zzk9 => exact BindsTo.of_eq rfl); (case zzkB => exact rfl); (case zzkD => decide +kernel); (case zzc2 => exact rfl); (case zzc3 => exact rfl); (case zzc4 => exact rfl); k_whole; intro g' L' h' tk' cells' FG' F' N' Y' B' X' T' l1; (try k_lt l1); k_cells Y'; (try simp only [List.cons_append, List.nil_append] at N'); (try dsimp only); (try k_fold))
  k_with "con2" => ((case B2 => k_asm); (case F2 => k_asm); (case X2 => k_asm); (case T2 => k_asm); (case k2 => first | exact rfl | assumption); (case d2 => (first | exact dlt (by assumption) _ (by first | exact Nat.le_refl _ | exact Nat.le_of_ble_eq_true rfl | decide | omega) | ((try simp only [depth_deeper]); (try dsimp only [ktrTop]); first | exact dlt (by assumption) _ (by first | exact Nat.le_refl _ | exact Nat.le_of_ble_eq_true rfl | decide | omega) | exact dlt3 (by assumption) _ (by first | exact Nat.le_refl _ | exact Nat.le_of_ble_eq_true rfl | decide | omega)) | ((try simp only [depth_deeper, recursionLimit] at *); (try dsimp only [ktrTop] at *); omega))); (case u2 => (first | exact ult (by assumption) _ (by first | exact Nat.le_refl _ | exact Nat.le_of_ble_eq_true rfl | decide | omega) | exact ult2 (by assumption) | ((try simp only [units_deeper]); (try dsimp only [ktrTop]); first | exact ult (by assumption) _ (by first | exact Nat.le_refl _ | exact Nat.le_of_ble_eq_true rfl | decide | omega) | exact ult2 (by assumption) | exact ult3 (by assumption) _ (by first | exact Nat.le_refl _ | exact Nat.le_of_ble_eq_true rfl | decide | omega)) | ((try simp only [units_deeper] at *); (try dsimp only [ktrTop] at *); omega))))
  k_with "con3" => ((case B3 => k_asm); (case F3 => k_asm); (case X3 => k_asm); (case T3 => k_asm); (case k3 => first | exact rfl | assumption); (case d3 => (first | exact dlt (by assumption) _ (by first | exact Nat.le_refl _ | exact Nat.le_of_ble_eq_true rfl | decide | omega) | ((try simp only [depth_deeper]); (try dsimp only [ktrTop]); first | exact dlt (by assumption) _ (by first | exact Nat.le_refl _ | exact Nat.le_of_ble_eq_true rfl | decide | omega) | exact dlt3 (by assumption) _ (by first | exact Nat.le_refl _ | exact Nat.le_of_ble_eq_true rfl | decide | omega)) | ((try simp only [depth_deeper, recursionLimit] at *); (try dsimp only [ktrTop] at *); omega))); (case u3 => (first | exact ult (by assumption) _ (by first | exact Nat.le_refl _ | exact Nat.le_of_ble_eq_true rfl | decide | omega) | exact ult2 (by assumption) | ((try simp only [units_deeper]); (try dsimp only [ktrTop]); first | exact ult (by assumption) _ (by first | exact Nat.le_refl _ | exact Nat.le_of_ble_eq_true rfl | decide | omega) | exact ult2 (by assumption) | exact ult3 (by assumption) _ (by first | exact Nat.le_refl _ | exact Nat.le_of_ble_eq_true rfl | decide | omega)) | ((try simp only [units_deeper] at *); (try dsimp only [ktrTop] at *); omega))))
  trivial
noncomputable def pysz (T : Nat) : Nd → Nat
  | .seq a b => pysz T a + pysz T b + 2
  | .alt a b => pysz T a + pysz T b + 1
  | .group _ n => pysz T n + 3
  | .times _ _ _ n => pysz T n + T + 8
  | _ => 3
theorem pysz_q1 : pysz T (.seq a b) = (pysz T a + pysz T b + 2) := rfl
theorem pysz_q2 : pysz T (.alt a b) = (pysz T a + pysz T b + 1) := rfl
theorem pysz_q3 : pysz T (.group z01 n) = (pysz T n + 3) := rfl
theorem pysz_q4 : pysz T (.times z01 z02 z03 n) = (pysz T n + T + 8) := rfl
theorem pysz_q5 : pysz T (.chr c) = (3) := rfl
theorem pysz_q6 : pysz T .any = (3) := rfl
theorem pysz_q7 : pysz T .set = (3) := rfl
theorem seq_ok (w : World) (text : List Int) (folds : Bool) (sa sb : Nat) (na nb : Nd) (WA : WaysC w text folds sa na) (WB : WaysC w text folds sb nb) (hz : wid text.length na * wid text.length nb ≤ 1000000) :
    WaysC w text folds (sa + sb + 2) (.seq na nb) := by
  have pd00 : True := trivial
  have pd01 : True := trivial
  intro news nv kv tv p pt c hn hkv ht hp
  cases hn with
  | @seq va vb nt x y _ _ hm1 hm2 hx hy =>
  have pd10 : True := trivial
  have pd11 : True := trivial
  have pd12 : True := trivial
  have pd13 : True := trivial
  have pd14 : True := trivial
  have pd15 : True := trivial
  unfold Con
  k_fill
  intro pg loose mean mg mb dp un gd cn cs a ccd cl outer A₀ base h₀ L m s Q E B F X N T hk hd hu hret
  refine wpAny_call ?_
  k_dflt (walk_at "enterC")
  have pd20 : True := trivial
  k_steps
  rename News _ _ _ _ => kN1
  refine' Con.at kN1 (WA _ _ _ _ _ _ _ (hx.monoP (SubP.of (by walk_at "app"))) (hkv.monoP (SubP.of (by walk_at "app"))) (ht.monoP (SubP.of (by walk_at "app"))) hp) ?B ?F ?X ?T ?k ?d ?u ?_
  walk_at "con"
  intro r' tl' h' tk' F' N' hP
  (try dsimp only)
  (try k_fold)
  k_steps
  rename News _ _ _ _ => kN2
  refine' Con.at kN2 (each_ok w text folds _ _ WB _ _ _ _ _ (hy.monoP (SubP.of (by walk_at "app"))) hP (ht.monoP (SubP.of (by walk_at "app"))) (fun s hs => (ways_bnd _ p c hp s hs).2) (Nat.le_trans (ways_wid (text := text) (folds := folds) (.seq _ _) p c) hz)) ?B2 ?F2 ?X2 ?T2 ?k2 ?d2 ?u2 ?_
  case B2 => k_asm
  case F2 => k_asm
  case X2 => k_asm
  case T2 => k_asm
  case k2 => first | exact rfl | assumption
  case d2 => (first | exact dlt (by assumption) _ (by first | exact Nat.le_refl _ | exact Nat.le_of_ble_eq_true rfl | decide | omega) | ((try simp only [depth_deeper]); (try dsimp only [ktrTop]); first | exact dlt (by assumption) _ (by first | exact Nat.le_refl _ | exact Nat.le_of_ble_eq_true rfl | decide | omega) | exact dlt3 (by assumption) _ (by first | exact Nat.le_refl _ | exact Nat.le_of_ble_eq_true rfl | decide | omega)) | ((try simp only [depth_deeper, recursionLimit] at *); (try dsimp only [ktrTop] at *); omega))
  case u2 => (first | exact ult (by assumption) _ (by first | exact Nat.le_refl _ | exact Nat.le_of_ble_eq_true rfl | decide | omega) | exact ult2 (by assumption) | ((try simp only [units_deeper]); (try dsimp only [ktrTop]); first | exact ult (by assumption) _ (by first | exact Nat.le_refl _ | exact Nat.le_of_ble_eq_true rfl | decide | omega) | exact ult2 (by assumption) | exact ult3 (by assumption) _ (by first | exact Nat.le_refl _ | exact Nat.le_of_ble_eq_true rfl | decide | omega)) | ((try simp only [units_deeper] at *); (try dsimp only [ktrTop] at *); omega))
  intro r' tl' h' tk' F' N' hP
  (try dsimp only)
  (try k_fold)
  k_steps
  rename News _ _ _ _ => kN3
  rename Fr _ _ _ _ => kF3
  exact hret _ _ _ _ kF3 (dup0 kN3 (by walk_at "app")) (hP.monoP subA)
theorem alt_ok (w : World) (text : List Int) (folds : Bool) (sa sb : Nat) (na nb : Nd) (WA : WaysC w text folds sa na) (WB : WaysC w text folds sb nb) (hz : wid text.length na + wid text.length nb ≤ 1000000) :
    WaysC w text folds (sa + sb + 1) (.alt na nb) := by
  have pd00 : True := trivial
  have pd01 : True := trivial
  intro news nv kv tv p pt c hn hkv ht hp
  cases hn with
  | @alt va vb nt x y _ _ hm1 hm2 hx hy =>
  have pd10 : True := trivial
  have pd11 : True := trivial
  have pd12 : True := trivial
  have pd13 : True := trivial
  have pd14 : True := trivial
  have pd15 : True := trivial
  unfold Con
  k_fill
  intro pg loose mean mg mb dp un gd cn cs a ccd cl outer A₀ base h₀ L m s Q E B F X N T hk hd hu hret
  refine wpAny_call ?_
  k_dflt (walk_at "enterC")
  have pd20 : True := trivial
  k_steps
  rename News _ _ _ _ => kN1
  refine' Con.at kN1 (WA _ _ _ _ _ _ _ (hx.monoP (SubP.of (by walk_at "app"))) (hkv.monoP (SubP.of (by walk_at "app"))) (ht.monoP (SubP.of (by walk_at "app"))) hp) ?B ?F ?X ?T ?k ?d ?u ?_
  walk_at "con"
  intro r' tl' h' tk' F' N' hP
  obtain ⟨ra, rn, rvs, rfl, rm, re⟩ := hP
  (try dsimp only)
  (try k_fold)
  k_steps
  rename News _ _ _ _ => kN2
  refine' Con.at kN2 (WB _ _ _ _ _ _ _ (hy.monoP (SubP.of (by walk_at "app"))) (hkv.monoP (SubP.of (by walk_at "app"))) (ht.monoP (SubP.of (by walk_at "app"))) hp) ?B2 ?F2 ?X2 ?T2 ?k2 ?d2 ?u2 ?_
  case B2 => k_asm
  case F2 => k_asm
  case X2 => k_asm
  case T2 => k_asm
  case k2 => first | exact rfl | assumption
  case d2 => (first | exact dlt (by assumption) _ (by first | exact Nat.le_refl _ | exact Nat.le_of_ble_eq_true rfl | decide | omega) | ((try simp only [depth_deeper]); (try dsimp only [ktrTop]); first | exact dlt (by assumption) _ (by first | exact Nat.le_refl _ | exact Nat.le_of_ble_eq_true rfl | decide | omega) | exact dlt3 (by assumption) _ (by first | exact Nat.le_refl _ | exact Nat.le_of_ble_eq_true rfl | decide | omega)) | ((try simp only [depth_deeper, recursionLimit] at *); (try dsimp only [ktrTop] at *); omega))
  case u2 => (first | exact ult (by assumption) _ (by first | exact Nat.le_refl _ | exact Nat.le_of_ble_eq_true rfl | decide | omega) | exact ult2 (by assumption) | ((try simp only [units_deeper]); (try dsimp only [ktrTop]); first | exact ult (by assumption) _ (by first | exact Nat.le_refl _ | exact Nat.le_of_ble_eq_true rfl | decide | omega) | exact ult2 (by assumption) | exact ult3 (by assumption) _ (by first | exact Nat.le_refl _ | exact Nat.le_of_ble_eq_true rfl | decide | omega)) | ((try simp only [units_deeper] at *); (try dsimp only [ktrTop] at *); omega))
  intro r' tl2 h' tk' F' N' hP
  obtain ⟨qa, qn, qvs, rfl, qm, qe⟩ := hP
  (try dsimp only)
  (try k_fold)
  have hz1 : rvs.length + qvs.length ≤ sizeLine := by
    rw [sizeLine_eq, re.length, qe.length]
    have h1 := ways_wid (text := text) (folds := folds) na p c
    have h2 := ways_wid (text := text) (folds := folds) nb p c
    omega
  k_steps
  rename News _ _ _ _ => kN3
  rename Fr _ _ _ _ => kF3
  refine hret _ _ _ _ kF3 (dup0 kN3 (by walk_at "app")) ⟨_, _, _, rfl, List.mem_append.mpr (.inl (.head _)), ?_⟩
  exact (re.imp fun _ _ h => h.monoP (SubP.of (by walk_at "app"))).append (qe.imp fun _ _ h => h.monoP subA1)
end Mine
end
section
open PySem PySem.W PyProof.Rows PyProof.V
set_option Elab.async false
set_option maxRecDepth 100000
set_option maxHeartbeats 8000000
namespace Mine

theorem setup_W10_1 : True := by
  k_with_none
  k_with "mem0" => first | with_reducible exact List.mem_cons_self | (refine List.mem_cons_of_mem _ ?_; k_mem)
  k_with "all0" => first | assumption | exact fun p hp => Nat.ne_of_lt (ktn_ltOf (by assumption) p hp)
  k_with "execs cons" => (k_here; k_fold; (try ((rename Fr _ _ _ _ => lF9); (refine FrL lF9 ?_); clear lF9; intro mL9 lF9)))
  k_with "eval Tuple" => (k_here; k_fold)
  k_with "eval List" => (k_here; k_fold)
  k_with "eval BinOp" => (k_here; k_fold)
  k_with "exec Assign" => (k_here; k_fold)
  k_with "eval IfExp" => (k_here; k_fold)
  k_with "binaryOp Add ref ref" => (k_here; (with_reducible show wpAny _ _ (binaryOp Operator.Add (Value.ref _) (Value.ref _)) _ _ _); k_dflt (refine' add_lists ?zzF ?zzN ?zzl ?zzb ?_ ?zzz; (case zzF => k_asm); (case zzN => k_asm); (case zzl => exact News.isList (by k_asm) (by k_mem)); (case zzb => exact News.isList (by k_asm) (by k_mem)); (case zzz => first | assumption | (simp only [List.length_cons, List.length_nil] at *; rw [sizeLine_eq] at *; omega))); intro h' F' N'; (try dsimp only))
  k_with "eval Call" => (k_here; (try k_fold); k_dflt (refine Call_ ?_))
  k_with "exec For Tuple Name cons nil" => (k_here; (rename Fr _ _ _ _ => lF'); (with_unfolding_all refine' For_turns lF' ?_; k_whole))
  k_with "exec For Tuple Call cons nil" => (k_here; (rename Fr _ _ _ _ => lF'); (with_unfolding_all refine' For_turns lF' ?_; k_whole))
  k_with "AccPost" => dsimp only [AccPost]
  k_with "same" => (intro z h1 h3; (simp only [List.contains_cons, List.contains_nil, Bool.or_false, Bool.or_eq_false_iff, beq_eq_false_iff_ne, ne_eq] at h3); (simp +zetaDelta [h1, h3]; done))
  k_with "mem" => first | with_reducible assumption | with_reducible exact List.mem_cons_self | (refine List.mem_cons_of_mem _ ?_; walk_at "mem") | (refine List.mem_append.mpr (Or.inr ?_); walk_at "mem") | (refine List.mem_append.mpr (Or.inl ?_); walk_at "mem")
  k_with "app" => (intro p hp; walk_at "mem")
  k_with "con" => ((case B => k_asm); (case F => k_asm); (case X => k_asm); (case T => k_asm); (case k => first | exact rfl | assumption); (case d => (first | exact dlt (by assumption) _ (by first | exact Nat.le_refl _ | exact Nat.le_of_ble_eq_true rfl | decide | omega) | ((try simp only [depth_deeper]); (try dsimp only [ktrTop]); first | exact dlt (by assumption) _ (by first | exact Nat.le_refl _ | exact Nat.le_of_ble_eq_true rfl | decide | omega) | exact dlt3 (by assumption) _ (by first | exact Nat.le_refl _ | exact Nat.le_of_ble_eq_true rfl | decide | omega)) | ((try simp only [depth_deeper, recursionLimit] at *); (try dsimp only [ktrTop] at *); omega))); (case u => (first | exact ult (by assumption) _ (by first | exact Nat.le_refl _ | exact Nat.le_of_ble_eq_true rfl | decide | omega) | exact ult2 (by assumption) | ((try simp only [units_deeper]); (try dsimp only [ktrTop]); first | exact ult (by assumption) _ (by first | exact Nat.le_refl _ | exact Nat.le_of_ble_eq_true rfl | decide | omega) | exact ult2 (by assumption) | exact ult3 (by assumption) _ (by first | exact Nat.le_refl _ | exact Nat.le_of_ble_eq_true rfl | decide | omega)) | ((try simp only [units_deeper] at *); (try dsimp only [ktrTop] at *); omega))))
  k_with "enterC" => (refine' code_defC ?zzk1 ?zzk2 ?zzk3 ?zzk4 ?zzk5 ?zzkA ?zzkF ?zzkK ?zzk6 ?zzk7 ?zzk8 ?zzk9 ?zzkB ?zzkD ?_ ?zzc2 ?zzc3 ?zzc4; (case zzkA => exact rfl); (case zzkF => exact rfl); (case zzkK => assumption); (case zzk1 => k_asm); (case zzk2 => k_asm); (case zzk3 => k_asm); (case zzk4 => k_asm); (case zzk5 => k_asm); (case zzk6 => k_is); (case zzk7 => k_is); (case zzk8 => ktr_room); (case zzk9 => exact BindsTo.of_eq rfl); (case zzkB => exact rfl); (case zzkD => decide +kernel); (case zzc2 => exact rfl); (case zzc3 => exact rfl); (case zzc4 => exact rfl); k_whole; intro g' L' h' tk' cells' FG' F' N' Y' B' X' T' l1; (try k_lt l1); k_cells Y'; (try simp only [List.cons_append, List.nil_append] at N'); (try dsimp only); (try k_fold))
  k_with "eval ListComp" => (k_here; refine Hold.out ?_)
  k_with "SrcLP" => (k_here; refine Hold.out ?_)
  k_with "eval Name" => (k_here; (with_reducible show wpAny _ _ (eval (Expr.Name (Str.ofString "node") _) (compEnvC _ _ _ _)) _ _ _); k_dflt (refine' lcf_free ?zzN ?zzc ?zzm ?zzd ?_ ?zza ?zzb; (case zza => rfl); (case zzb => rfl); (case zzN => k_asm); (case zzc => rfl); (case zzm => k_mem); (case zzd => assumption); k_whole))
  trivial
set_option tactic.hygienic true in
theorem group_ok (w : World) (text : List Int) (folds : Bool) (sn : Nat) (nd : Nd) (g : Nat) (WA : WaysC w text folds sn nd) (hg : g ≤ 100) (hz : wid text.length nd ≤ 1000000) :
    WaysC w text folds (sn + 3) (.group g nd) := by
  have pd00 : True := trivial
  have pd01 : True := trivial
  have pd02 : True := trivial
  intro news nv kv tv p pt c hn hkv ht hp
  cases hn with
  | @group va vt tk _ v _ hm hx =>
  have pd10 : True := trivial
  have pd11 : True := trivial
  have pd12 : True := trivial
  have pd13 : True := trivial
  have pd14 : True := trivial
  have pd15 : True := trivial
  have pd16 : True := trivial
  have pd17 : True := trivial
  have pd18 : True := trivial
  unfold Con
  k_fill
  intro pg loose mean mg mb dp un gd cn cs a ccd cl outer A₀ base h₀ L m s Q E B F X N T hk hd hu hret
  refine wpAny_call ?_
  k_dflt (walk_at "enterC")
  rename_i o0 d0
  have hcd : o0.data = .cell (some (.ref va)) := by with_unfolding_all exact d0
  k_steps
  rename News _ _ _ _ => kN1
  refine' Con.at kN1 (with_ok w _ _ _ _ _ _ _ (hkv.monoP (SubP.of (by walk_at "app"))) (by omega) (by omega)) ?B ?F ?X ?T ?k ?d ?u ?_
  walk_at "con"
  intro r' tl' h' tk' F' N' hP
  (try dsimp only)
  (try k_fold)
  k_steps
  rename News _ _ _ _ => kN2
  refine' Con.at kN2 (WA _ _ _ _ _ _ _ (hx.monoP (SubP.of (by walk_at "app"))) hP (ht.monoP (SubP.of (by walk_at "app"))) hp) ?B2 ?F2 ?X2 ?T2 ?k2 ?d2 ?u2 ?_
  case B2 => k_asm
  case F2 => k_asm
  case X2 => k_asm
  case T2 => k_asm
  case k2 => first | exact rfl | assumption
  case d2 => (first | exact dlt (by assumption) _ (by first | exact Nat.le_refl _ | exact Nat.le_of_ble_eq_true rfl | decide | omega) | ((try simp only [depth_deeper]); (try dsimp only [ktrTop]); first | exact dlt (by assumption) _ (by first | exact Nat.le_refl _ | exact Nat.le_of_ble_eq_true rfl | decide | omega) | exact dlt3 (by assumption) _ (by first | exact Nat.le_refl _ | exact Nat.le_of_ble_eq_true rfl | decide | omega)) | ((try simp only [depth_deeper, recursionLimit] at *); (try dsimp only [ktrTop] at *); omega))
  case u2 => (first | exact ult (by assumption) _ (by first | exact Nat.le_refl _ | exact Nat.le_of_ble_eq_true rfl | decide | omega) | exact ult2 (by assumption) | ((try simp only [units_deeper]); (try dsimp only [ktrTop]); first | exact ult (by assumption) _ (by first | exact Nat.le_refl _ | exact Nat.le_of_ble_eq_true rfl | decide | omega) | exact ult2 (by assumption) | exact ult3 (by assumption) _ (by first | exact Nat.le_refl _ | exact Nat.le_of_ble_eq_true rfl | decide | omega)) | ((try simp only [units_deeper] at *); (try dsimp only [ktrTop] at *); omega))
  intro r' tl2 h' tk' F' N' hP
  obtain ⟨ra, rn, rvs, rfl, rm, re⟩ := hP
  (try dsimp only)
  (try k_fold)
  k_steps
  refine Hold.of ?_
  rename News _ _ _ _ => kN3
  rename Fr _ _ _ _ => kF3
  k_dflt (refine LCp.ListComp_P (F₀ := kF3) (by with_unfolding_all rfl) (by decide) (by rfl) (by decide) (by rfl) (by rfl) (by decide) ?_)
  k_steps
  refine Hold.of ?_
  have hzr : rvs.length ≤ 1000000 := by
    rw [re.length]
    exact Nat.le_trans (ways_wid nd p _) hz
  have hnew : ∀ p ∈ news, p ∈ tl2 ++ (tl' ++ (L' + 1, o0) :: news) := by walk_at "app"
  refine LCp.SrcLP.ledger rfl kF3 kN3 rm (by rw [List.size_toArray, sizeLine_eq]; omega) fun g' => ?_
  refine compP_rest (fun r ys ns => ∃ xs zs, Each (StIn w ns) r xs ∧ Each (StIn w ns) ys zs ∧ (∀ s ∈ xs, s.1 ≤ text.length) ∧ (∀ q ∈ tl2 ++ (tl' ++ (L' + 1, o0) :: news), q ∈ ns) ∧ zs ++ xs.map (fun s => (s.1, put (2 * g + 1) s.1 s.2)) = ways text folds (.group g nd) p c) ?turn ?fin _ 0 [] _ rfl ?init
  case init => exact ⟨_, [], re, .nil, fun s hs => (ways_bnd nd p _ hp s hs).2, fun _ h => h, rfl⟩
  case turn =>
    rintro v r ys ns ⟨xs, zs, hx, hy, hbx, hsub, htot⟩
    cases hx with
    | @cons _ b _ bs hv hr =>
      obtain ⟨va2, vt2, kv2, rfl, hvm, hkv'⟩ := hv
      refine ⟨_, _, _, _, _, rfl, hvm, rfl, rfl, fun I oI C oC D m₂ h tk E' hC hx1 hx2 F1 N1 off ne => ?_⟩
      have hcell := hsub (L' + 1, o0) (by walk_at "mem")
      have hm1 := hsub _ (hnew _ hm)
      k_steps
      rename News _ _ _ _ => kN4
      refine' ConM.at (mu := []) kN4 (withM_ok w _ _ _ _ _ _ _ (hkv'.monoP (SubP.of (by walk_at "app"))) (by omega) (by omega)) ?B3 ?F3 ?X3 ?T3 ?k3 ?d3 ?u3 ?_
      case B3 => k_asm
      case F3 => k_asm
      case X3 => k_asm
      case T3 => k_asm
      case k3 => first | exact rfl | assumption
      case d3 => (first | exact dlt (by assumption) _ (by first | exact Nat.le_refl _ | exact Nat.le_of_ble_eq_true rfl | decide | omega) | ((try simp only [depth_deeper]); (try dsimp only [ktrTop]); first | exact dlt (by assumption) _ (by first | exact Nat.le_refl _ | exact Nat.le_of_ble_eq_true rfl | decide | omega) | exact dlt3 (by assumption) _ (by first | exact Nat.le_refl _ | exact Nat.le_of_ble_eq_true rfl | decide | omega)) | ((try simp only [depth_deeper, recursionLimit] at *); (try dsimp only [ktrTop] at *); omega))
      case u3 => (first | exact ult (by assumption) _ (by first | exact Nat.le_refl _ | exact Nat.le_of_ble_eq_true rfl | decide | omega) | exact ult2 (by assumption) | ((try simp only [units_deeper]); (try dsimp only [ktrTop]); first | exact ult (by assumption) _ (by first | exact Nat.le_refl _ | exact Nat.le_of_ble_eq_true rfl | decide | omega) | exact ult2 (by assumption) | exact ult3 (by assumption) _ (by first | exact Nat.le_refl _ | exact Nat.le_of_ble_eq_true rfl | decide | omega)) | ((try simp only [units_deeper] at *); (try dsimp only [ktrTop] at *); omega))
      rintro r' mu' tl3 h' tk' F' N' ⟨rfl, d, od, rfl, hdl, rfl, hpl, hK⟩
      simp only [List.nil_append, List.cons_append] at N'
      (try dsimp only)
      (try k_fold)
      k_steps
      rename News _ _ _ _ => kN5
      rename Fr _ _ _ _ => kF5
      rename _ ∧ _ => l5
      have offm := off.mem
      have keep : ∀ x : Addr × Obj, ∀ q ∈ ns, q ∈ Rest3 I C D (x :: (d, od) :: (I, oI) :: (C, oC) :: (D, LCg.lst ys) :: ns) := fun x q hq => mem_rest3 (by walk_at "mem") (offm q hq).1 (offm q hq).2.1 (offm q hq).2.2
      have hdn : ∀ q ∈ (I, oI) :: (C, oC) :: (D, LCg.lst ys) :: ns, d ≠ q.1 := fun q hq => Nat.ne_of_gt (hdl q hq)
      have kd : ∀ x : Addr × Obj, (d, od) ∈ Rest3 I C D (x :: (d, od) :: (I, oI) :: (C, oC) :: (D, LCg.lst ys) :: ns) := fun x => mem_rest3 (by walk_at "mem") (hdn _ (.head _)) (hdn _ (.tail _ (.head _))) (hdn _ (.tail _ (.tail _ (.head _))))
      refine comp_end kF5 kN5 (.tail _ (.tail _ (.head _))) (.tail _ (.tail _ (.tail _ (.head _)))) (.tail _ (.tail _ (.tail _ (.tail _ (.head _))))) (.inr ⟨W.listOf rvs.toArray rn, keep _ _ (hsub _ rm), rfl, _, rfl⟩) ?_
      have hQ : ∀ x : Addr × Obj, SubP ns (Rest3 I C D (x :: (d, od) :: (I, oI) :: (C, oC) :: (D, LCg.lst ys) :: ns)) := fun x => SubP.of (keep x)
      refine ⟨bs, zs ++ [(b.1, put (2 * g + 1) b.1 b.2)], hr.imp fun _ _ h => h.monoP (hQ _), (hy.imp fun _ _ h => h.monoP (hQ _)).append (.cons ⟨_, _, _, rfl, mem_rest3 (.head _) ?n1 ?n2 ?n3, hK.kept (kd _)⟩ .nil), fun s hs => hbx s (.tail _ hs), fun q hq => keep _ _ (hsub q hq), by rw [← htot]; simp⟩
      case n1 => exact Nat.ne_of_gt l5.2.1
      case n2 => exact Nat.ne_of_gt l5.2.2.1
      case n3 => exact Nat.ne_of_gt l5.2.2.2.1
  case fin => 
    rintro ys ns ⟨xs, zs, hx, hy, hbx, hsub, htot⟩
    cases hx
    simp only [List.map_nil, List.append_nil] at htot
    k_steps
    rename News _ _ _ _ => kN5
    rename Fr _ _ _ _ => kF5
    refine hret _ _ _ _ kF5 (dup0 kN5 fun q hq => .tail _ (hsub _ (hnew _ hq))) ⟨_, _, ys, rfl, List.mem_append.mpr (.inl (.head _)), ?_⟩
    rw [← htot]
    exact hy.imp fun _ _ h => h.monoP subA1
end Mine
end
section
open PySem PySem.W PyProof.Rows PyProof.V
set_option Elab.async false
set_option maxRecDepth 100000
set_option maxHeartbeats 8000000
namespace Mine

theorem setup_W11_1 : True := by
  k_with_none
  k_with "mem0" => first | with_reducible exact List.mem_cons_self | (refine List.mem_cons_of_mem _ ?_; k_mem)
  k_with "all0" => first | assumption | exact fun p hp => Nat.ne_of_lt (ktn_ltOf (by assumption) p hp)
  k_with "execs cons" => (k_here; k_fold; (try ((rename Fr _ _ _ _ => lF9); (refine FrL lF9 ?_); clear lF9; intro mL9 lF9)))
  k_with "eval Tuple" => (k_here; k_fold)
  k_with "eval List" => (k_here; k_fold)
  k_with "eval BinOp" => (k_here; k_fold)
  k_with "exec Assign" => (k_here; k_fold)
  k_with "eval IfExp" => (k_here; k_fold)
  k_with "binaryOp Add ref ref" => (k_here; (with_reducible show wpAny _ _ (binaryOp Operator.Add (Value.ref _) (Value.ref _)) _ _ _); k_dflt (refine' add_lists ?zzF ?zzN ?zzl ?zzb ?_ ?zzz; (case zzF => k_asm); (case zzN => k_asm); (case zzl => exact News.isList (by k_asm) (by k_mem)); (case zzb => exact News.isList (by k_asm) (by k_mem)); (case zzz => first | assumption | (simp only [List.length_cons, List.length_nil] at *; rw [sizeLine_eq] at *; omega))); intro h' F' N'; (try dsimp only))
  k_with "eval Call" => (k_here; (try k_fold); k_dflt (refine Call_ ?_))
  k_with "exec For Tuple Name cons nil" => (k_here; (rename Fr _ _ _ _ => lF'); (with_unfolding_all refine' For_turns lF' ?_; k_whole))
  k_with "exec For Tuple Call cons nil" => (k_here; (rename Fr _ _ _ _ => lF'); (with_unfolding_all refine' For_turns lF' ?_; k_whole))
  k_with "AccPost" => dsimp only [AccPost]
  k_with "same" => (intro z h1 h3; (simp only [List.contains_cons, List.contains_nil, Bool.or_false, Bool.or_eq_false_iff, beq_eq_false_iff_ne, ne_eq] at h3); (simp +zetaDelta [h1, h3]; done))
  k_with "mem" => first | with_reducible assumption | with_reducible exact List.mem_cons_self | (refine List.mem_cons_of_mem _ ?_; walk_at "mem") | (refine List.mem_append.mpr (Or.inr ?_); walk_at "mem") | (refine List.mem_append.mpr (Or.inl ?_); walk_at "mem")
  k_with "app" => (intro p hp; walk_at "mem")
  k_with "con" => ((case B => k_asm); (case F => k_asm); (case X => k_asm); (case T => k_asm); (case k => first | exact rfl | assumption); (case d => (first | exact dlt (by assumption) _ (by first | exact Nat.le_refl _ | exact Nat.le_of_ble_eq_true rfl | decide | omega) | ((try simp only [depth_deeper]); (try dsimp only [ktrTop]); first | exact dlt (by assumption) _ (by first | exact Nat.le_refl _ | exact Nat.le_of_ble_eq_true rfl | decide | omega) | exact dlt3 (by assumption) _ (by first | exact Nat.le_refl _ | exact Nat.le_of_ble_eq_true rfl | decide | omega)) | ((try simp only [depth_deeper, recursionLimit] at *); (try dsimp only [ktrTop] at *); omega))); (case u => (first | exact ult (by assumption) _ (by first | exact Nat.le_refl _ | exact Nat.le_of_ble_eq_true rfl | decide | omega) | exact ult2 (by assumption) | ((try simp only [units_deeper]); (try dsimp only [ktrTop]); first | exact ult (by assumption) _ (by first | exact Nat.le_refl _ | exact Nat.le_of_ble_eq_true rfl | decide | omega) | exact ult2 (by assumption) | exact ult3 (by assumption) _ (by first | exact Nat.le_refl _ | exact Nat.le_of_ble_eq_true rfl | decide | omega)) | ((try simp only [units_deeper] at *); (try dsimp only [ktrTop] at *); omega))))
  k_with "enterC" => (refine' code_defC ?zzk1 ?zzk2 ?zzk3 ?zzk4 ?zzk5 ?zzkA ?zzkF ?zzkK ?zzk6 ?zzk7 ?zzk8 ?zzk9 ?zzkB ?zzkD ?_ ?zzc2 ?zzc3 ?zzc4; (case zzkA => exact rfl); (case zzkF => exact rfl); (case zzkK => assumption); (case zzk1 => k_asm); (case zzk2 => k_asm); (case zzk3 => k_asm); (case zzk4 => k_asm); (case zzk5 => k_asm); (case zzk6 => k_is); (case zzk7 => k_is); (case zzk8 => ktr_room); (case zzk9 => exact BindsTo.of_eq rfl); (case zzkB => exact rfl); (case zzkD => decide +kernel); (case zzc2 => exact rfl); (case zzc3 => exact rfl); (case zzc4 => exact rfl); k_whole; intro g' L' h' tk' cells' FG' F' N' Y' B' X' T' l1; (try k_lt l1); k_cells Y'; (try simp only [List.cons_append, List.nil_append] at N'); (try dsimp only); (try k_fold))
  k_with "con2" => ((case B2 => k_asm); (case F2 => k_asm); (case X2 => k_asm); (case T2 => k_asm); (case k2 => first | exact rfl | assumption); (case d2 => (first | exact dlt (by assumption) _ (by first | exact Nat.le_refl _ | exact Nat.le_of_ble_eq_true rfl | decide | omega) | ((try simp only [depth_deeper]); (try dsimp only [ktrTop]); first | exact dlt (by assumption) _ (by first | exact Nat.le_refl _ | exact Nat.le_of_ble_eq_true rfl | decide | omega) | exact dlt3 (by assumption) _ (by first | exact Nat.le_refl _ | exact Nat.le_of_ble_eq_true rfl | decide | omega)) | ((try simp only [depth_deeper, recursionLimit] at *); (try dsimp only [ktrTop] at *); omega))); (case u2 => (first | exact ult (by assumption) _ (by first | exact Nat.le_refl _ | exact Nat.le_of_ble_eq_true rfl | decide | omega) | exact ult2 (by assumption) | ((try simp only [units_deeper]); (try dsimp only [ktrTop]); first | exact ult (by assumption) _ (by first | exact Nat.le_refl _ | exact Nat.le_of_ble_eq_true rfl | decide | omega) | exact ult2 (by assumption) | exact ult3 (by assumption) _ (by first | exact Nat.le_refl _ | exact Nat.le_of_ble_eq_true rfl | decide | omega)) | ((try simp only [units_deeper] at *); (try dsimp only [ktrTop] at *); omega))))
  k_with "con3" => ((case B3 => k_asm); (case F3 => k_asm); (case X3 => k_asm); (case T3 => k_asm); (case k3 => first | exact rfl | assumption); (case d3 => (first | exact dlt (by assumption) _ (by first | exact Nat.le_refl _ | exact Nat.le_of_ble_eq_true rfl | decide | omega) | ((try simp only [depth_deeper]); (try dsimp only [ktrTop]); first | exact dlt (by assumption) _ (by first | exact Nat.le_refl _ | exact Nat.le_of_ble_eq_true rfl | decide | omega) | exact dlt3 (by assumption) _ (by first | exact Nat.le_refl _ | exact Nat.le_of_ble_eq_true rfl | decide | omega)) | ((try simp only [depth_deeper, recursionLimit] at *); (try dsimp only [ktrTop] at *); omega))); (case u3 => (first | exact ult (by assumption) _ (by first | exact Nat.le_refl _ | exact Nat.le_of_ble_eq_true rfl | decide | omega) | exact ult2 (by assumption) | ((try simp only [units_deeper]); (try dsimp only [ktrTop]); first | exact ult (by assumption) _ (by first | exact Nat.le_refl _ | exact Nat.le_of_ble_eq_true rfl | decide | omega) | exact ult2 (by assumption) | exact ult3 (by assumption) _ (by first | exact Nat.le_refl _ | exact Nat.le_of_ble_eq_true rfl | decide | omega)) | ((try simp only [units_deeper] at *); (try dsimp only [ktrTop] at *); omega))))
  k_with "exec For Name Call cons nil" => (k_here; (rename Fr _ _ _ _ => lF'); (with_unfolding_all refine' For_invVF lF' ?zzk1 ?zzk2 ?_; (case zzk1 => exact rfl); (case zzk2 => exact rfl); k_whole))
  k_with "pyIter ref" => (k_here; (with_reducible show wpAny _ _ (pyIter (Value.ref _)) (fun it s₂ => LoopAtV _ _ _ _ _ _ _ _ _ it s₂) _ _); refine Hold.out ?_)
  trivial
theorem of_eq3 {α β γ : Type} {I J : α → β → γ → Prop} (e : I = J) {a : α} {b : β} {c : γ} (h : J a b c) : I a b c := by rw [e]; exact h
theorem to_eq3 {α β γ : Type} {I J : α → β → γ → Prop} (e : I = J) {a : α} {b : β} {c : γ} (h : I a b c) : J a b c := by rw [← e]; exact h
set_option tactic.hygienic true in
theorem times_ok (w : World) (text : List Int) (folds : Bool) (sn : Nat) (nd : Nd) (least : Nat) (most : Int) (g : Bool) (WA : WaysC w text folds sn nd) (hl : least ≤ 2) (hm : most = -1 ∨ ((least : Int) ≤ most ∧ most ≤ least + 1)) (hz : wid text.length (.times least most g nd) ≤ 1000000) :
    WaysC w text folds (sn + text.length + 8) (.times least most g nd) := by
  intro news nv kv tv p pt c hn hkv ht hp
  have hn0 := hn
  cases hn with
  | @times va nt nt1 nt2 _ _ _ v _ hnm hx =>
  unfold Con
  k_fill
  intro pg loose mean mg mb dp un gd cn cs a ccd cl outer A₀ base h₀ L m s Q E B F X N T hk hd hu hret
  refine wpAny_call ?_
  k_dflt (walk_at "enterC")
  rename_i o0 d0
  have hcd : o0.data = .cell (some (.ref va)) := by with_unfolding_all exact d0
  k_steps
  refine Hold.of ?_
  rename News _ _ _ _ => kN1
  rename Fr _ _ _ _ => kF1
  rename IsRange _ _ _ _ _ _ _ _ => hR
  refine range_acc (y := Str.ofString "states") [] (fun i ns fv => StsIn w ns fv (iterF (ways text folds nd) i [(p, c)])) least rfl hR ?sm ?sz kF1 kN1 (by decide) rfl ?h' ?turn ?done
  case sm => rcases (show least = 0 ∨ least = 1 ∨ least = 2 by omega) with h | h | h <;> subst h <;> rfl
  case sz => rcases (show least = 0 ∨ least = 1 ∨ least = 2 by omega) with h | h | h <;> subst h <;> rfl
  case h' => exact ⟨_, _, [_], rfl, .head _, .cons ⟨_, _, _, rfl, .tail _ (.head _), hkv.monoP (SubP.of (by walk_at "app"))⟩ .nil⟩
  case turn =>
    intro i fv u news₁ I o t h tk hi hv hsub hpl hlt F₁ N₁
    replace F₁ : Fr g' L' h _ := F₁
    replace N₁ : News g' L' h _ := N₁
    have hnew : ∀ q ∈ news, q ∈ news₁ := fun q hq => hsub q (by walk_at "mem")
    have hcell := hsub (L' + 1, o0) (by walk_at "mem")
    have hnm1 := hnew _ hnm
    obtain ⟨fa, fn, fvs, rfl, hfm, hfe⟩ := hv
    k_steps
    rename News _ _ _ _ => kN2
    have hin : SubP news ((I, o) :: news₁) := SubP.of fun q hq => .tail _ (hnew q hq)
    have hbd : Bd text (iterF (ways text folds nd) i [(p, c)]) := fun s hs => (iter_bnd (ways_bnd nd) p i [(p, c)] (fun s hs => by rw [List.mem_singleton.mp hs]; exact ⟨Nat.le_refl _, hp⟩) s hs).2
    have hsz : (eachF (ways text folds nd) (iterF (ways text folds nd) i [(p, c)])).length ≤ 1000000 := by
      rw [← iter_succ]
      exact Nat.le_trans (iter_le (least := least) (most := most) (g := g) p c hi) hz
    refine' Con.at kN2 (each_ok w text folds _ _ WA _ _ _ _ _ (hx.monoP hin) ⟨_, _, _, rfl, .tail _ hfm, hfe.imp fun _ _ h => h.monoP subT⟩ (ht.monoP hin) hbd hsz) ?B2 ?F2 ?X2 ?T2 ?k2 ?d2 ?u2 ?_
    walk_at "con2"
    intro r' tl2 h' tk' F' N' hP
    (try dsimp only)
    (try k_fold)
    k_steps
    rename News _ _ _ _ => kN3
    rename Fr _ _ _ _ => kF3
    refine' AccEnd.intro kF3 kN3 (List.mem_append.mpr (.inr (.head _))) (fun p hp => List.mem_append.mpr (.inr (.tail _ (hsub p hp)))) ?y ?e hpl ?J
    case y => with_unfolding_all exact rfl
    case e => walk_at "same"
    intro hQ
    rw [iter_succ]
    exact hP.monoP hQ
  case done =>
    intro fv u news₁ h tk hv hsub F₁ N₁
    replace F₁ : Fr g' L' h _ := F₁
    replace N₁ : News g' L' h _ := N₁
    have hnew : ∀ q ∈ news, q ∈ news₁ := fun q hq => hsub q (by walk_at "mem")
    have hcell := hsub (L' + 1, o0) (by walk_at "mem")
    have hnm1 := hnew _ hnm
    obtain ⟨sa, sn, svs, rfl, hsm, hse⟩ := hv
    k_steps
    rename News _ _ _ _ => kN2
    rename Fr _ _ _ _ => kF2
    have hn1 := hn0.monoP (SubP.of hnew)
    have ht1 := ht.monoP (SubP.of hnew)
    have htz := Nat.le_trans (ways_wid (text := text) (folds := folds) (.times least most g nd) p c) hz
    obtain ⟨J, hJ⟩ : ∃ J : List Value → List (Addr × Obj) → Value → Prop, J = (fun r ns fv => ∃ xs acc, Each (StIn w ns) r xs ∧ StsIn w ns fv acc ∧ (∀ s ∈ xs, s.1 ≤ text.length) ∧ acc ++ (xs.flatMap fun s => if most < 0 then starF (ways text folds nd) g (text.length - s.1 + 1) s.1 s.2 else someF (ways text folds nd) g (most - least).toNat s.1 s.2) = ways text folds (.times least most g nd) p c) := ⟨_, rfl⟩
    refine turns_acc (y := Str.ofString "found") [Str.ofString "end", Str.ofString "later"] J rfl kF2 kN2 (.tail _ hsm) rfl ?h1 ?turn2 ?done2
    case h1 => exact of_eq3 hJ ⟨_, [], hse.imp fun _ _ h => h.monoP subT, ⟨_, _, [], rfl, .head _, .nil⟩, fun s hs => (iter_bnd (ways_bnd nd) p least [(p, c)] (fun s hs => by rw [List.mem_singleton.mp hs]; exact ⟨Nat.le_refl _, hp⟩) s hs).2, rfl⟩
    case turn2 =>
      intro v2 r fv u2 news₂ I o h tk hj hsub2 hpl hlt F₂ N₂
      obtain ⟨xs, acc, hx2, hacc, hbx, htot⟩ := to_eq3 hJ hj
      clear hj
      have hnew2 : ∀ q ∈ news, q ∈ news₂ := fun q hq => hsub2 q (.tail _ (hnew q hq))
      have hcell2 := hsub2 (L' + 1, o0) (.tail _ hcell)
      have hnm2 := hnew2 _ hnm
      cases hx2 with
      | @cons _ b _ bs hv hr =>
        obtain ⟨va2, vt2, kv2, rfl, hvm, hkv'⟩ := hv
        obtain ⟨fa, fn, fvs, rfl, hfm, hfe⟩ := hacc
        replace F₂ : Fr g' L' h _ := F₂
        replace N₂ : News g' L' h _ := N₂
        have hb2 := hbx _ (.head _)
        have hin : SubP news ((I, o) :: news₂) := SubP.of fun q hq => .tail _ (hnew2 q hq)
        have htl : acc.length + ((if most < 0 then starF (ways text folds nd) g (text.length - b.1 + 1) b.1 b.2 else someF (ways text folds nd) g (most - least).toNat b.1 b.2)).length ≤ 1000000 := by
          rw [← htot] at htz
          simp only [List.flatMap_cons, List.length_append] at htz
          omega
        rcases hm with hm | hm
        · have hneg : most < 0 := by omega
          simp only [hneg, if_true] at htl htot
          k_steps
          rename News _ _ _ _ => kN3
          refine' Con.at kN3 (star_ok w text folds _ nd WA least most g (text.length - b.1 + 1) _ _ _ _ _ _ _ (hn0.monoP hin) (hkv'.monoP (SubP.of (by walk_at "app"))) (ht.monoP hin) hb2 (by omega) (by omega)) ?B2 ?F2 ?X2 ?T2 ?k2 ?d2 ?u2 ?_
          walk_at "con2"
          intro r' tl2 h' tk' F' N' hP
          obtain ⟨qa, qn, qvs, rfl, qm, qe⟩ := hP
          (try dsimp only)
          (try k_fold)
          have hz1 : fvs.length + qvs.length ≤ sizeLine := by
            rw [sizeLine_eq, hfe.length, qe.length]; omega
          k_steps
          rename News _ _ _ _ => kN4
          rename Fr _ _ _ _ => kF4
          refine' AccEnd.intro kF4 kN4 (by walk_at "mem") (fun p hp => .tail _ (List.mem_append.mpr (.inr (.tail _ (hsub2 p hp))))) ?y2 ?e2 hpl ?J2
          case y2 => with_unfolding_all exact rfl
          case e2 => walk_at "same"
          intro hQ0
          have hQ : SubP (tl2 ++ (I, o) :: news₂) (Rest I _) := fun p hp => hQ0 p (.tail _ hp)
          have hQ1 : SubP news₂ (Rest I _) := fun p hp => hQ p (List.mem_append.mpr (.inr (.tail _ hp)))
          exact of_eq3 hJ ⟨bs, _, hr.imp fun _ _ h => h.monoP hQ1, ⟨_, _, _, rfl, hQ0.lst (.head _), (hfe.imp fun _ _ h => h.monoP hQ1).append (qe.imp fun _ _ h => h.monoP hQ)⟩, fun s hs => hbx s (.tail _ hs), by rw [← htot]; simp [hneg]⟩
        · have hneg : ¬ most < 0 := by omega
          simp only [hneg, if_false] at htl htot
          k_steps
          rename News _ _ _ _ => kN3
          refine' Con.at kN3 (some_ok w text folds _ nd WA least most g (most - least).toNat _ _ _ _ _ _ _ _ _ (by omega) (hn0.monoP hin) (hkv'.monoP (SubP.of (by walk_at "app"))) (ht.monoP hin) hb2 (by omega)) ?B3 ?F3 ?X3 ?T3 ?k3 ?d3 ?u3 ?_
          walk_at "con3"
          intro r' tl2 h' tk' F' N' hP
          obtain ⟨qa, qn, qvs, rfl, qm, qe⟩ := hP
          (try dsimp only)
          (try k_fold)
          have hz1 : fvs.length + qvs.length ≤ sizeLine := by
            rw [sizeLine_eq, hfe.length, qe.length]; omega
          k_steps
          rename News _ _ _ _ => kN4
          rename Fr _ _ _ _ => kF4
          refine' AccEnd.intro kF4 kN4 (by walk_at "mem") (fun p hp => .tail _ (List.mem_append.mpr (.inr (.tail _ (hsub2 p hp))))) ?y3 ?e3 hpl ?J3
          case y3 => with_unfolding_all exact rfl
          case e3 => walk_at "same"
          intro hQ0
          have hQ : SubP (tl2 ++ (I, o) :: news₂) (Rest I _) := fun p hp => hQ0 p (.tail _ hp)
          have hQ1 : SubP news₂ (Rest I _) := fun p hp => hQ p (List.mem_append.mpr (.inr (.tail _ hp)))
          exact of_eq3 hJ ⟨bs, _, hr.imp fun _ _ h => h.monoP hQ1, ⟨_, _, _, rfl, hQ0.lst (.head _), (hfe.imp fun _ _ h => h.monoP hQ1).append (qe.imp fun _ _ h => h.monoP hQ)⟩, fun s hs => hbx s (.tail _ hs), by rw [← htot]; simp [hneg]⟩
    case done2 =>
      intro fv u2 news₂ h tk hj hsub2 F₂ N₂
      obtain ⟨xs, acc, hx2, hacc, hbx, htot⟩ := to_eq3 hJ hj
      clear hj
      have hnew2 : ∀ q ∈ news, q ∈ news₂ := fun q hq => hsub2 q (.tail _ (hnew q hq))
      cases hx2
      simp only [List.flatMap_nil, List.append_nil] at htot
      k_steps
      rename News _ _ _ _ => kN3
      rename Fr _ _ _ _ => kF3
      refine hret _ _ _ _ kF3 (dup0 kN3 hnew2) ?_
      rw [← htot]
      exact hacc.monoP subA
end Mine
end
section
open PySem PySem.W PyProof.Rows PyProof.V
set_option Elab.async false
set_option maxRecDepth 100000
set_option maxHeartbeats 8000000
namespace Mine

theorem setup_W12_1 : True := by
  k_with_none
  k_with "mem0" => first | with_reducible exact List.mem_cons_self | (refine List.mem_cons_of_mem _ ?_; k_mem)
  k_with "all0" => first | assumption | exact fun p hp => Nat.ne_of_lt (ktn_ltOf (by assumption) p hp)
  k_with "binaryOp Add ref ref" => (k_here; (with_reducible show wpAny _ _ (binaryOp Operator.Add (Value.ref _) (Value.ref _)) _ _ _); k_dflt (refine' add_lists ?zzF ?zzN ?zzl ?zzb ?_ ?zzz; (case zzF => k_asm); (case zzN => k_asm); (case zzl => exact News.isList (by k_asm) (by k_mem)); (case zzb => exact News.isList (by k_asm) (by k_mem)); (case zzz => first | assumption | (simp only [List.length_cons, List.length_nil] at *; rw [sizeLine_eq] at *; omega))); intro h' F' N'; (try dsimp only))
  k_with "eval Call" => (k_here; k_dflt (refine Call_ ?_))
  k_with "exec For Tuple Name cons nil" => (k_here; (rename Fr _ _ _ _ => lF'); (with_unfolding_all refine' For_turns lF' ?_; k_whole))
  k_with "exec For Tuple Call cons nil" => (k_here; (rename Fr _ _ _ _ => lF'); (with_unfolding_all refine' For_turns lF' ?_; k_whole))
  k_with "AccPost" => dsimp only [AccPost]
  k_with "same" => (intro z h1 h3; (simp only [List.contains_cons, List.contains_nil, Bool.or_false, Bool.or_eq_false_iff, beq_eq_false_iff_ne, ne_eq] at h3); (simp [h1, h3]; done))
  k_with "mem" => first | with_reducible assumption | with_reducible exact List.mem_cons_self | (refine List.mem_cons_of_mem _ ?_; walk_at "mem") | (refine List.mem_append.mpr (Or.inr ?_); walk_at "mem") | (refine List.mem_append.mpr (Or.inl ?_); walk_at "mem")
  k_with "app" => (intro p hp; walk_at "mem")
  k_with "con" => ((case B => k_asm); (case F => k_asm); (case X => k_asm); (case T => k_asm); (case k => first | exact rfl | assumption); (case d => (first | exact dlt (by assumption) _ (by first | exact Nat.le_refl _ | exact Nat.le_of_ble_eq_true rfl | decide | omega) | ((try simp only [depth_deeper]); (try dsimp only [ktrTop]); first | exact dlt (by assumption) _ (by first | exact Nat.le_refl _ | exact Nat.le_of_ble_eq_true rfl | decide | omega) | exact dlt3 (by assumption) _ (by first | exact Nat.le_refl _ | exact Nat.le_of_ble_eq_true rfl | decide | omega)) | ((try simp only [depth_deeper, recursionLimit] at *); (try dsimp only [ktrTop] at *); omega))); (case u => (first | exact ult (by assumption) _ (by first | exact Nat.le_refl _ | exact Nat.le_of_ble_eq_true rfl | decide | omega) | exact ult2 (by assumption) | ((try simp only [units_deeper]); (try dsimp only [ktrTop]); first | exact ult (by assumption) _ (by first | exact Nat.le_refl _ | exact Nat.le_of_ble_eq_true rfl | decide | omega) | exact ult2 (by assumption) | exact ult3 (by assumption) _ (by first | exact Nat.le_refl _ | exact Nat.le_of_ble_eq_true rfl | decide | omega)) | ((try simp only [units_deeper] at *); (try dsimp only [ktrTop] at *); omega))))
  k_with "enterC" => (refine' code_defC ?zzk1 ?zzk2 ?zzk3 ?zzk4 ?zzk5 ?zzkA ?zzkF ?zzkK ?zzk6 ?zzk7 ?zzk8 ?zzk9 ?zzkB ?zzkD ?_ ?zzc2 ?zzc3 ?zzc4; (case zzkA => exact rfl); (case zzkF => exact rfl); (case zzkK => assumption); (case zzk1 => k_asm); (case zzk2 => k_asm); (case zzk3 => k_asm); (case zzk4 => k_asm); (case zzk5 => k_asm); (case zzk6 => k_is); (case zzk7 => k_is); (case zzk8 => ktr_room); (case zzk9 => exact BindsTo.of_eq rfl); (case zzkB => exact rfl); (case zzkD => decide +kernel); (case zzc2 => exact rfl); (case zzc3 => exact rfl); (case zzc4 => exact rfl); k_whole; intro g' L' h' tk' cells' FG' F' N' Y' B' X' T' l1; (try k_lt l1); k_cells Y'; (try simp only [List.cons_append, List.nil_append] at N'); (try dsimp only); (try k_fold))
  k_with "con2" => ((case B2 => k_asm); (case F2 => k_asm); (case X2 => k_asm); (case T2 => k_asm); (case k2 => first | exact rfl | assumption); (case d2 => (first | exact dlt (by assumption) _ (by first | exact Nat.le_refl _ | exact Nat.le_of_ble_eq_true rfl | decide | omega) | ((try simp only [depth_deeper]); (try dsimp only [ktrTop]); first | exact dlt (by assumption) _ (by first | exact Nat.le_refl _ | exact Nat.le_of_ble_eq_true rfl | decide | omega) | exact dlt3 (by assumption) _ (by first | exact Nat.le_refl _ | exact Nat.le_of_ble_eq_true rfl | decide | omega)) | ((try simp only [depth_deeper, recursionLimit] at *); (try dsimp only [ktrTop] at *); omega))); (case u2 => (first | exact ult (by assumption) _ (by first | exact Nat.le_refl _ | exact Nat.le_of_ble_eq_true rfl | decide | omega) | exact ult2 (by assumption) | ((try simp only [units_deeper]); (try dsimp only [ktrTop]); first | exact ult (by assumption) _ (by first | exact Nat.le_refl _ | exact Nat.le_of_ble_eq_true rfl | decide | omega) | exact ult2 (by assumption) | exact ult3 (by assumption) _ (by first | exact Nat.le_refl _ | exact Nat.le_of_ble_eq_true rfl | decide | omega)) | ((try simp only [units_deeper] at *); (try dsimp only [ktrTop] at *); omega))))
  k_with "con3" => ((case B3 => k_asm); (case F3 => k_asm); (case X3 => k_asm); (case T3 => k_asm); (case k3 => first | exact rfl | assumption); (case d3 => (first | exact dlt (by assumption) _ (by first | exact Nat.le_refl _ | exact Nat.le_of_ble_eq_true rfl | decide | omega) | ((try simp only [depth_deeper]); (try dsimp only [ktrTop]); first | exact dlt (by assumption) _ (by first | exact Nat.le_refl _ | exact Nat.le_of_ble_eq_true rfl | decide | omega) | exact dlt3 (by assumption) _ (by first | exact Nat.le_refl _ | exact Nat.le_of_ble_eq_true rfl | decide | omega)) | ((try simp only [depth_deeper, recursionLimit] at *); (try dsimp only [ktrTop] at *); omega))); (case u3 => (first | exact ult (by assumption) _ (by first | exact Nat.le_refl _ | exact Nat.le_of_ble_eq_true rfl | decide | omega) | exact ult2 (by assumption) | ((try simp only [units_deeper]); (try dsimp only [ktrTop]); first | exact ult (by assumption) _ (by first | exact Nat.le_refl _ | exact Nat.le_of_ble_eq_true rfl | decide | omega) | exact ult2 (by assumption) | exact ult3 (by assumption) _ (by first | exact Nat.le_refl _ | exact Nat.le_of_ble_eq_true rfl | decide | omega)) | ((try simp only [units_deeper] at *); (try dsimp only [ktrTop] at *); omega))))
  trivial
noncomputable def Good (T : Nat) : Nd → Prop
  | .chr c => 0 ≤ c ∧ c < 1000
  | .any => True
  | .set => True
  | .seq a b => Good T a ∧ Good T b ∧ wid T (.seq a b) ≤ 1000000
  | .alt a b => Good T a ∧ Good T b ∧ wid T (.alt a b) ≤ 1000000
  | .group g n => g ≤ 100 ∧ Good T n ∧ wid T (.group g n) ≤ 1000000
  | .times least most g n => least ≤ 2 ∧ (most = -1 ∨ ((least : Int) ≤ most ∧ most ≤ least + 1)) ∧ Good T n ∧ wid T (.times least most g n) ≤ 1000000
theorem WaysC.mono {w : World} {text : List Int} {folds : Bool} {a b : Nat} {n : Nd} (h : WaysC w text folds a n) (hab : a ≤ b) : WaysC w text folds b n :=
  fun news nv kv tv p pt c h1 h2 h3 h4 => (h news nv kv tv p pt c h1 h2 h3 h4).mono hab
theorem ways_ok (w : World) (text : List Int) (folds : Bool) : ∀ n, Good text.length n → WaysC w text folds (pysz text.length n) n
  | .chr c, g => fun news nv kv tv p pt k hn hk ht hp => by
    cases hn with
    | chr hm => exact leaf_ok w text folds _ (.chr c) news _ kv tv p pt k (.chr hm) rfl (fun c' e => by cases e; exact g) hk ht hp
  | .any, g => fun news nv kv tv p pt k hn hk ht hp => by
    cases hn with
    | any hm => exact leaf_ok w text folds _ .any news _ kv tv p pt k (.any hm) rfl (fun c' e => by cases e) hk ht hp
  | .set, g => fun news nv kv tv p pt k hn hk ht hp => by
    cases hn with
    | set hm h2 h3 h4 => exact leaf_ok w text folds _ .set news _ kv tv p pt k (.set hm h2 h3 h4) rfl (fun c' e => by cases e) hk ht hp
  | .seq a b, g => seq_ok w text folds _ _ a b (ways_ok w text folds a g.1) (ways_ok w text folds b g.2.1) g.2.2
  | .alt a b, g => alt_ok w text folds _ _ a b (ways_ok w text folds a g.1) (ways_ok w text folds b g.2.1) g.2.2
  | .group k n, g => (group_ok w text folds _ n k (ways_ok w text folds n g.2.1) g.1 g.2.2).mono (Nat.le_refl _)
  | .times least most gr n, g => (times_ok w text folds _ n least most gr (ways_ok w text folds n g.2.2.1) g.1 g.2.1 g.2.2.2)
end Mine
end
section
open PySem PySem.W PyProof.Rows PyProof.V
set_option Elab.async false
set_option maxRecDepth 100000
set_option maxHeartbeats 8000000
namespace Mine


theorem setup_W13_1 : True := by
  k_with_none
  k_with "mem0" => first | with_reducible exact List.mem_cons_self | (refine List.mem_cons_of_mem _ ?_; k_mem)
  k_with "all0" => first | assumption | exact fun p hp => Nat.ne_of_lt (ktn_ltOf (by assumption) p hp)
  k_with "execs cons" => (k_here; k_fold)
  k_with "eval Tuple" => (k_here; k_fold)
  k_with "eval List" => (k_here; k_fold)
  k_with "eval BinOp" => (k_here; k_fold)
  k_with "exec Assign" => (k_here; k_fold)
  k_with "eval IfExp" => (k_here; k_fold)
  k_with "binaryOp Add ref ref" => (k_here; (with_reducible show wpAny _ _ (binaryOp Operator.Add (Value.ref _) (Value.ref _)) _ _ _); k_dflt (refine' add_lists ?zzF ?zzN ?zzl ?zzb ?_ ?zzz; (case zzF => k_asm); (case zzN => k_asm); (case zzl => exact News.isList (by k_asm) (by k_mem)); (case zzb => exact News.isList (by k_asm) (by k_mem)); (case zzz => first | assumption | (simp only [List.length_cons, List.length_nil] at *; rw [sizeLine_eq] at *; omega))); intro h' F' N'; (try dsimp only))
  k_with "eval Call" => (k_here; (try k_fold); k_dflt (refine Call_ ?_))
  k_with "exec For Tuple Name cons nil" => (k_here; (rename Fr _ _ _ _ => lF'); (with_unfolding_all refine' For_turns lF' ?_; k_whole))
  k_with "exec For Tuple Call cons nil" => (k_here; (rename Fr _ _ _ _ => lF'); (with_unfolding_all refine' For_turns lF' ?_; k_whole))
  k_with "AccPost" => dsimp only [AccPost]
  k_with "same" => (intro z h1 h3; (simp only [List.contains_cons, List.contains_nil, Bool.or_false, Bool.or_eq_false_iff, beq_eq_false_iff_ne, ne_eq] at h3); (simp [h1, h3]; done))
  k_with "mem" => first | with_reducible assumption | with_reducible exact List.mem_cons_self | (refine List.mem_cons_of_mem _ ?_; walk_at "mem") | (refine List.mem_append.mpr (Or.inr ?_); walk_at "mem") | (refine List.mem_append.mpr (Or.inl ?_); walk_at "mem")
  k_with "app" => (intro p hp; walk_at "mem")
  k_with "con" => ((case B => k_asm); (case F => k_asm); (case X => k_asm); (case T => k_asm); (case k => first | exact rfl | assumption); (case d => (first | exact dlt (by assumption) _ (by first | exact Nat.le_refl _ | exact Nat.le_of_ble_eq_true rfl | decide | omega) | ((try simp only [depth_deeper]); (try dsimp only [ktrTop]); first | exact dlt (by assumption) _ (by first | exact Nat.le_refl _ | exact Nat.le_of_ble_eq_true rfl | decide | omega) | exact dlt3 (by assumption) _ (by first | exact Nat.le_refl _ | exact Nat.le_of_ble_eq_true rfl | decide | omega)) | ((try simp only [depth_deeper, recursionLimit] at *); (try dsimp only [ktrTop] at *); omega))); (case u => (first | exact ult (by assumption) _ (by first | exact Nat.le_refl _ | exact Nat.le_of_ble_eq_true rfl | decide | omega) | exact ult2 (by assumption) | ((try simp only [units_deeper]); (try dsimp only [ktrTop]); first | exact ult (by assumption) _ (by first | exact Nat.le_refl _ | exact Nat.le_of_ble_eq_true rfl | decide | omega) | exact ult2 (by assumption) | exact ult3 (by assumption) _ (by first | exact Nat.le_refl _ | exact Nat.le_of_ble_eq_true rfl | decide | omega)) | ((try simp only [units_deeper] at *); (try dsimp only [ktrTop] at *); omega))))
  k_with "enterC" => (refine' code_defC ?zzk1 ?zzk2 ?zzk3 ?zzk4 ?zzk5 ?zzkA ?zzkF ?zzkK ?zzk6 ?zzk7 ?zzk8 ?zzk9 ?zzkB ?zzkD ?_ ?zzc2 ?zzc3 ?zzc4; (case zzkA => exact rfl); (case zzkF => exact rfl); (case zzkK => assumption); (case zzk1 => k_asm); (case zzk2 => k_asm); (case zzk3 => k_asm); (case zzk4 => k_asm); (case zzk5 => k_asm); (case zzk6 => k_is); (case zzk7 => k_is); (case zzk8 => ktr_room); (case zzk9 => exact BindsTo.of_eq rfl); (case zzkB => exact rfl); (case zzkD => decide +kernel); (case zzc2 => exact rfl); (case zzc3 => exact rfl); (case zzc4 => exact rfl); k_whole; intro g' L' h' tk' cells' FG' F' N' Y' B' X' T' l1; (try k_lt l1); k_cells Y'; (try simp only [List.cons_append, List.nil_append] at N'); (try dsimp only); (try k_fold))
  k_with "con2" => ((case B2 => k_asm); (case F2 => k_asm); (case X2 => k_asm); (case T2 => k_asm); (case k2 => first | exact rfl | assumption); (case d2 => (first | exact dlt (by assumption) _ (by first | exact Nat.le_refl _ | exact Nat.le_of_ble_eq_true rfl | decide | omega) | ((try simp only [depth_deeper]); (try dsimp only [ktrTop]); first | exact dlt (by assumption) _ (by first | exact Nat.le_refl _ | exact Nat.le_of_ble_eq_true rfl | decide | omega) | exact dlt3 (by assumption) _ (by first | exact Nat.le_refl _ | exact Nat.le_of_ble_eq_true rfl | decide | omega)) | ((try simp only [depth_deeper, recursionLimit] at *); (try dsimp only [ktrTop] at *); omega))); (case u2 => (first | exact ult (by assumption) _ (by first | exact Nat.le_refl _ | exact Nat.le_of_ble_eq_true rfl | decide | omega) | exact ult2 (by assumption) | ((try simp only [units_deeper]); (try dsimp only [ktrTop]); first | exact ult (by assumption) _ (by first | exact Nat.le_refl _ | exact Nat.le_of_ble_eq_true rfl | decide | omega) | exact ult2 (by assumption) | exact ult3 (by assumption) _ (by first | exact Nat.le_refl _ | exact Nat.le_of_ble_eq_true rfl | decide | omega)) | ((try simp only [units_deeper] at *); (try dsimp only [ktrTop] at *); omega))))
  k_with "con3" => ((case B3 => k_asm); (case F3 => k_asm); (case X3 => k_asm); (case T3 => k_asm); (case k3 => first | exact rfl | assumption); (case d3 => (first | exact dlt (by assumption) _ (by first | exact Nat.le_refl _ | exact Nat.le_of_ble_eq_true rfl | decide | omega) | ((try simp only [depth_deeper]); (try dsimp only [ktrTop]); first | exact dlt (by assumption) _ (by first | exact Nat.le_refl _ | exact Nat.le_of_ble_eq_true rfl | decide | omega) | exact dlt3 (by assumption) _ (by first | exact Nat.le_refl _ | exact Nat.le_of_ble_eq_true rfl | decide | omega)) | ((try simp only [depth_deeper, recursionLimit] at *); (try dsimp only [ktrTop] at *); omega))); (case u3 => (first | exact ult (by assumption) _ (by first | exact Nat.le_refl _ | exact Nat.le_of_ble_eq_true rfl | decide | omega) | exact ult2 (by assumption) | ((try simp only [units_deeper]); (try dsimp only [ktrTop]); first | exact ult (by assumption) _ (by first | exact Nat.le_refl _ | exact Nat.le_of_ble_eq_true rfl | decide | omega) | exact ult2 (by assumption) | exact ult3 (by assumption) _ (by first | exact Nat.le_refl _ | exact Nat.le_of_ble_eq_true rfl | decide | omega)) | ((try simp only [units_deeper] at *); (try dsimp only [ktrTop] at *); omega))))
  k_with "subs" => first | exact List.forall_mem_nil _ | (refine List.forall_mem_cons.mpr ⟨?zzha, ?zzhb⟩; (case zzha => walk_at "mem"); (case zzhb => walk_at "subs")) | (refine List.forall_mem_append.mpr ⟨?_, ?_⟩ <;> walk_at "subs") | (intro p hp; walk_at "mem")
  k_with "exec While" => (k_here; k_dflt (refine whl_start 0 ?_); refine Hold.out ?_)
  k_with "call builtin:len" => (k_here; k_dflt (refine' len_text ?zzN ?zzm ?zzi ?zzl ?_; (case zzN => k_asm); (case zzm => k_mem); (case zzi => assumption); (case zzl => assumption)))
  trivial
theorem item_hd {prog : Program} {w : World} {A : Around} {E : Value → Shared → Prop} {s : Shared} {h₀ : Heap} {L : Addr} {news : List (Addr × Obj)} {value slice : PySem.Expr} {ta : Addr} {u : Tok} {x : Value} {rest : List Value} {Q : Value → Shared → Prop} (N : News h₀ L s.heap news) (hm : (ta, tup (x :: rest)) ∈ news) (h : Q x s)
    (hs : subscripted slice false (.ref ta) (.int 0 u) = operate [.ref ta, .int 0 u] (getItem (.ref ta) (.int 0 u)) := by with_unfolding_all rfl) : wpAny (model prog w) A (subscriptTail value slice (.ref ta) (.int 0 u)) Q E s :=
  item_tupleT (l := x :: rest) (j := 0) (News.isTup N hm) (by decide) (by decide) (by simp [seqIndex?]) rfl h hs
theorem eq_no {prog : Program} {w : World} {A : Around} {E : Value → Shared → Prop} {s : Shared} {x y : Str} {t u : Tok} {Q : Value → Shared → Prop} (e : (x == y) = false) (h : Q (.bool false) s) : wpAny (model prog w) A (compareOp .Eq (.str x t) (.str y u)) Q E s :=
  PyProof.Rows.eq_str (by rw [e]; exact h)
theorem RowIn.plain {ns : List (Addr × Obj)} {v : Value} {r : Rw} {folds : Bool} {t : Int → Bool} (h : RowIn ns v r) (ht : r.tk folds = some t) : ∃ a s tk rest, v = .ref a ∧ (a, tup (.str s tk :: rest)) ∈ ns ∧ (s == Str.ofString "done") = false ∧ (s == Str.ofString "split") = false ∧ (s == Str.ofString "jump") = false ∧ (s == Str.ofString "save") = false ∧ (s == Str.ofString "mark") = false ∧ (s == Str.ofString "progress") = false := by
  induction h with
  | chr h => exact ⟨_, _, _, _, rfl, h, by decide +kernel⟩
  | any h => exact ⟨_, _, _, _, rfl, h, by decide +kernel⟩
  | set h _ _ _ => exact ⟨_, _, _, _, rfl, h, by decide +kernel⟩
  | _ => cases ht
theorem Fr.useL {G : Prop} {h₀ h : Heap} {L : Addr} {m : Str → Option Value} (F : Fr h₀ L h m) (k : let m' := m; Fr h₀ L h m' → G) : G := k F
theorem KeptIn.ref {w : World} {ns : List (Addr × Obj)} {v : Value} {c : Kept} (h : KeptIn w ns v c) : ∃ d, v = .ref d := let ⟨d, _, _, e, _⟩ := h; ⟨d, e⟩
theorem setup_W13_2 : True := by
  k_with "subscriptTail" => (k_here; k_dflt (refine' kept_item ?zzN ?zzK ?zzq ?_ ?zzs ?zzg; (case zzq => assumption); (case zzN => k_asm); (case zzK => assumption); (case zzs => with_unfolding_all rfl); (case zzg => intro _; with_unfolding_all rfl)); intro t')
  k_with "subscriptTail" => (k_here; k_dflt (refine' item_vs ?zzN ?zzm ?zzx ?zzk ?_ ?zzs ?zzg; (case zzx => assumption); (case zzN => k_asm); (case zzm => k_mem); (case zzk => assumption); (case zzs => with_unfolding_all rfl); (case zzg => intro _; with_unfolding_all rfl)))
  k_with "WhlPost" => (dsimp only [WhlPost]; (try (with_reducible change (_ : Flow → Shared → Prop) _ _)))
  k_with "WhlRest" => refine Hold.out ?_
  k_with "same4" => (intro z h1 h2 h4 h5 h3; (simp only [List.contains_cons, List.contains_nil, Bool.or_false, Bool.or_eq_false_iff, beq_eq_false_iff_ne, ne_eq] at h3); (simp +zetaDelta [h1, h2, h4, h5, h3]; done))
  trivial
noncomputable def GoneC (w : World) (text : List Int) (folds : Bool) (R : List Rw) (d : Nat) : Prop :=
  ∀ (n r p : Nat) (k m : Kept) (x : List St) (news : List (Addr × Obj)) (rv kv mv tv : Value) (rt pt : Tok), GoneN text folds R n d r p k m x → x.length ≤ 1000000 → RowsIn news rv R → KeptIn w news kv k → KeptIn w news mv m → TextIn news tv text →
    Con w (d + 3) 234 [rv, .int (r : Int) rt, .int (p : Int) pt, kv, mv, tv, .bool folds] news (fun ns res => StsIn w ns res x)
theorem Fr.use {h₀ h : Heap} {L : Addr} {m : Str → Option Value} {G : Prop} (F : Fr h₀ L h m) (k : ∀ m', m' = m → Fr h₀ L h m' → G) : G := k _ rfl F
theorem setup_W13_3 : True := by
  k_with "subscriptTail" => (k_here; (with_reducible show wpAny _ _ (subscriptTail _ _ (Value.ref _) (Value.int 0 _)) _ _ _); k_dflt (refine' item_hd ?zzN ?zzm ?_ ?zzs; (case zzm => with_reducible assumption); (case zzN => k_asm); (case zzs => with_unfolding_all rfl)))
  trivial
inductive GInv (w : World) (text : List Int) (folds : Bool) (R : List Rw) (d : Nat) (x : List St) (news : List (Addr × Obj)) (g0 : Heap) (L0 : Addr) (m₀ : Str → Option Value) (s : Shared) : Nat → Shared → Prop
  | mk {h : Heap} {tk r p n : Nat} {k m : Kept} {m₁ : Str → Option Value} {news₁ : List (Addr × Obj)} {rt pt : Tok} {kv mv : Value} (hG : GoneN text folds R n d r p k m x) (hF : Fr g0 L0 h m₁) (hN : News g0 L0 h news₁) (hsub : ∀ q ∈ news, q ∈ news₁)
    (e1 : m₁ (Str.ofString "row") = some (.int ((r : Nat) : Int) rt)) (e2 : m₁ (Str.ofString "place") = some (.int ((p : Nat) : Int) pt)) (e3 : m₁ (Str.ofString "kept") = some kv) (e4 : m₁ (Str.ofString "marks") = some mv)
    (hz : ∀ z, z ≠ Str.ofString "row" → z ≠ Str.ofString "place" → z ≠ Str.ofString "kept" → z ≠ Str.ofString "marks" → [Str.ofString "own", Str.ofString "word", Str.ofString "first"].contains z = false → m₁ z = m₀ z) (hk : KeptIn w news₁ kv k) (hm : KeptIn w news₁ mv m) :
    GInv w text folds R d x news g0 L0 m₀ s n { heap := h, gens := s.gens, drawn := s.drawn, toks := tk, os := s.os }
theorem of_eq2 {α β : Type} {I J : α → β → Prop} (e : I = J) {a : α} {b : β} (h : J a b) : I a b := by rw [e]; exact h
noncomputable def gW : Nat → Str
  | 0 => Str.ofString "done" | 1 => Str.ofString "split" | 2 => Str.ofString "jump" | 3 => Str.ofString "save" | 4 => Str.ofString "mark" | _ => Str.ofString "progress"
noncomputable def Chn (W : Nat → Str) (P : Nat → Prop) (word : Str) : Nat → Nat → Prop
  | 0, i => P i
  | n + 1, i => (word = W i ∧ P i) ∨ ((word == W i) = false ∧ Chn W P word n (i + 1))
theorem Chn.hit {W : Nat → Str} {P : Nat → Prop} {word : Str} {n i : Nat} (e : word = W i) (h : P i) : Chn W P word (n + 1) i := Or.inl ⟨e, h⟩
theorem Chn.skip {W : Nat → Str} {P : Nat → Prop} {word : Str} {n i : Nat} (e : (word == W i) = false) (h : Chn W P word n (i + 1)) : Chn W P word (n + 1) i := Or.inr ⟨e, h⟩
noncomputable def GP (text : List Int) (folds : Bool) (R : List Rw) (ns : List (Addr × Obj)) (k m : Kept) (x : List St) (r p d n : Nat) (a : Addr) (rest : List Value) : Nat → Prop
  | 0 => x = [(p, k)]
  | 1 => ∃ n1 n2 d' ra rb tx ty y z, rest = [.int ((ra : Nat) : Int) tx, .int ((rb : Nat) : Int) ty] ∧ d = d' + 1 ∧ GoneN text folds R n1 d' ra p k m y ∧ GoneN text folds R n2 d' rb p k m z ∧ x = y ++ z
  | 2 => ∃ n' ra tx, rest = [.int ((ra : Nat) : Int) tx] ∧ n = n' + 1 ∧ GoneN text folds R n' d ra p k m x
  | 3 => ∃ n' i tx, rest = [.int ((i : Nat) : Int) tx] ∧ i < 20000 ∧ n = n' + 1 ∧ GoneN text folds R n' d (r + 1) p (put i p k) m x
  | 4 => ∃ n' i tx, rest = [.int ((i : Nat) : Int) tx] ∧ i < 20000 ∧ n = n' + 1 ∧ GoneN text folds R n' d (r + 1) p k (put i p m) x
  | 5 => ∃ i tx q, rest = [.int ((i : Nat) : Int) tx] ∧ i < 20000 ∧ get i m = some q ∧ (((p : Int) ≤ q ∧ x = []) ∨ (q < (p : Int) ∧ ∃ n', n = n' + 1 ∧ GoneN text folds R n' d (r + 1) p k m x))
  | _ => ∃ wr tt, RowIn ns (.ref a) wr ∧ wr.tk folds = some tt ∧ wr.fine ∧ ((text.length ≤ p ∧ x = []) ∨ (∃ c, text[p]? = some c ∧ ((tt c = false ∧ x = []) ∨ (tt c = true ∧ ∃ n', n = n' + 1 ∧ GoneN text folds R n' d (r + 1) (p + 1) k m x))))
noncomputable def RowS (ns : List (Addr × Obj)) (v : Value) : Rw → Prop
  | .done => ∃ a t, v = .ref a ∧ (a, tup [wd "done" t]) ∈ ns
  | .split x y => ∃ a t tx ty, v = .ref a ∧ (a, tup [wd "split" t, .int (x : Int) tx, .int (y : Int) ty]) ∈ ns
  | .jump x => ∃ a t tx, v = .ref a ∧ (a, tup [wd "jump" t, .int (x : Int) tx]) ∈ ns
  | .save x => ∃ a t tx, v = .ref a ∧ (a, tup [wd "save" t, .int (x : Int) tx]) ∈ ns
  | .mark x => ∃ a t tx, v = .ref a ∧ (a, tup [wd "mark" t, .int (x : Int) tx]) ∈ ns
  | .prog x => ∃ a t tx, v = .ref a ∧ (a, tup [wd "progress" t, .int (x : Int) tx]) ∈ ns
  | _ => True
theorem RowIn.shape {ns : List (Addr × Obj)} {v : Value} {r : Rw} (h : RowIn ns v r) : RowS ns v r := by
  induction h with
  | done h => exact ⟨_, _, rfl, h⟩
  | split h => exact ⟨_, _, _, _, rfl, h⟩
  | jump h => exact ⟨_, _, _, rfl, h⟩
  | save h => exact ⟨_, _, _, rfl, h⟩
  | mark h => exact ⟨_, _, _, rfl, h⟩
  | prog h => exact ⟨_, _, _, rfl, h⟩
  | _ => trivial
noncomputable def GRow (text : List Int) (folds : Bool) (R : List Rw) (ns : List (Addr × Obj)) (n d r p : Nat) (k m : Kept) (x : List St) (v : Value) : Prop :=
  ∃ a word wtk rest, v = .ref a ∧ (a, tup (.str word wtk :: rest)) ∈ ns ∧ Chn gW (GP text folds R ns k m x r p d n a rest) word 6 0
noncomputable def GKind (text : List Int) (folds : Bool) (R : List Rw) (ns : List (Addr × Obj)) (n d r p : Nat) (k m : Kept) (x : List St) : Prop :=
  ∃ w', R[r]? = some w' ∧ ∀ v, RowIn ns v w' → w'.fine → GRow text folds R ns n d r p k m x v
section
variable {text : List Int} {folds : Bool} {R : List Rw} {ns : List (Addr × Obj)} {n d r p : Nat} {k m : Kept} {x : List St} {v : Value}
theorem GKind.plain {w' : Rw} {tt : Int → Bool} (h1 : R[r]? = some w') (htk : w'.tk folds = some tt)
    (hP : ∀ a, RowIn ns (.ref a) w' → w'.fine → ∀ rest, GP text folds R ns k m x r p d n a rest 6) : GKind text folds R ns n d r p k m x :=
  ⟨_, h1, fun v hi hf => by
    obtain ⟨a, s, tk, rest, rfl, hm, w1, w2, w3, w4, w5, w6⟩ := hi.plain htk
    exact ⟨_, _, _, _, rfl, hm, .skip w1 (.skip w2 (.skip w3 (.skip w4 (.skip w5 (.skip w6 (hP _ hi hf _))))))⟩⟩
theorem nw {a b : String} (h : (Str.ofString a == Str.ofString b) = false := by decide +kernel) : (Str.ofString a == Str.ofString b) = false := h
theorem GRow.done (hi : RowS ns v .done) (hx : x = [(p, k)]) : GRow text folds R ns n d r p k m x v := by
  obtain ⟨a, t, rfl, hm⟩ := hi
  exact ⟨_, _, _, _, rfl, hm, .hit rfl hx⟩
theorem GRow.split {a b : Nat} (hi : RowS ns v (.split a b)) (h : ∀ a' tx ty, GP text folds R ns k m x r p d n a' [.int (a : Int) tx, .int (b : Int) ty] 1) : GRow text folds R ns n d r p k m x v := by
  obtain ⟨a, t, tx, ty, rfl, hm⟩ := hi
  exact ⟨_, _, _, _, rfl, hm, .skip (by decide +kernel) (.hit rfl (h _ _ _))⟩
theorem GRow.jump {a : Nat} (hi : RowS ns v (.jump a)) (h : ∀ a' tx, GP text folds R ns k m x r p d n a' [.int (a : Int) tx] 2) : GRow text folds R ns n d r p k m x v := by
  obtain ⟨a, t, tx, rfl, hm⟩ := hi
  exact ⟨_, _, _, _, rfl, hm, .skip (by decide +kernel) (.skip (by decide +kernel) (.hit rfl (h _ _)))⟩
theorem GRow.save {a : Nat} (hi : RowS ns v (.save a)) (h : ∀ a' tx, GP text folds R ns k m x r p d n a' [.int (a : Int) tx] 3) : GRow text folds R ns n d r p k m x v := by
  obtain ⟨a, t, tx, rfl, hm⟩ := hi
  exact ⟨_, _, _, _, rfl, hm, .skip (by decide +kernel) (.skip (by decide +kernel) (.skip (by decide +kernel) (.hit rfl (h _ _))))⟩
theorem GRow.mark {a : Nat} (hi : RowS ns v (.mark a)) (h : ∀ a' tx, GP text folds R ns k m x r p d n a' [.int (a : Int) tx] 4) : GRow text folds R ns n d r p k m x v := by
  obtain ⟨a, t, tx, rfl, hm⟩ := hi
  exact ⟨_, _, _, _, rfl, hm, .skip (by decide +kernel) (.skip (by decide +kernel) (.skip (by decide +kernel) (.skip (by decide +kernel) (.hit rfl (h _ _)))))⟩
theorem GRow.prog {a : Nat} (hi : RowS ns v (.prog a)) (h : ∀ a' tx, GP text folds R ns k m x r p d n a' [.int (a : Int) tx] 5) : GRow text folds R ns n d r p k m x v := by
  obtain ⟨a, t, tx, rfl, hm⟩ := hi
  exact ⟨_, _, _, _, rfl, hm, .skip (by decide +kernel) (.skip (by decide +kernel) (.skip (by decide +kernel) (.skip (by decide +kernel) (.skip (by decide +kernel) (.hit rfl (h _ _))))))⟩
theorem GoneN.kind (h : GoneN text folds R n d r p k m x) : GKind text folds R ns n d r p k m x := by
  induction h with
  | done h1 => exact ⟨_, h1, fun _ hi _ => .done hi.shape rfl⟩
  | split h1 ga gb _ _ => exact ⟨_, h1, fun _ hi _ => .split hi.shape fun _ _ _ => ⟨_, _, _, _, _, _, _, _, _, rfl, rfl, ga, gb, rfl⟩⟩
  | jump h1 ga _ => exact ⟨_, h1, fun _ hi _ => .jump hi.shape fun _ _ => ⟨_, _, _, rfl, rfl, ga⟩⟩
  | save h1 ga _ => exact ⟨_, h1, fun _ hi hf => .save hi.shape fun _ _ => ⟨_, _, _, rfl, hf, rfl, ga⟩⟩
  | mark h1 ga _ => exact ⟨_, h1, fun _ hi hf => .mark hi.shape fun _ _ => ⟨_, _, _, rfl, hf, rfl, ga⟩⟩
  | stuck h1 hq hle => exact ⟨_, h1, fun _ hi hf => .prog hi.shape fun _ _ => ⟨_, _, _, rfl, hf, hq, .inl ⟨hle, rfl⟩⟩⟩
  | prog h1 hq hle ga _ => exact ⟨_, h1, fun _ hi hf => .prog hi.shape fun _ _ => ⟨_, _, _, rfl, hf, hq, .inr ⟨hle, _, rfl, ga⟩⟩⟩
  | over h1 htk hlen => exact .plain h1 htk fun _ hi hf _ => ⟨_, _, hi, htk, hf, .inl ⟨hlen, rfl⟩⟩
  | miss h1 htk hc htc => exact .plain h1 htk fun _ hi hf _ => ⟨_, _, hi, htk, hf, .inr ⟨_, hc, .inl ⟨htc, rfl⟩⟩⟩
  | take h1 htk hc htc ga _ => exact .plain h1 htk fun _ hi hf _ => ⟨_, _, hi, htk, hf, .inr ⟨_, hc, .inr ⟨htc, _, rfl, ga⟩⟩⟩
end
theorem GoneN.use {G : Prop} {text : List Int} {folds : Bool} {R : List Rw} {news news₁ : List (Addr × Obj)} {n d r p : Nat} {k m : Kept} {x : List St} {rvs : List Value} (hG : GoneN text folds R n d r p k m x)
    (re : Each (RowIn news) rvs R) (hsub : ∀ q ∈ news, q ∈ news₁) (rl : R.length ≤ 30000) (rf : ∀ r ∈ R, r.fine)
    (K : ∀ a word wtk rest, rvs[r]? = some (.ref a) → r < 100000 → (a, tup (.str word wtk :: rest)) ∈ news₁ → Chn gW (GP text folds R news₁ k m x r p d n a rest) word 6 0 → G) : G := by
  obtain ⟨w', h, hP⟩ := hG.kind (ns := news₁)
  obtain ⟨v, hv, hi⟩ := re.get h
  have hlt : r < R.length := (List.getElem?_eq_some_iff.mp h).1
  obtain ⟨a, word, wtk, rest, rfl, hm, hC⟩ := hP v (hi.monoP (SubP.of hsub)) (rf _ (List.mem_of_getElem? h))
  exact K a word wtk rest hv (by omega) hm hC
structure RunMark : Prop where
  x : True
theorem setup_W13_4 : True := by
  k_with "compareOp Eq str str" => (k_here; (rename RunMark => im'); refine Hold.out ?_)
  trivial
set_option tactic.hygienic true in
theorem gone_step (w : World) (text : List Int) (folds : Bool) (R : List Rw) (d : Nat) (IH : ∀ d', d' < d → GoneC w text folds R d') : GoneC w text folds R d := by
  intro n r p k m x news rv kv mv tv rt pt hG hxl hR hk hm ht
  unfold Con
  k_fill
  intro pg loose mean mg mb dp un gd cn cs a ccd cl outer A₀ base h₀ L M s Q E B F X N T hkk hd hu hret
  refine wpAny_call ?_
  k_dflt ktr_enter
  rename_i g0 L0 h0 FG0 F0 N0 B0 X0 T0
  k_steps
  refine Hold.of ?_
  refine Fr.useL F0 ?_
  clear F0
  intro m₀ F1
  obtain ⟨Inv, hI⟩ : ∃ I : Nat → Shared → Prop, I = GInv w text folds R d x news g0 L0 m₀ s := ⟨_, rfl⟩
  refine whl_ind Inv ?turn n _ ?init
  case init => exact of_eq2 hI (.mk hG F1 N0 (fun _ h => h) (by with_unfolding_all rfl) (by with_unfolding_all rfl) (by with_unfolding_all rfl) (by with_unfolding_all rfl) (fun _ _ _ _ _ _ => rfl) hk hm)
  clear hG hk hm
  intro n s' hs ih
  rw [hI] at hs
  cases hs with
  | @mk h tk r p _ k m m₁ news₁ rt pt kv mv hG hF hN hsub e1 e2 e3 e4 hz hk hm =>
  rw [fn4 e1 e2 e3 e4 hz] at hF
  refine Fr.useL hF ?_
  clear hF
  intro mL hF
  obtain ⟨ra, rn, rvs, rfl, rm, re, rl, rf⟩ := hR
  obtain ⟨ta, tn, tvs, rfl, tm, ti, tb, tl⟩ := ht
  have rm1 := hsub _ rm
  have tm1 := hsub _ tm
  refine GoneN.use hG re hsub rl rf ?_
  clear hG
  intro ra' word wtk rest hv hr1 hm0 hK
  have rmk : RunMark := ⟨trivial⟩
  refine whl_turn (k := 0) (by first | passes_own | with_unfolding_all passes_own) ?_
  k_steps
  refine Hold.of ?_
  rcases hK with ⟨e, rfl⟩ | ⟨e9, hK⟩
  · have e' : word = Str.ofString "done" := e
    clear e
    subst e'
    rename RunMark => im2
    clear im2
    k_steps
    rename News _ _ _ _ => kN
    rename Fr _ _ _ _ => kF
    exact hret _ _ _ _ kF (dup0 kN (fun q hq => .tail _ (.tail _ (hsub q hq)))) ⟨_, _, [_], rfl, .head _, .cons ⟨_, _, _, rfl, .tail _ (.head _), hk.monoP (SubP.of (by walk_at "app"))⟩ .nil⟩
  refine eq_no e9 ?_
  clear e9
  k_steps
  refine Hold.of ?_
  rcases hK with ⟨e, n1, n2, d', sa, sb, tx, ty, sy, sz, rfl, rfl, ga, gb, rfl⟩ | ⟨e9, hK⟩
  · have e' : word = Str.ofString "split" := e
    clear e
    subst e'
    rename RunMark => im2
    clear im2
    simp only [List.length_append] at hxl
    k_steps
    rename News _ _ _ _ => kN1
    refine' Con.at kN1 (IH _ (Nat.lt_succ_self _) _ _ _ _ _ _ _ _ _ _ _ _ _ ga (by omega) ⟨_, _, _, rfl, rm1, re.imp fun _ _ h => h.monoP (SubP.of hsub), rl, rf⟩ hk hm ⟨_, _, _, rfl, tm1, ti, tb, tl⟩) ?B ?F ?X ?T ?k ?d ?u ?_
    walk_at "con"
    intro r' tl' h' tk' F' N' hP
    obtain ⟨qa, qn, qvs, rfl, qm, qe⟩ := hP
    (try dsimp only)
    (try k_fold)
    k_steps
    rename News _ _ _ _ => kN2
    have hP2 : SubP news₁ (tl' ++ news₁) := SubP.of (by walk_at "app")
    have hP0 : SubP news (tl' ++ news₁) := SubP.of fun q hq => List.mem_append.mpr (.inr (hsub q hq))
    refine' Con.at kN2 (IH _ (Nat.lt_succ_self _) _ _ _ _ _ _ _ _ _ _ _ _ _ gb (by omega) ⟨_, _, _, rfl, hP2.lst rm1, re.imp fun _ _ h => h.monoP hP0, rl, rf⟩ (hk.monoP hP2) (hm.monoP hP2) ⟨_, _, _, rfl, hP2.lst tm1, ti, tb, tl⟩) ?B2 ?F2 ?X2 ?T2 ?k2 ?d2 ?u2 ?_
    walk_at "con2"
    intro r' tl2 h' tk' F' N' hP
    obtain ⟨pa, pn, pvs, rfl, pm, pe⟩ := hP
    (try dsimp only)
    (try k_fold)
    have hz1 : qvs.length + pvs.length ≤ sizeLine := by rw [sizeLine_eq, qe.length, pe.length]; omega
    k_steps
    rename News _ _ _ _ => kN3
    rename Fr _ _ _ _ => kF3
    refine hret _ _ _ _ kF3 (dup0 kN3 (fun q hq => .tail _ (List.mem_append.mpr (.inr (List.mem_append.mpr (.inr (hsub q hq))))))) ⟨_, _, _, rfl, List.mem_append.mpr (.inl (.head _)), (qe.imp fun _ _ h => h.monoP (SubP.of (by walk_at "app"))).append (pe.imp fun _ _ h => h.monoP subA1)⟩
  refine eq_no e9 ?_
  clear e9
  k_steps
  refine Hold.of ?_
  rcases hK with ⟨e, n', sa, tx, rfl, rfl, ga⟩ | ⟨e9, hK⟩
  · have e' : word = Str.ofString "jump" := e
    clear e
    subst e'
    rename RunMark => im2
    clear im2
    k_steps
    refine Hold.of ?_
    rename News _ _ _ _ => kN
    rename Fr _ _ _ _ => kF
    refine' ih _ _ (Nat.lt_succ_self _) (of_eq2 hI (.mk ga kF kN hsub ?y1 ?y2 ?y3 ?y4 ?z (hk) (hm)))
    case y1 => with_unfolding_all exact rfl
    case y2 => with_unfolding_all exact rfl
    case y3 => with_unfolding_all exact rfl
    case y4 => with_unfolding_all exact rfl
    case z => walk_at "same4"
  refine eq_no e9 ?_
  clear e9
  k_steps
  refine Hold.of ?_
  rcases hK with ⟨e, n', si, tx, rfl, hfi, rfl, ga⟩ | ⟨e9, hK⟩
  · have e' : word = Str.ofString "save" := e
    clear e
    subst e'
    rename RunMark => im2
    clear im2
    have hfi' := hfi
    k_steps
    rename News _ _ _ _ => kN1
    refine' Con.at kN1 (with_ok w _ _ _ _ _ _ _ hk (by omega) (by omega)) ?B3 ?F3 ?X3 ?T3 ?k3 ?d3 ?u3 ?_
    walk_at "con3"
    intro r' tl' h' tk' F' N' hP
    (try dsimp only)
    (try k_fold)
    k_steps
    refine Hold.of ?_
    rename News _ _ _ _ => kN
    rename Fr _ _ _ _ => kF
    refine' ih _ _ (Nat.lt_succ_self _) (of_eq2 hI (.mk ga kF kN (fun q hq => List.mem_append.mpr (.inr (hsub q hq))) ?y1 ?y2 ?y3 ?y4 ?z (hP) (hm.monoP (SubP.of (by walk_at "app")))))
    case y1 => with_unfolding_all exact rfl
    case y2 => with_unfolding_all exact rfl
    case y3 => with_unfolding_all exact rfl
    case y4 => with_unfolding_all exact rfl
    case z => walk_at "same4"
  refine eq_no e9 ?_
  clear e9
  k_steps
  refine Hold.of ?_
  rcases hK with ⟨e, n', si, tx, rfl, hfi, rfl, ga⟩ | ⟨e9, hK⟩
  · have e' : word = Str.ofString "mark" := e
    clear e
    subst e'
    rename RunMark => im2
    clear im2
    have hfi' := hfi
    k_steps
    rename News _ _ _ _ => kN1
    refine' Con.at kN1 (with_ok w _ _ _ _ _ _ _ hm (by omega) (by omega)) ?B3 ?F3 ?X3 ?T3 ?k3 ?d3 ?u3 ?_
    walk_at "con3"
    intro r' tl' h' tk' F' N' hP
    (try dsimp only)
    (try k_fold)
    k_steps
    refine Hold.of ?_
    rename News _ _ _ _ => kN
    rename Fr _ _ _ _ => kF
    refine' ih _ _ (Nat.lt_succ_self _) (of_eq2 hI (.mk ga kF kN (fun q hq => List.mem_append.mpr (.inr (hsub q hq))) ?y1 ?y2 ?y3 ?y4 ?z (hk.monoP (SubP.of (by walk_at "app"))) (hP)))
    case y1 => with_unfolding_all exact rfl
    case y2 => with_unfolding_all exact rfl
    case y3 => with_unfolding_all exact rfl
    case y4 => with_unfolding_all exact rfl
    case z => walk_at "same4"
  refine eq_no e9 ?_
  clear e9
  k_steps
  refine Hold.of ?_
  rcases hK with ⟨e, si, tx, q, rfl, hfi, hq, hsp⟩ | ⟨e9, hK⟩
  · have e' : word = Str.ofString "progress" := e
    clear e
    subst e'
    rename RunMark => im2
    clear im2
    rcases hsp with ⟨hle, rfl⟩ | ⟨hle, n', rfl, ga⟩
    · obtain ⟨md, rfl⟩ := hm.ref
      k_steps
      rename News _ _ _ _ => kN
      rename Fr _ _ _ _ => kF
      exact hret _ _ _ _ kF (dup0 kN (fun q hq => .tail _ (hsub q hq))) ⟨_, _, [], rfl, .head _, .nil⟩
    · obtain ⟨md, rfl⟩ := hm.ref
      k_steps
      refine Hold.of ?_
      rename News _ _ _ _ => kN
      rename Fr _ _ _ _ => kF
      refine' ih _ _ (Nat.lt_succ_self _) (of_eq2 hI (.mk ga kF kN hsub ?y1 ?y2 ?y3 ?y4 ?z (hk) (hm)))
      case y1 => with_unfolding_all exact rfl
      case y2 => with_unfolding_all exact rfl
      case y3 => with_unfolding_all exact rfl
      case y4 => with_unfolding_all exact rfl
      case z => walk_at "same4"
  refine eq_no e9 ?_
  clear e9
  rename RunMark => im2
  clear im2
  obtain ⟨wr, tt, hi, htk, hfi, hlast⟩ := hK
  rcases hlast with ⟨hlen, rfl⟩ | ⟨c, hc, ⟨htc, rfl⟩ | ⟨htc, n', rfl, ga⟩⟩
  · k_steps
    rename News _ _ _ _ => kN
    rename Fr _ _ _ _ => kF
    exact hret _ _ _ _ kF (dup0 kN (fun q hq => .tail _ (hsub q hq))) ⟨_, _, [], rfl, .head _, .nil⟩
  · have hlt : p < text.length := (List.getElem?_eq_some_iff.mp hc).1
    have hce : text.getD (p : Int).toNat 0 = c := by simp [hc]
    have hcb := tb c (List.mem_of_getElem? hc)
    have hi0 := hi
    have hfi0 : ∀ c, wr = .chr c → 0 ≤ c ∧ c < 1000 := fun c e => by subst e; exact hfi
    k_steps
    rename News _ _ _ _ => kN1
    refine' Con.at kN1 (takes_ok w _ _ _ tt folds _ _ hi0 htk (by rw [hce]; exact hcb.1) (by rw [hce]; exact hcb.2) hfi0) ?B2 ?F2 ?X2 ?T2 ?k2 ?d2 ?u2 ?_
    walk_at "con2"
    intro r' tl' h' tk' F' N' hP
    rw [hce, htc] at hP
    subst hP
    (try dsimp only)
    (try k_fold)
    k_steps
    rename News _ _ _ _ => kN
    rename Fr _ _ _ _ => kF
    exact hret _ _ _ _ kF (dup0 kN (fun q hq => .tail _ (List.mem_append.mpr (.inr (hsub q hq))))) ⟨_, _, [], rfl, .head _, .nil⟩
  · have hlt : p < text.length := (List.getElem?_eq_some_iff.mp hc).1
    have hce : text.getD (p : Int).toNat 0 = c := by simp [hc]
    have hcb := tb c (List.mem_of_getElem? hc)
    have hi0 := hi
    have hfi0 : ∀ c, wr = .chr c → 0 ≤ c ∧ c < 1000 := fun c e => by subst e; exact hfi
    k_steps
    rename News _ _ _ _ => kN1
    refine' Con.at kN1 (takes_ok w _ _ _ tt folds _ _ hi0 htk (by rw [hce]; exact hcb.1) (by rw [hce]; exact hcb.2) hfi0) ?B2 ?F2 ?X2 ?T2 ?k2 ?d2 ?u2 ?_
    walk_at "con2"
    intro r' tl' h' tk' F' N' hP
    rw [hce, htc] at hP
    subst hP
    (try dsimp only)
    (try k_fold)
    k_steps
    refine Hold.of ?_
    rename News _ _ _ _ => kN
    rename Fr _ _ _ _ => kF
    refine' ih _ _ (Nat.lt_succ_self _) (of_eq2 hI (.mk ga kF kN (fun q hq => List.mem_append.mpr (.inr (hsub q hq))) ?y1 ?y2 ?y3 ?y4 ?z (hk.monoP (SubP.of (by walk_at "app"))) (hm.monoP (SubP.of (by walk_at "app")))))
    case y1 => with_unfolding_all exact rfl
    case y2 => with_unfolding_all exact rfl
    case y3 => with_unfolding_all exact rfl
    case y4 => with_unfolding_all exact rfl
    case z => walk_at "same4"
theorem gone_ok (w : World) (text : List Int) (folds : Bool) (R : List Rw) : ∀ d, GoneC w text folds R d := by
  intro d
  induction d using Nat.strongRecOn with
  | _ d ih => exact gone_step w text folds R d ih
end Mine
end
section
open PySem PySem.W PyProof.Rows PyProof.V
set_option Elab.async false
set_option maxRecDepth 100000
set_option maxHeartbeats 8000000
namespace Mine

theorem setup_W14_1 : True := by
  k_with_none
  k_with "mem0" => first | with_reducible exact List.mem_cons_self | (refine List.mem_cons_of_mem _ ?_; k_mem)
  k_with "all0" => first | assumption | exact fun p hp => Nat.ne_of_lt (ktn_ltOf (by assumption) p hp)
  k_with "execs cons" => (k_here; k_fold; (try ((rename Fr _ _ _ _ => lF9); (refine FrL lF9 ?_); clear lF9; intro mL9 lF9)))
  k_with "eval Tuple" => (k_here; k_fold)
  k_with "eval List" => (k_here; k_fold)
  k_with "eval BinOp" => (k_here; k_fold)
  k_with "exec Assign" => (k_here; k_fold)
  k_with "eval IfExp" => (k_here; k_fold)
  k_with "binaryOp Add ref ref" => (k_here; (with_reducible show wpAny _ _ (binaryOp Operator.Add (Value.ref _) (Value.ref _)) _ _ _); k_dflt (refine' add_lists ?zzF ?zzN ?zzl ?zzb ?_ ?zzz; (case zzF => k_asm); (case zzN => k_asm); (case zzl => exact News.isList (by k_asm) (by k_mem)); (case zzb => exact News.isList (by k_asm) (by k_mem)); (case zzz => first | assumption | (simp only [List.length_cons, List.length_nil] at *; rw [sizeLine_eq] at *; omega))); intro h' F' N'; (try dsimp only))
  k_with "eval Call" => (k_here; (try k_fold); k_dflt (refine Call_ ?_))
  k_with "exec For Tuple Name cons nil" => (k_here; (rename Fr _ _ _ _ => lF'); (with_unfolding_all refine' For_turns lF' ?_; k_whole))
  k_with "exec For Tuple Call cons nil" => (k_here; (rename Fr _ _ _ _ => lF'); (with_unfolding_all refine' For_turns lF' ?_; k_whole))
  k_with "AccPost" => dsimp only [AccPost]
  k_with "same" => (intro z h1 h3; (simp only [List.contains_cons, List.contains_nil, Bool.or_false, Bool.or_eq_false_iff, beq_eq_false_iff_ne, ne_eq] at h3); (simp +zetaDelta [h1, h3]; done))
  k_with "mem" => first | with_reducible assumption | with_reducible exact List.mem_cons_self | (refine List.mem_cons_of_mem _ ?_; walk_at "mem") | (refine List.mem_append.mpr (Or.inr ?_); walk_at "mem") | (refine List.mem_append.mpr (Or.inl ?_); walk_at "mem")
  k_with "app" => (intro p hp; walk_at "mem")
  k_with "con" => ((case B => k_asm); (case F => k_asm); (case X => k_asm); (case T => k_asm); (case k => first | exact rfl | assumption); (case d => (first | exact dlt (by assumption) _ (by first | exact Nat.le_refl _ | exact Nat.le_of_ble_eq_true rfl | decide | omega) | ((try simp only [depth_deeper]); (try dsimp only [ktrTop]); first | exact dlt (by assumption) _ (by first | exact Nat.le_refl _ | exact Nat.le_of_ble_eq_true rfl | decide | omega) | exact dlt3 (by assumption) _ (by first | exact Nat.le_refl _ | exact Nat.le_of_ble_eq_true rfl | decide | omega)) | ((try simp only [depth_deeper, recursionLimit] at *); (try dsimp only [ktrTop] at *); omega))); (case u => (first | exact ult (by assumption) _ (by first | exact Nat.le_refl _ | exact Nat.le_of_ble_eq_true rfl | decide | omega) | exact ult2 (by assumption) | ((try simp only [units_deeper]); (try dsimp only [ktrTop]); first | exact ult (by assumption) _ (by first | exact Nat.le_refl _ | exact Nat.le_of_ble_eq_true rfl | decide | omega) | exact ult2 (by assumption) | exact ult3 (by assumption) _ (by first | exact Nat.le_refl _ | exact Nat.le_of_ble_eq_true rfl | decide | omega)) | ((try simp only [units_deeper] at *); (try dsimp only [ktrTop] at *); omega))))
  k_with "enterC" => (refine' code_defC ?zzk1 ?zzk2 ?zzk3 ?zzk4 ?zzk5 ?zzkA ?zzkF ?zzkK ?zzk6 ?zzk7 ?zzk8 ?zzk9 ?zzkB ?zzkD ?_ ?zzc2 ?zzc3 ?zzc4; (case zzkA => exact rfl); (case zzkF => exact rfl); (case zzkK => assumption); (case zzk1 => k_asm); (case zzk2 => k_asm); (case zzk3 => k_asm); (case zzk4 => k_asm); (case zzk5 => k_asm); (case zzk6 => k_is); (case zzk7 => k_is); (case zzk8 => ktr_room); (case zzk9 => exact BindsTo.of_eq rfl); (case zzkB => exact rfl); (case zzkD => decide +kernel); (case zzc2 => exact rfl); (case zzc3 => exact rfl); (case zzc4 => exact rfl); k_whole; intro g' L' h' tk' cells' FG' F' N' Y' B' X' T' l1; (try k_lt l1); k_cells Y'; (try simp only [List.cons_append, List.nil_append] at N'); (try dsimp only); (try k_fold))
  k_with "con2" => ((case B2 => k_asm); (case F2 => k_asm); (case X2 => k_asm); (case T2 => k_asm); (case k2 => first | exact rfl | assumption); (case d2 => (first | exact dlt (by assumption) _ (by first | exact Nat.le_refl _ | exact Nat.le_of_ble_eq_true rfl | decide | omega) | ((try simp only [depth_deeper]); (try dsimp only [ktrTop]); first | exact dlt (by assumption) _ (by first | exact Nat.le_refl _ | exact Nat.le_of_ble_eq_true rfl | decide | omega) | exact dlt3 (by assumption) _ (by first | exact Nat.le_refl _ | exact Nat.le_of_ble_eq_true rfl | decide | omega)) | ((try simp only [depth_deeper, recursionLimit] at *); (try dsimp only [ktrTop] at *); omega))); (case u2 => (first | exact ult (by assumption) _ (by first | exact Nat.le_refl _ | exact Nat.le_of_ble_eq_true rfl | decide | omega) | exact ult2 (by assumption) | ((try simp only [units_deeper]); (try dsimp only [ktrTop]); first | exact ult (by assumption) _ (by first | exact Nat.le_refl _ | exact Nat.le_of_ble_eq_true rfl | decide | omega) | exact ult2 (by assumption) | exact ult3 (by assumption) _ (by first | exact Nat.le_refl _ | exact Nat.le_of_ble_eq_true rfl | decide | omega)) | ((try simp only [units_deeper] at *); (try dsimp only [ktrTop] at *); omega))))
  k_with "con3" => ((case B3 => k_asm); (case F3 => k_asm); (case X3 => k_asm); (case T3 => k_asm); (case k3 => first | exact rfl | assumption); (case d3 => (first | exact dlt (by assumption) _ (by first | exact Nat.le_refl _ | exact Nat.le_of_ble_eq_true rfl | decide | omega) | ((try simp only [depth_deeper]); (try dsimp only [ktrTop]); first | exact dlt (by assumption) _ (by first | exact Nat.le_refl _ | exact Nat.le_of_ble_eq_true rfl | decide | omega) | exact dlt3 (by assumption) _ (by first | exact Nat.le_refl _ | exact Nat.le_of_ble_eq_true rfl | decide | omega)) | ((try simp only [depth_deeper, recursionLimit] at *); (try dsimp only [ktrTop] at *); omega))); (case u3 => (first | exact ult (by assumption) _ (by first | exact Nat.le_refl _ | exact Nat.le_of_ble_eq_true rfl | decide | omega) | exact ult2 (by assumption) | ((try simp only [units_deeper]); (try dsimp only [ktrTop]); first | exact ult (by assumption) _ (by first | exact Nat.le_refl _ | exact Nat.le_of_ble_eq_true rfl | decide | omega) | exact ult2 (by assumption) | exact ult3 (by assumption) _ (by first | exact Nat.le_refl _ | exact Nat.le_of_ble_eq_true rfl | decide | omega)) | ((try simp only [units_deeper] at *); (try dsimp only [ktrTop] at *); omega))))
  k_with "eval ListComp" => (k_here; refine Hold.out ?_)
  k_with "SrcT" => (k_here; refine Hold.out ?_)
  trivial
noncomputable def LoopsC (w : World) (size : Nat) (n : Nd) : Prop :=
  ∀ (news : List (Addr × Obj)) (nv : Value), NodeIn news nv n → Con w size 239 [nv] news (fun _ r => ∃ t, r = .int (loops n : Int) t)
set_option tactic.hygienic true in
theorem loops_seq (w : World) (sa sb : Nat) (na nb : Nd) (WA : LoopsC w sa na) (WB : LoopsC w sb nb) (hb : loops na + loops nb ≤ 100) : LoopsC w (sa + sb + 1) (.seq na nb) := by
  intro news nv hn
  cases hn with
  | @seq va vb nt x y _ _ hm1 hm2 hx hy =>
  unfold Con
  k_fill
  intro pg loose mean mg mb dp un gd cn cs a ccd cl outer A₀ base h₀ L m s Q E B F X N T hk hd hu hret
  refine wpAny_call ?_
  k_dflt ktr_enter
  rename_i g0 L0 h0 FG0 F0 N0 B0 X0 T0
  k_steps
  refine Hold.of ?_
  rename News _ _ _ _ => kN3
  rename Fr _ _ _ _ => kF3
  k_dflt (refine ListComp_tup (F₀ := kF3) (by with_unfolding_all rfl) (by decide) (by rfl) (by decide) (by rfl) ?_)
  k_steps
  refine Hold.of ?_
  refine ⟨vb, [x, y], _, rfl, rfl, kF3, kN3, .tail _ hm2, (by rw [sizeLine_eq]; simp), fun g' => ?_⟩
  refine comp_rest 2 (fun i ys ns => IntsAre ys (([(loops na : Int), (loops nb : Int)]).take i) ∧ ∀ q ∈ news, q ∈ ns) ?turn ?fin 2 0 [] _ rfl ⟨.nil, fun q hq => .tail _ hq⟩
  case turn =>
    rintro i ys ns v hi hv ⟨hI, hsub⟩ I oI C oC D m₂ h tk E' hC hx1 F1 N1 off ne
    have keep : ∀ (tl : List (Addr × Obj)), ∀ q ∈ news, q ∈ Rest3 I C D (tl ++ (I, oI) :: (C, oC) :: (D, LCg.lst ys) :: ns) := fun tl q hq => mem_rest3 (by have := hsub q hq; walk_at "mem") (off.mem q (hsub q hq)).1 (off.mem q (hsub q hq)).2.1 (off.mem q (hsub q hq)).2.2
    have hin : SubP news ((I, oI) :: (C, oC) :: (D, LCg.lst ys) :: ns) := SubP.of fun q hq => .tail _ (.tail _ (.tail _ (hsub q hq)))
    have src : ∀ (tl : List (Addr × Obj)), (vb, tup [x, y]) ∈ Rest3 I C D (tl ++ (I, oI) :: (C, oC) :: (D, LCg.lst ys) :: ns) := fun tl => keep tl _ hm2
    rcases (show i = 0 ∨ i = 1 by omega) with rfl | rfl
    · simp at hv
      subst hv
      k_steps
      rename News _ _ _ _ => kN4
      refine' Con.at kN4 (WA _ _ (hx.monoP hin)) ?B ?F ?X ?T ?k ?d ?u ?_
      walk_at "con"
      rintro r' tl' h' tk' F' N' ⟨t', rfl⟩
      (try dsimp only)
      (try k_fold)
      refine comp_end F' N' (by walk_at "mem") (by walk_at "mem") (by walk_at "mem") (src _) ⟨?_, keep _⟩
      cases hI
      exact .cons _ _ .nil
    · simp at hv
      subst hv
      k_steps
      rename News _ _ _ _ => kN4
      refine' Con.at kN4 (WB _ _ (hy.monoP hin)) ?B2 ?F2 ?X2 ?T2 ?k2 ?d2 ?u2 ?_
      walk_at "con2"
      rintro r' tl' h' tk' F' N' ⟨t', rfl⟩
      (try dsimp only)
      (try k_fold)
      refine comp_end F' N' (by walk_at "mem") (by walk_at "mem") (by walk_at "mem") (src _) ⟨?_, keep _⟩
      cases hI with
      | cons _ _ hI => cases hI; exact .cons _ _ (.cons _ _ .nil)
  case fin =>
    rintro ys ns ⟨hI, hsub⟩
    k_steps
    rename News _ _ _ _ => kN5
    rename Fr _ _ _ _ => kF5
    exact hret _ _ _ _ kF5 (dup0 kN5 (fun q hq => .tail _ (hsub q hq))) ⟨_, by simp [loops_q1, loops_q2, loops_q3, loops_q4, loops_q5, loops_q6, loops_q7]; rfl⟩
set_option tactic.hygienic true in
theorem loops_alt (w : World) (sa sb : Nat) (na nb : Nd) (WA : LoopsC w sa na) (WB : LoopsC w sb nb) (hb : loops na + loops nb ≤ 100) : LoopsC w (sa + sb + 1) (.alt na nb) := by
  intro news nv hn
  cases hn with
  | @alt va vb nt x y _ _ hm1 hm2 hx hy =>
  unfold Con
  k_fill
  intro pg loose mean mg mb dp un gd cn cs a ccd cl outer A₀ base h₀ L m s Q E B F X N T hk hd hu hret
  refine wpAny_call ?_
  k_dflt ktr_enter
  rename_i g0 L0 h0 FG0 F0 N0 B0 X0 T0
  k_steps
  refine Hold.of ?_
  rename News _ _ _ _ => kN3
  rename Fr _ _ _ _ => kF3
  k_dflt (refine ListComp_tup (F₀ := kF3) (by with_unfolding_all rfl) (by decide) (by rfl) (by decide) (by rfl) ?_)
  k_steps
  refine Hold.of ?_
  refine ⟨vb, [x, y], _, rfl, rfl, kF3, kN3, .tail _ hm2, (by rw [sizeLine_eq]; simp), fun g' => ?_⟩
  refine comp_rest 2 (fun i ys ns => IntsAre ys (([(loops na : Int), (loops nb : Int)]).take i) ∧ ∀ q ∈ news, q ∈ ns) ?turn ?fin 2 0 [] _ rfl ⟨.nil, fun q hq => .tail _ hq⟩
  case turn =>
    rintro i ys ns v hi hv ⟨hI, hsub⟩ I oI C oC D m₂ h tk E' hC hx1 F1 N1 off ne
    have keep : ∀ (tl : List (Addr × Obj)), ∀ q ∈ news, q ∈ Rest3 I C D (tl ++ (I, oI) :: (C, oC) :: (D, LCg.lst ys) :: ns) := fun tl q hq => mem_rest3 (by have := hsub q hq; walk_at "mem") (off.mem q (hsub q hq)).1 (off.mem q (hsub q hq)).2.1 (off.mem q (hsub q hq)).2.2
    have hin : SubP news ((I, oI) :: (C, oC) :: (D, LCg.lst ys) :: ns) := SubP.of fun q hq => .tail _ (.tail _ (.tail _ (hsub q hq)))
    have src : ∀ (tl : List (Addr × Obj)), (vb, tup [x, y]) ∈ Rest3 I C D (tl ++ (I, oI) :: (C, oC) :: (D, LCg.lst ys) :: ns) := fun tl => keep tl _ hm2
    rcases (show i = 0 ∨ i = 1 by omega) with rfl | rfl
    · simp at hv
      subst hv
      k_steps
      rename News _ _ _ _ => kN4
      refine' Con.at kN4 (WA _ _ (hx.monoP hin)) ?B ?F ?X ?T ?k ?d ?u ?_
      walk_at "con"
      rintro r' tl' h' tk' F' N' ⟨t', rfl⟩
      (try dsimp only)
      (try k_fold)
      refine comp_end F' N' (by walk_at "mem") (by walk_at "mem") (by walk_at "mem") (src _) ⟨?_, keep _⟩
      cases hI
      exact .cons _ _ .nil
    · simp at hv
      subst hv
      k_steps
      rename News _ _ _ _ => kN4
      refine' Con.at kN4 (WB _ _ (hy.monoP hin)) ?B2 ?F2 ?X2 ?T2 ?k2 ?d2 ?u2 ?_
      walk_at "con2"
      rintro r' tl' h' tk' F' N' ⟨t', rfl⟩
      (try dsimp only)
      (try k_fold)
      refine comp_end F' N' (by walk_at "mem") (by walk_at "mem") (by walk_at "mem") (src _) ⟨?_, keep _⟩
      cases hI with
      | cons _ _ hI => cases hI; exact .cons _ _ (.cons _ _ .nil)
  case fin =>
    rintro ys ns ⟨hI, hsub⟩
    k_steps
    rename News _ _ _ _ => kN5
    rename Fr _ _ _ _ => kF5
    exact hret _ _ _ _ kF5 (dup0 kN5 (fun q hq => .tail _ (hsub q hq))) ⟨_, by simp [loops_q1, loops_q2, loops_q3, loops_q4, loops_q5, loops_q6, loops_q7]; rfl⟩

theorem loops_group (w : World) (sn : Nat) (g : Nat) (n : Nd) (W : LoopsC w sn n) : LoopsC w (sn + 1) (.group g n) := by
  have pd00 : True := trivial
  have pd01 : True := trivial
  have pd02 : True := trivial
  have pd03 : True := trivial
  have pd04 : True := trivial
  intro news nv hn
  cases hn with
  | @group va vt tk _ v _ hm hx =>
  have pd10 : True := trivial
  have pd11 : True := trivial
  have pd12 : True := trivial
  have pd13 : True := trivial
  have pd14 : True := trivial
  have pd15 : True := trivial
  have pd16 : True := trivial
  unfold Con
  k_fill
  intro pg loose mean mg mb dp un gd cn cs a ccd cl outer A₀ base h₀ L m s Q E B F X N T hk hd hu hret
  refine wpAny_call ?_
  k_dflt ktr_enter
  rename Fr _ _ _ _ => lF9
  refine FrL lF9 ?_
  clear lF9
  intro mL9 lF9
  k_steps
  rename News _ _ _ _ => kN4
  refine' Con.at kN4 (W _ _ (hx.monoP (SubP.of (by walk_at "app")))) ?B ?F ?X ?T ?k ?d ?u ?_
  walk_at "con"
  rintro r' tl' h' tk' F' N' ⟨t', rfl⟩
  (try dsimp only)
  (try k_fold)
  k_steps
  rename News _ _ _ _ => kN5
  rename Fr _ _ _ _ => kF5
  exact hret _ _ _ _ kF5 (dup0 kN5 (by walk_at "app")) ⟨_, rfl⟩
theorem loops_leaf (w : World) (n : Nd) (h : n = .any ∨ n = .set ∨ ∃ c, n = .chr c) : LoopsC w 1 n := by
  intro news nv hn
  have e : loops n = 0 := by rcases h with h | h | ⟨c, h⟩ <;> subst h <;> rfl
  rw [e]
  rcases h with h | h | ⟨c, h⟩ <;> subst h <;> cases hn
  all_goals (
    unfold Con
    k_fill
    intro pg loose mean mg mb dp un gd cn cs a ccd cl outer A₀ base h₀ L m s Q E B F X N T hk hd hu hret
    refine wpAny_call ?_
    k_dflt ktr_enter
    rename Fr _ _ _ _ => lF9
    refine FrL lF9 ?_
    clear lF9
    intro mL9 lF9
    k_steps
    (rename News _ _ _ _ => kN5)
    (rename Fr _ _ _ _ => kF5)
    exact hret _ _ _ _ kF5 (dup0 kN5 (by walk_at "app")) ⟨_, rfl⟩)
theorem loops_times (w : World) (size : Nat) (least : Nat) (most : Int) (g : Bool) (n : Nd) (W : LoopsC w size n) (hl : least ≤ 2) (hm : most = -1 ∨ ((least : Int) ≤ most ∧ most ≤ least + 1)) (hb : loops n ≤ 100) : LoopsC w (size + 1) (.times least most g n) := by
  intro news nv hn
  cases hn with
  | @times va nt nt1 nt2 _ _ _ v _ hnm hx =>
  unfold Con
  k_fill
  intro pg loose mean mg mb dp un gd cn cs a ccd cl outer A₀ base h₀ L m s Q E B F X N T hk hd hu hret
  refine wpAny_call ?_
  k_dflt ktr_enter
  rename Fr _ _ _ _ => lF9
  refine FrL lF9 ?_
  clear lF9
  intro mL9 lF9
  k_steps
  rename News _ _ _ _ => kN4
  refine' Con.at kN4 (W _ _ (hx.monoP (SubP.of (by walk_at "app")))) ?B ?F ?X ?T ?k ?d ?u ?_
  walk_at "con"
  rintro r' tl' h' tk' F' N' ⟨t', rfl⟩
  (try dsimp only)
  (try k_fold)
  rcases hm with hm | hm
  · have hneg : most < 0 := by omega
    k_steps
    rename News _ _ _ _ => kN5
    rename Fr _ _ _ _ => kF5
    exact hret _ _ _ _ kF5 (dup0 kN5 (by walk_at "app")) ⟨_, by rw [show ((loops (.times least most g n) : Nat) : Int) = (loops n : Int) * ((least : Int) + 1) + 1 from by simp [loops_q1, loops_q2, loops_q3, loops_q4, loops_q5, loops_q6, loops_q7, hneg]]⟩
  · have hneg : ¬ most < 0 := by omega
    k_steps
    rename News _ _ _ _ => kN5
    rename Fr _ _ _ _ => kF5
    exact hret _ _ _ _ kF5 (dup0 kN5 (by walk_at "app")) ⟨_, by rw [show ((loops (.times least most g n) : Nat) : Int) = (loops n : Int) * most + 0 from by simp only [loops_q1, loops_q2, loops_q3, loops_q4, loops_q5, loops_q6, loops_q7, hneg, if_false]; rw [Nat.add_zero, Int.natCast_mul, Int.toNat_of_nonneg (by omega), Int.add_zero]]⟩
noncomputable def lsz : Nd → Nat
  | .seq a b => lsz a + lsz b + 1
  | .alt a b => lsz a + lsz b + 1
  | .group _ n => lsz n + 1
  | .times _ _ _ n => lsz n + 1
  | _ => 1
theorem lsz_q1 : lsz (.seq a b) = (lsz a + lsz b + 1) := rfl
theorem lsz_q2 : lsz (.alt a b) = (lsz a + lsz b + 1) := rfl
theorem lsz_q3 : lsz (.group z01 n) = (lsz n + 1) := rfl
theorem lsz_q4 : lsz (.times z01 z02 z03 n) = (lsz n + 1) := rfl
theorem lsz_q5 : lsz (.chr c) = (1) := rfl
theorem lsz_q6 : lsz .any = (1) := rfl
theorem lsz_q7 : lsz .set = (1) := rfl
noncomputable def LB : Nd → Prop
  | .seq a b => LB a ∧ LB b ∧ loops a + loops b ≤ 100
  | .alt a b => LB a ∧ LB b ∧ loops a + loops b ≤ 100
  | .group _ n => LB n
  | .times least most _ n => LB n ∧ loops n ≤ 100 ∧ least ≤ 2 ∧ (most = -1 ∨ ((least : Int) ≤ most ∧ most ≤ least + 1))
  | _ => True
theorem loops_ok (w : World) : ∀ n, LB n → LoopsC w (lsz n) n
  | .chr c, _ => loops_leaf w _ (.inr (.inr ⟨c, rfl⟩))
  | .any, _ => loops_leaf w _ (.inl rfl)
  | .set, _ => loops_leaf w _ (.inr (.inl rfl))
  | .seq a b, h => loops_seq w _ _ a b (loops_ok w a h.1) (loops_ok w b h.2.1) h.2.2
  | .alt a b, h => loops_alt w _ _ a b (loops_ok w a h.1) (loops_ok w b h.2.1) h.2.2
  | .group g n, h => loops_group w _ g n (loops_ok w n h)
  | .times least most g n, h => loops_times w _ least most g n (loops_ok w n h.1) h.2.2.1 h.2.2.2 h.2.1
end Mine
end
section
open PySem PySem.W PyProof.Rows PyProof.V
set_option Elab.async false
set_option maxRecDepth 100000
set_option maxHeartbeats 8000000
namespace Mine


theorem setup_W15_1 : True := by
  k_with_none
  k_with "mem0" => first | with_reducible exact List.mem_cons_self | (refine List.mem_cons_of_mem _ ?_; k_mem)
  k_with "all0" => first | assumption | exact fun p hp => Nat.ne_of_lt (ktn_ltOf (by assumption) p hp)
  k_with "execs cons" => (k_here; k_fold)
  k_with "eval Tuple" => (k_here; k_fold)
  k_with "eval List" => (k_here; k_fold)
  k_with "eval BinOp" => (k_here; k_fold)
  k_with "exec Assign" => (k_here; k_fold)
  k_with "eval IfExp" => (k_here; k_fold)
  k_with "binaryOp Add ref ref" => (k_here; (with_reducible show wpAny _ _ (binaryOp Operator.Add (Value.ref _) (Value.ref _)) _ _ _); k_dflt (refine' add_lists ?zzF ?zzN ?zzl ?zzb ?_ ?zzz; (case zzF => k_asm); (case zzN => k_asm); (case zzl => exact News.isList (by k_asm) (by k_mem)); (case zzb => exact News.isList (by k_asm) (by k_mem)); (case zzz => first | assumption | (simp only [List.length_cons, List.length_nil] at *; rw [sizeLine_eq] at *; omega))); intro h' F' N'; (try dsimp only))
  k_with "eval Call" => (k_here; (try k_fold); k_dflt (refine Call_ ?_))
  k_with "exec For Tuple Name cons nil" => (k_here; (rename Fr _ _ _ _ => lF'); (with_unfolding_all refine' For_turns lF' ?_; k_whole))
  k_with "exec For Tuple Call cons nil" => (k_here; (rename Fr _ _ _ _ => lF'); (with_unfolding_all refine' For_turns lF' ?_; k_whole))
  k_with "AccPost" => dsimp only [AccPost]
  k_with "same" => (intro z h1 h3; (simp only [List.contains_cons, List.contains_nil, Bool.or_false, Bool.or_eq_false_iff, beq_eq_false_iff_ne, ne_eq] at h3); (simp [h1, h3]; done))
  k_with "mem" => first | with_reducible assumption | with_reducible exact List.mem_cons_self | (refine List.mem_cons_of_mem _ ?_; walk_at "mem") | (refine List.mem_append.mpr (Or.inr ?_); walk_at "mem") | (refine List.mem_append.mpr (Or.inl ?_); walk_at "mem")
  k_with "app" => (intro p hp; walk_at "mem")
  k_with "con" => ((case B => k_asm); (case F => k_asm); (case X => k_asm); (case T => k_asm); (case k => first | exact rfl | assumption); (case d => (first | exact dlt (by assumption) _ (by first | exact Nat.le_refl _ | exact Nat.le_of_ble_eq_true rfl | decide | omega) | ((try simp only [depth_deeper]); (try dsimp only [ktrTop]); first | exact dlt (by assumption) _ (by first | exact Nat.le_refl _ | exact Nat.le_of_ble_eq_true rfl | decide | omega) | exact dlt3 (by assumption) _ (by first | exact Nat.le_refl _ | exact Nat.le_of_ble_eq_true rfl | decide | omega)) | ((try simp only [depth_deeper, recursionLimit] at *); (try dsimp only [ktrTop] at *); omega))); (case u => (first | exact ult (by assumption) _ (by first | exact Nat.le_refl _ | exact Nat.le_of_ble_eq_true rfl | decide | omega) | exact ult2 (by assumption) | ((try simp only [units_deeper]); (try dsimp only [ktrTop]); first | exact ult (by assumption) _ (by first | exact Nat.le_refl _ | exact Nat.le_of_ble_eq_true rfl | decide | omega) | exact ult2 (by assumption) | exact ult3 (by assumption) _ (by first | exact Nat.le_refl _ | exact Nat.le_of_ble_eq_true rfl | decide | omega)) | ((try simp only [units_deeper] at *); (try dsimp only [ktrTop] at *); omega))))
  k_with "enterC" => (refine' code_defC ?zzk1 ?zzk2 ?zzk3 ?zzk4 ?zzk5 ?zzkA ?zzkF ?zzkK ?zzk6 ?zzk7 ?zzk8 ?zzk9 ?zzkB ?zzkD ?_ ?zzc2 ?zzc3 ?zzc4; (case zzkA => exact rfl); (case zzkF => exact rfl); (case zzkK => assumption); (case zzk1 => k_asm); (case zzk2 => k_asm); (case zzk3 => k_asm); (case zzk4 => k_asm); (case zzk5 => k_asm); (case zzk6 => k_is); (case zzk7 => k_is); (case zzk8 => ktr_room); (case zzk9 => exact BindsTo.of_eq rfl); (case zzkB => exact rfl); (case zzkD => decide +kernel); (case zzc2 => exact rfl); (case zzc3 => exact rfl); (case zzc4 => exact rfl); k_whole; intro g' L' h' tk' cells' FG' F' N' Y' B' X' T' l1; (try k_lt l1); k_cells Y'; (try simp only [List.cons_append, List.nil_append] at N'); (try dsimp only); (try k_fold))
  k_with "con2" => ((case B2 => k_asm); (case F2 => k_asm); (case X2 => k_asm); (case T2 => k_asm); (case k2 => first | exact rfl | assumption); (case d2 => (first | exact dlt (by assumption) _ (by first | exact Nat.le_refl _ | exact Nat.le_of_ble_eq_true rfl | decide | omega) | ((try simp only [depth_deeper]); (try dsimp only [ktrTop]); first | exact dlt (by assumption) _ (by first | exact Nat.le_refl _ | exact Nat.le_of_ble_eq_true rfl | decide | omega) | exact dlt3 (by assumption) _ (by first | exact Nat.le_refl _ | exact Nat.le_of_ble_eq_true rfl | decide | omega)) | ((try simp only [depth_deeper, recursionLimit] at *); (try dsimp only [ktrTop] at *); omega))); (case u2 => (first | exact ult (by assumption) _ (by first | exact Nat.le_refl _ | exact Nat.le_of_ble_eq_true rfl | decide | omega) | exact ult2 (by assumption) | ((try simp only [units_deeper]); (try dsimp only [ktrTop]); first | exact ult (by assumption) _ (by first | exact Nat.le_refl _ | exact Nat.le_of_ble_eq_true rfl | decide | omega) | exact ult2 (by assumption) | exact ult3 (by assumption) _ (by first | exact Nat.le_refl _ | exact Nat.le_of_ble_eq_true rfl | decide | omega)) | ((try simp only [units_deeper] at *); (try dsimp only [ktrTop] at *); omega))))
  k_with "con3" => ((case B3 => k_asm); (case F3 => k_asm); (case X3 => k_asm); (case T3 => k_asm); (case k3 => first | exact rfl | assumption); (case d3 => (first | exact dlt (by assumption) _ (by first | exact Nat.le_refl _ | exact Nat.le_of_ble_eq_true rfl | decide | omega) | ((try simp only [depth_deeper]); (try dsimp only [ktrTop]); first | exact dlt (by assumption) _ (by first | exact Nat.le_refl _ | exact Nat.le_of_ble_eq_true rfl | decide | omega) | exact dlt3 (by assumption) _ (by first | exact Nat.le_refl _ | exact Nat.le_of_ble_eq_true rfl | decide | omega)) | ((try simp only [depth_deeper, recursionLimit] at *); (try dsimp only [ktrTop] at *); omega))); (case u3 => (first | exact ult (by assumption) _ (by first | exact Nat.le_refl _ | exact Nat.le_of_ble_eq_true rfl | decide | omega) | exact ult2 (by assumption) | ((try simp only [units_deeper]); (try dsimp only [ktrTop]); first | exact ult (by assumption) _ (by first | exact Nat.le_refl _ | exact Nat.le_of_ble_eq_true rfl | decide | omega) | exact ult2 (by assumption) | exact ult3 (by assumption) _ (by first | exact Nat.le_refl _ | exact Nat.le_of_ble_eq_true rfl | decide | omega)) | ((try simp only [units_deeper] at *); (try dsimp only [ktrTop] at *); omega))))
  k_with "subs" => first | exact List.forall_mem_nil _ | (refine List.forall_mem_cons.mpr ⟨?zzha, ?zzhb⟩; (case zzha => walk_at "mem"); (case zzhb => walk_at "subs")) | (refine List.forall_mem_append.mpr ⟨?_, ?_⟩ <;> walk_at "subs") | (intro p hp; walk_at "mem")
  trivial
theorem tups_nil : Tups [] := fun _ h => nomatch h
theorem tups_cons {a : Addr} {vs : Array Value} {n : Nat} {r : List (Addr × Obj)} (h : Tups r) : Tups ((a, { cls := .type "tuple", data := .seq vs n }) :: r) := fun p hp => by
  rcases List.mem_cons.mp hp with e | hp
  · rw [e]; simp [isTp]
  · exact h p hp
theorem NodeIn.monoT {ns ns' : List (Addr × Obj)} {v : Value} {n : Nd} (h : NodeIn ns v n) (hs : ∀ p ∈ ns, isTp p = true → p ∈ ns') : NodeIn ns' v n := h.monoV fun h => hs _ h (by simp [isTp])
theorem subT_cons {p : Addr × Obj} {l l' : List (Addr × Obj)} (h1 : isTp p = false ∨ p ∈ l') (h2 : ∀ q ∈ l, isTp q = true → q ∈ l') : ∀ q ∈ p :: l, isTp q = true → q ∈ l' := fun q hq ht => by
  rcases List.mem_cons.mp hq with e | hq
  · rcases h1 with h1 | h1
    · rw [e, h1] at ht; cases ht
    · rw [e]; exact h1
  · exact h2 q hq ht
theorem subT_app {l1 l l' : List (Addr × Obj)} (h1 : ∀ q ∈ l1, isTp q = true → q ∈ l') (h2 : ∀ q ∈ l, isTp q = true → q ∈ l') : ∀ q ∈ l1 ++ l, isTp q = true → q ∈ l' := fun q hq ht => (List.mem_append.mp hq).elim (fun h => h1 q h ht) fun h => h2 q h ht
theorem setup_W15_2 : True := by
  k_with "subT" => first | (refine subT_cons ?zzha ?zzhb; (case zzha => first | exact Or.inl rfl | (refine Or.inr ?_; walk_at "mem")); (case zzhb => walk_at "subT")) | (refine subT_app ?_ ?_ <;> walk_at "subT") | (intro p hp _; walk_at "mem")
  k_with "tups" => first | assumption | exact tups_nil | (refine tups_cons ?_; walk_at "tups") | (refine tups_app ?_ ?_ <;> walk_at "tups")
  trivial
theorem Pull.out {h₀ h : Heap} {L D : Addr} {o : Obj} {l r : List (Addr × Obj)} (N : News h₀ L h l) (P : Pull D o l r) : News h₀ L h ((D, o) :: r) := fun p hp => N p (P.sub p hp)
theorem sep_of {h₀ h : Heap} {L D C : Addr} {its : Array Value} {n : Nat} {l r : List (Addr × Obj)} (N : News h₀ L h l) (hm : (D, listOf its n) ∈ l) (hr : ∀ p ∈ r, p ∈ l) (t : ∀ p ∈ r, isTp p = true ∨ p.1 = C) (hDC : D ≠ C) : ∀ p ∈ r, p.1 ≠ D := by
  intro p hp e
  rcases t p hp with h3 | h3
  · have h1 := (N p (hr p hp)).1
    have h2 := (N _ hm).1
    rw [e] at h1
    have h4 : p.2 = listOf its n := Option.some.inj (h1.symm.trans h2)
    rw [isTp, h4] at h3
    simp at h3
  · exact hDC (e.symm.trans h3)
theorem setup_W15_3 : True := by
  k_with "pull" => first | exact Pull.head | (refine' Pull.tail ?zzb; (case zzb => walk_at "pull")) | (refine' Pull.app ?zzb; (case zzb => walk_at "pull"))
  k_with "tpc" => first | exact List.forall_mem_nil _ | (refine List.forall_mem_cons.mpr ⟨?zzha, ?zzhb⟩; (case zzha => first | exact Or.inl rfl | exact Or.inr rfl); (case zzhb => walk_at "tpc")) | (refine List.forall_mem_append.mpr ⟨?_, ?_⟩ <;> walk_at "tpc") | (intro p hp; refine Or.inl ?_; (first | (rename Tups _ => t1; exact t1 p hp) | (rename Tups _ => t1; clear t1; rename Tups _ => t1; exact t1 p hp) | (rename Tups _ => t1; clear t1; rename Tups _ => t1; clear t1; rename Tups _ => t1; exact t1 p hp)))
  trivial
theorem Pull.out2 {h₀ h : Heap} {L D C : Addr} {o o' : Obj} {l r r' : List (Addr × Obj)} (N : News h₀ L h l) (P : Pull D o l r) (P' : Pull C o' r r') : News h₀ L h ((D, o) :: (C, o') :: r') := Pull.use2 N P P' id
theorem NodeIn.tps {S R news : List (Addr × Obj)} {v : Value} {n : Nd} (h : NodeIn S v n) (hs : ∀ p ∈ S, isTp p = true → p ∈ R) : NodeIn (tps R ++ news) v n := h.monoT fun p hp ht => List.mem_append.mpr (.inl (List.mem_filter.mpr ⟨hs p hp ht, ht⟩))
noncomputable def gmax : Nat → Nat
  | 0 => 0
  | k + 1 => 2 * gmax k + 1
theorem gmax_q1 : gmax 0 = (0) := rfl
theorem gmax_q2 : gmax (k + 1) = (2 * gmax k + 1) := rfl
end Mine
end
section
open PySem PySem.W PyProof.Rows PyProof.V
set_option Elab.async false
set_option maxRecDepth 100000
set_option maxHeartbeats 8000000
namespace Mine


theorem setup_W16_1 : True := by
  k_with_none
  k_with "mem0" => first | with_reducible exact List.mem_cons_self | (refine List.mem_cons_of_mem _ ?_; k_mem)
  k_with "all0" => first | assumption | exact fun p hp => Nat.ne_of_lt (ktn_ltOf (by assumption) p hp)
  k_with "execs cons" => (k_here; k_fold)
  k_with "eval Tuple" => (k_here; k_fold)
  k_with "eval List" => (k_here; k_fold)
  k_with "eval BinOp" => (k_here; k_fold)
  k_with "exec Assign" => (k_here; k_fold)
  k_with "eval IfExp" => (k_here; k_fold)
  k_with "binaryOp Add ref ref" => (k_here; (with_reducible show wpAny _ _ (binaryOp Operator.Add (Value.ref _) (Value.ref _)) _ _ _); k_dflt (refine' add_lists ?zzF ?zzN ?zzl ?zzb ?_ ?zzz; (case zzF => k_asm); (case zzN => k_asm); (case zzl => exact News.isList (by k_asm) (by k_mem)); (case zzb => exact News.isList (by k_asm) (by k_mem)); (case zzz => first | assumption | (simp only [List.length_cons, List.length_nil] at *; rw [sizeLine_eq] at *; omega))); intro h' F' N'; (try dsimp only))
  k_with "eval Call" => (k_here; (try k_fold); k_dflt (refine Call_ ?_))
  k_with "exec For Tuple Name cons nil" => (k_here; (rename Fr _ _ _ _ => lF'); (with_unfolding_all refine' For_turns lF' ?_; k_whole))
  k_with "exec For Tuple Call cons nil" => (k_here; (rename Fr _ _ _ _ => lF'); (with_unfolding_all refine' For_turns lF' ?_; k_whole))
  k_with "AccPost" => dsimp only [AccPost]
  k_with "same" => (intro z h1 h3; (simp only [List.contains_cons, List.contains_nil, Bool.or_false, Bool.or_eq_false_iff, beq_eq_false_iff_ne, ne_eq] at h3); (simp [h1, h3]; done))
  k_with "mem" => first | with_reducible assumption | with_reducible exact List.mem_cons_self | (refine List.mem_cons_of_mem _ ?_; walk_at "mem") | (refine List.mem_append.mpr (Or.inr ?_); walk_at "mem") | (refine List.mem_append.mpr (Or.inl ?_); walk_at "mem")
  k_with "app" => (intro p hp; walk_at "mem")
  k_with "con" => ((case B => k_asm); (case F => k_asm); (case X => k_asm); (case T => k_asm); (case k => first | exact rfl | assumption); (case d => (first | exact dlt (by assumption) _ (by first | exact Nat.le_refl _ | exact Nat.le_of_ble_eq_true rfl | decide | omega) | ((try simp only [depth_deeper]); (try dsimp only [ktrTop]); first | exact dlt (by assumption) _ (by first | exact Nat.le_refl _ | exact Nat.le_of_ble_eq_true rfl | decide | omega) | exact dlt3 (by assumption) _ (by first | exact Nat.le_refl _ | exact Nat.le_of_ble_eq_true rfl | decide | omega)) | ((try simp only [depth_deeper, recursionLimit] at *); (try dsimp only [ktrTop] at *); omega))); (case u => (first | exact ult (by assumption) _ (by first | exact Nat.le_refl _ | exact Nat.le_of_ble_eq_true rfl | decide | omega) | exact ult2 (by assumption) | ((try simp only [units_deeper]); (try dsimp only [ktrTop]); first | exact ult (by assumption) _ (by first | exact Nat.le_refl _ | exact Nat.le_of_ble_eq_true rfl | decide | omega) | exact ult2 (by assumption) | exact ult3 (by assumption) _ (by first | exact Nat.le_refl _ | exact Nat.le_of_ble_eq_true rfl | decide | omega)) | ((try simp only [units_deeper] at *); (try dsimp only [ktrTop] at *); omega))))
  k_with "enterC" => (refine' code_defC ?zzk1 ?zzk2 ?zzk3 ?zzk4 ?zzk5 ?zzkA ?zzkF ?zzkK ?zzk6 ?zzk7 ?zzk8 ?zzk9 ?zzkB ?zzkD ?_ ?zzc2 ?zzc3 ?zzc4; (case zzkA => exact rfl); (case zzkF => exact rfl); (case zzkK => assumption); (case zzk1 => k_asm); (case zzk2 => k_asm); (case zzk3 => k_asm); (case zzk4 => k_asm); (case zzk5 => k_asm); (case zzk6 => k_is); (case zzk7 => k_is); (case zzk8 => ktr_room); (case zzk9 => exact BindsTo.of_eq rfl); (case zzkB => exact rfl); (case zzkD => decide +kernel); (case zzc2 => exact rfl); (case zzc3 => exact rfl); (case zzc4 => exact rfl); k_whole; intro g' L' h' tk' cells' FG' F' N' Y' B' X' T' l1; (try k_lt l1); k_cells Y'; (try simp only [List.cons_append, List.nil_append] at N'); (try dsimp only); (try k_fold))
  k_with "con2" => ((case B2 => k_asm); (case F2 => k_asm); (case X2 => k_asm); (case T2 => k_asm); (case k2 => first | exact rfl | assumption); (case d2 => (first | exact dlt (by assumption) _ (by first | exact Nat.le_refl _ | exact Nat.le_of_ble_eq_true rfl | decide | omega) | ((try simp only [depth_deeper]); (try dsimp only [ktrTop]); first | exact dlt (by assumption) _ (by first | exact Nat.le_refl _ | exact Nat.le_of_ble_eq_true rfl | decide | omega) | exact dlt3 (by assumption) _ (by first | exact Nat.le_refl _ | exact Nat.le_of_ble_eq_true rfl | decide | omega)) | ((try simp only [depth_deeper, recursionLimit] at *); (try dsimp only [ktrTop] at *); omega))); (case u2 => (first | exact ult (by assumption) _ (by first | exact Nat.le_refl _ | exact Nat.le_of_ble_eq_true rfl | decide | omega) | exact ult2 (by assumption) | ((try simp only [units_deeper]); (try dsimp only [ktrTop]); first | exact ult (by assumption) _ (by first | exact Nat.le_refl _ | exact Nat.le_of_ble_eq_true rfl | decide | omega) | exact ult2 (by assumption) | exact ult3 (by assumption) _ (by first | exact Nat.le_refl _ | exact Nat.le_of_ble_eq_true rfl | decide | omega)) | ((try simp only [units_deeper] at *); (try dsimp only [ktrTop] at *); omega))))
  k_with "con3" => ((case B3 => k_asm); (case F3 => k_asm); (case X3 => k_asm); (case T3 => k_asm); (case k3 => first | exact rfl | assumption); (case d3 => (first | exact dlt (by assumption) _ (by first | exact Nat.le_refl _ | exact Nat.le_of_ble_eq_true rfl | decide | omega) | ((try simp only [depth_deeper]); (try dsimp only [ktrTop]); first | exact dlt (by assumption) _ (by first | exact Nat.le_refl _ | exact Nat.le_of_ble_eq_true rfl | decide | omega) | exact dlt3 (by assumption) _ (by first | exact Nat.le_refl _ | exact Nat.le_of_ble_eq_true rfl | decide | omega)) | ((try simp only [depth_deeper, recursionLimit] at *); (try dsimp only [ktrTop] at *); omega))); (case u3 => (first | exact ult (by assumption) _ (by first | exact Nat.le_refl _ | exact Nat.le_of_ble_eq_true rfl | decide | omega) | exact ult2 (by assumption) | ((try simp only [units_deeper]); (try dsimp only [ktrTop]); first | exact ult (by assumption) _ (by first | exact Nat.le_refl _ | exact Nat.le_of_ble_eq_true rfl | decide | omega) | exact ult2 (by assumption) | exact ult3 (by assumption) _ (by first | exact Nat.le_refl _ | exact Nat.le_of_ble_eq_true rfl | decide | omega)) | ((try simp only [units_deeper] at *); (try dsimp only [ktrTop] at *); omega))))
  k_with "subs" => first | exact List.forall_mem_nil _ | (refine List.forall_mem_cons.mpr ⟨?zzha, ?zzhb⟩; (case zzha => walk_at "mem"); (case zzhb => walk_at "subs")) | (refine List.forall_mem_append.mpr ⟨?_, ?_⟩ <;> walk_at "subs") | (intro p hp; walk_at "mem")
  k_with "tups" => first | assumption | exact tups_nil | (refine tups_cons ?_; walk_at "tups") | (refine tups_app ?_ ?_ <;> walk_at "tups")
  k_with "subT" => first | (refine subT_cons ?zzha ?zzhb; (case zzha => first | exact Or.inl rfl | (refine Or.inr ?_; walk_at "mem")); (case zzhb => walk_at "subT")) | (refine subT_app ?_ ?_ <;> walk_at "subT") | (intro p hp _; walk_at "mem")
  k_with "pull" => first | exact Pull.head | (refine' Pull.tail ?zzb; (case zzb => walk_at "pull")) | (refine' Pull.app ?zzb; (case zzb => walk_at "pull"))
  k_with "tpc" => first | exact List.forall_mem_nil _ | (refine List.forall_mem_cons.mpr ⟨?zzha, ?zzhb⟩; (case zzha => first | exact Or.inl rfl | exact Or.inr rfl); (case zzhb => walk_at "tpc")) | (refine List.forall_mem_append.mpr ⟨?_, ?_⟩ <;> walk_at "tpc") | (intro p hp; refine Or.inl ?_; (first | (rename Tups _ => t1; exact t1 p hp) | (rename Tups _ => t1; clear t1; rename Tups _ => t1; exact t1 p hp) | (rename Tups _ => t1; clear t1; rename Tups _ => t1; clear t1; rename Tups _ => t1; exact t1 p hp)))
  k_with "call ref" => (k_here; (with_reducible show wpAny _ _ (call (Value.ref 166) _) _ _ _); (rename IntsAre _ _ => hIA); (rename List.length _ < 1000 => hLL); (rename News _ _ _ _ => nN); k_dflt (refine' ConM.at (mu := [_]) ?zzN (draw_ok _ _ _ _ _ _ _ _ hIA ?zza1 ?zza2 ?zzsep hLL) ?zzB ?zzF ?zzX ?zzT ?zzk ?zzd ?zzu ?_; (case zzN => (refine Pull.out nN ?_; walk_at "pull")); (case zzsep => (refine sep_of nN (by k_mem) (by walk_at "subs") (by walk_at "tpc") (by assumption))); (case zzB => k_asm); (case zzF => k_asm); (case zzX => k_asm); (case zzT => k_asm); (case zzk => first | exact rfl | assumption); (case zzd => (first | exact dlt (by assumption) _ (by first | exact Nat.le_refl _ | exact Nat.le_of_ble_eq_true rfl | decide | omega) | ((try simp only [depth_deeper]); (try dsimp only [ktrTop]); first | exact dlt (by assumption) _ (by first | exact Nat.le_refl _ | exact Nat.le_of_ble_eq_true rfl | decide | omega) | exact dlt3 (by assumption) _ (by first | exact Nat.le_refl _ | exact Nat.le_of_ble_eq_true rfl | decide | omega)) | ((try simp only [depth_deeper, recursionLimit] at *); (try dsimp only [ktrTop] at *); omega))); (case zzu => (first | exact ult (by assumption) _ (by first | exact Nat.le_refl _ | exact Nat.le_of_ble_eq_true rfl | decide | omega) | exact ult2 (by assumption) | ((try simp only [units_deeper]); (try dsimp only [ktrTop]); first | exact ult (by assumption) _ (by first | exact Nat.le_refl _ | exact Nat.le_of_ble_eq_true rfl | decide | omega) | exact ult2 (by assumption) | exact ult3 (by assumption) _ (by first | exact Nat.le_refl _ | exact Nat.le_of_ble_eq_true rfl | decide | omega)) | ((try simp only [units_deeper] at *); (try dsimp only [ktrTop] at *); omega))); (case zza1 => decide); (case zza2 => decide)); intro r' mu' tl' h' tk' F' N' hP; obtain ⟨vs', n', ns', e1, e2, hi', hlen', x, t, e3, hx0, hx1⟩ := hP; subst e1; subst e2; subst e3; (try simp only [List.cons_append, List.nil_append] at N'); (try dsimp only at N'); (try dsimp only); (try k_fold))
  k_with "call ref" => (k_here; (with_reducible show wpAny _ _ (call (Value.ref 166) [_, Value.int 7 _]) _ _ _); refine Hold.out ?_)
  trivial
theorem NodeIn.times' {ns : List (Addr × Obj)} {a : Addr} {t t1 t2} {l most : Int} {g : Bool} {v : Value} {n : Nd} (h0 : 0 ≤ l) (hm : (a, tup [wd "times" t, .int l t1, .int most t2, .bool g, v]) ∈ ns) (hn : NodeIn ns v n) : NodeIn ns (.ref a) (.times l.toNat most g n) :=
  .times (t := t) (t1 := t1) (t2 := t2) (by rw [Int.toNat_of_nonneg h0]; exact hm) hn
theorem memT {a : Addr} {vs : List Value} {l news : List (Addr × Obj)} (h : (a, tup vs) ∈ l) : (a, tup vs) ∈ tps l ++ news := List.mem_append.mpr (.inl (mem_tps h))
end Mine
end
section
open PySem PySem.W PyProof.Rows PyProof.V
set_option Elab.async false
set_option maxRecDepth 100000
set_option maxHeartbeats 8000000
namespace Mine

theorem setup_W16n_1 : True := by
  k_with_none
  k_with "mem0" => first | with_reducible exact List.mem_cons_self | (refine List.mem_cons_of_mem _ ?_; k_mem)
  k_with "all0" => first | assumption | exact fun p hp => Nat.ne_of_lt (ktn_ltOf (by assumption) p hp)
  k_with "execs cons" => (k_here; k_fold; (try ((rename Fr _ _ _ _ => lF9); (refine FrL lF9 ?_); clear lF9; intro mL9 lF9)))
  k_with "eval Tuple" => (k_here; k_fold)
  k_with "eval List" => (k_here; k_fold)
  k_with "eval BinOp" => (k_here; k_fold)
  k_with "exec Assign" => (k_here; k_fold)
  k_with "eval IfExp" => (k_here; k_fold)
  trivial
/-- tuples, or none of the two -/
noncomputable def Apt (D C : Addr) (l : List (Addr × Obj)) : Prop := ∀ p ∈ l, isTp p = true ∨ (p.1 ≠ D ∧ p.1 ≠ C)
theorem apt_nil {D C : Addr} : Apt D C [] := fun _ h => nomatch h
theorem apt_tups {D C : Addr} {l : List (Addr × Obj)} (h : Tups l) : Apt D C l := fun p hp => .inl (h p hp)
theorem apt_cons {D C a : Addr} {vs : Array Value} {n : Nat} {r : List (Addr × Obj)} (h : Apt D C r) : Apt D C ((a, { cls := .type "tuple", data := .seq vs n }) :: r) := fun p hp => by
  rcases List.mem_cons.mp hp with e | hp
  · rw [e]; exact .inl (by simp [isTp])
  · exact h p hp
theorem apt_app {D C : Addr} {a b : List (Addr × Obj)} (x : Apt D C a) (y : Apt D C b) : Apt D C (a ++ b) := fun p hp => (List.mem_append.mp hp).elim (x p) (y p)
theorem apt1 {D C : Addr} {p : Addr × Obj} (h : isTp p = true ∨ (p.1 ≠ D ∧ p.1 ≠ C)) : isTp p = true ∨ p.1 = C ∨ p.1 ≠ D := h.imp id fun h => .inr h.1
theorem apt2 {D C : Addr} {p : Addr × Obj} (h : isTp p = true ∨ (p.1 ≠ D ∧ p.1 ≠ C)) : isTp p = true ∨ p.1 = D ∨ p.1 ≠ C := h.imp id fun h => .inr h.2
theorem sep_of2 {h₀ h : Heap} {L D C : Addr} {its : Array Value} {n : Nat} {l r : List (Addr × Obj)} (N : News h₀ L h l) (hm : (D, listOf its n) ∈ l) (hr : ∀ p ∈ r, p ∈ l) (t : ∀ p ∈ r, isTp p = true ∨ p.1 = C ∨ p.1 ≠ D) (hDC : D ≠ C) : ∀ p ∈ r, p.1 ≠ D := by
  intro p hp e
  rcases t p hp with h3 | h3 | h3
  · have h1 := (N p (hr p hp)).1
    have h2 := (N _ hm).1
    rw [e] at h1
    have h4 : p.2 = listOf its n := Option.some.inj (h1.symm.trans h2)
    rw [isTp, h4] at h3
    simp at h3
  · exact hDC (e.symm.trans h3)
  · exact h3 e
theorem setup_W16n_2 : True := by
  k_with "binaryOp Add ref ref" => (k_here; (with_reducible show wpAny _ _ (binaryOp Operator.Add (Value.ref _) (Value.ref _)) _ _ _); k_dflt (refine' add_lists ?zzF ?zzN ?zzl ?zzb ?_ ?zzz; (case zzF => k_asm); (case zzN => k_asm); (case zzl => exact News.isList (by k_asm) (by k_mem)); (case zzb => exact News.isList (by k_asm) (by k_mem)); (case zzz => first | assumption | (simp only [List.length_cons, List.length_nil] at *; rw [sizeLine_eq] at *; omega))); intro h' F' N'; (try dsimp only))
  k_with "eval Call" => (k_here; (try k_fold); k_dflt (refine Call_ ?_))
  k_with "exec For Tuple Name cons nil" => (k_here; (rename Fr _ _ _ _ => lF'); (with_unfolding_all refine' For_turns lF' ?_; k_whole))
  k_with "exec For Tuple Call cons nil" => (k_here; (rename Fr _ _ _ _ => lF'); (with_unfolding_all refine' For_turns lF' ?_; k_whole))
  k_with "AccPost" => dsimp only [AccPost]
  k_with "same" => (intro z h1 h3; (simp only [List.contains_cons, List.contains_nil, Bool.or_false, Bool.or_eq_false_iff, beq_eq_false_iff_ne, ne_eq] at h3); (simp +zetaDelta [h1, h3]; done))
  k_with "mem" => first | with_reducible assumption | with_reducible exact List.mem_cons_self | (refine List.mem_cons_of_mem _ ?_; walk_at "mem") | (refine List.mem_append.mpr (Or.inr ?_); walk_at "mem") | (refine List.mem_append.mpr (Or.inl ?_); walk_at "mem")
  k_with "app" => (intro p hp; walk_at "mem")
  k_with "con" => ((case B => k_asm); (case F => k_asm); (case X => k_asm); (case T => k_asm); (case k => first | exact rfl | assumption); (case d => (first | exact dlt (by assumption) _ (by first | exact Nat.le_refl _ | exact Nat.le_of_ble_eq_true rfl | decide | omega) | ((try simp only [depth_deeper]); (try dsimp only [ktrTop]); first | exact dlt (by assumption) _ (by first | exact Nat.le_refl _ | exact Nat.le_of_ble_eq_true rfl | decide | omega) | exact dlt3 (by assumption) _ (by first | exact Nat.le_refl _ | exact Nat.le_of_ble_eq_true rfl | decide | omega)) | ((try simp only [depth_deeper, recursionLimit] at *); (try dsimp only [ktrTop] at *); omega))); (case u => (first | exact ult (by assumption) _ (by first | exact Nat.le_refl _ | exact Nat.le_of_ble_eq_true rfl | decide | omega) | exact ult2 (by assumption) | ((try simp only [units_deeper]); (try dsimp only [ktrTop]); first | exact ult (by assumption) _ (by first | exact Nat.le_refl _ | exact Nat.le_of_ble_eq_true rfl | decide | omega) | exact ult2 (by assumption) | exact ult3 (by assumption) _ (by first | exact Nat.le_refl _ | exact Nat.le_of_ble_eq_true rfl | decide | omega)) | ((try simp only [units_deeper] at *); (try dsimp only [ktrTop] at *); omega))))
  k_with "enterC" => (refine' code_defC ?zzk1 ?zzk2 ?zzk3 ?zzk4 ?zzk5 ?zzkA ?zzkF ?zzkK ?zzk6 ?zzk7 ?zzk8 ?zzk9 ?zzkB ?zzkD ?_ ?zzc2 ?zzc3 ?zzc4; (case zzkA => exact rfl); (case zzkF => exact rfl); (case zzkK => assumption); (case zzk1 => k_asm); (case zzk2 => k_asm); (case zzk3 => k_asm); (case zzk4 => k_asm); (case zzk5 => k_asm); (case zzk6 => k_is); (case zzk7 => k_is); (case zzk8 => ktr_room); (case zzk9 => exact BindsTo.of_eq rfl); (case zzkB => exact rfl); (case zzkD => decide +kernel); (case zzc2 => exact rfl); (case zzc3 => exact rfl); (case zzc4 => exact rfl); k_whole; intro g' L' h' tk' cells' FG' F' N' Y' B' X' T' l1; (try k_lt l1); k_cells Y'; (try simp only [List.cons_append, List.nil_append] at N'); (try dsimp only); (try k_fold))
  k_with "con2" => ((case B2 => k_asm); (case F2 => k_asm); (case X2 => k_asm); (case T2 => k_asm); (case k2 => first | exact rfl | assumption); (case d2 => (first | exact dlt (by assumption) _ (by first | exact Nat.le_refl _ | exact Nat.le_of_ble_eq_true rfl | decide | omega) | ((try simp only [depth_deeper]); (try dsimp only [ktrTop]); first | exact dlt (by assumption) _ (by first | exact Nat.le_refl _ | exact Nat.le_of_ble_eq_true rfl | decide | omega) | exact dlt3 (by assumption) _ (by first | exact Nat.le_refl _ | exact Nat.le_of_ble_eq_true rfl | decide | omega)) | ((try simp only [depth_deeper, recursionLimit] at *); (try dsimp only [ktrTop] at *); omega))); (case u2 => (first | exact ult (by assumption) _ (by first | exact Nat.le_refl _ | exact Nat.le_of_ble_eq_true rfl | decide | omega) | exact ult2 (by assumption) | ((try simp only [units_deeper]); (try dsimp only [ktrTop]); first | exact ult (by assumption) _ (by first | exact Nat.le_refl _ | exact Nat.le_of_ble_eq_true rfl | decide | omega) | exact ult2 (by assumption) | exact ult3 (by assumption) _ (by first | exact Nat.le_refl _ | exact Nat.le_of_ble_eq_true rfl | decide | omega)) | ((try simp only [units_deeper] at *); (try dsimp only [ktrTop] at *); omega))))
  k_with "con3" => ((case B3 => k_asm); (case F3 => k_asm); (case X3 => k_asm); (case T3 => k_asm); (case k3 => first | exact rfl | assumption); (case d3 => (first | exact dlt (by assumption) _ (by first | exact Nat.le_refl _ | exact Nat.le_of_ble_eq_true rfl | decide | omega) | ((try simp only [depth_deeper]); (try dsimp only [ktrTop]); first | exact dlt (by assumption) _ (by first | exact Nat.le_refl _ | exact Nat.le_of_ble_eq_true rfl | decide | omega) | exact dlt3 (by assumption) _ (by first | exact Nat.le_refl _ | exact Nat.le_of_ble_eq_true rfl | decide | omega)) | ((try simp only [depth_deeper, recursionLimit] at *); (try dsimp only [ktrTop] at *); omega))); (case u3 => (first | exact ult (by assumption) _ (by first | exact Nat.le_refl _ | exact Nat.le_of_ble_eq_true rfl | decide | omega) | exact ult2 (by assumption) | ((try simp only [units_deeper]); (try dsimp only [ktrTop]); first | exact ult (by assumption) _ (by first | exact Nat.le_refl _ | exact Nat.le_of_ble_eq_true rfl | decide | omega) | exact ult2 (by assumption) | exact ult3 (by assumption) _ (by first | exact Nat.le_refl _ | exact Nat.le_of_ble_eq_true rfl | decide | omega)) | ((try simp only [units_deeper] at *); (try dsimp only [ktrTop] at *); omega))))
  k_with "subs" => first | exact List.forall_mem_nil _ | (refine List.forall_mem_cons.mpr ⟨?zzha, ?zzhb⟩; (case zzha => walk_at "mem"); (case zzhb => walk_at "subs")) | (refine List.forall_mem_append.mpr ⟨?_, ?_⟩ <;> walk_at "subs") | (intro p hp; walk_at "mem")
  k_with "subT" => first | (refine subT_cons ?zzha ?zzhb; (case zzha => first | exact Or.inl rfl | (refine Or.inr ?_; walk_at "mem")); (case zzhb => walk_at "subT")) | (refine subT_app ?_ ?_ <;> walk_at "subT") | (intro p hp _; walk_at "mem")
  k_with "pull" => first | exact Pull.head | (refine' Pull.tail ?zzb; (case zzb => walk_at "pull")) | (refine' Pull.app ?zzb; (case zzb => walk_at "pull"))
  k_with "tpc" => first | exact List.forall_mem_nil _ | (refine List.forall_mem_cons.mpr ⟨?zzha, ?zzhb⟩; (case zzha => first | exact Or.inl rfl | exact Or.inr (Or.inl rfl)); (case zzhb => walk_at "tpc")) | (refine List.forall_mem_append.mpr ⟨?_, ?_⟩ <;> walk_at "tpc") | (intro p hp; first | (rename Apt _ _ _ => a1; first | exact apt1 (a1 p hp) | exact apt2 (a1 p hp)) | (refine Or.inl ?_; (first | (rename Tups _ => t1; exact t1 p hp) | (rename Tups _ => t1; clear t1; rename Tups _ => t1; exact t1 p hp) | (rename Tups _ => t1; clear t1; rename Tups _ => t1; clear t1; rename Tups _ => t1; exact t1 p hp))))
  k_with "tups" => first | assumption | exact apt_nil | exact apt_tups (by assumption) | (refine apt_cons ?_; walk_at "tups") | (refine apt_app ?_ ?_ <;> walk_at "tups")
  trivial
noncomputable def NodeC2 (w : World) (k : Nat) : Prop :=
  ∀ (news : List (Addr × Obj)) (D C : Addr) (vs : List Value) (n n2 : Nat) (ns : List Int) (cnt : Nat) (ct : Tok) (di : Int) (dt : Tok), IntsAre vs ns → vs.length < 1000 → Apt D C news → D ≠ C → cnt + gmax k ≤ 100 → di = (k : Int) →
    ConM w (k + 3) 180 [.ref D, .int di dt, .ref C] [(D, listOf vs.toArray n), (C, listOf #[.int (cnt : Int) ct] n2)] news (fun mu' tl r => ∃ vs' n' ns' cnt' ct' n2', mu' = [(D, listOf (List.toArray vs') n'), (C, listOf #[.int ((cnt' : Nat) : Int) ct'] n2')] ∧ IntsAre vs' ns' ∧ vs'.length < 1000 ∧ cnt ≤ cnt' ∧ cnt' ≤ cnt + gmax k ∧ ∃ nd, NodeIn (tl ++ news) r nd ∧ Gen k nd ∧ Tups tl)
section
variable {w : World} {p : Program} {loose : List Str} {mean : ExcName → Option Value} {mg mb : Str → Option Value} {dp un : Nat} {gd : Option (List PySem.Code)} {cn : Str} {cs : Scope} {a : Addr} {ccd : Value} {cl : List (Str × Addr)} {outer : List Env} {A₀ : Around} {base h₀ : Heap} {L : Addr} {m : Str → Option Value} {s : Shared} {Q E : Value → Shared → Prop} {news : List (Addr × Obj)} {D C : Addr} {vs : List Value} {n : Nat} {ns : List Int}
theorem draw_at {many : Int} {mt : Tok} (N : News h₀ L s.heap ((D, listOf vs.toArray n) :: news)) (hi : IntsAre vs ns) (hm : 0 < many) (hm2 : many < 100) (hsep : ∀ p ∈ news, p.1 ≠ D) (hsz : vs.length < 1000) (B : Below A₀ base outer h₀) (F : Fr h₀ L s.heap m) (X : (hd.heap_39 w.params).In h₀) (T : Top p loose mean mg mb h₀) (kk : cs.kind = .function) (dd : dp + 1 < recursionLimit) (u : un + 8 * 1 + 300 < cLine)
    (ret : ∀ vs' n' ns' x t h' tk', Fr h₀ L h' m → News h₀ L h' ((D, listOf (List.toArray vs') n') :: news) → IntsAre vs' ns' → vs'.length < 1000 → 0 ≤ x → x < many → Q (.int x t) { s with heap := h', toks := tk' }) :
    wpAny (model PySem.Challenge.rw_oj0023_01.row.prog w) (ktrTop dp un gd cn cs L a ccd cl outer) (call (.ref 166) [.ref D, .int many mt]) Q E s :=
  ConM.at (mu := [_]) N (draw_ok w news D vs n ns many mt hi hm hm2 hsep hsz) B F X T kk dd u (by
    rintro r mu' tl h' tk' F' N' ⟨vs', n', ns', rfl, rfl, hi', hl', x, t, rfl, h0, h1⟩
    exact ret _ _ _ _ _ _ _ F' N' hi' hl' h0 h1)
theorem node_at {k : Nat} (IH : NodeC2 w k) {n2 : Nat} {cnt : Nat} {ct : Tok} {di : Int} {dt : Tok} (N : News h₀ L s.heap ((D, listOf vs.toArray n) :: (C, listOf #[.int (cnt : Int) ct] n2) :: news)) (hi : IntsAre vs ns) (hl : vs.length < 1000) (ht : Apt D C news) (hDC : D ≠ C) (hc : cnt + gmax k ≤ 100) (hd0 : di = (k : Int)) (B : Below A₀ base outer h₀) (F : Fr h₀ L s.heap m) (X : (hd.heap_39 w.params).In h₀) (T : Top p loose mean mg mb h₀) (kk : cs.kind = .function) (dd : dp + (k + 3) < recursionLimit) (u : un + 8 * (k + 3) + 300 < cLine)
    (ret : ∀ r vs' n' ns' cnt' ct' n2' tl nd h' tk', Fr h₀ L h' m → News h₀ L h' ((D, listOf (List.toArray vs') n') :: (C, listOf #[.int ((cnt' : Nat) : Int) ct'] n2') :: (tl ++ news)) → IntsAre vs' ns' → vs'.length < 1000 → cnt ≤ cnt' → cnt' ≤ cnt + gmax k → NodeIn (tl ++ news) r nd → Gen k nd → Tups tl → Q r { s with heap := h', toks := tk' }) :
    wpAny (model PySem.Challenge.rw_oj0023_01.row.prog w) (ktrTop dp un gd cn cs L a ccd cl outer) (call (.ref 180) [.ref D, .int di dt, .ref C]) Q E s :=
  ConM.at (mu := [_, _]) N (IH news D C vs n n2 ns cnt ct di dt hi hl ht hDC hc hd0) B F X T kk dd u (by
    rintro r mu' tl h' tk' F' N' ⟨vs', n', ns', cnt', ct', n2', rfl, h1, h2, h3, h4, nd, h5, h6, h7⟩
    exact ret _ _ _ _ _ _ _ _ _ _ _ F' N' h1 h2 h3 h4 h5 h6 h7)
end
theorem setup_W16n_3 : True := by
  k_with "call ref" => (k_here; (with_reducible show wpAny _ _ (call (Value.ref 166) _) _ _ _); (rename IntsAre _ _ => hIA); (rename List.length _ < 1000 => hLL); (rename News _ _ _ _ => nN); k_dflt (refine' draw_at ?zzN hIA ?zza1 ?zza2 ?zzsep hLL ?zzB ?zzF ?zzX ?zzT ?zzk ?zzd ?zzu ?_; (case zzN => exact Pull.out nN (by walk_at "pull")); (case zzsep => (refine sep_of2 nN (by k_mem) (by walk_at "subs") (by walk_at "tpc") (by assumption))); (case zzB => k_asm); (case zzF => k_asm); (case zzX => k_asm); (case zzT => k_asm); (case zzk => first | exact rfl | assumption); (case zzd => (first | exact dlt (by assumption) _ (by first | exact Nat.le_refl _ | exact Nat.le_of_ble_eq_true rfl | decide | omega) | ((try simp only [depth_deeper]); (try dsimp only [ktrTop]); first | exact dlt (by assumption) _ (by first | exact Nat.le_refl _ | exact Nat.le_of_ble_eq_true rfl | decide | omega) | exact dlt3 (by assumption) _ (by first | exact Nat.le_refl _ | exact Nat.le_of_ble_eq_true rfl | decide | omega)) | ((try simp only [depth_deeper, recursionLimit] at *); (try dsimp only [ktrTop] at *); omega))); (case zzu => (first | exact ult (by assumption) _ (by first | exact Nat.le_refl _ | exact Nat.le_of_ble_eq_true rfl | decide | omega) | exact ult2 (by assumption) | ((try simp only [units_deeper]); (try dsimp only [ktrTop]); first | exact ult (by assumption) _ (by first | exact Nat.le_refl _ | exact Nat.le_of_ble_eq_true rfl | decide | omega) | exact ult2 (by assumption) | exact ult3 (by assumption) _ (by first | exact Nat.le_refl _ | exact Nat.le_of_ble_eq_true rfl | decide | omega)) | ((try simp only [units_deeper] at *); (try dsimp only [ktrTop] at *); omega))); (case zza1 => decide); (case zza2 => decide)); intro vs' n' ns' x t h' tk' F' N' hi' hlen' hx0 hx1; (try simp only [List.cons_append, List.nil_append] at N'); (try dsimp only at N'); (try dsimp only); (try k_fold))
  k_with "call ref" => (k_here; (with_reducible show wpAny _ _ (call (Value.ref 166) [_, Value.int 7 _]) _ _ _); refine Hold.out ?_)
  k_with "newTuple" => (k_here; kup_bare; k_dflt (refine' newTuple_let ?zzF ?zzN ?_ ?zzz; (case zzF => k_asm); (case zzN => k_asm); (case zzz => kmk_size)); intro D' h' F' ob' N' l1; (try k_sweep))
  k_with "newList" => (k_here; k_dflt (refine' newList_let ?zzk1 ?zzk2 ?_; (case zzk1 => k_asm); (case zzk2 => k_asm); k_whole); intro l' h' F' ob' N' l1; (try k_sweep))
  k_with "sepN" => first | assumption | exact List.forall_mem_nil _ | (refine List.forall_mem_cons.mpr ⟨?zzha, ?zzhb⟩; (case zzha => first | with_reducible assumption | (refine Ne.symm ?_; with_reducible assumption) | exact neL (by with_reducible assumption) (by walk_at "mem") | (refine Ne.symm ?_; exact neL (by with_reducible assumption) (by walk_at "mem")) | k_ne); (case zzhb => walk_at "sepN")) | (refine List.forall_mem_append.mpr ⟨?_, ?_⟩ <;> walk_at "sepN")
  trivial
theorem node_zero2 (w : World) : NodeC2 w 0 := by
  have pd00 : True := trivial
  have pd01 : True := trivial
  intro news D C vs n n2 ns cnt ct di dt hi hl ht hDC hc hd0
  subst hd0
  have pd10 : True := trivial
  unfold ConM
  k_fill
  intro pg loose mean mg mb dp un gd cn cs a ccd cl outer A₀ base h₀ L m s Q E B F X N T hk hd hu hret
  simp only [List.cons_append, List.nil_append] at N hret
  refine wpAny_call ?_
  k_dflt ktr_enter
  rename Fr _ _ _ _ => lF9
  refine FrL lF9 ?_
  clear lF9
  intro mL9 lF9
  k_steps
  rename News _ _ _ _ => kN
  have kN1 := Pull.out (D := D) kN (by walk_at "pull")
  have hs := sep_of2 kN1 (.head _) (fun p hp => .tail _ hp) (by walk_at "tpc") hDC
  refine' ConM.at (mu := [_]) kN1 (simple_ok w _ D vs n ns hi hs hl) ?B ?F ?X ?T ?k ?d ?u ?_
  walk_at "con"
  intro r' mu' tl' h' tk' F' N' hP
  obtain ⟨vs', n', ns', rfl, hi', hl', nd, hnd, hg, htl⟩ := hP
  simp only [List.cons_append, List.nil_append] at N' hnd
  (try dsimp only)
  (try k_fold)
  k_steps
  rename News _ _ _ _ => kN5
  rename Fr _ _ _ _ => kF5
  have kN6 := Pull.out2 (D := D) (C := C) kN5 (by walk_at "pull") (by walk_at "pull")
  exact hret _ [_, _] _ _ _ kF5 (dup2t kN6 (by walk_at "app")) ⟨_, _, _, _, _, _, rfl, hi', hl', Nat.le_refl _, Nat.le_add_right _ _, nd, hnd.tps (by walk_at "subT"), hg 0, tups_tps _⟩
structure IfMark : Prop where
  x : True
theorem in_two {prog : Program} {w : World} {A : Around} {E : Value → Shared → Prop} {s : Shared} {h₀ : Heap} {L ta : Addr} {news : List (Addr × Obj)} {a c x : Int} {t t1 t2 : Tok} {b : Bool} {Q : Value → Shared → Prop} (N : News h₀ L s.heap news) (hm : (ta, tup [.int a t1, .int c t2]) ∈ news) (e : [a, c].any (· == x) = b) (h : Q (.bool b) s) :
    wpAny (model prog w) A (compareOp .In (.int x t) (.ref ta)) Q E s :=
  in_tuple_ints (News.isTup N hm) (.cons _ _ (.cons _ _ .nil)) (by rw [e]; exact h)
theorem ifexp_join {prog : Program} {w : World} {A : Around} {env : Env} {E : Value → Shared → Prop} {h : Heap} {g} {d} {tk} {o} {a b c : PySem.Expr} {ps : Pos} {Q : Value → Shared → Prop} {lv : Int}
    (hw : ∀ K : Value → Shared → Prop, (∀ t tk', K (.int (-1) t) (Shared.mk h g d tk' o)) → (∀ mv t tk', mv < 3 → 1 ≤ mv → K (.int (lv + mv - 1) t) (Shared.mk h g d tk' o)) → wpAny (model prog w) A (eval (.IfExp a b c ps) env) K E (Shared.mk h g d tk o))
    (k : ∀ i t tk', (i = -1 ∨ (lv ≤ i ∧ i ≤ lv + 1)) → Q (.int i t) (Shared.mk h g d tk' o)) :
    wpAny (model prog w) A (eval (.IfExp a b c ps) env) Q E (Shared.mk h g d tk o) :=
  hw Q (fun _ _ => k _ _ _ (.inl rfl)) fun mv _ _ h1 h2 => k _ _ _ (.inr ⟨by omega, by omega⟩)
theorem setup_W16n_4 : True := by
  k_with "compareOp In int ref" => (k_here; (with_reducible show wpAny _ _ (compareOp CmpOp.In (Value.int _ _) (Value.ref _)) _ _ _); (with_unfolding_all (refine' in_two ?zzzN ?zzzm ?zzze ?_; (case zzzN => k_asm); (case zzzm => k_mem); (case zzze => with_reducible assumption))))
  k_with "eval IfExp" => (k_here; (rename IfMark => im'); refine Hold.out ?_)
  trivial
theorem seven {x : Int} (h0 : 0 ≤ x) (h1 : x < 7) : (x = 0 ∨ x = 4) ∨ (x = 1 ∨ x = 5) ∨ x = 2 ∨ x = 3 ∨ x = 6 := by
  obtain ⟨n, rfl⟩ := Int.eq_ofNat_of_zero_le h0
  have : n < 7 := Int.ofNat_lt.mp h1
  match n, this with
  | 0, _ => exact .inl (.inl rfl)
  | 1, _ => exact .inr (.inl (.inl rfl))
  | 2, _ => exact .inr (.inr (.inl rfl))
  | 3, _ => exact .inr (.inr (.inr (.inl rfl)))
  | 4, _ => exact .inl (.inr rfl)
  | 5, _ => exact .inr (.inl (.inr rfl))
  | 6, _ => exact .inr (.inr (.inr (.inr rfl)))
theorem gA {a g : Nat} (h : a + g + g + 1 ≤ 100) : a + g ≤ 100 := by omega
theorem gB {a g c : Nat} (h : a + g + g + 1 ≤ 100) (h1 : c ≤ a + g) : c + g ≤ 100 := by omega
theorem gC {a g : Nat} (h : a + g + g + 1 ≤ 100) : a + 1 + g ≤ 100 := by omega
theorem gD {a g c : Nat} (h1 : c ≤ a + g) : c ≤ a + (2 * g + 1) := by omega
theorem gE {a g c e : Nat} (h1 : c ≤ a + g) (h2 : e ≤ c + g) : e ≤ a + (2 * g + 1) := by omega
theorem gF {a g c : Nat} (h1 : c ≤ a + 1 + g) : c ≤ a + (2 * g + 1) := by omega
theorem gG {x : Int} (h : x < 3) : x.toNat ≤ 2 := by omega
theorem gH {x m : Int} (h0 : 0 ≤ x) (h : m = -1 ∨ (x ≤ m ∧ m ≤ x + 1)) : m = -1 ∨ (((x.toNat : Nat) : Int) ≤ m ∧ m ≤ ((x.toNat : Nat) : Int) + 1) := by rw [Int.toNat_of_nonneg h0]; exact h
theorem gI {a g : Nat} (h : a + g + g + 1 ≤ 100) : a + 1 ≤ 100 := by omega
theorem gK (k : Nat) : ((k + 1 : Nat) : Int) - 1 = (k : Int) := by omega
theorem node_succ2 (w : World) (k : Nat) (IH : NodeC2 w k) : NodeC2 w (k + 1) := by
  intro news D C vs n n2 ns cnt ct di dt hi hl ht hDC hc hd0
  subst hd0
  have hc' : cnt + gmax k + gmax k + 1 ≤ 100 := by simp only [gmax_q1, gmax_q2] at hc; omega
  unfold ConM
  k_fill
  intro pg loose mean mg mb dp un gd cn cs a ccd cl outer A₀ base h₀ L m s Q E B F X N T hk hd hu hret
  simp only [List.cons_append, List.nil_append] at N hret
  refine wpAny_call ?_
  k_dflt ktr_enter
  rename Fr _ _ _ _ => lF9
  refine FrL lF9 ?_
  clear lF9
  intro mL9 lF9
  k_steps
  refine Hold.of ?_
  rename News _ _ _ _ => kN
  have hs := sep_of2 kN (.head _) (fun p hp => .tail _ hp) (by walk_at "tpc") hDC
  refine' draw_at kN hi (by decide) (by decide) hs hl ?B ?F ?X ?T ?k ?d ?u ?_
  walk_at "con"
  intro vs' n' ns' x t h' tk' F' N' hi' hl' hx0 hx1
  (try dsimp only)
  (try k_fold)
  have h7 := seven hx0 hx1
  rcases h7 with h7 | h7 | h7 | h7 | h7
  · have e04 : [(0 : Int), 4].any (· == x) = true := by rcases h7 with rfl | rfl <;> rfl
    clear h7
    have ifm : IfMark := ⟨trivial⟩
    k_steps
    refine Hold.of ?_
    refine' ifexp_join ?hw ?hk
    case hw =>
      intro K hK1 hK2
      k_dflt (refine IfExp_ ?_)
      k_steps
      · exact hK1 _ _
      · exact hK2 _ _ _ (by assumption) (by omega)
    case hk =>
      intro mst mt mtk hmst
      k_steps
      rename News _ _ _ _ => kM1
      rename IntsAre _ _ => hi1
      rename List.length _ < 1000 => hl1
      have kP1 := Pull.out2 (D := D) (C := C) kM1 (by walk_at "pull") (by walk_at "pull")
      refine' node_at IH kP1 hi1 hl1 (by walk_at "tups") hDC (by first | exact gA hc' | exact gB hc' (by assumption) | exact gC hc' | omega) (by first | exact gK k | omega) ?B ?F ?X ?T ?k ?d ?u ?_
      walk_at "con"
      intro r1 vv1 nn1 ni1 cnt1 ct1 nm1 tl1 nd1 h1 tk1 F1 N1 hh1 hg1 hc1 hd1 hn1 hq1 ht1
      (try dsimp only)
      (try k_fold)
      k_steps
      rename News _ _ _ _ => kE
      rename Fr _ _ _ _ => kF
      have kQ := Pull.out2 (D := D) (C := C) kE (by walk_at "pull") (by walk_at "pull")
      refine' hret _ [_, _] _ _ _ kF (dup2t kQ (by walk_at "app")) ⟨_, _, _, _, _, _, rfl, hh1, hg1, ?c1, ?c2, _, .times' ?l0 (memT (by walk_at "mem")) (hn1.tps (by walk_at "subT")), ⟨?g1, ?g2, hq1⟩, tups_tps _⟩
      case l0 => assumption
      case g1 => first | exact gG (by assumption) | exact gI hc' | omega
      case g2 => first | exact gH (by assumption) (by assumption) | omega
      case c1 => first | exact Nat.le_trans hc1 hc2 | exact hc1 | exact Nat.le_of_succ_le hc1 | omega
      case c2 => first | exact gE hd1 hd2 | exact gD hd1 | exact gF hd1 | (simp only [gmax_q1, gmax_q2]; omega)
  · have e04 : [(0 : Int), 4].any (· == x) = false := by rcases h7 with rfl | rfl <;> rfl
    have e15 : [(1 : Int), 5].any (· == x) = true := by rcases h7 with rfl | rfl <;> rfl
    clear h7
    k_steps
    rename News _ _ _ _ => kM1
    rename IntsAre _ _ => hi1
    rename List.length _ < 1000 => hl1
    have kP1 := Pull.out2 (D := D) (C := C) kM1 (by walk_at "pull") (by walk_at "pull")
    refine' node_at IH kP1 hi1 hl1 (by walk_at "tups") hDC (by first | exact gA hc' | exact gB hc' (by assumption) | exact gC hc' | omega) (by first | exact gK k | omega) ?B ?F ?X ?T ?k ?d ?u ?_
    walk_at "con"
    intro r1 vv1 nn1 ni1 cnt1 ct1 nm1 tl1 nd1 h1 tk1 F1 N1 hh1 hg1 hc1 hd1 hn1 hq1 ht1
    (try dsimp only)
    (try k_fold)
    k_steps
    rename News _ _ _ _ => kM2
    rename IntsAre _ _ => hi2
    rename List.length _ < 1000 => hl2
    have kP2 := Pull.out2 (D := D) (C := C) kM2 (by walk_at "pull") (by walk_at "pull")
    refine' node_at IH kP2 hi2 hl2 (by walk_at "tups") hDC (by first | exact gA hc' | exact gB hc' (by assumption) | exact gC hc' | omega) (by first | exact gK k | omega) ?B ?F ?X ?T ?k ?d ?u ?_
    walk_at "con"
    intro r2 vv2 nn2 ni2 cnt2 ct2 nm2 tl2 nd2 h2 tk2 F2 N2 hh2 hg2 hc2 hd2 hn2 hq2 ht2
    (try dsimp only)
    (try k_fold)
    k_steps
    rename News _ _ _ _ => kE
    rename Fr _ _ _ _ => kF
    have kQ := Pull.out2 (D := D) (C := C) kE (by walk_at "pull") (by walk_at "pull")
    refine' hret _ [_, _] _ _ _ kF (dup2t kQ (by walk_at "app")) ⟨_, _, _, _, _, _, rfl, hh2, hg2, ?c1, ?c2, _, .seq (memT (by walk_at "mem")) (memT (by walk_at "mem")) (hn1.tps (by walk_at "subT")) (hn2.tps (by walk_at "subT")), ⟨hq1, hq2⟩, tups_tps _⟩
    case c1 => first | exact Nat.le_trans hc1 hc2 | exact hc1 | exact Nat.le_of_succ_le hc1 | omega
    case c2 => first | exact gE hd1 hd2 | exact gD hd1 | exact gF hd1 | (simp only [gmax_q1, gmax_q2]; omega)
  · subst h7
    k_steps
    rename News _ _ _ _ => kM1
    rename IntsAre _ _ => hi1
    rename List.length _ < 1000 => hl1
    have kP1 := Pull.out2 (D := D) (C := C) kM1 (by walk_at "pull") (by walk_at "pull")
    refine' node_at IH kP1 hi1 hl1 (by walk_at "tups") hDC (by first | exact gA hc' | exact gB hc' (by assumption) | exact gC hc' | omega) (by first | exact gK k | omega) ?B ?F ?X ?T ?k ?d ?u ?_
    walk_at "con"
    intro r1 vv1 nn1 ni1 cnt1 ct1 nm1 tl1 nd1 h1 tk1 F1 N1 hh1 hg1 hc1 hd1 hn1 hq1 ht1
    (try dsimp only)
    (try k_fold)
    k_steps
    rename News _ _ _ _ => kM2
    rename IntsAre _ _ => hi2
    rename List.length _ < 1000 => hl2
    have kP2 := Pull.out2 (D := D) (C := C) kM2 (by walk_at "pull") (by walk_at "pull")
    refine' node_at IH kP2 hi2 hl2 (by walk_at "tups") hDC (by first | exact gA hc' | exact gB hc' (by assumption) | exact gC hc' | omega) (by first | exact gK k | omega) ?B ?F ?X ?T ?k ?d ?u ?_
    walk_at "con"
    intro r2 vv2 nn2 ni2 cnt2 ct2 nm2 tl2 nd2 h2 tk2 F2 N2 hh2 hg2 hc2 hd2 hn2 hq2 ht2
    (try dsimp only)
    (try k_fold)
    k_steps
    rename News _ _ _ _ => kE
    rename Fr _ _ _ _ => kF
    have kQ := Pull.out2 (D := D) (C := C) kE (by walk_at "pull") (by walk_at "pull")
    refine' hret _ [_, _] _ _ _ kF (dup2t kQ (by walk_at "app")) ⟨_, _, _, _, _, _, rfl, hh2, hg2, ?c1, ?c2, _, .alt (memT (by walk_at "mem")) (memT (by walk_at "mem")) (hn1.tps (by walk_at "subT")) (hn2.tps (by walk_at "subT")), ⟨hq1, hq2⟩, tups_tps _⟩
    case c1 => first | exact Nat.le_trans hc1 hc2 | exact hc1 | exact Nat.le_of_succ_le hc1 | omega
    case c2 => first | exact gE hd1 hd2 | exact gD hd1 | exact gF hd1 | (simp only [gmax_q1, gmax_q2]; omega)
  · subst h7
    k_steps
    rename News _ _ _ _ => kM0
    rename Fr _ _ _ _ => kF0
    have kP0 := Pull.out2 (D := C) (C := D) kM0 (by walk_at "pull") (by walk_at "pull")
    have hs2 := sep_of2 kP0 (.head _) (fun p hp => .tail _ hp) (by walk_at "tpc") (Ne.symm hDC)
    refine ksa_set kF0 kP0 (.head hs2) (.cons _ _ .nil) (by decide) (by simp) (by decide) ?_
    intro h9 FS NS _ _ _
    replace NS : News _ _ h9 ((C, listOf #[.int ((cnt + 1 : Nat) : Int) _] n2) :: _) := NS
    have NS2 := Pull.out2 (D := D) (C := C) NS (by walk_at "pull") (by walk_at "pull")
    clear NS
    (try dsimp only)
    k_steps
    refine' node_at IH NS2 hi' hl' (by walk_at "tups") hDC (by first | exact gA hc' | exact gB hc' (by assumption) | exact gC hc' | omega) (by first | exact gK k | omega) ?B3 ?F3 ?X3 ?T3 ?k3 ?d3 ?u3 ?_
    walk_at "con3"
    intro r1 vv1 nn1 ni1 cnt1 ct1 nm1 tl1 nd1 h1 tk1 F1 N1 hh1 hg1 hc1 hd1 hn1 hq1 ht1
    (try dsimp only)
    (try k_fold)
    k_steps
    rename News _ _ _ _ => kE
    rename Fr _ _ _ _ => kF
    have kQ := Pull.out2 (D := D) (C := C) kE (by walk_at "pull") (by walk_at "pull")
    refine' hret _ [_, _] _ _ _ kF (dup2t kQ (by walk_at "app")) ⟨_, _, _, _, _, _, rfl, hh1, hg1, ?c1, ?c2, _, .group (k := cnt + 1) (memT (by walk_at "mem")) (hn1.tps (by walk_at "subT")), ⟨?g1, hq1⟩, tups_tps _⟩
    case g1 => first | exact gG (by assumption) | exact gI hc' | omega
    case c1 => first | exact Nat.le_trans hc1 hc2 | exact hc1 | exact Nat.le_of_succ_le hc1 | omega
    case c2 => first | exact gE hd1 hd2 | exact gD hd1 | exact gF hd1 | (simp only [gmax_q1, gmax_q2]; omega)
  · subst h7
    k_steps
    rename News _ _ _ _ => kM0
    have kN1 := Pull.out (D := D) kM0 (by walk_at "pull")
    have hs := sep_of2 kN1 (.head _) (fun p hp => .tail _ hp) (by walk_at "tpc") hDC
    refine' ConM.at (mu := [_]) kN1 (simple_ok w _ D _ _ _ hi' hs hl') ?B2 ?F2 ?X2 ?T2 ?k2 ?d2 ?u2 ?_
    walk_at "con2"
    intro r' mu' tl' h' tk' F' N' hP
    obtain ⟨vs', n', ns', rfl, hi', hl', nd, hnd, hg, htl⟩ := hP
    simp only [List.cons_append, List.nil_append] at N' hnd
    (try dsimp only)
    (try k_fold)
    k_steps
    rename News _ _ _ _ => kN5
    rename Fr _ _ _ _ => kF5
    have kN6 := Pull.out2 (D := D) (C := C) kN5 (by walk_at "pull") (by walk_at "pull")
    exact hret _ [_, _] _ _ _ kF5 (dup2t kN6 (by walk_at "app")) ⟨_, _, _, _, _, _, rfl, hi', hl', Nat.le_refl _, Nat.le_add_right _ _, nd, hnd.tps (by walk_at "subT"), hg _, tups_tps _⟩
theorem node_ok2 (w : World) : ∀ k, NodeC2 w k
  | 0 => node_zero2 w
  | k + 1 => node_succ2 w k (node_ok2 w k)
end Mine
end
section
open PySem PySem.W PyProof.Rows PyProof.V PySem.Spec PySem.Calls
set_option Elab.async false
set_option maxRecDepth 100000
set_option maxHeartbeats 8000000
namespace Mine


noncomputable abbrev ent (w : World) (n : String) (t : Tok) (v : Value) : DictEntry := { hash := PyData.keyHash w.params (PySem.Str.ofString n), key := .str (PySem.Str.ofString n) t, val := v }
/-- the dict of a Compiling -/
noncomputable def CompO (w : World) (folds : Bool) (R P Wt : Addr) (lab mark : Nat) (o : Obj) : Prop :=
  ∃ t1 t2 t3 t4 t5 t6 t7 t8, o = dictOf [ent w "folds" t1 (.bool folds), ent w "rows" t2 (.ref R), ent w "places" t3 (.ref P), ent w "labels" t4 (.int (lab : Int) t7), ent w "marks" t5 (.int (mark : Int) t8), ent w "waiting" t6 (.ref Wt)] 6

theorem tup_isTp {ns ns' : List (Addr × Obj)} (hs : ∀ p ∈ ns, isTp p = true → p ∈ ns') {a : Addr} {vs : List Value} (h : (a, tup vs) ∈ ns) : (a, tup vs) ∈ ns' := hs _ h (by simp [isTp])
theorem RowIn.monoT {ns ns' : List (Addr × Obj)} {v : Value} {r : Rw} (h : RowIn ns v r) (hs : ∀ p ∈ ns, isTp p = true → p ∈ ns') : RowIn ns' v r := h.monoV (tup_isTp hs)
inductive TaskIn (ns : List (Addr × Obj)) : Value → Tk → Prop
  | node {a t} {v : Value} {n : Nd} : (a, tup [wd "node" t, v]) ∈ ns → NodeIn ns v n → TaskIn ns (.ref a) (.node n)
  | row {a t} {v : Value} {r : Rw} : (a, tup [wd "row" t, v]) ∈ ns → RowIn ns v r → TaskIn ns (.ref a) (.row r)
  | label {a t tl} {l : Nat} : (a, tup [wd "label" t, .int l tl]) ∈ ns → TaskIn ns (.ref a) (.label l)
theorem TaskIn.monoT {ns ns' : List (Addr × Obj)} {v : Value} {r : Tk} (h : TaskIn ns v r) (hs : ∀ p ∈ ns, isTp p = true → p ∈ ns') : TaskIn ns' v r := by
  induction h with
  | node h hn => exact .node (tup_isTp hs h) (hn.monoT hs)
  | row h hr => exact .row (tup_isTp hs h) (hr.monoT hs)
  | label h => exact .label (tup_isTp hs h)
/-- five addresses, each its own, and none of the ledger's -/
structure Five (C d R P Wt : Addr) (news : List (Addr × Obj)) : Prop where
  cd : C ≠ d
  cr : C ≠ R
  cp : C ≠ P
  cw : C ≠ Wt
  dr : d ≠ R
  dp : d ≠ P
  dw : d ≠ Wt
  rp : R ≠ P
  rw : R ≠ Wt
  pw : P ≠ Wt
  nc : ∀ p ∈ news, p.1 ≠ C
  nd : ∀ p ∈ news, p.1 ≠ d
  nr : ∀ p ∈ news, p.1 ≠ R
  np : ∀ p ∈ news, p.1 ≠ P
  nw : ∀ p ∈ news, p.1 ≠ Wt
end Mine
end
section
open PySem PySem.W PyProof.Rows PyProof.V PySem.Spec PySem.Calls
set_option Elab.async false
set_option maxRecDepth 100000
set_option maxHeartbeats 8000000
namespace Mine

noncomputable def GrowEnd (h₀ : Heap) (L : Addr) (s : Shared) (x : Str) (m₀ : Str → Option Value) (I : Addr) (it : Obj) (W : Addr) (ws : List Value) (news : List (Addr × Obj)) (s₂ : Shared) : Prop :=
  ∃ h' tk' n2' m', s₂ = { s with heap := h', toks := tk' } ∧ Fr h₀ L h' m' ∧ (∀ z, z ≠ x → m' z = m₀ z) ∧ News h₀ L h' ((I, it) :: (W, listOf ws.toArray n2') :: news)
noncomputable def GrowPost (h₀ : Heap) (L : Addr) (s : Shared) (x : Str) (m₀ : Str → Option Value) (I : Addr) (it : Obj) (W : Addr) (ws : List Value) (news : List (Addr × Obj)) (f : Flow) (s₂ : Shared) : Prop :=
  match f with
  | .ret _ => False
  | .brk => False
  | _ => GrowEnd h₀ L s x m₀ I it W ws news s₂
section
variable {prog : Program} {w : World} {A : Around} {E : Value → Shared → Prop} {s : Shared} {env : Env} {h₀ : Heap} {x : Str} {body : List Stmt} {Q : Flow → Shared → Prop}
theorem grow_rest (M : Nat) {I ax W : Addr} {lo : Obj} {m₀ : Str → Option Value} {news : List (Addr × Obj)} (hlp : (ax, lo) ∈ news) (hI : ∀ p ∈ news, p.1 ≠ I) (hW : W ≠ I)
    (turn : ∀ v ws n2 it h tk, ws.length < M → it.cls = .type "list_reverseiterator" → Fr h₀ env.locals h (fun z => if z = x then some v else m₀ z) → News h₀ env.locals h ((I, it) :: (W, listOf (List.toArray ws) n2) :: news) →
      wpAny (model prog w) A (execs body env) (GrowPost h₀ env.locals { s with heap := h, toks := tk } x m₀ I it W (ws ++ [v]) news) E { s with heap := h, toks := tk }) :
    ∀ (r ws : List Value) (n2 : Nat) (m₁ : Str → Option Value), (∀ z, z ≠ x → m₁ z = m₀ z) → ws.length + r.length ≤ M →
    (∀ n2 (u : Str → Option Value) h tk, Fr h₀ env.locals h (fun z => if z = x then u z else m₀ z) → News h₀ env.locals h ((W, listOf (List.toArray (ws ++ r)) n2) :: news) → Q .next { s with heap := h, toks := tk }) →
    RevRest prog w A E h₀ env x body Q s I (ax, lo) r m₁ ((W, listOf (List.toArray ws) n2) :: news)
  | [], ws, n2, m₁, hm, hM, done => by
    refine RevRest.zero fun h tk F N => ?_
    have e : m₁ = fun z => if z = x then m₁ z else m₀ z := by
      funext z
      by_cases h1 : z = x
      · simp [h1]
      · simp only [if_neg h1]; exact hm z h1
    rw [e] at F
    rw [List.append_nil] at done
    exact done n2 m₁ h tk F N
  | v :: r, ws, n2, m₁, hm, hM, done => by
    rw [List.length_cons] at hM
    refine RevRest.succ fun it h tk hc F N => ?_
    have e : (fun y => if y = x then some v else m₁ y) = fun z => if z = x then some v else m₀ z := by
      funext z
      by_cases h1 : z = x
      · simp [h1]
      · simp only [if_neg h1]; exact hm z h1
    rw [e] at F
    refine wpAny_mono (turn v ws n2 it h tk (by omega) hc F N) (fun f s₂ p => ?_) fun _ _ e => e
    have fin : GrowEnd h₀ env.locals { s with heap := h, toks := tk } x m₀ I it W (ws ++ [v]) news s₂ → UnrEnd h₀ env.locals { s with heap := h, toks := tk } I it (fun m' n' => (ax, lo) ∈ n' ∧ RevRest prog w A E h₀ env x body Q s I (ax, lo) r m' n') s₂ := by
      rintro ⟨h', tk', n2', m', rfl, F', hm', N'⟩
      refine ⟨h', tk', m', _, rfl, F', N', ?_, .tail _ hlp, grow_rest M hlp hI hW turn r (ws ++ [v]) n2' m' hm' (by rw [List.length_append, List.length_singleton]; omega) ?_⟩
      · intro p hp
        rcases List.mem_cons.mp hp with e | hp
        · rw [e]; exact hW
        · exact hI p hp
      · intro n2 u h tk F N
        rw [List.append_assoc] at N
        exact done n2 u h tk F N
    cases f with
    | ret v => exact p.elim
    | brk => exact p.elim
    | next => exact fin p
    | cont => exact fin p
end
theorem app_lst {prog : Program} {w : World} {A : Around} {E : Value → Shared → Prop} {s : Shared} {h₀ : Heap} {L D : Addr} {m : Str → Option Value} {news : List (Addr × Obj)} {n : Nat} {ws : List Value} {v : Value} {Q : Value → Shared → Prop} (F : Fr h₀ L s.heap m) (N : News h₀ L s.heap ((D, listOf ws.toArray n) :: news)) (sep : ∀ p ∈ news, p.1 ≠ D) (hsz : ws.length ≤ 100000)
    (h : ∀ h', Fr h₀ L h' m → News h₀ L h' ((D, listOf (List.toArray (ws ++ [v])) (n + 1)) :: news) → Q .none { s with heap := h' }) : wpAny (model prog w) A (call (.builtin "list.append") [.ref D, v]) Q E s :=
  append_K F N (.head sep) (fun h' F' N' => h h' F' (by simpa using N')) (by rw [List.size_toArray, sizeLine_eq]; omega)
theorem offI_lt {I : Addr} {it : Obj} : ∀ {l : List (Addr × Obj)}, (∀ p ∈ l, p.1 < I) → OffI I it l
  | [], _ => trivial
  | p :: _, h => ⟨.inl (Nat.ne_of_lt (h p (.head _))), offI_lt fun q hq => h q (.tail _ hq)⟩
theorem len_lst {prog : Program} {w : World} {A : Around} {E : Value → Shared → Prop} {s : Shared} {h₀ : Heap} {L : Addr} {news : List (Addr × Obj)} {Q : Value → Shared → Prop} {a : Addr} {n : Nat} {vs : List Value} (N : News h₀ L s.heap news) (hm : (a, listOf vs.toArray n) ∈ news) (hl : vs.length ≤ 100000)
    (h : Q (.int (vs.length : Int) (s.toks + 1)) { s with toks := s.toks + 1 + 1 }) : wpAny (model prog w) A (call (.builtin "len") [.ref a]) Q E s := by
  have e : ((vs.toArray.size : Nat) : Int) = (vs.length : Int) := by simp
  refine PyProof.Rows.len_list (N.isList hm) (by rw [e]; omega) ?_
  rw [e]; exact h
end Mine
end
section
open PySem PySem.W PyProof.Rows PyProof.V
set_option Elab.async false
set_option maxRecDepth 100000
set_option maxHeartbeats 8000000
namespace Mine


theorem setup_W17_1 : True := by
  k_with_none
  k_with "mem0" => first | with_reducible exact List.mem_cons_self | (refine List.mem_cons_of_mem _ ?_; k_mem)
  k_with "all0" => first | assumption | exact fun p hp => Nat.ne_of_lt (ktn_ltOf (by assumption) p hp)
  k_with "execs cons" => (k_here; k_fold; (try ((rename Fr _ _ _ _ => lF9); (refine FrL lF9 ?_); clear lF9; intro mL9 lF9)))
  k_with "eval Tuple" => (k_here; k_fold)
  k_with "eval List" => (k_here; k_fold)
  k_with "eval BinOp" => (k_here; k_fold)
  k_with "exec Assign" => (k_here; k_fold)
  k_with "eval IfExp" => (k_here; k_fold)
  k_with "binaryOp Add ref ref" => (k_here; (with_reducible show wpAny _ _ (binaryOp Operator.Add (Value.ref _) (Value.ref _)) _ _ _); k_dflt (refine' add_lists ?zzF ?zzN ?zzl ?zzb ?_ ?zzz; (case zzF => k_asm); (case zzN => k_asm); (case zzl => exact News.isList (by k_asm) (by k_mem)); (case zzb => exact News.isList (by k_asm) (by k_mem)); (case zzz => first | assumption | (simp only [List.length_cons, List.length_nil] at *; rw [sizeLine_eq] at *; omega))); intro h' F' N'; (try dsimp only))
  k_with "eval Call" => (k_here; (try k_fold); k_dflt (refine Call_ ?_))
  k_with "exec For Tuple Name cons nil" => (k_here; (rename Fr _ _ _ _ => lF'); (with_unfolding_all refine' For_turns lF' ?_; k_whole))
  k_with "exec For Tuple Call cons nil" => (k_here; (rename Fr _ _ _ _ => lF'); (with_unfolding_all refine' For_turns lF' ?_; k_whole))
  k_with "AccPost" => dsimp only [AccPost]
  k_with "same" => (intro z h1 h3; (simp only [List.contains_cons, List.contains_nil, Bool.or_false, Bool.or_eq_false_iff, beq_eq_false_iff_ne, ne_eq] at h3); (simp +zetaDelta [h1, h3]; done))
  k_with "mem" => first | with_reducible assumption | with_reducible exact List.mem_cons_self | (refine List.mem_cons_of_mem _ ?_; walk_at "mem") | (refine List.mem_append.mpr (Or.inr ?_); walk_at "mem") | (refine List.mem_append.mpr (Or.inl ?_); walk_at "mem")
  k_with "app" => (intro p hp; walk_at "mem")
  k_with "con" => ((case B => k_asm); (case F => k_asm); (case X => k_asm); (case T => k_asm); (case k => first | exact rfl | assumption); (case d => (first | exact dlt (by assumption) _ (by first | exact Nat.le_refl _ | exact Nat.le_of_ble_eq_true rfl | decide | omega) | ((try simp only [depth_deeper]); (try dsimp only [ktrTop]); first | exact dlt (by assumption) _ (by first | exact Nat.le_refl _ | exact Nat.le_of_ble_eq_true rfl | decide | omega) | exact dlt3 (by assumption) _ (by first | exact Nat.le_refl _ | exact Nat.le_of_ble_eq_true rfl | decide | omega)) | ((try simp only [depth_deeper, recursionLimit] at *); (try dsimp only [ktrTop] at *); omega))); (case u => (first | exact ult (by assumption) _ (by first | exact Nat.le_refl _ | exact Nat.le_of_ble_eq_true rfl | decide | omega) | exact ult2 (by assumption) | ((try simp only [units_deeper]); (try dsimp only [ktrTop]); first | exact ult (by assumption) _ (by first | exact Nat.le_refl _ | exact Nat.le_of_ble_eq_true rfl | decide | omega) | exact ult2 (by assumption) | exact ult3 (by assumption) _ (by first | exact Nat.le_refl _ | exact Nat.le_of_ble_eq_true rfl | decide | omega)) | ((try simp only [units_deeper] at *); (try dsimp only [ktrTop] at *); omega))))
  k_with "enterC" => (refine' code_defC ?zzk1 ?zzk2 ?zzk3 ?zzk4 ?zzk5 ?zzkA ?zzkF ?zzkK ?zzk6 ?zzk7 ?zzk8 ?zzk9 ?zzkB ?zzkD ?_ ?zzc2 ?zzc3 ?zzc4; (case zzkA => exact rfl); (case zzkF => exact rfl); (case zzkK => assumption); (case zzk1 => k_asm); (case zzk2 => k_asm); (case zzk3 => k_asm); (case zzk4 => k_asm); (case zzk5 => k_asm); (case zzk6 => k_is); (case zzk7 => k_is); (case zzk8 => ktr_room); (case zzk9 => exact BindsTo.of_eq rfl); (case zzkB => exact rfl); (case zzkD => decide +kernel); (case zzc2 => exact rfl); (case zzc3 => exact rfl); (case zzc4 => exact rfl); k_whole; intro g' L' h' tk' cells' FG' F' N' Y' B' X' T' l1; (try k_lt l1); k_cells Y'; (try simp only [List.cons_append, List.nil_append] at N'); (try dsimp only); (try k_fold))
  k_with "con2" => ((case B2 => k_asm); (case F2 => k_asm); (case X2 => k_asm); (case T2 => k_asm); (case k2 => first | exact rfl | assumption); (case d2 => (first | exact dlt (by assumption) _ (by first | exact Nat.le_refl _ | exact Nat.le_of_ble_eq_true rfl | decide | omega) | ((try simp only [depth_deeper]); (try dsimp only [ktrTop]); first | exact dlt (by assumption) _ (by first | exact Nat.le_refl _ | exact Nat.le_of_ble_eq_true rfl | decide | omega) | exact dlt3 (by assumption) _ (by first | exact Nat.le_refl _ | exact Nat.le_of_ble_eq_true rfl | decide | omega)) | ((try simp only [depth_deeper, recursionLimit] at *); (try dsimp only [ktrTop] at *); omega))); (case u2 => (first | exact ult (by assumption) _ (by first | exact Nat.le_refl _ | exact Nat.le_of_ble_eq_true rfl | decide | omega) | exact ult2 (by assumption) | ((try simp only [units_deeper]); (try dsimp only [ktrTop]); first | exact ult (by assumption) _ (by first | exact Nat.le_refl _ | exact Nat.le_of_ble_eq_true rfl | decide | omega) | exact ult2 (by assumption) | exact ult3 (by assumption) _ (by first | exact Nat.le_refl _ | exact Nat.le_of_ble_eq_true rfl | decide | omega)) | ((try simp only [units_deeper] at *); (try dsimp only [ktrTop] at *); omega))))
  k_with "con3" => ((case B3 => k_asm); (case F3 => k_asm); (case X3 => k_asm); (case T3 => k_asm); (case k3 => first | exact rfl | assumption); (case d3 => (first | exact dlt (by assumption) _ (by first | exact Nat.le_refl _ | exact Nat.le_of_ble_eq_true rfl | decide | omega) | ((try simp only [depth_deeper]); (try dsimp only [ktrTop]); first | exact dlt (by assumption) _ (by first | exact Nat.le_refl _ | exact Nat.le_of_ble_eq_true rfl | decide | omega) | exact dlt3 (by assumption) _ (by first | exact Nat.le_refl _ | exact Nat.le_of_ble_eq_true rfl | decide | omega)) | ((try simp only [depth_deeper, recursionLimit] at *); (try dsimp only [ktrTop] at *); omega))); (case u3 => (first | exact ult (by assumption) _ (by first | exact Nat.le_refl _ | exact Nat.le_of_ble_eq_true rfl | decide | omega) | exact ult2 (by assumption) | ((try simp only [units_deeper]); (try dsimp only [ktrTop]); first | exact ult (by assumption) _ (by first | exact Nat.le_refl _ | exact Nat.le_of_ble_eq_true rfl | decide | omega) | exact ult2 (by assumption) | exact ult3 (by assumption) _ (by first | exact Nat.le_refl _ | exact Nat.le_of_ble_eq_true rfl | decide | omega)) | ((try simp only [units_deeper] at *); (try dsimp only [ktrTop] at *); omega))))
  k_with "subs" => first | exact List.forall_mem_nil _ | (refine List.forall_mem_cons.mpr ⟨?zzha, ?zzhb⟩; (case zzha => walk_at "mem"); (case zzhb => walk_at "subs")) | (refine List.forall_mem_append.mpr ⟨?_, ?_⟩ <;> walk_at "subs") | (intro p hp; walk_at "mem")
  k_with "enterF" => (refine' code_def ?zzk1 ?zzk2 ?zzk3 ?zzk4 ?zzk5 ?zzkA ?zzkF ?zzkK ?zzk6 ?zzk7 ?zzk8 ?zzk9 ?zzkB ?_ ?zzc2 ?zzc3 ?zzc4 ?zzc5; (case zzkA => exact rfl); (case zzkF => exact rfl); (case zzkK => first | exact rfl | assumption); (case zzk1 => k_asm); (case zzk2 => k_asm); (case zzk3 => k_asm); (case zzk4 => k_asm); (case zzk5 => k_asm); (case zzk6 => k_is); (case zzk7 => k_is); (case zzk8 => ktr_room); (case zzk9 => exact BindsTo.of_eq rfl); (case zzkB => exact locs rfl); (case zzc5 => decide); (case zzc2 => exact rfl); (case zzc3 => exact rfl); (case zzc4 => exact rfl); k_whole; intro g' L' h' FG' F' N' B' X' T'; (try dsimp only); (try k_fold))
  k_with "call ref" => (k_here; (with_reducible show wpAny _ _ (call (Value.ref 148) _) _ _ _); k_dflt (refine' call_cls ?zzk1 ?zzk2 ?zzk3 ?zzk4 ?zzk5 ?zzk6 ?_; (case zzk1 => k_asm); (case zzk2 => k_asm); (case zzk3 => k_asm); (case zzk4 => k_is); (case zzk5 => k_is); (case zzk6 => k_is); k_whole; intro x' d' h' F' N' l1 l2; (try k_lt l1); (try k_lt2 l2); (try k_sweep); walk_at "enterF"))
  k_with "call ref" => (k_here; (with_reducible show wpAny _ _ (call (Value.ref 66) _) _ _ _); k_dflt (refine' call_cls ?zzk1 ?zzk2 ?zzk3 ?zzk4 ?zzk5 ?zzk6 ?_; (case zzk1 => k_asm); (case zzk2 => k_asm); (case zzk3 => k_asm); (case zzk4 => k_is); (case zzk5 => k_is); (case zzk6 => k_is); k_whole; intro x' d' h' F' N' l1 l2; (try k_lt l1); (try k_lt2 l2); (try k_sweep); walk_at "enterF"))
  trivial
theorem label_ok (w : World) (folds : Bool) (C d R P Wt : Addr) (news : List (Addr × Obj)) (lab mark : Nat) (od : Obj) (hC : (C, instObj 148 d) ∈ news) (nd : ∀ p ∈ news, p.1 ≠ d) (hO : CompO w folds R P Wt lab mark od) (hl : lab < 100000) :
    ConM w 1 91 [.ref C] [(d, od)] news (fun mu' tl r => ∃ od' t, mu' = [(d, od')] ∧ tl = [] ∧ CompO w folds R P Wt (lab + 1) mark od' ∧ r = .int ((lab + 1 : Nat) : Int) t) := by
  obtain ⟨t1, t2, t3, t4, t5, t6, t7, t8, rfl⟩ := hO
  unfold ConM
  k_fill
  intro pg loose mean mg mb dp un gd cn cs a ccd cl outer A₀ base h₀ L m s Q E B F X N T hk hd hu hret
  simp only [List.cons_append, List.nil_append] at N hret
  refine wpAny_call ?_
  k_dflt ktr_enter
  rename Fr _ _ _ _ => lF9
  refine FrL lF9 ?_
  clear lF9
  intro mL9 lF9
  k_steps
  rename News _ _ _ _ => kN
  rename Fr _ _ _ _ => kF
  exact hret _ [_] [] _ _ kF kN ⟨_, _, rfl, rfl, ⟨t1, t2, t3, t4, t5, t6, _, t8, rfl⟩, rfl⟩
theorem setup_W17_2 : True := by
  k_with "pyIter ref" => (k_here; (with_reducible show wpAny _ _ (pyIter (Value.ref _)) (fun it s₂ => LoopAtV _ _ _ _ _ _ _ _ _ it s₂) _ _); refine Hold.out ?_)
  k_with "call builtin:len" => (k_here; k_dflt (refine' len_lst ?zzN ?zzm ?zzl ?_; (case zzN => k_asm); (case zzm => k_mem); (case zzl => omega)))
  k_with "exec For Name Call cons nil" => (k_here; (rename Fr _ _ _ _ => lF'); (with_unfolding_all refine' For_invVF lF' ?zzk1 ?zzk2 ?_; (case zzk1 => exact rfl); (case zzk2 => exact rfl); k_whole))
  k_with "call type:reversed" => (k_here; (with_reducible show wpAny _ _ (call (Value.type _) [Value.ref _]) _ _ _); k_dflt (refine' krv_reversed ?zzF ?zzN ?zzl ?_; (case zzF => k_asm); (case zzN => k_asm); (case zzl => exact News.isList (by k_asm) (by k_mem))); intro D' h' F' N' l1)
  trivial
theorem wait_ok (w : World) (folds : Bool) (C d R P Wt T : Addr) (news : List (Addr × Obj)) (lab mark : Nat) (od : Obj) (rvs wvs tvs : List Value) (n1 n2 n3 : Nat) (hC : (C, instObj 148 d) ∈ news) (hd0 : (d, od) ∈ news) (hR : (R, listOf rvs.toArray n1) ∈ news) (hT : (T, listOf tvs.toArray n3) ∈ news) (nw : ∀ p ∈ news, p.1 ≠ Wt) (hO : CompO w folds R P Wt lab mark od) (hl : rvs.length + wvs.length + tvs.length ≤ 20000) :
    ConM w 1 98 [.ref C, .ref T] [(Wt, listOf wvs.toArray n2)] news (fun mu' tl r => ∃ n2', mu' = [(Wt, listOf (List.toArray (wvs ++ tvs.reverse)) n2')] ∧ tl = []) := by
  obtain ⟨t1, t2, t3, t4, t5, t6, t7, t8, rfl⟩ := hO
  unfold ConM
  k_fill
  intro pg loose mean mg mb dp un gd cn cs a ccd cl outer A₀ base h₀ L m s Q E B F X N Tp hk hd hu hret
  simp only [List.cons_append, List.nil_append] at N hret
  refine wpAny_call ?_
  k_dflt ktr_enter
  rename Fr _ _ _ _ => lF9
  refine FrL lF9 ?_
  clear lF9
  intro mL9 lF9
  k_steps
  refine Hold.of ?_
  rename News _ _ _ _ => kN
  rename Fr _ _ _ _ => kF
  rename (∀ p ∈ (Wt, listOf wvs.toArray n2) :: news, p.1 < _) => l1
  refine iter_revUnr (lo := listOf tvs.toArray n3) rfl kF kN (offI_lt l1) (.tail _ hT) rfl rfl ?rest
  have hWI := Nat.ne_of_lt (l1 _ (.head _))
  refine grow_rest 20000 hT (fun p hp => Nat.ne_of_lt (l1 p (.tail _ hp))) hWI ?turn tvs.reverse wvs n2 _ (fun _ _ => rfl) (by rw [List.length_reverse]; omega) ?done
  case turn =>
    intro v ws n2 it h tk hlen hit F1 N1
    replace F1 : Fr _ _ h _ := F1
    k_steps
    rename News _ _ _ _ => kN
    rename Fr _ _ _ _ => kF
    refine ⟨_, _, n2 + 1, _, rfl, kF, ?z, ?n⟩
    case z => intro z hz; simp [hz]
    case n => simpa using kN
  case done =>
    intro n2 u h tk F1 N1
    k_steps
    rename News _ _ _ _ => kN
    rename Fr _ _ _ _ => kF
    exact hret _ [_] [] _ _ kF kN ⟨_, rfl, rfl⟩
end Mine
end
section
open PySem PySem.W PyProof.Rows PyProof.V
set_option Elab.async false
set_option maxRecDepth 100000
set_option maxHeartbeats 8000000
namespace Mine


theorem setup_W18_1 : True := by
  k_with_none
  k_with "mem0" => first | with_reducible exact List.mem_cons_self | (refine List.mem_cons_of_mem _ ?_; k_mem)
  k_with "all0" => first | assumption | exact fun p hp => Nat.ne_of_lt (ktn_ltOf (by assumption) p hp)
  k_with "execs cons" => (k_here; k_fold; (try ((rename Fr _ _ _ _ => lF9); (refine FrL lF9 ?_); clear lF9; intro mL9 lF9)))
  k_with "eval Tuple" => (k_here; k_fold)
  k_with "eval List" => (k_here; k_fold)
  k_with "eval BinOp" => (k_here; k_fold)
  k_with "exec Assign" => (k_here; k_fold)
  k_with "eval IfExp" => (k_here; k_fold)
  k_with "binaryOp Add ref ref" => (k_here; (with_reducible show wpAny _ _ (binaryOp Operator.Add (Value.ref _) (Value.ref _)) _ _ _); k_dflt (refine' add_lists ?zzF ?zzN ?zzl ?zzb ?_ ?zzz; (case zzF => k_asm); (case zzN => k_asm); (case zzl => exact News.isList (by k_asm) (by k_mem)); (case zzb => exact News.isList (by k_asm) (by k_mem)); (case zzz => first | assumption | (simp only [List.length_cons, List.length_nil] at *; rw [sizeLine_eq] at *; omega))); intro h' F' N'; (try dsimp only))
  k_with "eval Call" => (k_here; (try k_fold); k_dflt (refine Call_ ?_))
  k_with "exec For Tuple Name cons nil" => (k_here; (rename Fr _ _ _ _ => lF'); (with_unfolding_all refine' For_turns lF' ?_; k_whole))
  k_with "exec For Tuple Call cons nil" => (k_here; (rename Fr _ _ _ _ => lF'); (with_unfolding_all refine' For_turns lF' ?_; k_whole))
  k_with "AccPost" => dsimp only [AccPost]
  k_with "same" => (intro z h1 h3; (simp only [List.contains_cons, List.contains_nil, Bool.or_false, Bool.or_eq_false_iff, beq_eq_false_iff_ne, ne_eq] at h3); (simp +zetaDelta [h1, h3]; done))
  k_with "mem" => first | with_reducible assumption | with_reducible exact List.mem_cons_self | (refine List.mem_cons_of_mem _ ?_; walk_at "mem") | (refine List.mem_append.mpr (Or.inr ?_); walk_at "mem") | (refine List.mem_append.mpr (Or.inl ?_); walk_at "mem")
  k_with "app" => (intro p hp; walk_at "mem")
  k_with "con" => ((case B => k_asm); (case F => k_asm); (case X => k_asm); (case T => k_asm); (case k => first | exact rfl | assumption); (case d => (first | exact dlt (by assumption) _ (by first | exact Nat.le_refl _ | exact Nat.le_of_ble_eq_true rfl | decide | omega) | ((try simp only [depth_deeper]); (try dsimp only [ktrTop]); first | exact dlt (by assumption) _ (by first | exact Nat.le_refl _ | exact Nat.le_of_ble_eq_true rfl | decide | omega) | exact dlt3 (by assumption) _ (by first | exact Nat.le_refl _ | exact Nat.le_of_ble_eq_true rfl | decide | omega)) | ((try simp only [depth_deeper, recursionLimit] at *); (try dsimp only [ktrTop] at *); omega))); (case u => (first | exact ult (by assumption) _ (by first | exact Nat.le_refl _ | exact Nat.le_of_ble_eq_true rfl | decide | omega) | exact ult2 (by assumption) | ((try simp only [units_deeper]); (try dsimp only [ktrTop]); first | exact ult (by assumption) _ (by first | exact Nat.le_refl _ | exact Nat.le_of_ble_eq_true rfl | decide | omega) | exact ult2 (by assumption) | exact ult3 (by assumption) _ (by first | exact Nat.le_refl _ | exact Nat.le_of_ble_eq_true rfl | decide | omega)) | ((try simp only [units_deeper] at *); (try dsimp only [ktrTop] at *); omega))))
  k_with "enterC" => (refine' code_defC ?zzk1 ?zzk2 ?zzk3 ?zzk4 ?zzk5 ?zzkA ?zzkF ?zzkK ?zzk6 ?zzk7 ?zzk8 ?zzk9 ?zzkB ?zzkD ?_ ?zzc2 ?zzc3 ?zzc4; (case zzkA => exact rfl); (case zzkF => exact rfl); (case zzkK => assumption); (case zzk1 => k_asm); (case zzk2 => k_asm); (case zzk3 => k_asm); (case zzk4 => k_asm); (case zzk5 => k_asm); (case zzk6 => k_is); (case zzk7 => k_is); (case zzk8 => ktr_room); (case zzk9 => exact BindsTo.of_eq rfl); (case zzkB => exact rfl); (case zzkD => decide +kernel); (case zzc2 => exact rfl); (case zzc3 => exact rfl); (case zzc4 => exact rfl); k_whole; intro g' L' h' tk' cells' FG' F' N' Y' B' X' T' l1; (try k_lt l1); k_cells Y'; (try simp only [List.cons_append, List.nil_append] at N'); (try dsimp only); (try k_fold))
  k_with "con2" => ((case B2 => k_asm); (case F2 => k_asm); (case X2 => k_asm); (case T2 => k_asm); (case k2 => first | exact rfl | assumption); (case d2 => (first | exact dlt (by assumption) _ (by first | exact Nat.le_refl _ | exact Nat.le_of_ble_eq_true rfl | decide | omega) | ((try simp only [depth_deeper]); (try dsimp only [ktrTop]); first | exact dlt (by assumption) _ (by first | exact Nat.le_refl _ | exact Nat.le_of_ble_eq_true rfl | decide | omega) | exact dlt3 (by assumption) _ (by first | exact Nat.le_refl _ | exact Nat.le_of_ble_eq_true rfl | decide | omega)) | ((try simp only [depth_deeper, recursionLimit] at *); (try dsimp only [ktrTop] at *); omega))); (case u2 => (first | exact ult (by assumption) _ (by first | exact Nat.le_refl _ | exact Nat.le_of_ble_eq_true rfl | decide | omega) | exact ult2 (by assumption) | ((try simp only [units_deeper]); (try dsimp only [ktrTop]); first | exact ult (by assumption) _ (by first | exact Nat.le_refl _ | exact Nat.le_of_ble_eq_true rfl | decide | omega) | exact ult2 (by assumption) | exact ult3 (by assumption) _ (by first | exact Nat.le_refl _ | exact Nat.le_of_ble_eq_true rfl | decide | omega)) | ((try simp only [units_deeper] at *); (try dsimp only [ktrTop] at *); omega))))
  k_with "con3" => ((case B3 => k_asm); (case F3 => k_asm); (case X3 => k_asm); (case T3 => k_asm); (case k3 => first | exact rfl | assumption); (case d3 => (first | exact dlt (by assumption) _ (by first | exact Nat.le_refl _ | exact Nat.le_of_ble_eq_true rfl | decide | omega) | ((try simp only [depth_deeper]); (try dsimp only [ktrTop]); first | exact dlt (by assumption) _ (by first | exact Nat.le_refl _ | exact Nat.le_of_ble_eq_true rfl | decide | omega) | exact dlt3 (by assumption) _ (by first | exact Nat.le_refl _ | exact Nat.le_of_ble_eq_true rfl | decide | omega)) | ((try simp only [depth_deeper, recursionLimit] at *); (try dsimp only [ktrTop] at *); omega))); (case u3 => (first | exact ult (by assumption) _ (by first | exact Nat.le_refl _ | exact Nat.le_of_ble_eq_true rfl | decide | omega) | exact ult2 (by assumption) | ((try simp only [units_deeper]); (try dsimp only [ktrTop]); first | exact ult (by assumption) _ (by first | exact Nat.le_refl _ | exact Nat.le_of_ble_eq_true rfl | decide | omega) | exact ult2 (by assumption) | exact ult3 (by assumption) _ (by first | exact Nat.le_refl _ | exact Nat.le_of_ble_eq_true rfl | decide | omega)) | ((try simp only [units_deeper] at *); (try dsimp only [ktrTop] at *); omega))))
  k_with "subs" => first | exact List.forall_mem_nil _ | (refine List.forall_mem_cons.mpr ⟨?zzha, ?zzhb⟩; (case zzha => walk_at "mem"); (case zzhb => walk_at "subs")) | (refine List.forall_mem_append.mpr ⟨?_, ?_⟩ <;> walk_at "subs") | (intro p hp; walk_at "mem")
  k_with "enterF" => (refine' code_def ?zzk1 ?zzk2 ?zzk3 ?zzk4 ?zzk5 ?zzkA ?zzkF ?zzkK ?zzk6 ?zzk7 ?zzk8 ?zzk9 ?zzkB ?_ ?zzc2 ?zzc3 ?zzc4 ?zzc5; (case zzkA => exact rfl); (case zzkF => exact rfl); (case zzkK => first | exact rfl | assumption); (case zzk1 => k_asm); (case zzk2 => k_asm); (case zzk3 => k_asm); (case zzk4 => k_asm); (case zzk5 => k_asm); (case zzk6 => k_is); (case zzk7 => k_is); (case zzk8 => ktr_room); (case zzk9 => exact BindsTo.of_eq rfl); (case zzkB => exact locs rfl); (case zzc5 => decide); (case zzc2 => exact rfl); (case zzc3 => exact rfl); (case zzc4 => exact rfl); k_whole; intro g' L' h' FG' F' N' B' X' T'; (try dsimp only); (try k_fold))
  k_with "call ref" => (k_here; (with_reducible show wpAny _ _ (call (Value.ref 148) _) _ _ _); k_dflt (refine' call_cls ?zzk1 ?zzk2 ?zzk3 ?zzk4 ?zzk5 ?zzk6 ?_; (case zzk1 => k_asm); (case zzk2 => k_asm); (case zzk3 => k_asm); (case zzk4 => k_is); (case zzk5 => k_is); (case zzk6 => k_is); k_whole; intro x' d' h' F' N' l1 l2; (try k_lt l1); (try k_lt2 l2); (try k_sweep); walk_at "enterF"))
  k_with "call ref" => (k_here; (with_reducible show wpAny _ _ (call (Value.ref 66) _) _ _ _); k_dflt (refine' call_cls ?zzk1 ?zzk2 ?zzk3 ?zzk4 ?zzk5 ?zzk6 ?_; (case zzk1 => k_asm); (case zzk2 => k_asm); (case zzk3 => k_asm); (case zzk4 => k_is); (case zzk5 => k_is); (case zzk6 => k_is); k_whole; intro x' d' h' F' N' l1 l2; (try k_lt l1); (try k_lt2 l2); (try k_sweep); walk_at "enterF"))
  k_with "compareOp In str ref" => (k_here; (with_reducible show wpAny _ _ (compareOp CmpOp.In (Value.str _ _) (Value.ref _)) _ _ _); (with_unfolding_all refine' in_tuple_strs ?zzk1 ?zzk2 ?_; (case zzk1 => exact kun_topT (by k_asm) (by k_asm) (by k_is)); (case zzk2 => kde_strs); k_whole))
  k_with "call ref" => (k_here; (with_reducible show wpAny _ _ (call (Value.ref 28) _) _ _ _); k_dflt (refine wpAny_call ?_; walk_at "enterF"))
  k_with "call ref" => (k_here; (with_reducible show wpAny _ _ (call (Value.ref 21) _) _ _ _); k_dflt (refine wpAny_call ?_; walk_at "enterF"))
  k_with "pull" => first | exact Pull.head | (refine' Pull.tail ?zzb; (case zzb => walk_at "pull")) | (refine' Pull.app ?zzb; (case zzb => walk_at "pull"))
  k_with "tups" => first | assumption | exact tups_nil | (refine tups_cons ?_; walk_at "tups") | (refine tups_app ?_ ?_ <;> walk_at "tups")
  k_with "subT" => first | (refine subT_cons ?zzha ?zzhb; (case zzha => first | exact Or.inl rfl | (refine Or.inr ?_; walk_at "mem")); (case zzhb => walk_at "subT")) | (refine subT_app ?_ ?_ <;> walk_at "subT") | (intro p hp _; walk_at "mem")
  k_with "sepN" => first | assumption | exact List.forall_mem_nil _ | (refine List.forall_mem_cons.mpr ⟨?zzha, ?zzhb⟩; (case zzha => first | with_reducible assumption | (refine Ne.symm ?_; with_reducible assumption) | k_ne); (case zzhb => walk_at "sepN"))
  k_with "call builtin:list.append" => (k_here; (with_reducible show wpAny _ _ (call (Value.builtin _) [Value.ref _, _]) _ _ _); (rename News _ _ _ _ => nN); k_dflt (refine' app_lst ?zzF ?zzN ?zzs ?zzz ?_; (case zzF => k_asm); (case zzN => exact Pull.out nN (by walk_at "pull")); (case zzs => walk_at "sepN"); (case zzz => omega)); intro h' F' N')
  trivial
/-- what a turn of Compiling.node leaves -/
noncomputable def NdPost (w : World) (folds : Bool) (d R P Wt : Addr) (s' : CS) (ts : List Tk) (wvs : List Value) (news mu' tl : List (Addr × Obj)) : Prop :=
  ∃ od' rvs' n1' n2' tvs, mu' = [(d, od'), (R, listOf (List.toArray rvs') n1'), (Wt, listOf (List.toArray (wvs ++ tvs.reverse)) n2')] ∧
      CompO w folds R P Wt s'.labels s'.marks od' ∧ Each (RowIn (tl ++ news)) rvs' s'.rows ∧ Each (TaskIn (tl ++ news)) tvs ts ∧ Tups tl
theorem NdPost.leaf {w : World} {folds : Bool} {d R P Wt : Addr} {s' : CS} {wvs rvs' : List Value} {news tl : List (Addr × Obj)} {od' : Obj} {n1' n2' : Nat} (hO : CompO w folds R P Wt s'.labels s'.marks od') (hr : Each (RowIn (tl ++ news)) rvs' s'.rows) (ht : Tups tl) :
    NdPost w folds d R P Wt s' [] wvs news [(d, od'), (R, listOf (List.toArray rvs') n1'), (Wt, listOf (List.toArray wvs) n2')] tl :=
  ⟨od', rvs', n1', n2', [], by rw [show wvs ++ List.reverse [] = wvs from by simp], hO, hr, .nil, ht⟩
/-- a turn of Compiling.node -/
noncomputable def NdC (w : World) (folds : Bool) (size : Nat) (n : Nd) : Prop :=
  ∀ (C d R P Wt : Addr) (news : List (Addr × Obj)) (s : CS) (od : Obj) (rvs wvs : List Value) (n1 n2 : Nat) (nv : Value), (C, instObj 148 d) ∈ news → (∀ p ∈ news, p.1 ≠ d) → (∀ p ∈ news, p.1 ≠ R) → (∀ p ∈ news, p.1 ≠ Wt) → d ≠ R → d ≠ Wt → R ≠ Wt →
    CompO w folds R P Wt s.labels s.marks od → Each (RowIn news) rvs s.rows → NodeIn news nv n → s.labels < 50000 → s.marks < 50000 → s.rows.length + wvs.length + (expand folds n s).2.length ≤ 20000 →
    ConM w size 110 [.ref C, nv] [(d, od), (R, listOf rvs.toArray n1), (Wt, listOf wvs.toArray n2)] news (fun mu' tl r => NdPost w folds d R P Wt (expand folds n s).1 (expand folds n s).2 wvs news mu' tl)
theorem Pull.out3 {h₀ h : Heap} {L D C B : Addr} {o o' o2 : Obj} {l r r' r2 : List (Addr × Obj)} (N : News h₀ L h l) (P : Pull D o l r) (P' : Pull C o' r r') (P2 : Pull B o2 r' r2) : News h₀ L h ((D, o) :: (C, o') :: (B, o2) :: r2) := fun p hp => by
  rcases List.mem_cons.mp hp with e | hp
  · rw [e]; exact N _ (P.sub _ (.head _))
  · exact Pull.out2 (fun q hq => N q (P.sub q (.tail _ hq))) P' P2 p hp
theorem dup3t {h₀ h : Heap} {L : Addr} {q q' q2 : Addr × Obj} {R news : List (Addr × Obj)} (N : News h₀ L h (q :: q' :: q2 :: R)) (hs : ∀ p ∈ news, p ∈ R) : News h₀ L h ([q, q', q2] ++ (tps R ++ news)) := fun p hp => N p (by
  rcases List.mem_append.mp hp with hp | hp
  · rcases List.mem_cons.mp hp with e | hp
    · rw [e]; exact .head _
    · rcases List.mem_cons.mp hp with e | hp
      · rw [e]; exact .tail _ (.head _)
      · rw [List.mem_singleton.mp hp]; exact .tail _ (.tail _ (.head _))
  · rcases List.mem_append.mp hp with hp | hp
    · exact .tail _ (.tail _ (.tail _ (tps_sub p hp)))
    · exact .tail _ (.tail _ (.tail _ (hs p hp))))
theorem RowIn.tps {S R news : List (Addr × Obj)} {v : Value} {n : Rw} (h : RowIn S v n) (hs : ∀ p ∈ S, isTp p = true → p ∈ R) : RowIn (tps R ++ news) v n := h.monoT fun p hp ht => List.mem_append.mpr (.inl (List.mem_filter.mpr ⟨hs p hp ht, ht⟩))
theorem TaskIn.tps {S R news : List (Addr × Obj)} {v : Value} {n : Tk} (h : TaskIn S v n) (hs : ∀ p ∈ S, isTp p = true → p ∈ R) : TaskIn (tps R ++ news) v n := h.monoT fun p hp ht => List.mem_append.mpr (.inl (List.mem_filter.mpr ⟨hs p hp ht, ht⟩))
theorem RowIn.appR {S tl : List (Addr × Obj)} {v : Value} {n : Rw} (h : RowIn S v n) : RowIn (tl ++ S) v n := h.monoT fun p hp _ => List.mem_append.mpr (.inr hp)
theorem nd_chr (w : World) (folds : Bool) (c : Int) (hc : c = 97 ∨ c = 98 ∨ c = 65) : NdC w folds 5 (.chr c) := by
  have pd00 : True := trivial
  have pd01 : True := trivial
  intro C d R P Wt news sc od rvs wvs n1 n2 nv hC nd nr nw hdR hdW hRW hO hr hn hlab hmark hsz
  have hrl := hr.length
  obtain ⟨t1, t2, t3, t4, t5, t6, t7, t8, rfl⟩ := hO
  cases hn with
  | @chr va vt vtc _ hm =>
  have pd10 : True := trivial
  have pd11 : True := trivial
  have pd12 : True := trivial
  have pd13 : True := trivial
  have pd14 : True := trivial
  have pd15 : True := trivial
  have pd16 : True := trivial
  have pd17 : True := trivial
  have pd18 : True := trivial
  have pd19 : True := trivial
  unfold ConM
  k_fill
  intro pg loose mean mg mb dp un gd cn cs a ccd cl outer A₀ base h₀ L m s Q E B F X N Tp hk hd hu hret
  simp only [List.cons_append, List.nil_append] at N hret
  refine wpAny_call ?_
  k_dflt ktr_enter
  rename Fr _ _ _ _ => lF9
  refine FrL lF9 ?_
  clear lF9
  intro mL9 lF9
  k_steps
  · have e : foldIf folds c = c + 32 := by unfold foldIf fold1; rw [if_pos (by assumption), if_pos (by omega)]
    rename News _ _ _ _ => kN
    rename Fr _ _ _ _ => kF
    have kN2 := Pull.out3 (D := d) (C := R) (B := Wt) kN (by walk_at "pull") (by walk_at "pull") (by walk_at "pull")
    refine' hret _ [_, _, _] _ _ _ kF (dup3t kN2 (by walk_at "app")) (NdPost.leaf (s' := (expand folds (.chr c) sc).1) ⟨t1, t2, t3, t4, t5, t6, t7, t8, rfl⟩ ((hr.imp fun _ _ h => h.appR).append (.cons (b := .chr (foldIf folds c)) ?row .nil)) (tups_tps _))
    case row => rw [e]; exact .chr (memT (by walk_at "mem"))
  · have e : foldIf folds c = c := by unfold foldIf fold1; rw [if_pos (by assumption), if_neg (by omega)]
    rename News _ _ _ _ => kN
    rename Fr _ _ _ _ => kF
    have kN2 := Pull.out3 (D := d) (C := R) (B := Wt) kN (by walk_at "pull") (by walk_at "pull") (by walk_at "pull")
    refine' hret _ [_, _, _] _ _ _ kF (dup3t kN2 (by walk_at "app")) (NdPost.leaf (s' := (expand folds (.chr c) sc).1) ⟨t1, t2, t3, t4, t5, t6, t7, t8, rfl⟩ ((hr.imp fun _ _ h => h.appR).append (.cons (b := .chr (foldIf folds c)) ?row .nil)) (tups_tps _))
    case row => rw [e]; exact .chr (memT (by walk_at "mem"))
  · have e : foldIf folds c = c := by unfold foldIf; rw [if_neg (by simp [*])]
    rename News _ _ _ _ => kN
    rename Fr _ _ _ _ => kF
    have kN2 := Pull.out3 (D := d) (C := R) (B := Wt) kN (by walk_at "pull") (by walk_at "pull") (by walk_at "pull")
    refine' hret _ [_, _, _] _ _ _ kF (dup3t kN2 (by walk_at "app")) (NdPost.leaf (s' := (expand folds (.chr c) sc).1) ⟨t1, t2, t3, t4, t5, t6, t7, t8, rfl⟩ ((hr.imp fun _ _ h => h.appR).append (.cons (b := .chr (foldIf folds c)) ?row .nil)) (tups_tps _))
    case row => rw [e]; exact .chr (memT (by walk_at "mem"))
theorem nd_any (w : World) (folds : Bool) : NdC w folds 5 .any := by
  have pd00 : True := trivial
  have pd01 : True := trivial
  have pd02 : True := trivial
  have pd03 : True := trivial
  intro C d R P Wt news sc od rvs wvs n1 n2 nv hC nd nr nw hdR hdW hRW hO hr hn hlab hmark hsz
  have hrl := hr.length
  obtain ⟨t1, t2, t3, t4, t5, t6, t7, t8, rfl⟩ := hO
  cases hn with
  | @any va vt hm =>
  have pd10 : True := trivial
  have pd11 : True := trivial
  have pd12 : True := trivial
  have pd13 : True := trivial
  have pd14 : True := trivial
  have pd15 : True := trivial
  have pd16 : True := trivial
  have pd17 : True := trivial
  have pd18 : True := trivial
  have pd19 : True := trivial
  have pd110 : True := trivial
  have pd111 : True := trivial
  have pd112 : True := trivial
  have pd113 : True := trivial
  unfold ConM
  k_fill
  intro pg loose mean mg mb dp un gd cn cs a ccd cl outer A₀ base h₀ L m s Q E B F X N Tp hk hd hu hret
  simp only [List.cons_append, List.nil_append] at N hret
  refine wpAny_call ?_
  k_dflt ktr_enter
  rename Fr _ _ _ _ => lF9
  refine FrL lF9 ?_
  clear lF9
  intro mL9 lF9
  k_steps
  · skip
    rename News _ _ _ _ => kN
    rename Fr _ _ _ _ => kF
    have kN2 := Pull.out3 (D := d) (C := R) (B := Wt) kN (by walk_at "pull") (by walk_at "pull") (by walk_at "pull")
    refine' hret _ [_, _, _] _ _ _ kF (dup3t kN2 (by walk_at "app")) (NdPost.leaf (s' := (expand folds .any sc).1) ⟨t1, t2, t3, t4, t5, t6, t7, t8, rfl⟩ ((hr.imp fun _ _ h => h.appR).append (.cons (b := .any) ?row .nil)) (tups_tps _))
    case row => exact .any (List.mem_append.mpr (.inr hm))
theorem nd_set (w : World) (folds : Bool) : NdC w folds 5 .set := by
  have pd00 : True := trivial
  have pd01 : True := trivial
  have pd02 : True := trivial
  have pd03 : True := trivial
  intro C d R P Wt news sc od rvs wvs n1 n2 nv hC nd nr nw hdR hdW hRW hO hr hn hlab hmark hsz
  have hrl := hr.length
  obtain ⟨t1, t2, t3, t4, t5, t6, t7, t8, rfl⟩ := hO
  cases hn with
  | @set va vb vc ve vt vt1 vt2 hm hm2 hm3 hm4 =>
  have pd10 : True := trivial
  have pd11 : True := trivial
  have pd12 : True := trivial
  have pd13 : True := trivial
  have pd14 : True := trivial
  have pd15 : True := trivial
  unfold ConM
  k_fill
  intro pg loose mean mg mb dp un gd cn cs a ccd cl outer A₀ base h₀ L m s Q E B F X N Tp hk hd hu hret
  simp only [List.cons_append, List.nil_append] at N hret
  refine wpAny_call ?_
  k_dflt ktr_enter
  rename Fr _ _ _ _ => lF9
  refine FrL lF9 ?_
  clear lF9
  intro mL9 lF9
  k_steps
  · skip
    rename News _ _ _ _ => kN
    rename Fr _ _ _ _ => kF
    have kN2 := Pull.out3 (D := d) (C := R) (B := Wt) kN (by walk_at "pull") (by walk_at "pull") (by walk_at "pull")
    refine' hret _ [_, _, _] _ _ _ kF (dup3t kN2 (by walk_at "app")) (NdPost.leaf (s' := (expand folds .set sc).1) ⟨t1, t2, t3, t4, t5, t6, t7, t8, rfl⟩ ((hr.imp fun _ _ h => h.appR).append (.cons (b := .set) ?row .nil)) (tups_tps _))
    case row => exact .set (List.mem_append.mpr (.inr hm)) (List.mem_append.mpr (.inr hm2)) (List.mem_append.mpr (.inr hm3)) (List.mem_append.mpr (.inr hm4))
end Mine
end
section
open PySem PySem.W PyProof.Rows PyProof.V
set_option Elab.async false
set_option maxRecDepth 100000
set_option maxHeartbeats 8000000
namespace Mine
/-- a method of a Compiling whose dict is a name -/
theorem comp_method {prog : Program} {w : World} {A : Around} {E : Value → Shared → Prop} {s : Shared} {K : Frag} {h₀ : Heap} {L : Addr} {m : Str → Option Value} {news : List (Addr × Obj)} {C d R P Wt : Addr} {od : Obj} {folds : Bool} {lab mark : Nat} {name : Str} {pl : Sem Bool} {Q : Value × List Value → Shared → Prop} {f : Addr}
    (F : Fr h₀ L s.heap m) (X₀ : K.In h₀) (N : News h₀ L s.heap news) (hC : (C, instObj 148 d) ∈ news) (hd : (d, od) ∈ news) (hO : CompO w folds R P Wt lab mark od)
    (hg : plainGet K 148 name = true) (hf : findIn K (.ref 148) name = some (some (.ref f))) (ht : isFn K (.ref f) = true)
    (hn : ∀ t1 t2 t3 t4 t5 t6 t7 t8, getL name [ent w "folds" t1 (.bool folds), ent w "rows" t2 (.ref R), ent w "places" t3 (.ref P), ent w "labels" t4 (.int (lab : Int) t7), ent w "marks" t5 (.int (mark : Int) t8), ent w "waiting" t6 (.ref Wt)] = some none)
    (h : Q (.ref f, [.ref C]) s) : wpAny (model prog w) A (getMethod (.ref C) name pl) Q E s := by
  obtain ⟨t1, t2, t3, t4, t5, t6, t7, t8, rfl⟩ := hO
  exact method_inst F X₀ (InstAt.of_news N hC hd) hg hf ht (hn _ _ _ _ _ _ _ _) h
section
variable {w : World} {p : Program} {loose : List Str} {mean : ExcName → Option Value} {mg mb : Str → Option Value} {dp un : Nat} {gd : Option (List PySem.Code)} {cn : Str} {cs : Scope} {a : Addr} {ccd : Value} {cl : List (Str × Addr)} {outer : List Env} {A₀ : Around} {base h₀ : Heap} {L : Addr} {m : Str → Option Value} {s : Shared}
    {Q E : Value → Shared → Prop} {folds : Bool} {C d R P Wt : Addr} {l rest : List (Addr × Obj)} {lab mark : Nat} {od : Obj}
theorem label_at (N : News h₀ L s.heap l) (Pl : Pull d od l rest) (hC : (C, instObj 148 d) ∈ rest) (nd : ∀ p ∈ rest, p.1 ≠ d) (hO : CompO w folds R P Wt lab mark od) (hl : lab < 100000)
    (B : Below A₀ base outer h₀) (F : Fr h₀ L s.heap m) (X : (hd.heap_39 w.params).In h₀) (T : Top p loose mean mg mb h₀) (k : cs.kind = .function) (dd : dp + 1 < recursionLimit) (u : un + 8 * 1 + 300 < cLine)
    (ret : ∀ od' h' tk' t, Fr h₀ L h' m → News h₀ L h' ((d, od') :: rest) → CompO w folds R P Wt (lab + 1) mark od' → Q (.int ((lab + 1 : Nat) : Int) t) { s with heap := h', toks := tk' }) :
    wpAny (model PySem.Challenge.rw_oj0023_01.row.prog w) (ktrTop dp un gd cn cs L a ccd cl outer) (call (.ref 91) [.ref C]) Q E s :=
  ConM.at (mu := [_]) (Pull.out N Pl) (label_ok w folds C d R P Wt rest lab mark od hC nd hO hl) B F X T k dd u (by
    rintro r mu tl h' tk' F' N' ⟨od', t, rfl, rfl, hO', rfl⟩
    exact ret _ _ _ _ F' N' hO')
theorem wait_at {T₀ : Addr} {rvs wvs tvs : List Value} {n1 n2 n3 : Nat} (N : News h₀ L s.heap l) (Pl : Pull Wt (listOf wvs.toArray n2) l rest) (hC : (C, instObj 148 d) ∈ rest) (hd0 : (d, od) ∈ rest) (hR : (R, listOf rvs.toArray n1) ∈ rest) (hT : (T₀, listOf tvs.toArray n3) ∈ rest) (nw : ∀ p ∈ rest, p.1 ≠ Wt) (hO : CompO w folds R P Wt lab mark od) (hl : rvs.length + wvs.length + tvs.length ≤ 20000)
    (B : Below A₀ base outer h₀) (F : Fr h₀ L s.heap m) (X : (hd.heap_39 w.params).In h₀) (T : Top p loose mean mg mb h₀) (k : cs.kind = .function) (dd : dp + 1 < recursionLimit) (u : un + 8 * 1 + 300 < cLine)
    (ret : ∀ r n2' h' tk', Fr h₀ L h' m → News h₀ L h' ((Wt, listOf (List.toArray (wvs ++ tvs.reverse)) n2') :: rest) → Q r { s with heap := h', toks := tk' }) :
    wpAny (model PySem.Challenge.rw_oj0023_01.row.prog w) (ktrTop dp un gd cn cs L a ccd cl outer) (call (.ref 98) [.ref C, .ref T₀]) Q E s :=
  ConM.at (mu := [_]) (Pull.out N Pl) (wait_ok w folds C d R P Wt T₀ rest lab mark od rvs wvs tvs n1 n2 n3 hC hd0 hR hT nw hO hl) B F X T k dd u (by
    rintro r mu tl h' tk' F' N' ⟨n2', rfl, rfl⟩
    exact ret _ _ _ _ F' N')
end
/-- the end of a turn that leaves tasks -/
theorem NdPost.tasks {w : World} {folds : Bool} {d R P Wt : Addr} {s' : CS} {ts : List Tk} {wvs rvs tvs : List Value} {news tl : List (Addr × Obj)} {od' : Obj} {n1' n2' : Nat} {rs : List Rw} (es : s'.rows = rs) (hO : CompO w folds R P Wt s'.labels s'.marks od') (hr : Each (RowIn news) rvs rs) (ht : Each (TaskIn (tps tl ++ news)) tvs ts) :
    NdPost w folds d R P Wt s' ts wvs news [(d, od'), (R, listOf (List.toArray rvs) n1'), (Wt, listOf (List.toArray (wvs ++ tvs.reverse)) n2')] (tps tl) :=
  ⟨od', rvs, n1', n2', tvs, rfl, hO, by rw [es]; exact hr.imp fun _ _ h => h.appR, ht, tups_tps _⟩
/-- a turn of Compiling.node: the ledger at the return is any that bears what it leaves -/
theorem nd_ret {w : World} {folds : Bool} {d R P Wt : Addr} {s' : CS} {ts : List Tk} {wvs rvs tvs : List Value} {news l l1 l2 rest : List (Addr × Obj)} {od' : Obj} {n1 n2 : Nat} {h₀ : Heap} {L : Addr} {m : Str → Option Value} {s : Shared} {Q : Value → Shared → Prop} {rs : List Rw}
    (hret : ∀ r mu' tl h' tk', Fr h₀ L h' m → News h₀ L h' (mu' ++ (tl ++ news)) → NdPost w folds d R P Wt s' ts wvs news mu' tl → Q r { s with heap := h', toks := tk' })
    {r : Value} {h' : Heap} {tk' : Nat} (F : Fr h₀ L h' m) (N : News h₀ L h' l) (P1 : Pull d od' l l1) (P2 : Pull R (listOf (List.toArray rvs) n1) l1 l2) (P3 : Pull Wt (listOf (List.toArray (wvs ++ tvs.reverse)) n2) l2 rest) (hs : ∀ p ∈ news, p ∈ rest)
    (es : s'.rows = rs) (hO : CompO w folds R P Wt s'.labels s'.marks od') (hr : Each (RowIn news) rvs rs) (ht : Each (TaskIn (tps rest ++ news)) tvs ts) : Q r { s with heap := h', toks := tk' } :=
  hret _ [_, _, _] _ _ _ F (dup3t (Pull.out3 N P1 P2 P3) hs) (NdPost.tasks es hO hr ht)
end Mine
end
section
open PySem PySem.W PyProof.Rows PyProof.V
set_option Elab.async false
set_option maxRecDepth 100000
set_option maxHeartbeats 8000000
namespace Mine


theorem setup_W19_1 : True := by
  k_with_none
  k_with "mem0" => first | with_reducible exact List.mem_cons_self | (refine List.mem_cons_of_mem _ ?_; k_mem)
  k_with "all0" => first | assumption | exact fun p hp => Nat.ne_of_lt (ktn_ltOf (by assumption) p hp)
  k_with "execs cons" => (k_here; k_fold; (try ((rename Fr _ _ _ _ => lF9); (refine FrL lF9 ?_); clear lF9; intro mL9 lF9)))
  k_with "eval Tuple" => (k_here; k_fold)
  k_with "eval List" => (k_here; k_fold)
  k_with "eval BinOp" => (k_here; k_fold)
  k_with "exec Assign" => (k_here; k_fold)
  k_with "eval IfExp" => (k_here; k_fold)
  k_with "binaryOp Add ref ref" => (k_here; (with_reducible show wpAny _ _ (binaryOp Operator.Add (Value.ref _) (Value.ref _)) _ _ _); k_dflt (refine' add_lists ?zzF ?zzN ?zzl ?zzb ?_ ?zzz; (case zzF => k_asm); (case zzN => k_asm); (case zzl => exact News.isList (by k_asm) (by k_mem)); (case zzb => exact News.isList (by k_asm) (by k_mem)); (case zzz => first | assumption | (simp only [List.length_cons, List.length_nil] at *; rw [sizeLine_eq] at *; omega))); intro h' F' N'; (try dsimp only))
  k_with "eval Call" => (k_here; (try k_fold); k_dflt (refine Call_ ?_))
  k_with "exec For Tuple Name cons nil" => (k_here; (rename Fr _ _ _ _ => lF'); (with_unfolding_all refine' For_turns lF' ?_; k_whole))
  k_with "exec For Tuple Call cons nil" => (k_here; (rename Fr _ _ _ _ => lF'); (with_unfolding_all refine' For_turns lF' ?_; k_whole))
  k_with "AccPost" => dsimp only [AccPost]
  k_with "same" => (intro z h1 h3; (simp only [List.contains_cons, List.contains_nil, Bool.or_false, Bool.or_eq_false_iff, beq_eq_false_iff_ne, ne_eq] at h3); (simp +zetaDelta [h1, h3]; done))
  k_with "mem" => first | with_reducible assumption | with_reducible exact List.mem_cons_self | (refine List.mem_cons_of_mem _ ?_; walk_at "mem") | (refine List.mem_append.mpr (Or.inr ?_); walk_at "mem") | (refine List.mem_append.mpr (Or.inl ?_); walk_at "mem")
  k_with "app" => (intro p hp; walk_at "mem")
  k_with "con" => ((case B => k_asm); (case F => k_asm); (case X => k_asm); (case T => k_asm); (case k => first | exact rfl | assumption); (case d => (first | exact dlt (by assumption) _ (by first | exact Nat.le_refl _ | exact Nat.le_of_ble_eq_true rfl | decide | omega) | ((try simp only [depth_deeper]); (try dsimp only [ktrTop]); first | exact dlt (by assumption) _ (by first | exact Nat.le_refl _ | exact Nat.le_of_ble_eq_true rfl | decide | omega) | exact dlt3 (by assumption) _ (by first | exact Nat.le_refl _ | exact Nat.le_of_ble_eq_true rfl | decide | omega)) | ((try simp only [depth_deeper, recursionLimit] at *); (try dsimp only [ktrTop] at *); omega))); (case u => (first | exact ult (by assumption) _ (by first | exact Nat.le_refl _ | exact Nat.le_of_ble_eq_true rfl | decide | omega) | exact ult2 (by assumption) | ((try simp only [units_deeper]); (try dsimp only [ktrTop]); first | exact ult (by assumption) _ (by first | exact Nat.le_refl _ | exact Nat.le_of_ble_eq_true rfl | decide | omega) | exact ult2 (by assumption) | exact ult3 (by assumption) _ (by first | exact Nat.le_refl _ | exact Nat.le_of_ble_eq_true rfl | decide | omega)) | ((try simp only [units_deeper] at *); (try dsimp only [ktrTop] at *); omega))))
  k_with "enterC" => (refine' code_defC ?zzk1 ?zzk2 ?zzk3 ?zzk4 ?zzk5 ?zzkA ?zzkF ?zzkK ?zzk6 ?zzk7 ?zzk8 ?zzk9 ?zzkB ?zzkD ?_ ?zzc2 ?zzc3 ?zzc4; (case zzkA => exact rfl); (case zzkF => exact rfl); (case zzkK => assumption); (case zzk1 => k_asm); (case zzk2 => k_asm); (case zzk3 => k_asm); (case zzk4 => k_asm); (case zzk5 => k_asm); (case zzk6 => k_is); (case zzk7 => k_is); (case zzk8 => ktr_room); (case zzk9 => exact BindsTo.of_eq rfl); (case zzkB => exact rfl); (case zzkD => decide +kernel); (case zzc2 => exact rfl); (case zzc3 => exact rfl); (case zzc4 => exact rfl); k_whole; intro g' L' h' tk' cells' FG' F' N' Y' B' X' T' l1; (try k_lt l1); k_cells Y'; (try simp only [List.cons_append, List.nil_append] at N'); (try dsimp only); (try k_fold))
  k_with "con2" => ((case B2 => k_asm); (case F2 => k_asm); (case X2 => k_asm); (case T2 => k_asm); (case k2 => first | exact rfl | assumption); (case d2 => (first | exact dlt (by assumption) _ (by first | exact Nat.le_refl _ | exact Nat.le_of_ble_eq_true rfl | decide | omega) | ((try simp only [depth_deeper]); (try dsimp only [ktrTop]); first | exact dlt (by assumption) _ (by first | exact Nat.le_refl _ | exact Nat.le_of_ble_eq_true rfl | decide | omega) | exact dlt3 (by assumption) _ (by first | exact Nat.le_refl _ | exact Nat.le_of_ble_eq_true rfl | decide | omega)) | ((try simp only [depth_deeper, recursionLimit] at *); (try dsimp only [ktrTop] at *); omega))); (case u2 => (first | exact ult (by assumption) _ (by first | exact Nat.le_refl _ | exact Nat.le_of_ble_eq_true rfl | decide | omega) | exact ult2 (by assumption) | ((try simp only [units_deeper]); (try dsimp only [ktrTop]); first | exact ult (by assumption) _ (by first | exact Nat.le_refl _ | exact Nat.le_of_ble_eq_true rfl | decide | omega) | exact ult2 (by assumption) | exact ult3 (by assumption) _ (by first | exact Nat.le_refl _ | exact Nat.le_of_ble_eq_true rfl | decide | omega)) | ((try simp only [units_deeper] at *); (try dsimp only [ktrTop] at *); omega))))
  k_with "con3" => ((case B3 => k_asm); (case F3 => k_asm); (case X3 => k_asm); (case T3 => k_asm); (case k3 => first | exact rfl | assumption); (case d3 => (first | exact dlt (by assumption) _ (by first | exact Nat.le_refl _ | exact Nat.le_of_ble_eq_true rfl | decide | omega) | ((try simp only [depth_deeper]); (try dsimp only [ktrTop]); first | exact dlt (by assumption) _ (by first | exact Nat.le_refl _ | exact Nat.le_of_ble_eq_true rfl | decide | omega) | exact dlt3 (by assumption) _ (by first | exact Nat.le_refl _ | exact Nat.le_of_ble_eq_true rfl | decide | omega)) | ((try simp only [depth_deeper, recursionLimit] at *); (try dsimp only [ktrTop] at *); omega))); (case u3 => (first | exact ult (by assumption) _ (by first | exact Nat.le_refl _ | exact Nat.le_of_ble_eq_true rfl | decide | omega) | exact ult2 (by assumption) | ((try simp only [units_deeper]); (try dsimp only [ktrTop]); first | exact ult (by assumption) _ (by first | exact Nat.le_refl _ | exact Nat.le_of_ble_eq_true rfl | decide | omega) | exact ult2 (by assumption) | exact ult3 (by assumption) _ (by first | exact Nat.le_refl _ | exact Nat.le_of_ble_eq_true rfl | decide | omega)) | ((try simp only [units_deeper] at *); (try dsimp only [ktrTop] at *); omega))))
  k_with "subs" => first | exact List.forall_mem_nil _ | (refine List.forall_mem_cons.mpr ⟨?zzha, ?zzhb⟩; (case zzha => walk_at "mem"); (case zzhb => walk_at "subs")) | (refine List.forall_mem_append.mpr ⟨?_, ?_⟩ <;> walk_at "subs") | (intro p hp; walk_at "mem")
  k_with "enterF" => (refine' code_def ?zzk1 ?zzk2 ?zzk3 ?zzk4 ?zzk5 ?zzkA ?zzkF ?zzkK ?zzk6 ?zzk7 ?zzk8 ?zzk9 ?zzkB ?_ ?zzc2 ?zzc3 ?zzc4 ?zzc5; (case zzkA => exact rfl); (case zzkF => exact rfl); (case zzkK => first | exact rfl | assumption); (case zzk1 => k_asm); (case zzk2 => k_asm); (case zzk3 => k_asm); (case zzk4 => k_asm); (case zzk5 => k_asm); (case zzk6 => k_is); (case zzk7 => k_is); (case zzk8 => ktr_room); (case zzk9 => exact BindsTo.of_eq rfl); (case zzkB => exact locs rfl); (case zzc5 => decide); (case zzc2 => exact rfl); (case zzc3 => exact rfl); (case zzc4 => exact rfl); k_whole; intro g' L' h' FG' F' N' B' X' T'; (try dsimp only); (try k_fold))
  k_with "call ref" => (k_here; (with_reducible show wpAny _ _ (call (Value.ref 148) _) _ _ _); k_dflt (refine' call_cls ?zzk1 ?zzk2 ?zzk3 ?zzk4 ?zzk5 ?zzk6 ?_; (case zzk1 => k_asm); (case zzk2 => k_asm); (case zzk3 => k_asm); (case zzk4 => k_is); (case zzk5 => k_is); (case zzk6 => k_is); k_whole; intro x' d' h' F' N' l1 l2; (try k_lt l1); (try k_lt2 l2); (try k_sweep); walk_at "enterF"))
  k_with "call ref" => (k_here; (with_reducible show wpAny _ _ (call (Value.ref 66) _) _ _ _); k_dflt (refine' call_cls ?zzk1 ?zzk2 ?zzk3 ?zzk4 ?zzk5 ?zzk6 ?_; (case zzk1 => k_asm); (case zzk2 => k_asm); (case zzk3 => k_asm); (case zzk4 => k_is); (case zzk5 => k_is); (case zzk6 => k_is); k_whole; intro x' d' h' F' N' l1 l2; (try k_lt l1); (try k_lt2 l2); (try k_sweep); walk_at "enterF"))
  k_with "compareOp In str ref" => (k_here; (with_reducible show wpAny _ _ (compareOp CmpOp.In (Value.str _ _) (Value.ref _)) _ _ _); (with_unfolding_all refine' in_tuple_strs ?zzk1 ?zzk2 ?_; (case zzk1 => exact kun_topT (by k_asm) (by k_asm) (by k_is)); (case zzk2 => kde_strs); k_whole))
  k_with "call ref" => (k_here; (with_reducible show wpAny _ _ (call (Value.ref 28) _) _ _ _); k_dflt (refine wpAny_call ?_; walk_at "enterF"))
  k_with "call ref" => (k_here; (with_reducible show wpAny _ _ (call (Value.ref 21) _) _ _ _); k_dflt (refine wpAny_call ?_; walk_at "enterF"))
  k_with "pull" => first | exact Pull.head | (refine' Pull.tail ?zzb; (case zzb => walk_at "pull")) | (refine' Pull.app ?zzb; (case zzb => walk_at "pull"))
  k_with "tups" => first | assumption | exact tups_nil | (refine tups_cons ?_; walk_at "tups") | (refine tups_app ?_ ?_ <;> walk_at "tups")
  k_with "subT" => first | (refine subT_cons ?zzha ?zzhb; (case zzha => first | exact Or.inl rfl | (refine Or.inr ?_; walk_at "mem")); (case zzhb => walk_at "subT")) | (refine subT_app ?_ ?_ <;> walk_at "subT") | (intro p hp _; walk_at "mem")
  trivial
theorem RowIn.save' {ns : List (Addr × Obj)} {a : Addr} {t tx} {i : Int} {x : Nat} (hm : (a, tup [wd "save" t, .int i tx]) ∈ ns) (e : i = (x : Int)) : RowIn ns (.ref a) (.save x) := .save (by rw [← e]; exact hm)
theorem Each.cons3 {α β : Type} {R : α → β → Prop} {a b c : α} {x y z : β} (h1 : R a x) (h2 : R b y) (h3 : R c z) : Each R [a, b, c] [x, y, z] := .cons h1 (.cons h2 (.cons h3 .nil))
theorem setup_W19_2 : True := by
  k_with "newTuple" => (k_here; kup_bare; k_dflt (refine' newTuple_let ?zzF ?zzN ?_ ?zzz; (case zzF => k_asm); (case zzN => k_asm); (case zzz => kmk_size)); intro D' h' F' ob' N' l1; (try k_sweep))
  k_with "newList" => (k_here; k_dflt (refine' newList_let ?zzk1 ?zzk2 ?_; (case zzk1 => k_asm); (case zzk2 => k_asm); k_whole); intro l' h' F' ob' N' l1; (try k_sweep))
  k_with "sepN" => first | assumption | exact List.forall_mem_nil _ | (refine List.forall_mem_cons.mpr ⟨?zzha, ?zzhb⟩; (case zzha => first | with_reducible assumption | (refine Ne.symm ?_; with_reducible assumption) | exact neL (by with_reducible assumption) (by walk_at "mem") | (refine Ne.symm ?_; exact neL (by with_reducible assumption) (by walk_at "mem")) | k_ne); (case zzhb => walk_at "sepN")) | (refine List.forall_mem_append.mpr ⟨?_, ?_⟩ <;> walk_at "sepN")
  trivial
theorem nd_group (w : World) (folds : Bool) (g : Nat) (n : Nd) (hg : g ≤ 100) : NdC w folds 5 (.group g n) := by
  have pd00 : True := trivial
  intro C d R P Wt news sc od rvs wvs n1 n2 nv hC nd nr nw hdR hdW hRW hO hr hn hlab hmark hsz
  have hrl := hr.length
  have hO0 := hO
  obtain ⟨t1, t2, t3, t4, t5, t6, t7, t8, rfl⟩ := hO
  cases hn with
  | @group va vt tk _ v _ hm hx =>
  have pd10 : True := trivial
  have pd11 : True := trivial
  have pd12 : True := trivial
  unfold ConM
  k_fill
  intro pg loose mean mg mb dp un gd cn cs a ccd cl outer A₀ base h₀ L m s Q E B F X N Tp hk hd hu hret
  simp only [List.cons_append, List.nil_append] at N hret
  refine wpAny_call ?_
  k_dflt ktr_enter
  rename Fr _ _ _ _ => lF9
  refine FrL lF9 ?_
  clear lF9
  intro mL9 lF9
  k_steps
  rename News _ _ _ _ => nN
  have nP := Pull.out (D := Wt) nN (by walk_at "pull")
  refine' ConM.at (mu := [_]) nP (wait_ok w folds C d R P Wt _ _ sc.labels sc.marks _ rvs wvs [_, _, _] n1 n2 _ (by walk_at "mem") (by walk_at "mem") (by walk_at "mem") (by walk_at "mem") (by walk_at "sepN") hO0 ?len) ?B ?F ?X ?T ?k ?d ?u ?_
  walk_at "con"
  case len => simp only [expand_q1, expand_q2, expand_q3, expand_q4, expand_q5, expand_q6, expand_q7, List.length_cons, List.length_nil] at hsz ⊢; omega
  rintro r' mu' tl' h' tk' F' N' ⟨n2', rfl, rfl⟩
  simp only [List.cons_append, List.nil_append] at N'
  (try dsimp only)
  (try k_fold)
  k_steps
  rename News _ _ _ _ => kN
  rename Fr _ _ _ _ => kF
  have kN2 := Pull.out3 (D := d) (C := R) (B := Wt) kN (by walk_at "pull") (by walk_at "pull") (by walk_at "pull")
  refine' hret _ [_, _, _] _ _ _ kF (dup3t kN2 (by walk_at "app")) ⟨_, rvs, _, _, [_, _, _], rfl, hO0, hr.imp fun _ _ h => h.appR, Each.cons3 ?a ?b ?c, tups_tps _⟩
  case a => exact .row (memT (by walk_at "mem")) (.save' (memT (by walk_at "mem")) (by omega))
  case b => exact .node (memT (by walk_at "mem")) (hx.monoT fun p hp _ => List.mem_append.mpr (.inr hp))
  case c => exact .row (memT (by walk_at "mem")) (.save' (memT (by walk_at "mem")) (by omega))
end Mine
end
section
open PySem PySem.W PyProof.Rows PyProof.V
set_option Elab.async false
set_option maxRecDepth 100000
set_option maxHeartbeats 8000000
namespace Mine


theorem setup_W20_1 : True := by
  k_with_none
  k_with "mem0" => first | with_reducible exact List.mem_cons_self | (refine List.mem_cons_of_mem _ ?_; k_mem)
  k_with "all0" => first | assumption | exact fun p hp => Nat.ne_of_lt (ktn_ltOf (by assumption) p hp)
  k_with "execs cons" => (k_here; k_fold; (try ((rename Fr _ _ _ _ => lF9); (refine FrL lF9 ?_); clear lF9; intro mL9 lF9)))
  k_with "eval Tuple" => (k_here; k_fold)
  k_with "eval List" => (k_here; k_fold)
  k_with "eval BinOp" => (k_here; k_fold)
  k_with "exec Assign" => (k_here; k_fold)
  k_with "eval IfExp" => (k_here; k_fold)
  k_with "binaryOp Add ref ref" => (k_here; (with_reducible show wpAny _ _ (binaryOp Operator.Add (Value.ref _) (Value.ref _)) _ _ _); k_dflt (refine' add_lists ?zzF ?zzN ?zzl ?zzb ?_ ?zzz; (case zzF => k_asm); (case zzN => k_asm); (case zzl => exact News.isList (by k_asm) (by k_mem)); (case zzb => exact News.isList (by k_asm) (by k_mem)); (case zzz => first | assumption | (simp only [List.length_cons, List.length_nil] at *; rw [sizeLine_eq] at *; omega))); intro h' F' N'; (try dsimp only))
  k_with "eval Call" => (k_here; (try k_fold); k_dflt (refine Call_ ?_))
  k_with "exec For Tuple Name cons nil" => (k_here; (rename Fr _ _ _ _ => lF'); (with_unfolding_all refine' For_turns lF' ?_; k_whole))
  k_with "exec For Tuple Call cons nil" => (k_here; (rename Fr _ _ _ _ => lF'); (with_unfolding_all refine' For_turns lF' ?_; k_whole))
  k_with "AccPost" => dsimp only [AccPost]
  k_with "same" => (intro z h1 h3; (simp only [List.contains_cons, List.contains_nil, Bool.or_false, Bool.or_eq_false_iff, beq_eq_false_iff_ne, ne_eq] at h3); (simp +zetaDelta [h1, h3]; done))
  k_with "mem" => first | with_reducible assumption | with_reducible exact List.mem_cons_self | (refine List.mem_cons_of_mem _ ?_; walk_at "mem") | (refine List.mem_append.mpr (Or.inr ?_); walk_at "mem") | (refine List.mem_append.mpr (Or.inl ?_); walk_at "mem")
  k_with "app" => (intro p hp; walk_at "mem")
  k_with "con" => ((case B => k_asm); (case F => k_asm); (case X => k_asm); (case T => k_asm); (case k => first | exact rfl | assumption); (case d => (first | exact dlt (by assumption) _ (by first | exact Nat.le_refl _ | exact Nat.le_of_ble_eq_true rfl | decide | omega) | ((try simp only [depth_deeper]); (try dsimp only [ktrTop]); first | exact dlt (by assumption) _ (by first | exact Nat.le_refl _ | exact Nat.le_of_ble_eq_true rfl | decide | omega) | exact dlt3 (by assumption) _ (by first | exact Nat.le_refl _ | exact Nat.le_of_ble_eq_true rfl | decide | omega)) | ((try simp only [depth_deeper, recursionLimit] at *); (try dsimp only [ktrTop] at *); omega))); (case u => (first | exact ult (by assumption) _ (by first | exact Nat.le_refl _ | exact Nat.le_of_ble_eq_true rfl | decide | omega) | exact ult2 (by assumption) | ((try simp only [units_deeper]); (try dsimp only [ktrTop]); first | exact ult (by assumption) _ (by first | exact Nat.le_refl _ | exact Nat.le_of_ble_eq_true rfl | decide | omega) | exact ult2 (by assumption) | exact ult3 (by assumption) _ (by first | exact Nat.le_refl _ | exact Nat.le_of_ble_eq_true rfl | decide | omega)) | ((try simp only [units_deeper] at *); (try dsimp only [ktrTop] at *); omega))))
  k_with "enterC" => (refine' code_defC ?zzk1 ?zzk2 ?zzk3 ?zzk4 ?zzk5 ?zzkA ?zzkF ?zzkK ?zzk6 ?zzk7 ?zzk8 ?zzk9 ?zzkB ?zzkD ?_ ?zzc2 ?zzc3 ?zzc4; (case zzkA => exact rfl); (case zzkF => exact rfl); (case zzkK => assumption); (case zzk1 => k_asm); (case zzk2 => k_asm); (case zzk3 => k_asm); (case zzk4 => k_asm); (case zzk5 => k_asm); (case zzk6 => k_is); (case zzk7 => k_is); (case zzk8 => ktr_room); (case zzk9 => exact BindsTo.of_eq rfl); (case zzkB => exact rfl); (case zzkD => decide +kernel); (case zzc2 => exact rfl); (case zzc3 => exact rfl); (case zzc4 => exact rfl); k_whole; intro g' L' h' tk' cells' FG' F' N' Y' B' X' T' l1; (try k_lt l1); k_cells Y'; (try simp only [List.cons_append, List.nil_append] at N'); (try dsimp only); (try k_fold))
  k_with "con2" => ((case B2 => k_asm); (case F2 => k_asm); (case X2 => k_asm); (case T2 => k_asm); (case k2 => first | exact rfl | assumption); (case d2 => (first | exact dlt (by assumption) _ (by first | exact Nat.le_refl _ | exact Nat.le_of_ble_eq_true rfl | decide | omega) | ((try simp only [depth_deeper]); (try dsimp only [ktrTop]); first | exact dlt (by assumption) _ (by first | exact Nat.le_refl _ | exact Nat.le_of_ble_eq_true rfl | decide | omega) | exact dlt3 (by assumption) _ (by first | exact Nat.le_refl _ | exact Nat.le_of_ble_eq_true rfl | decide | omega)) | ((try simp only [depth_deeper, recursionLimit] at *); (try dsimp only [ktrTop] at *); omega))); (case u2 => (first | exact ult (by assumption) _ (by first | exact Nat.le_refl _ | exact Nat.le_of_ble_eq_true rfl | decide | omega) | exact ult2 (by assumption) | ((try simp only [units_deeper]); (try dsimp only [ktrTop]); first | exact ult (by assumption) _ (by first | exact Nat.le_refl _ | exact Nat.le_of_ble_eq_true rfl | decide | omega) | exact ult2 (by assumption) | exact ult3 (by assumption) _ (by first | exact Nat.le_refl _ | exact Nat.le_of_ble_eq_true rfl | decide | omega)) | ((try simp only [units_deeper] at *); (try dsimp only [ktrTop] at *); omega))))
  k_with "con3" => ((case B3 => k_asm); (case F3 => k_asm); (case X3 => k_asm); (case T3 => k_asm); (case k3 => first | exact rfl | assumption); (case d3 => (first | exact dlt (by assumption) _ (by first | exact Nat.le_refl _ | exact Nat.le_of_ble_eq_true rfl | decide | omega) | ((try simp only [depth_deeper]); (try dsimp only [ktrTop]); first | exact dlt (by assumption) _ (by first | exact Nat.le_refl _ | exact Nat.le_of_ble_eq_true rfl | decide | omega) | exact dlt3 (by assumption) _ (by first | exact Nat.le_refl _ | exact Nat.le_of_ble_eq_true rfl | decide | omega)) | ((try simp only [depth_deeper, recursionLimit] at *); (try dsimp only [ktrTop] at *); omega))); (case u3 => (first | exact ult (by assumption) _ (by first | exact Nat.le_refl _ | exact Nat.le_of_ble_eq_true rfl | decide | omega) | exact ult2 (by assumption) | ((try simp only [units_deeper]); (try dsimp only [ktrTop]); first | exact ult (by assumption) _ (by first | exact Nat.le_refl _ | exact Nat.le_of_ble_eq_true rfl | decide | omega) | exact ult2 (by assumption) | exact ult3 (by assumption) _ (by first | exact Nat.le_refl _ | exact Nat.le_of_ble_eq_true rfl | decide | omega)) | ((try simp only [units_deeper] at *); (try dsimp only [ktrTop] at *); omega))))
  k_with "subs" => first | exact List.forall_mem_nil _ | (refine List.forall_mem_cons.mpr ⟨?zzha, ?zzhb⟩; (case zzha => walk_at "mem"); (case zzhb => walk_at "subs")) | (refine List.forall_mem_append.mpr ⟨?_, ?_⟩ <;> walk_at "subs") | (intro p hp; walk_at "mem")
  k_with "enterF" => (refine' code_def ?zzk1 ?zzk2 ?zzk3 ?zzk4 ?zzk5 ?zzkA ?zzkF ?zzkK ?zzk6 ?zzk7 ?zzk8 ?zzk9 ?zzkB ?_ ?zzc2 ?zzc3 ?zzc4 ?zzc5; (case zzkA => exact rfl); (case zzkF => exact rfl); (case zzkK => first | exact rfl | assumption); (case zzk1 => k_asm); (case zzk2 => k_asm); (case zzk3 => k_asm); (case zzk4 => k_asm); (case zzk5 => k_asm); (case zzk6 => k_is); (case zzk7 => k_is); (case zzk8 => ktr_room); (case zzk9 => exact BindsTo.of_eq rfl); (case zzkB => exact locs rfl); (case zzc5 => decide); (case zzc2 => exact rfl); (case zzc3 => exact rfl); (case zzc4 => exact rfl); k_whole; intro g' L' h' FG' F' N' B' X' T'; (try dsimp only); (try k_fold))
  k_with "call ref" => (k_here; (with_reducible show wpAny _ _ (call (Value.ref 148) _) _ _ _); k_dflt (refine' call_cls ?zzk1 ?zzk2 ?zzk3 ?zzk4 ?zzk5 ?zzk6 ?_; (case zzk1 => k_asm); (case zzk2 => k_asm); (case zzk3 => k_asm); (case zzk4 => k_is); (case zzk5 => k_is); (case zzk6 => k_is); k_whole; intro x' d' h' F' N' l1 l2; (try k_lt l1); (try k_lt2 l2); (try k_sweep); walk_at "enterF"))
  k_with "call ref" => (k_here; (with_reducible show wpAny _ _ (call (Value.ref 66) _) _ _ _); k_dflt (refine' call_cls ?zzk1 ?zzk2 ?zzk3 ?zzk4 ?zzk5 ?zzk6 ?_; (case zzk1 => k_asm); (case zzk2 => k_asm); (case zzk3 => k_asm); (case zzk4 => k_is); (case zzk5 => k_is); (case zzk6 => k_is); k_whole; intro x' d' h' F' N' l1 l2; (try k_lt l1); (try k_lt2 l2); (try k_sweep); walk_at "enterF"))
  k_with "compareOp In str ref" => (k_here; (with_reducible show wpAny _ _ (compareOp CmpOp.In (Value.str _ _) (Value.ref _)) _ _ _); (with_unfolding_all refine' in_tuple_strs ?zzk1 ?zzk2 ?_; (case zzk1 => exact kun_topT (by k_asm) (by k_asm) (by k_is)); (case zzk2 => kde_strs); k_whole))
  k_with "call ref" => (k_here; (with_reducible show wpAny _ _ (call (Value.ref 28) _) _ _ _); k_dflt (refine wpAny_call ?_; walk_at "enterF"))
  k_with "call ref" => (k_here; (with_reducible show wpAny _ _ (call (Value.ref 21) _) _ _ _); k_dflt (refine wpAny_call ?_; walk_at "enterF"))
  k_with "pull" => first | exact Pull.head | (refine' Pull.tail ?zzb; (case zzb => walk_at "pull")) | (refine' Pull.app ?zzb; (case zzb => walk_at "pull"))
  k_with "tups" => first | assumption | exact tups_nil | (refine tups_cons ?_; walk_at "tups") | (refine tups_app ?_ ?_ <;> walk_at "tups")
  k_with "subT" => first | (refine subT_cons ?zzha ?zzhb; (case zzha => first | exact Or.inl rfl | (refine Or.inr ?_; walk_at "mem")); (case zzhb => walk_at "subT")) | (refine subT_app ?_ ?_ <;> walk_at "subT") | (intro p hp _; walk_at "mem")
  k_with "sepN" => first | assumption | exact List.forall_mem_nil _ | (refine List.forall_mem_cons.mpr ⟨?zzha, ?zzhb⟩; (case zzha => first | with_reducible assumption | (refine Ne.symm ?_; with_reducible assumption) | k_ne); (case zzhb => walk_at "sepN"))
  k_with "call builtin:list.append" => (k_here; (with_reducible show wpAny _ _ (call (Value.builtin _) [Value.ref _, _]) _ _ _); (rename News _ _ _ _ => nN); k_dflt (refine' app_lst ?zzF ?zzN ?zzs ?zzz ?_; (case zzF => k_asm); (case zzN => exact Pull.out nN (by walk_at "pull")); (case zzs => walk_at "sepN"); (case zzz => omega)); intro h' F' N')
  k_with "eval ListComp" => (k_here; refine Hold.out ?_)
  k_with "SrcT" => (k_here; refine Hold.out ?_)
  trivial
theorem off1_mem {D : Addr} : ∀ {l : List (Addr × Obj)}, LCg.Off1 D l → ∀ p ∈ l, p.1 ≠ D
  | [], _, _, h => nomatch h
  | _ :: _, x, p, h => by
    rcases List.mem_cons.mp h with rfl | h
    · exact x.1
    · exact off1_mem x.2 p h
theorem NodeIn.rest {S S' : List (Addr × Obj)} {v : Value} {n : Nd} (h : NodeIn S v n) (hs : ∀ p ∈ S, p ∈ S') : NodeIn S' v n := h.monoT fun p hp _ => hs p hp
theorem seq_ledger {h₀ h : Heap} {L D' d R Wt : Addr} {o od oR oW : Obj} {ns news : List (Addr × Obj)} (N : News h₀ L h ((D', o) :: ns)) (hW : (Wt, oW) ∈ ns) (hd : (d, od) ∈ ns) (hR : (R, oR) ∈ ns) (hs : ∀ q ∈ news, q ∈ ns) :
    News h₀ L h ((Wt, oW) :: (D', o) :: (d, od) :: (R, oR) :: (tps ns ++ news)) := fun p hp => by
  rcases List.mem_cons.mp hp with e | hp
  · rw [e]; exact N _ (.tail _ hW)
  · rcases List.mem_cons.mp hp with e | hp
    · rw [e]; exact N _ (.head _)
    · rcases List.mem_cons.mp hp with e | hp
      · rw [e]; exact N _ (.tail _ hd)
      · rcases List.mem_cons.mp hp with e | hp
        · rw [e]; exact N _ (.tail _ hR)
        · rcases List.mem_append.mp hp with hp | hp
          · exact N _ (.tail _ (tps_sub p hp))
          · exact N _ (.tail _ (hs p hp))
theorem nd_seq (w : World) (folds : Bool) (na nb : Nd) : NdC w folds 5 (.seq na nb) := by
  have pd00 : True := trivial
  have pd01 : True := trivial
  intro C d R P Wt news sc od rvs wvs n1 n2 nv hC nd nr nw hdR hdW hRW hO hr hn hlab hmark hsz
  have hrl := hr.length
  have hO0 := hO
  obtain ⟨t1, t2, t3, t4, t5, t6, t7, t8, rfl⟩ := hO
  cases hn with
  | @seq va vb nt x y _ _ hm1 hm2 hx hy =>
  unfold ConM
  k_fill
  intro pg loose mean mg mb dp un gd cn cs a ccd cl outer A₀ base h₀ L m s Q E B F X N Tp hk hd hu hret
  simp only [List.cons_append, List.nil_append] at N hret
  refine wpAny_call ?_
  k_dflt ktr_enter
  rename Fr _ _ _ _ => lF9
  refine FrL lF9 ?_
  clear lF9
  intro mL9 lF9
  k_steps
  refine Hold.of ?_
  rename News _ _ _ _ => kN3
  rename Fr _ _ _ _ => kF3
  k_dflt (refine ListComp_tup (F₀ := kF3) (by with_unfolding_all rfl) (by decide) (by rfl) (by decide) (by rfl) ?_)
  k_steps
  refine Hold.of ?_
  refine ⟨vb, [x, y], _, rfl, rfl, kF3, kN3, by walk_at "mem", (by rw [sizeLine_eq]; simp), fun g' => ?_⟩
  refine comp_rest 2 (fun i ys ns => Each (TaskIn ns) ys (([Tk.node na, Tk.node nb]).take i) ∧ (∀ q ∈ news, q ∈ ns) ∧ (d, _) ∈ ns ∧ (R, listOf rvs.toArray n1) ∈ ns ∧ (Wt, listOf wvs.toArray n2) ∈ ns) ?turn ?fin 2 0 [] _ rfl ⟨.nil, by walk_at "app", by walk_at "mem", by walk_at "mem", by walk_at "mem"⟩
  case turn =>
    rintro i ys ns v hi hv ⟨hI, hsub, hd1, hR1, hW1⟩ I oI C' oC D m₂ h tk E' hC' hx1 F1 N1 off ne
    have keep : ∀ (x : Addr × Obj), ∀ q ∈ ns, q ∈ Rest3 I C' D (x :: (I, oI) :: (C', oC) :: (D, LCg.lst ys) :: ns) := fun x q hq => mem_rest3 (by walk_at "mem") (off.mem q hq).1 (off.mem q hq).2.1 (off.mem q hq).2.2
    rcases (show i = 0 ∨ i = 1 by omega) with rfl | rfl
    · simp at hv
      subst hv
      k_steps
      rename News _ _ _ _ => kN5
      rename Fr _ _ _ _ => kF5
      rename _ ∧ _ => l5
      refine comp_end kF5 kN5 (by walk_at "mem") (by walk_at "mem") (by walk_at "mem") (keep _ _ (hsub _ hm2)) ⟨?_, fun q hq => keep _ _ (hsub q hq), keep _ _ hd1, keep _ _ hR1, keep _ _ hW1⟩
      cases hI
      exact .cons (.node (mem_rest3 (.head _) (Nat.ne_of_gt l5.1) (Nat.ne_of_gt l5.2.1) (Nat.ne_of_gt l5.2.2.1)) (hx.rest fun p hp => keep _ _ (hsub p hp))) .nil
    · simp at hv
      subst hv
      k_steps
      rename News _ _ _ _ => kN5
      rename Fr _ _ _ _ => kF5
      rename _ ∧ _ => l5
      refine comp_end kF5 kN5 (by walk_at "mem") (by walk_at "mem") (by walk_at "mem") (keep _ _ (hsub _ hm2)) ⟨?_, fun q hq => keep _ _ (hsub q hq), keep _ _ hd1, keep _ _ hR1, keep _ _ hW1⟩
      cases hI with
      | cons h1 hI => cases hI; exact .cons (h1.monoT fun p hp _ => keep _ _ hp) (.cons (.node (mem_rest3 (.head _) (Nat.ne_of_gt l5.1) (Nat.ne_of_gt l5.2.1) (Nat.ne_of_gt l5.2.2.1)) (hy.rest fun p hp => keep _ _ (hsub p hp))) .nil)
  case fin =>
    rintro ys ns ⟨hI, hsub, hd1, hR1, hW1⟩
    k_steps
    rename News _ _ _ _ => kN5
    rename LCg.Off1 _ _ => o1
    have offD := off1_mem o1
    have kN6 := seq_ledger kN5 hW1 hd1 hR1 hsub
    have hyl := hI.length
    refine' ConM.at (mu := [_]) kN6 (wait_ok w folds C d R P Wt _ _ sc.labels sc.marks _ rvs wvs ys n1 n2 _ (by walk_at "mem") (by walk_at "mem") (by walk_at "mem") (by walk_at "mem") (List.forall_mem_cons.mpr ⟨(offD _ hW1).symm, List.forall_mem_cons.mpr ⟨hdW, List.forall_mem_cons.mpr ⟨hRW, List.forall_mem_append.mpr ⟨apart kN5 (.tail _ hW1) (fun p hp => .tail _ (tps_sub p hp)) (tups_tps _), nw⟩⟩⟩⟩) hO0 ?len) ?B ?F ?X ?T ?k ?d ?u ?_
    walk_at "con"
    case len => simp only [expand_q1, expand_q2, expand_q3, expand_q4, expand_q5, expand_q6, expand_q7, List.length_cons, List.length_nil, List.take] at hsz hyl ⊢; omega
    rintro r' mu' tl' h' tk' F' N' ⟨n2', rfl, rfl⟩
    simp only [List.cons_append, List.nil_append] at N'
    (try dsimp only)
    (try k_fold)
    k_steps
    rename News _ _ _ _ => kN
    rename Fr _ _ _ _ => kF
    have kN2 := Pull.out3 (D := d) (C := R) (B := Wt) kN (by walk_at "pull") (by walk_at "pull") (by walk_at "pull")
    exact hret _ [_, _, _] _ _ _ kF (dup3t kN2 (by walk_at "app")) ⟨_, rvs, _, _, ys, rfl, hO0, hr.imp fun _ _ h => h.appR, hI.imp fun _ _ h => h.tps (fun p hp ht => .tail _ (List.mem_append.mpr (.inl (List.mem_filter.mpr ⟨hp, ht⟩)))), tups_tps _⟩
end Mine
end
section
open PySem PySem.W PyProof.Rows PyProof.V PySem.Spec PySem.Calls
set_option Elab.async false
set_option maxRecDepth 100000
set_option maxHeartbeats 8000000
namespace Mine

section
variable {prog : Program} {w : World} {A : Around} {E : Value → Shared → Prop} {s : Shared}
theorem sliceApplied_init {sl : Addr} {u : Tok} {Q : Int × Int × Nat → Shared → Prop} (hs : s.heap.IsSliceOf sl .none (.int (-1) u) .none) (h : Q ((0 : Int), 1, 1) s) :
    wpAny (model prog w) A (Builtin.Slice.sliceApplied (.ref sl) (pure ((2 : Nat) : Int))) Q E s := by
  obtain ⟨os, hos, hcs, hds⟩ := id hs
  unfold Builtin.Slice.sliceApplied Builtin.Slice.sliceFields
  refine wpAny_bind (wpAny_bind (wpAny_field hos hds (x := .none) rfl (wpAny_bind (wpAny_field hos hds (x := .int (-1) u) rfl (wpAny_bind (wpAny_field hos hds (x := .none) rfl (wpAny_pure ?_)))))))
  refine wpAny_bind (slicePart_none ?_)
  show wpAny _ _ (if ((1 : Int) == 0) = true then _ else _) _ _ s
  rw [if_neg (by decide)]
  refine wpAny_bind (slicePart_none (wpAny_bind (slicePart_int (wpAny_bind (wpAny_pure ?_)))))
  show wpAny _ _ (match Builtin.Slice.sliceAdjust none (some (-1 : Int)) 1 ((2 : Nat) : Int) with | (lo, hi) => pure (lo, (1 : Int), Builtin.Slice.slicePlaces lo hi 1)) _ _ s
  rw [show Builtin.Slice.sliceAdjust none (some (-1 : Int)) 1 ((2 : Nat) : Int) = ((0 : Int), (1 : Int)) from by decide]
  show wpAny _ _ (pure ((0 : Int), (1 : Int), Builtin.Slice.slicePlaces (0 : Int) (1 : Int) 1)) _ _ s
  rw [show Builtin.Slice.slicePlaces (0 : Int) (1 : Int) 1 = 1 from by decide]
  exact wpAny_pure h
theorem getItem_tuple_init {t sl : Addr} {x y : Value} {u : Tok} {Q : Value → Shared → Prop} (ht : IsTup s.heap t #[x, y]) (hs : s.heap.IsSliceOf sl .none (.int (-1) u) .none)
    (h : Q (.ref s.heap.objs.size) { s with heap := s.heap.push { cls := .type "tuple", data := .seq #[x] } }) : wpAny (model prog w) A (getItem (.ref t) (.ref sl)) Q E s := by
  have hdrop : sizeOk (.seq #[x]) := by
    show (#[x] : Array Value).size ≤ sizeLine
    rw [sizeLine_eq]; simp
  obtain ⟨os, hos, hcs, hds⟩ := id hs
  have hTs : s.TypeIs (.ref sl) "slice" := ⟨os, hos, hcs⟩
  unfold getItem
  try with_reducible refine wpAny_holding ?_
  first | refine wpAny_bind (wpAny_pure ?_) | skip
  refine wpAny_bind (wpAny_sequenceKey ht.typeIs (by decide) ?_)
  refine wpAny_bind (wpAny_callSpecial?_slot (name := PySem.Str.ofString "__getitem__") ht.typeIs PySem.F.slot_tuple_getitem
    (wpAny_call_entry PySem.F.slot_tuple_getitem ht.typeIs PySem.F.entry_tuple_getitem ?_ (args_tuple_getitem _ _)))
  show wpAny _ _ (Builtin.Tuple.tupleItemsOf (.ref t) >>= _) _ _ s
  refine wpAny_bind (tupleItemsOf_ ht ?_)
  refine wpAny_bind (wpAny_typeOf hTs ?_)
  rw [if_pos (by decide)]
  refine wpAny_bind (sliceApplied_init hs ?_)
  show wpAny _ _ (if ((0 : Int) == 0 && (1 : Int) == 1 && (1 : Nat) == 2) = true then _ else _) _ _ s
  rw [if_neg (by decide)]
  first
    | exact wpAny_bind (m := Builtin.Tuple.tupleExact _) (wpAny_newObj_type (wpAny_pure ⟨_, rfl, wpAny_pure h⟩) hdrop)
    | exact wpAny_bind (m := Builtin.Tuple.tupleExact _) (wpAny_newObj_type (wpAny_bind (wpAny_pure (wpAny_pure ⟨_, rfl, wpAny_pure h⟩))) hdrop)
    | exact wpAny_bind (wpAny_bind (m := Builtin.Tuple.tupleExact _) (wpAny_newObj_type (wpAny_pure (wpAny_pure ⟨_, rfl, wpAny_pure h⟩)) hdrop))
    | exact wpAny_bind (wpAny_bind (m := Builtin.Tuple.tupleExact _) (wpAny_newObj_type (wpAny_pure ⟨_, rfl, wpAny_pure h⟩) hdrop))
end
section
variable {prog : Program} {w : World} {A : Around} {E : Value → Shared → Prop} {s : Shared} {h₀ : Heap} {L : Addr} {m : Str → Option Value} {news : List (Addr × Obj)}
theorem slice_tuple_init {value slice : Expr} {t : Addr} {x y : Value} {u : Tok} {Q : Value → Shared → Prop}
    (F : Fr h₀ L s.heap m) (N : News h₀ L s.heap news) (ht : IsTup s.heap t #[x, y])
    (h : ∀ D h', Fr h₀ L h' m → News h₀ L h' ((D, tup [x]) :: news) → (∀ p ∈ news, p.1 < D) → Q (.ref D) { s with heap := h' })
    (hs : subscripted slice false (.ref t) (.ref s.heap.objs.size) = operate [.ref s.heap.objs.size, .ref t] (getItem (.ref t) (.ref s.heap.objs.size)))
    (hg : ∀ r, letTemporaryGo value (.ref t) r = pure ()) :
    wpAny (model prog w) A (subscriptTail value slice (.ref t) (.ref s.heap.objs.size)) Q E { s with heap := s.heap.push { cls := .type "slice", data := .fields #[.none, .int (-1) u, .none] } } := by
  have ht' : IsTup (s.heap.push { cls := .type "slice", data := .fields #[.none, .int (-1) u, .none] }) t #[x, y] := ht.keeps fun _ _ e => Heap.get?_push_of_some _ e
  refine subscriptTail_ops (s := { s with heap := s.heap.push { cls := .type "slice", data := .fields #[.none, .int (-1) u, .none] } }) ht'.typeIs PySem.F.slot_tuple_getitem.lookup
    (getItem_tuple_init ht' (Heap.IsSliceOf.new ..) ?_) hs hg
  have N1 := News.push (F.push { cls := .type "slice", data := .fields #[.none, .int (-1) u, .none] }) (N.grown fun _ _ e => Heap.get?_push_of_some _ e) { cls := .type "tuple", data := .seq #[x] }
  rw [Heap.size_push] at N1
  show Q (.ref (s.heap.push _).objs.size) _
  rw [Heap.size_push]
  exact h _ _ ((F.push _).push _) N1 fun p hp => Nat.lt_succ_of_lt (Heap.lt_size (N p hp).1)
end
/-! a loop of one turn over a tuple -/
noncomputable def OneEnd (h₀ : Heap) (L : Addr) (s s₁ : Shared) (I : Addr) (o : Obj) (ax : Addr) (x : Value) (Q : Flow → Shared → Prop) (s₂ : Shared) : Prop :=
  ∃ h' tk' m' r, s₂ = { s₁ with heap := h', toks := tk' } ∧ Fr h₀ L h' m' ∧ News h₀ L h' ((I, o) :: r) ∧ (∀ p ∈ r, p.1 ≠ I) ∧ (ax, tup [x]) ∈ r ∧ ∀ h tk, Fr h₀ L h m' → News h₀ L h r → Q .next { s with heap := h, toks := tk }
noncomputable def OnePost (h₀ : Heap) (L : Addr) (s s₁ : Shared) (I : Addr) (o : Obj) (ax : Addr) (x : Value) (Q : Flow → Shared → Prop) (f : Flow) (s₂ : Shared) : Prop :=
  match f with
  | .ret v => Q (.ret v) s₂
  | .brk => Q .next s₂
  | _ => OneEnd h₀ L s s₁ I o ax x Q s₂
theorem turns_one {prog : Program} {w : World} {A : Around} {E : Value → Shared → Prop} {s : Shared} {env : Env} {h₀ : Heap} {target : Expr} {body : List Stmt} {Q : Flow → Shared → Prop} {ax : Addr} {x : Value} {m₀ : Str → Option Value} {news : List (Addr × Obj)}
    (hh : A.handled = none) (F : Fr h₀ env.locals s.heap m₀) (N : News h₀ env.locals s.heap news) (hm : (ax, tup [x]) ∈ news)
    (turn : ∀ I o h tk, isPl (I, o) = false → (∀ p ∈ news, p.1 < I) → Fr h₀ env.locals h m₀ → News h₀ env.locals h ((I, o) :: news) →
      wpAny (model prog w) A (assign target env x) (fun _ s₂ => wpAny (model prog w) A (execs body env) (OnePost h₀ env.locals s { s with heap := h, toks := tk } I o ax x Q) E s₂) E { s with heap := h, toks := tk }) :
    wpAny (model prog w) A (pyIter (.ref ax)) (fun it s₂ => TurnsAt prog w A h₀ env target body Q E it s₂) E s := by
  refine iter_tupTurns (lo := tup [x]) (vs := [x]) hh F N hm rfl rfl fun I hlt => ?_
  intro v' h tk e F1
  have e' : v' = x := e
  subst e'
  intro o ho N1
  refine wpAny_mono (turn I o h tk (by have ho' : o.cls = .type "tuple_iterator" := ho; simp [isPl, ho']) hlt F1 N1) (fun _ s₂ h₂ => wpAny_mono h₂ (fun f s₃ p => ?_) fun _ _ e => e) fun _ _ e => e
  have fin : OneEnd h₀ env.locals s { s with heap := h, toks := tk } I o ax v' Q s₃ → UnrEndW h₀ env.locals { s with heap := h, toks := tk } [(I, o)] (fun m' n' => SubL [(ax, tup [v'])] n' ∧ ItemsRest prog w A E h₀ env target body Q s [(I, "tuple_iterator")] [(ax, tup [v'])] [] m' n') s₃ := by
    rintro ⟨h', tk', m', r, rfl, F', N', hr, hmr, hQ⟩
    exact ⟨h', tk', m', r, rfl, F', N', fun p hp q hq => by rw [List.mem_singleton.mp hq]; exact hr p hp, ⟨hmr, trivial⟩, hQ⟩
  cases f with
  | ret v => exact p
  | brk => exact p
  | next => exact fin p
  | cont => exact fin p
theorem item_last {prog : Program} {w : World} {A : Around} {E : Value → Shared → Prop} {s : Shared} {value slice : Expr} {t : Addr} {u : Tok} {x y : Value} {Q : Value → Shared → Prop} (ht : IsTup s.heap t #[x, y]) (h : Q y s)
    (hs : subscripted slice false (.ref t) (.int (-1) u) = operate [.ref t, .int (-1) u] (getItem (.ref t) (.int (-1) u))) (hg : ∀ r, letTemporaryGo value (.ref t) r = pure ()) :
    wpAny (model prog w) A (subscriptTail value slice (.ref t) (.int (-1) u)) Q E s :=
  PyProof.Rows.item_tuple (j := 1) ht (by decide) (by decide) (by simp [seqIndex?]) rfl h hs hg
theorem add_lst {prog : Program} {w : World} {A : Around} {E : Value → Shared → Prop} {s : Shared} {h₀ : Heap} {L : Addr} {m : Str → Option Value} {news : List (Addr × Obj)} {l b : Addr} {vs ws : List Value} {Q : Value → Shared → Prop} (F : Fr h₀ L s.heap m) (N : News h₀ L s.heap news) (hl : s.heap.IsList l vs.toArray) (hb : s.heap.IsList b ws.toArray)
    (h : ∀ D h', Fr h₀ L h' m → News h₀ L h' ((D, listOf (List.toArray (vs ++ ws)) 0) :: news) → (∀ p ∈ news, p.1 < D) → Q (.ref D) { s with heap := h' }) (hsz : vs.length + ws.length ≤ sizeLine) :
    wpAny (model prog w) A (binaryOp .Add (.ref l) (.ref b)) Q E s :=
  PyProof.Rows.add_lists F N hl hb (fun h' F' N' => h _ h' F' N' fun p hp => Heap.lt_size (N p hp).1) hsz
end Mine
end
section
open PySem PySem.W PyProof.Rows PyProof.V
set_option Elab.async false
set_option maxRecDepth 100000
set_option maxHeartbeats 2000000
namespace Mine


theorem setup_W21b_1 : True := by
  k_with_none
  k_with "mem0" => first | with_reducible exact List.mem_cons_self | (refine List.mem_cons_of_mem _ ?_; k_mem)
  k_with "all0" => first | assumption | exact fun p hp => Nat.ne_of_lt (ktn_ltOf (by assumption) p hp)
  k_with "execs cons" => (k_here; k_fold; (try ((rename Fr _ _ _ _ => lF9); (refine FrL lF9 ?_); clear lF9; intro mL9 lF9)))
  k_with "eval Tuple" => (k_here; k_fold)
  k_with "eval List" => (k_here; k_fold)
  k_with "eval BinOp" => (k_here; k_fold)
  k_with "exec Assign" => (k_here; k_fold)
  k_with "eval IfExp" => (k_here; k_fold)
  k_with "eval Call" => (k_here; (try k_fold); k_dflt (refine Call_ ?_))
  k_with "exec For Tuple Name cons nil" => (k_here; (rename Fr _ _ _ _ => lF'); (with_unfolding_all refine' For_turns lF' ?_; k_whole))
  k_with "exec For Tuple Call cons nil" => (k_here; (rename Fr _ _ _ _ => lF'); (with_unfolding_all refine' For_turns lF' ?_; k_whole))
  k_with "AccPost" => dsimp only [AccPost]
  k_with "same" => (intro z h1 h3; (simp only [List.contains_cons, List.contains_nil, Bool.or_false, Bool.or_eq_false_iff, beq_eq_false_iff_ne, ne_eq] at h3); (simp +zetaDelta [h1, h3]; done))
  k_with "mem" => first | with_reducible assumption | with_reducible exact List.mem_cons_self | (refine List.mem_cons_of_mem _ ?_; walk_at "mem") | (refine List.mem_append.mpr (Or.inr ?_); walk_at "mem") | (refine List.mem_append.mpr (Or.inl ?_); walk_at "mem")
  k_with "app" => (intro p hp; walk_at "mem")
  k_with "con" => ((case B => k_asm); (case F => k_asm); (case X => k_asm); (case T => k_asm); (case k => first | exact rfl | assumption); (case d => (first | exact dlt (by assumption) _ (by first | exact Nat.le_refl _ | exact Nat.le_of_ble_eq_true rfl | decide | omega) | ((try simp only [depth_deeper]); (try dsimp only [ktrTop]); first | exact dlt (by assumption) _ (by first | exact Nat.le_refl _ | exact Nat.le_of_ble_eq_true rfl | decide | omega) | exact dlt3 (by assumption) _ (by first | exact Nat.le_refl _ | exact Nat.le_of_ble_eq_true rfl | decide | omega)) | ((try simp only [depth_deeper, recursionLimit] at *); (try dsimp only [ktrTop] at *); omega))); (case u => (first | exact ult (by assumption) _ (by first | exact Nat.le_refl _ | exact Nat.le_of_ble_eq_true rfl | decide | omega) | exact ult2 (by assumption) | ((try simp only [units_deeper]); (try dsimp only [ktrTop]); first | exact ult (by assumption) _ (by first | exact Nat.le_refl _ | exact Nat.le_of_ble_eq_true rfl | decide | omega) | exact ult2 (by assumption) | exact ult3 (by assumption) _ (by first | exact Nat.le_refl _ | exact Nat.le_of_ble_eq_true rfl | decide | omega)) | ((try simp only [units_deeper] at *); (try dsimp only [ktrTop] at *); omega))))
  k_with "enterC" => (refine' code_defC ?zzk1 ?zzk2 ?zzk3 ?zzk4 ?zzk5 ?zzkA ?zzkF ?zzkK ?zzk6 ?zzk7 ?zzk8 ?zzk9 ?zzkB ?zzkD ?_ ?zzc2 ?zzc3 ?zzc4; (case zzkA => exact rfl); (case zzkF => exact rfl); (case zzkK => assumption); (case zzk1 => k_asm); (case zzk2 => k_asm); (case zzk3 => k_asm); (case zzk4 => k_asm); (case zzk5 => k_asm); (case zzk6 => k_is); (case zzk7 => k_is); (case zzk8 => ktr_room); (case zzk9 => exact BindsTo.of_eq rfl); (case zzkB => exact rfl); (case zzkD => decide +kernel); (case zzc2 => exact rfl); (case zzc3 => exact rfl); (case zzc4 => exact rfl); k_whole; intro g' L' h' tk' cells' FG' F' N' Y' B' X' T' l1; (try k_lt l1); k_cells Y'; (try simp only [List.cons_append, List.nil_append] at N'); (try dsimp only); (try k_fold))
  k_with "con2" => ((case B2 => k_asm); (case F2 => k_asm); (case X2 => k_asm); (case T2 => k_asm); (case k2 => first | exact rfl | assumption); (case d2 => (first | exact dlt (by assumption) _ (by first | exact Nat.le_refl _ | exact Nat.le_of_ble_eq_true rfl | decide | omega) | ((try simp only [depth_deeper]); (try dsimp only [ktrTop]); first | exact dlt (by assumption) _ (by first | exact Nat.le_refl _ | exact Nat.le_of_ble_eq_true rfl | decide | omega) | exact dlt3 (by assumption) _ (by first | exact Nat.le_refl _ | exact Nat.le_of_ble_eq_true rfl | decide | omega)) | ((try simp only [depth_deeper, recursionLimit] at *); (try dsimp only [ktrTop] at *); omega))); (case u2 => (first | exact ult (by assumption) _ (by first | exact Nat.le_refl _ | exact Nat.le_of_ble_eq_true rfl | decide | omega) | exact ult2 (by assumption) | ((try simp only [units_deeper]); (try dsimp only [ktrTop]); first | exact ult (by assumption) _ (by first | exact Nat.le_refl _ | exact Nat.le_of_ble_eq_true rfl | decide | omega) | exact ult2 (by assumption) | exact ult3 (by assumption) _ (by first | exact Nat.le_refl _ | exact Nat.le_of_ble_eq_true rfl | decide | omega)) | ((try simp only [units_deeper] at *); (try dsimp only [ktrTop] at *); omega))))
  k_with "con3" => ((case B3 => k_asm); (case F3 => k_asm); (case X3 => k_asm); (case T3 => k_asm); (case k3 => first | exact rfl | assumption); (case d3 => (first | exact dlt (by assumption) _ (by first | exact Nat.le_refl _ | exact Nat.le_of_ble_eq_true rfl | decide | omega) | ((try simp only [depth_deeper]); (try dsimp only [ktrTop]); first | exact dlt (by assumption) _ (by first | exact Nat.le_refl _ | exact Nat.le_of_ble_eq_true rfl | decide | omega) | exact dlt3 (by assumption) _ (by first | exact Nat.le_refl _ | exact Nat.le_of_ble_eq_true rfl | decide | omega)) | ((try simp only [depth_deeper, recursionLimit] at *); (try dsimp only [ktrTop] at *); omega))); (case u3 => (first | exact ult (by assumption) _ (by first | exact Nat.le_refl _ | exact Nat.le_of_ble_eq_true rfl | decide | omega) | exact ult2 (by assumption) | ((try simp only [units_deeper]); (try dsimp only [ktrTop]); first | exact ult (by assumption) _ (by first | exact Nat.le_refl _ | exact Nat.le_of_ble_eq_true rfl | decide | omega) | exact ult2 (by assumption) | exact ult3 (by assumption) _ (by first | exact Nat.le_refl _ | exact Nat.le_of_ble_eq_true rfl | decide | omega)) | ((try simp only [units_deeper] at *); (try dsimp only [ktrTop] at *); omega))))
  k_with "subs" => first | exact List.forall_mem_nil _ | (refine List.forall_mem_cons.mpr ⟨?zzha, ?zzhb⟩; (case zzha => walk_at "mem"); (case zzhb => walk_at "subs")) | (refine List.forall_mem_append.mpr ⟨?_, ?_⟩ <;> walk_at "subs") | (intro p hp; walk_at "mem")
  k_with "enterF" => (refine' code_def ?zzk1 ?zzk2 ?zzk3 ?zzk4 ?zzk5 ?zzkA ?zzkF ?zzkK ?zzk6 ?zzk7 ?zzk8 ?zzk9 ?zzkB ?_ ?zzc2 ?zzc3 ?zzc4 ?zzc5; (case zzkA => exact rfl); (case zzkF => exact rfl); (case zzkK => first | exact rfl | assumption); (case zzk1 => k_asm); (case zzk2 => k_asm); (case zzk3 => k_asm); (case zzk4 => k_asm); (case zzk5 => k_asm); (case zzk6 => k_is); (case zzk7 => k_is); (case zzk8 => ktr_room); (case zzk9 => exact BindsTo.of_eq rfl); (case zzkB => exact locs rfl); (case zzc5 => decide); (case zzc2 => exact rfl); (case zzc3 => exact rfl); (case zzc4 => exact rfl); k_whole; intro g' L' h' FG' F' N' B' X' T'; (try dsimp only); (try k_fold))
  k_with "call ref" => (k_here; (with_reducible show wpAny _ _ (call (Value.ref 148) _) _ _ _); k_dflt (refine' call_cls ?zzk1 ?zzk2 ?zzk3 ?zzk4 ?zzk5 ?zzk6 ?_; (case zzk1 => k_asm); (case zzk2 => k_asm); (case zzk3 => k_asm); (case zzk4 => k_is); (case zzk5 => k_is); (case zzk6 => k_is); k_whole; intro x' d' h' F' N' l1 l2; (try k_lt l1); (try k_lt2 l2); (try k_sweep); walk_at "enterF"))
  k_with "call ref" => (k_here; (with_reducible show wpAny _ _ (call (Value.ref 66) _) _ _ _); k_dflt (refine' call_cls ?zzk1 ?zzk2 ?zzk3 ?zzk4 ?zzk5 ?zzk6 ?_; (case zzk1 => k_asm); (case zzk2 => k_asm); (case zzk3 => k_asm); (case zzk4 => k_is); (case zzk5 => k_is); (case zzk6 => k_is); k_whole; intro x' d' h' F' N' l1 l2; (try k_lt l1); (try k_lt2 l2); (try k_sweep); walk_at "enterF"))
  k_with "compareOp In str ref" => (k_here; (with_reducible show wpAny _ _ (compareOp CmpOp.In (Value.str _ _) (Value.ref _)) _ _ _); (with_unfolding_all refine' in_tuple_strs ?zzk1 ?zzk2 ?_; (case zzk1 => exact kun_topT (by k_asm) (by k_asm) (by k_is)); (case zzk2 => kde_strs); k_whole))
  k_with "call ref" => (k_here; (with_reducible show wpAny _ _ (call (Value.ref 28) _) _ _ _); k_dflt (refine wpAny_call ?_; walk_at "enterF"))
  k_with "call ref" => (k_here; (with_reducible show wpAny _ _ (call (Value.ref 21) _) _ _ _); k_dflt (refine wpAny_call ?_; walk_at "enterF"))
  k_with "pull" => first | exact Pull.head | (refine' Pull.tail ?zzb; (case zzb => walk_at "pull")) | (refine' Pull.app ?zzb; (case zzb => walk_at "pull"))
  k_with "tups" => first | assumption | exact tups_nil | (refine tups_cons ?_; walk_at "tups") | (refine tups_app ?_ ?_ <;> walk_at "tups")
  k_with "subT" => first | (refine subT_cons ?zzha ?zzhb; (case zzha => first | exact Or.inl rfl | (refine Or.inr ?_; walk_at "mem")); (case zzhb => walk_at "subT")) | (refine subT_app ?_ ?_ <;> walk_at "subT") | (intro p hp _; walk_at "mem")
  k_with "getMethod ref" => (k_here; k_dflt (refine' comp_method ?zzF ?zzX ?zzN ?zzC ?zzd ?zzO ?zzg ?zzf ?zzt ?zzn ?_; (case zzF => k_asm); (case zzX => k_asm); (case zzN => k_asm); (case zzC => walk_at "mem"); (case zzd => walk_at "mem"); (case zzO => assumption); (case zzg => k_is); (case zzf => k_is); (case zzt => k_is); (case zzn => (intro _ _ _ _ _ _ _ _; k_get)); k_whole))
  k_with "call ref" => (k_here; (with_reducible show wpAny _ _ (call (Value.ref 117) _) _ _ _); k_dflt (refine wpAny_call ?_; walk_at "enterF"))
  k_with "subscriptTail" => (k_here; (with_reducible show wpAny _ _ (subscriptTail _ (PySem.Expr.Slice none _ none _) (Value.ref _) (Value.ref _)) _ _ _); k_dflt (refine' slice_tuple_init ?zzF ?zzN ?zzt ?_ ?zzs ?zzg; (case zzF => k_asm); (case zzN => k_asm); (case zzt => exact News.isTup (by k_asm) (by k_mem)); (case zzs => with_unfolding_all rfl); (case zzg => intro _; with_unfolding_all rfl)); intro D' h' F' N' l1; (try k_lt l1))
  k_with "exec For Name Subscript cons nil" => (k_here; (rename Fr _ _ _ _ => lF'); (with_unfolding_all refine' For_turns lF' ?_; k_whole))
  k_with "pyIter ref" => (k_here; (with_reducible show wpAny _ _ (pyIter (Value.ref _)) (fun it s₂ => TurnsAt _ _ _ _ _ _ _ _ _ it s₂) _ _); refine Hold.out ?_)
  k_with "subscriptTail Name UnaryOp ref int" => (k_here; k_dflt (refine' item_last ?zzt ?_ ?zzs ?zzg; (case zzt => exact News.isTup (by k_asm) (by k_mem)); (case zzs => with_unfolding_all rfl); (case zzg => intro _; with_unfolding_all rfl)))
  k_with "call ref" => (k_here; k_dflt (show wpAny _ _ (call (Value.ref 98) _) _ _ _); refine Hold.out ?_)
  k_with "call ref" => (k_here; k_dflt (show wpAny _ _ (call (Value.ref 91) _) _ _ _); refine Hold.out ?_)
  trivial
theorem RowIn.split' {ns : List (Addr × Obj)} {a : Addr} {t tx ty} {i j : Int} {x y : Nat} (hm : (a, tup [wd "split" t, .int i tx, .int j ty]) ∈ ns) (ex : i = (x : Int)) (ey : j = (y : Int)) : RowIn ns (.ref a) (.split x y) := .split (tx := tx) (ty := ty) (t := t) (by rw [← ex, ← ey]; exact hm)
theorem RowIn.jump' {ns : List (Addr × Obj)} {a : Addr} {t tx} {i : Int} {x : Nat} (hm : (a, tup [wd "jump" t, .int i tx]) ∈ ns) (ex : i = (x : Int)) : RowIn ns (.ref a) (.jump x) := .jump (tx := tx) (t := t) (by rw [← ex]; exact hm)
theorem RowIn.mark' {ns : List (Addr × Obj)} {a : Addr} {t tx} {i : Int} {x : Nat} (hm : (a, tup [wd "mark" t, .int i tx]) ∈ ns) (ex : i = (x : Int)) : RowIn ns (.ref a) (.mark x) := .mark (tx := tx) (t := t) (by rw [← ex]; exact hm)
theorem RowIn.prog' {ns : List (Addr × Obj)} {a : Addr} {t tx} {i : Int} {x : Nat} (hm : (a, tup [wd "progress" t, .int i tx]) ∈ ns) (ex : i = (x : Int)) : RowIn ns (.ref a) (.prog x) := .prog (tx := tx) (t := t) (by rw [← ex]; exact hm)
theorem TaskIn.label' {ns : List (Addr × Obj)} {a : Addr} {t tl} {i : Int} {l : Nat} (hm : (a, tup [wd "label" t, .int i tl]) ∈ ns) (e : i = (l : Int)) : TaskIn ns (.ref a) (.label l) := .label (tl := tl) (t := t) (by rw [← e]; exact hm)
theorem setup_W21b_2 : True := by
  k_with "newTuple" => (k_here; kup_bare; k_dflt (refine' newTuple_let ?zzF ?zzN ?_ ?zzz; (case zzF => k_asm); (case zzN => k_asm); (case zzz => kmk_size)); intro D' h' F' ob' N' l1; (try k_sweep))
  k_with "newList" => (k_here; k_dflt (refine' newList_let ?zzk1 ?zzk2 ?_; (case zzk1 => k_asm); (case zzk2 => k_asm); k_whole); intro l' h' F' ob' N' l1; (try k_sweep))
  k_with "binaryOp Add ref ref" => (k_here; (with_reducible show wpAny _ _ (binaryOp Operator.Add (Value.ref _) (Value.ref _)) _ _ _); k_dflt (refine' add_let ?zzF ?zzN ?zzl ?zzb ?zze ?_ ?zzz; (case zzF => k_asm); (case zzN => k_asm); (case zzl => k_mem); (case zzb => k_mem); (case zze => first | (simp only [List.append_assoc, List.cons_append, List.nil_append]; done) | (simp only [List.append_assoc, List.cons_append, List.nil_append]; exact rfl) | exact rfl); (case zzz => (rw [sizeLine_eq]; simp only [List.length_cons, List.length_nil, List.length_append, List.length_replicate]; omega))); intro D' h' F' ob' N' l1; (try dsimp only))
  k_with "sepN" => first | assumption | exact List.forall_mem_nil _ | (refine List.forall_mem_cons.mpr ⟨?zzha, ?zzhb⟩; (case zzha => first | with_reducible assumption | (refine Ne.symm ?_; with_reducible assumption) | exact neL (by with_reducible assumption) (by walk_at "mem") | (refine Ne.symm ?_; exact neL (by with_reducible assumption) (by walk_at "mem")) | k_ne); (case zzhb => walk_at "sepN")) | (refine List.forall_mem_append.mpr ⟨?_, ?_⟩ <;> walk_at "sepN")
  trivial
theorem nd_alt (w : World) (folds : Bool) (na nb : Nd) : NdC w folds 8 (.alt na nb) := by
  have pd00 : True := trivial
  have pd01 : True := trivial
  intro C d R P Wt news sc od rvs wvs n1 n2 nv hC nd nr nw hdR hdW hRW hO hr hn hlab hmark hsz
  have hrl := hr.length
  cases hn with
  | @alt va vb nt x y _ _ hm1 hm2 hx hy =>
  have pd10 : True := trivial
  have pd11 : True := trivial
  have pd12 : True := trivial
  have pd13 : True := trivial
  have pd14 : True := trivial
  have pd15 : True := trivial
  have pd16 : True := trivial
  have pd17 : True := trivial
  have pd18 : True := trivial
  have pd19 : True := trivial
  have pd110 : True := trivial
  unfold ConM
  k_fill
  intro pg loose mean mg mb dp un gd cn cs a ccd cl outer A₀ base h₀ L m s Q E B F X N Tp hk hd hu hret
  simp only [List.cons_append, List.nil_append] at N
  refine wpAny_call ?_
  k_dflt ktr_enter
  rename Fr _ _ _ _ => lF9
  refine FrL lF9 ?_
  clear lF9
  intro mL9 lF9
  k_steps
  refine Hold.of ?_
  rename News _ _ _ _ => nN1
  refine' label_at nN1 (by walk_at "pull") (by walk_at "mem") (by walk_at "sepN") hO (by omega) ?B2 ?F2 ?X2 ?T2 ?k2 ?d2 ?u2 ?_
  walk_at "con2"
  intro od1 h1 tk1 lt1 F1 N1 hO1
  (try dsimp only)
  (try k_fold)
  k_steps
  refine Hold.of ?_
  rename News _ _ _ _ => kN
  rename Fr _ _ _ _ => kF
  refine turns_one rfl kF kN (.head _) ?turn
  intro I o h tk hpl hlt FI NI
  have hIn : ∀ p ∈ news, p.1 ≠ I := fun p hp => Nat.ne_of_lt (hlt p (by walk_at "mem"))
  k_steps
  refine Hold.of ?_
  rename News _ _ _ _ => nN2
  refine' label_at nN2 (by walk_at "pull") (by walk_at "mem") (by walk_at "sepN") hO1 (by omega) ?B2 ?F2 ?X2 ?T2 ?k2 ?d2 ?u2 ?_
  walk_at "con2"
  intro od2 h2 tk2 lt2 F2 N2 hO2
  (try dsimp only)
  (try k_fold)
  k_steps
  refine Hold.of ?_
  rename News _ _ _ _ => nN3
  refine' label_at nN3 (by walk_at "pull") (by walk_at "mem") (by walk_at "sepN") hO2 (by omega) ?B2 ?F2 ?X2 ?T2 ?k2 ?d2 ?u2 ?_
  walk_at "con2"
  intro od3 h3 tk3 lt3 F3 N3 hO3
  (try dsimp only)
  (try k_fold)
  k_steps
  rename News _ _ _ _ => kN4
  rename Fr _ _ _ _ => kF4
  have kN5 := Pull.out (D := I) kN4 (by walk_at "pull")
  refine ⟨_, _, _, _, rfl, kF4, kN5, (by walk_at "sepN"), (by walk_at "mem"), fun h9 tk9 F9 N9 => ?_⟩
  k_steps
  refine Hold.of ?_
  rename News _ _ _ _ => nN
  refine' wait_at (rvs := rvs) (wvs := wvs) (tvs := [_, _, _, _, _, _, _]) nN (by walk_at "pull") (by walk_at "mem") (by walk_at "mem") (by walk_at "mem") (by walk_at "mem") (by walk_at "sepN") hO3 ?len ?B2 ?F2 ?X2 ?T2 ?k2 ?d2 ?u2 ?_
  walk_at "con2"
  case len => simp only [expand_q1, expand_q2, expand_q3, expand_q4, expand_q5, expand_q6, expand_q7, List.length_cons, List.length_nil] at hsz ⊢; omega
  intro r' n2' h' tk' F' N'
  (try dsimp only)
  (try k_fold)
  k_steps
  rename News _ _ _ _ => kN
  rename Fr _ _ _ _ => kF
  refine' nd_ret (d := d) (R := R) (Wt := Wt) (tvs := [_, _, _, _, _, _, _]) hret kF kN (by walk_at "pull") (by walk_at "pull") (by walk_at "pull") (by walk_at "app") rfl hO3 hr (.cons ?a (.cons ?b (.cons ?c (.cons ?e (.cons ?f (.cons ?g (.cons ?h .nil)))))))
  case a => exact .row (memT (by walk_at "mem")) (.split' (memT (by walk_at "mem")) rfl rfl)
  case b => exact .label' (memT (by walk_at "mem")) rfl
  case c => exact .node (memT (by walk_at "mem")) (hx.monoT fun p hp _ => List.mem_append.mpr (.inr hp))
  case e => exact .row (memT (by walk_at "mem")) (.jump' (memT (by walk_at "mem")) rfl)
  case f => exact .label' (memT (by walk_at "mem")) rfl
  case g => exact .node (memT (by walk_at "mem")) (hy.monoT fun p hp _ => List.mem_append.mpr (.inr hp))
  case h => exact .label' (memT (by walk_at "mem")) rfl
end Mine
end
section
open PySem PySem.W PyProof.Rows PyProof.V
set_option Elab.async false
set_option maxRecDepth 100000
set_option maxHeartbeats 2000000
namespace Mine


theorem setup_W22_1 : True := by
  k_with_none
  k_with "mem0" => first | with_reducible exact List.mem_cons_self | (refine List.mem_cons_of_mem _ ?_; k_mem)
  k_with "all0" => first | assumption | exact fun p hp => Nat.ne_of_lt (ktn_ltOf (by assumption) p hp)
  k_with "execs cons" => (k_here; k_fold)
  k_with "eval Tuple" => (k_here; k_fold)
  k_with "eval List" => (k_here; k_fold)
  k_with "eval BinOp" => (k_here; k_fold)
  k_with "exec Assign" => (k_here; k_fold)
  k_with "eval IfExp" => (k_here; k_fold)
  k_with "binaryOp Add ref ref" => (k_here; (with_reducible show wpAny _ _ (binaryOp Operator.Add (Value.ref _) (Value.ref _)) _ _ _); k_dflt (refine' add_lists ?zzF ?zzN ?zzl ?zzb ?_ ?zzz; (case zzF => k_asm); (case zzN => k_asm); (case zzl => exact News.isList (by k_asm) (by k_mem)); (case zzb => exact News.isList (by k_asm) (by k_mem)); (case zzz => first | assumption | (simp only [List.length_cons, List.length_nil] at *; rw [sizeLine_eq] at *; omega))); intro h' F' N'; (try dsimp only))
  k_with "eval Call" => (k_here; (try k_fold); k_dflt (refine Call_ ?_))
  k_with "exec For Tuple Name cons nil" => (k_here; (rename Fr _ _ _ _ => lF'); (with_unfolding_all refine' For_turns lF' ?_; k_whole))
  k_with "exec For Tuple Call cons nil" => (k_here; (rename Fr _ _ _ _ => lF'); (with_unfolding_all refine' For_turns lF' ?_; k_whole))
  k_with "AccPost" => dsimp only [AccPost]
  k_with "same" => (intro z h1 h3; (simp only [List.contains_cons, List.contains_nil, Bool.or_false, Bool.or_eq_false_iff, beq_eq_false_iff_ne, ne_eq] at h3); (simp [h1, h3]; done))
  k_with "mem" => first | with_reducible assumption | with_reducible exact List.mem_cons_self | (refine List.mem_cons_of_mem _ ?_; walk_at "mem") | (refine List.mem_append.mpr (Or.inr ?_); walk_at "mem") | (refine List.mem_append.mpr (Or.inl ?_); walk_at "mem")
  k_with "app" => (intro p hp; walk_at "mem")
  k_with "con" => ((case B => k_asm); (case F => k_asm); (case X => k_asm); (case T => k_asm); (case k => first | exact rfl | assumption); (case d => (first | exact dlt (by assumption) _ (by first | exact Nat.le_refl _ | exact Nat.le_of_ble_eq_true rfl | decide | omega) | ((try simp only [depth_deeper]); (try dsimp only [ktrTop]); first | exact dlt (by assumption) _ (by first | exact Nat.le_refl _ | exact Nat.le_of_ble_eq_true rfl | decide | omega) | exact dlt3 (by assumption) _ (by first | exact Nat.le_refl _ | exact Nat.le_of_ble_eq_true rfl | decide | omega)) | ((try simp only [depth_deeper, recursionLimit] at *); (try dsimp only [ktrTop] at *); omega))); (case u => (first | exact ult (by assumption) _ (by first | exact Nat.le_refl _ | exact Nat.le_of_ble_eq_true rfl | decide | omega) | exact ult2 (by assumption) | ((try simp only [units_deeper]); (try dsimp only [ktrTop]); first | exact ult (by assumption) _ (by first | exact Nat.le_refl _ | exact Nat.le_of_ble_eq_true rfl | decide | omega) | exact ult2 (by assumption) | exact ult3 (by assumption) _ (by first | exact Nat.le_refl _ | exact Nat.le_of_ble_eq_true rfl | decide | omega)) | ((try simp only [units_deeper] at *); (try dsimp only [ktrTop] at *); omega))))
  k_with "enterC" => (refine' code_defC ?zzk1 ?zzk2 ?zzk3 ?zzk4 ?zzk5 ?zzkA ?zzkF ?zzkK ?zzk6 ?zzk7 ?zzk8 ?zzk9 ?zzkB ?zzkD ?_ ?zzc2 ?zzc3 ?zzc4; (case zzkA => exact rfl); (case zzkF => exact rfl); (case zzkK => assumption); (case zzk1 => k_asm); (case zzk2 => k_asm); (case zzk3 => k_asm); (case zzk4 => k_asm); (case zzk5 => k_asm); (case zzk6 => k_is); (case zzk7 => k_is); (case zzk8 => ktr_room); (case zzk9 => exact BindsTo.of_eq rfl); (case zzkB => exact rfl); (case zzkD => decide +kernel); (case zzc2 => exact rfl); (case zzc3 => exact rfl); (case zzc4 => exact rfl); k_whole; intro g' L' h' tk' cells' FG' F' N' Y' B' X' T' l1; (try k_lt l1); k_cells Y'; (try simp only [List.cons_append, List.nil_append] at N'); (try dsimp only); (try k_fold))
  k_with "con2" => ((case B2 => k_asm); (case F2 => k_asm); (case X2 => k_asm); (case T2 => k_asm); (case k2 => first | exact rfl | assumption); (case d2 => (first | exact dlt (by assumption) _ (by first | exact Nat.le_refl _ | exact Nat.le_of_ble_eq_true rfl | decide | omega) | ((try simp only [depth_deeper]); (try dsimp only [ktrTop]); first | exact dlt (by assumption) _ (by first | exact Nat.le_refl _ | exact Nat.le_of_ble_eq_true rfl | decide | omega) | exact dlt3 (by assumption) _ (by first | exact Nat.le_refl _ | exact Nat.le_of_ble_eq_true rfl | decide | omega)) | ((try simp only [depth_deeper, recursionLimit] at *); (try dsimp only [ktrTop] at *); omega))); (case u2 => (first | exact ult (by assumption) _ (by first | exact Nat.le_refl _ | exact Nat.le_of_ble_eq_true rfl | decide | omega) | exact ult2 (by assumption) | ((try simp only [units_deeper]); (try dsimp only [ktrTop]); first | exact ult (by assumption) _ (by first | exact Nat.le_refl _ | exact Nat.le_of_ble_eq_true rfl | decide | omega) | exact ult2 (by assumption) | exact ult3 (by assumption) _ (by first | exact Nat.le_refl _ | exact Nat.le_of_ble_eq_true rfl | decide | omega)) | ((try simp only [units_deeper] at *); (try dsimp only [ktrTop] at *); omega))))
  k_with "con3" => ((case B3 => k_asm); (case F3 => k_asm); (case X3 => k_asm); (case T3 => k_asm); (case k3 => first | exact rfl | assumption); (case d3 => (first | exact dlt (by assumption) _ (by first | exact Nat.le_refl _ | exact Nat.le_of_ble_eq_true rfl | decide | omega) | ((try simp only [depth_deeper]); (try dsimp only [ktrTop]); first | exact dlt (by assumption) _ (by first | exact Nat.le_refl _ | exact Nat.le_of_ble_eq_true rfl | decide | omega) | exact dlt3 (by assumption) _ (by first | exact Nat.le_refl _ | exact Nat.le_of_ble_eq_true rfl | decide | omega)) | ((try simp only [depth_deeper, recursionLimit] at *); (try dsimp only [ktrTop] at *); omega))); (case u3 => (first | exact ult (by assumption) _ (by first | exact Nat.le_refl _ | exact Nat.le_of_ble_eq_true rfl | decide | omega) | exact ult2 (by assumption) | ((try simp only [units_deeper]); (try dsimp only [ktrTop]); first | exact ult (by assumption) _ (by first | exact Nat.le_refl _ | exact Nat.le_of_ble_eq_true rfl | decide | omega) | exact ult2 (by assumption) | exact ult3 (by assumption) _ (by first | exact Nat.le_refl _ | exact Nat.le_of_ble_eq_true rfl | decide | omega)) | ((try simp only [units_deeper] at *); (try dsimp only [ktrTop] at *); omega))))
  k_with "subs" => first | exact List.forall_mem_nil _ | (refine List.forall_mem_cons.mpr ⟨?zzha, ?zzhb⟩; (case zzha => walk_at "mem"); (case zzhb => walk_at "subs")) | (refine List.forall_mem_append.mpr ⟨?_, ?_⟩ <;> walk_at "subs") | (intro p hp; walk_at "mem")
  k_with "enterF" => (refine' code_def ?zzk1 ?zzk2 ?zzk3 ?zzk4 ?zzk5 ?zzkA ?zzkF ?zzkK ?zzk6 ?zzk7 ?zzk8 ?zzk9 ?zzkB ?_ ?zzc2 ?zzc3 ?zzc4 ?zzc5; (case zzkA => exact rfl); (case zzkF => exact rfl); (case zzkK => first | exact rfl | assumption); (case zzk1 => k_asm); (case zzk2 => k_asm); (case zzk3 => k_asm); (case zzk4 => k_asm); (case zzk5 => k_asm); (case zzk6 => k_is); (case zzk7 => k_is); (case zzk8 => ktr_room); (case zzk9 => exact BindsTo.of_eq rfl); (case zzkB => exact locs rfl); (case zzc5 => decide); (case zzc2 => exact rfl); (case zzc3 => exact rfl); (case zzc4 => exact rfl); k_whole; intro g' L' h' FG' F' N' B' X' T'; (try dsimp only); (try k_fold))
  k_with "call ref" => (k_here; (with_reducible show wpAny _ _ (call (Value.ref 148) _) _ _ _); k_dflt (refine' call_cls ?zzk1 ?zzk2 ?zzk3 ?zzk4 ?zzk5 ?zzk6 ?_; (case zzk1 => k_asm); (case zzk2 => k_asm); (case zzk3 => k_asm); (case zzk4 => k_is); (case zzk5 => k_is); (case zzk6 => k_is); k_whole; intro x' d' h' F' N' l1 l2; (try k_lt l1); (try k_lt2 l2); (try k_sweep); walk_at "enterF"))
  k_with "call ref" => (k_here; (with_reducible show wpAny _ _ (call (Value.ref 66) _) _ _ _); k_dflt (refine' call_cls ?zzk1 ?zzk2 ?zzk3 ?zzk4 ?zzk5 ?zzk6 ?_; (case zzk1 => k_asm); (case zzk2 => k_asm); (case zzk3 => k_asm); (case zzk4 => k_is); (case zzk5 => k_is); (case zzk6 => k_is); k_whole; intro x' d' h' F' N' l1 l2; (try k_lt l1); (try k_lt2 l2); (try k_sweep); walk_at "enterF"))
  k_with "compareOp In str ref" => (k_here; (with_reducible show wpAny _ _ (compareOp CmpOp.In (Value.str _ _) (Value.ref _)) _ _ _); (with_unfolding_all refine' in_tuple_strs ?zzk1 ?zzk2 ?_; (case zzk1 => exact kun_topT (by k_asm) (by k_asm) (by k_is)); (case zzk2 => kde_strs); k_whole))
  k_with "call ref" => (k_here; (with_reducible show wpAny _ _ (call (Value.ref 28) _) _ _ _); k_dflt (refine wpAny_call ?_; walk_at "enterF"))
  k_with "call ref" => (k_here; (with_reducible show wpAny _ _ (call (Value.ref 21) _) _ _ _); k_dflt (refine wpAny_call ?_; walk_at "enterF"))
  k_with "pull" => first | exact Pull.head | (refine' Pull.tail ?zzb; (case zzb => walk_at "pull")) | (refine' Pull.app ?zzb; (case zzb => walk_at "pull"))
  k_with "tups" => first | assumption | exact tups_nil | (refine tups_cons ?_; walk_at "tups") | (refine tups_app ?_ ?_ <;> walk_at "tups")
  k_with "subT" => first | (refine subT_cons ?zzha ?zzhb; (case zzha => first | exact Or.inl rfl | (refine Or.inr ?_; walk_at "mem")); (case zzhb => walk_at "subT")) | (refine subT_app ?_ ?_ <;> walk_at "subT") | (intro p hp _; walk_at "mem")
  k_with "sepN" => first | assumption | exact List.forall_mem_nil _ | (refine List.forall_mem_cons.mpr ⟨?zzha, ?zzhb⟩; (case zzha => first | with_reducible assumption | (refine Ne.symm ?_; with_reducible assumption) | k_ne); (case zzhb => walk_at "sepN"))
  k_with "call builtin:list.append" => (k_here; (with_reducible show wpAny _ _ (call (Value.builtin _) [Value.ref _, _]) _ _ _); (rename News _ _ _ _ => nN); k_dflt (refine' app_lst ?zzF ?zzN ?zzs ?zzz ?_; (case zzF => k_asm); (case zzN => exact Pull.out nN (by walk_at "pull")); (case zzs => walk_at "sepN"); (case zzz => omega)); intro h' F' N')
  trivial
theorem split_ok (w : World) (C d : Addr) (news : List (Addr × Obj)) (h e : Nat) (ht et : Tok) (g : Bool) :
    ConM w 1 131 [.ref C, .int (h : Int) ht, .int (e : Int) et, .bool g] [] news (fun mu' tl r => mu' = [] ∧ ∃ a vs, tl = [(a, tup vs)] ∧ (∀ p ∈ news, p.1 < a) ∧ r = .ref a ∧ ∀ ns, (a, tup vs) ∈ ns → RowIn ns (.ref a) (spl g h e)) := by
  unfold ConM
  k_fill
  intro pg loose mean mg mb dp un gd cn cs a ccd cl outer A₀ base h₀ L m s Q E B F X N Tp hk hd hu hret
  simp only [List.cons_append, List.nil_append] at N hret
  cases g
  · refine wpAny_call ?_
    k_dflt ktr_enter
    k_steps
    rename News _ _ _ _ => kN
    rename Fr _ _ _ _ => kF
    rename (∀ p ∈ news, p.1 < _) => l1
    exact hret _ [] [_] _ _ kF kN ⟨rfl, _, _, rfl, l1, rfl, fun ns hm => .split hm⟩
  · refine wpAny_call ?_
    k_dflt ktr_enter
    k_steps
    rename News _ _ _ _ => kN
    rename Fr _ _ _ _ => kF
    rename (∀ p ∈ news, p.1 < _) => l1
    exact hret _ [] [_] _ _ kF kN ⟨rfl, _, _, rfl, l1, rfl, fun ns hm => .split hm⟩
end Mine
end
section
open PySem PySem.W PyProof.Rows PyProof.V
set_option Elab.async false
set_option maxRecDepth 100000
namespace Mine
section
variable {prog : Program} {w : World} {A : Around} {E : Value → Shared → Prop} {s : Shared} {h₀ : Heap} {L : Addr} {m : Str → Option Value} {news : List (Addr × Obj)} {l : Addr} {v : Value} {Q : Value → Shared → Prop} {tok0 : Tok}
theorem mul_lst0 (F : Fr h₀ L s.heap m) (N : News h₀ L s.heap news) {k : Nat} (hl : s.heap.get? l = some (listOf [v].toArray k))
    (h : ∀ D h', Fr h₀ L h' m → News h₀ L h' ((D, listOf (List.toArray []) 0) :: news) → (∀ p ∈ news, p.1 < D) → Q (.ref D) { s with heap := h' }) :
    wpAny (model prog w) A (binaryOp .Mult (.ref l) (.int 0 tok0)) Q E s := by
  exact PyProof.Rows.mul_list (items := #[v]) F N hl (by decide) (by decide) (by simp) fun h' F' N' => h _ h' F' N' fun p hp => Heap.lt_size (N p hp).1
theorem mul_lst1 (F : Fr h₀ L s.heap m) (N : News h₀ L s.heap news) {k : Nat} (hl : s.heap.get? l = some (listOf [v].toArray k))
    (h : ∀ D h', Fr h₀ L h' m → News h₀ L h' ((D, listOf (List.toArray [v]) 0) :: news) → (∀ p ∈ news, p.1 < D) → Q (.ref D) { s with heap := h' }) :
    wpAny (model prog w) A (binaryOp .Mult (.ref l) (.int 1 tok0)) Q E s := by
  exact PyProof.Rows.mul_list (items := #[v]) F N hl (by decide) (by decide) (by simp) fun h' F' N' => h _ h' F' N' fun p hp => Heap.lt_size (N p hp).1
theorem mul_lst2 (F : Fr h₀ L s.heap m) (N : News h₀ L s.heap news) {k : Nat} (hl : s.heap.get? l = some (listOf [v].toArray k))
    (h : ∀ D h', Fr h₀ L h' m → News h₀ L h' ((D, listOf (List.toArray [v, v]) 0) :: news) → (∀ p ∈ news, p.1 < D) → Q (.ref D) { s with heap := h' }) :
    wpAny (model prog w) A (binaryOp .Mult (.ref l) (.int 2 tok0)) Q E s := by
  exact PyProof.Rows.mul_list (items := #[v]) F N hl (by decide) (by decide) (by simp) fun h' F' N' => h _ h' F' N' fun p hp => Heap.lt_size (N p hp).1
end
theorem CompO.fromN {w : World} {folds : Bool} {R P Wt d : Addr} {h₀ h : Heap} {L : Addr} {rest : List (Addr × Obj)} {x1 x2 x3 x4 x5 x6 x7 x8 : Tok} {lb i : Int} {lab mark : Nat} (_N : News h₀ L h ((d, dictOf [ent w "folds" x1 (.bool folds), ent w "rows" x2 (.ref R), ent w "places" x3 (.ref P), ent w "labels" x4 (.int lb x7), ent w "marks" x5 (.int i x8), ent w "waiting" x6 (.ref Wt)] 6) :: rest)) (e1 : lb = (lab : Int)) (e2 : i = (mark : Int)) : CompO w folds R P Wt lab mark (dictOf [ent w "folds" x1 (.bool folds), ent w "rows" x2 (.ref R), ent w "places" x3 (.ref P), ent w "labels" x4 (.int lb x7), ent w "marks" x5 (.int i x8), ent w "waiting" x6 (.ref Wt)] 6) := by
  subst e1 e2
  exact ⟨_, _, _, _, _, _, _, _, rfl⟩
end Mine
end
section
open PySem PySem.W PyProof.Rows PyProof.V
set_option Elab.async false
set_option maxRecDepth 100000
set_option maxHeartbeats 2000000
namespace Mine


theorem setup_W22b_1 : True := by
  k_with_none
  k_with "mem0" => first | with_reducible exact List.mem_cons_self | (refine List.mem_cons_of_mem _ ?_; k_mem)
  k_with "all0" => first | assumption | exact fun p hp => Nat.ne_of_lt (ktn_ltOf (by assumption) p hp)
  k_with "execs cons" => (k_here; k_fold; (try ((rename Fr _ _ _ _ => lF9); (refine FrL lF9 ?_); clear lF9; intro mL9 lF9)))
  k_with "eval Tuple" => (k_here; k_fold)
  k_with "eval List" => (k_here; k_fold)
  k_with "eval BinOp" => (k_here; k_fold)
  k_with "exec Assign" => (k_here; k_fold)
  k_with "eval IfExp" => (k_here; k_fold)
  k_with "eval Call" => (k_here; (try k_fold); k_dflt (refine Call_ ?_))
  k_with "exec For Tuple Name cons nil" => (k_here; (rename Fr _ _ _ _ => lF'); (with_unfolding_all refine' For_turns lF' ?_; k_whole))
  k_with "exec For Tuple Call cons nil" => (k_here; (rename Fr _ _ _ _ => lF'); (with_unfolding_all refine' For_turns lF' ?_; k_whole))
  k_with "AccPost" => dsimp only [AccPost]
  k_with "same" => (intro z h1 h3; (simp only [List.contains_cons, List.contains_nil, Bool.or_false, Bool.or_eq_false_iff, beq_eq_false_iff_ne, ne_eq] at h3); (simp +zetaDelta [h1, h3]; done))
  k_with "mem" => first | with_reducible assumption | with_reducible exact List.mem_cons_self | (refine List.mem_cons_of_mem _ ?_; walk_at "mem") | (refine List.mem_append.mpr (Or.inr ?_); walk_at "mem") | (refine List.mem_append.mpr (Or.inl ?_); walk_at "mem")
  k_with "app" => (intro p hp; walk_at "mem")
  k_with "con" => ((case B => k_asm); (case F => k_asm); (case X => k_asm); (case T => k_asm); (case k => first | exact rfl | assumption); (case d => (first | exact dlt (by assumption) _ (by first | exact Nat.le_refl _ | exact Nat.le_of_ble_eq_true rfl | decide | omega) | ((try simp only [depth_deeper]); (try dsimp only [ktrTop]); first | exact dlt (by assumption) _ (by first | exact Nat.le_refl _ | exact Nat.le_of_ble_eq_true rfl | decide | omega) | exact dlt3 (by assumption) _ (by first | exact Nat.le_refl _ | exact Nat.le_of_ble_eq_true rfl | decide | omega)) | ((try simp only [depth_deeper, recursionLimit] at *); (try dsimp only [ktrTop] at *); omega))); (case u => (first | exact ult (by assumption) _ (by first | exact Nat.le_refl _ | exact Nat.le_of_ble_eq_true rfl | decide | omega) | exact ult2 (by assumption) | ((try simp only [units_deeper]); (try dsimp only [ktrTop]); first | exact ult (by assumption) _ (by first | exact Nat.le_refl _ | exact Nat.le_of_ble_eq_true rfl | decide | omega) | exact ult2 (by assumption) | exact ult3 (by assumption) _ (by first | exact Nat.le_refl _ | exact Nat.le_of_ble_eq_true rfl | decide | omega)) | ((try simp only [units_deeper] at *); (try dsimp only [ktrTop] at *); omega))))
  k_with "enterC" => (refine' code_defC ?zzk1 ?zzk2 ?zzk3 ?zzk4 ?zzk5 ?zzkA ?zzkF ?zzkK ?zzk6 ?zzk7 ?zzk8 ?zzk9 ?zzkB ?zzkD ?_ ?zzc2 ?zzc3 ?zzc4; (case zzkA => exact rfl); (case zzkF => exact rfl); (case zzkK => assumption); (case zzk1 => k_asm); (case zzk2 => k_asm); (case zzk3 => k_asm); (case zzk4 => k_asm); (case zzk5 => k_asm); (case zzk6 => k_is); (case zzk7 => k_is); (case zzk8 => ktr_room); (case zzk9 => exact BindsTo.of_eq rfl); (case zzkB => exact rfl); (case zzkD => decide +kernel); (case zzc2 => exact rfl); (case zzc3 => exact rfl); (case zzc4 => exact rfl); k_whole; intro g' L' h' tk' cells' FG' F' N' Y' B' X' T' l1; (try k_lt l1); k_cells Y'; (try simp only [List.cons_append, List.nil_append] at N'); (try dsimp only); (try k_fold))
  k_with "con2" => ((case B2 => k_asm); (case F2 => k_asm); (case X2 => k_asm); (case T2 => k_asm); (case k2 => first | exact rfl | assumption); (case d2 => (first | exact dlt (by assumption) _ (by first | exact Nat.le_refl _ | exact Nat.le_of_ble_eq_true rfl | decide | omega) | ((try simp only [depth_deeper]); (try dsimp only [ktrTop]); first | exact dlt (by assumption) _ (by first | exact Nat.le_refl _ | exact Nat.le_of_ble_eq_true rfl | decide | omega) | exact dlt3 (by assumption) _ (by first | exact Nat.le_refl _ | exact Nat.le_of_ble_eq_true rfl | decide | omega)) | ((try simp only [depth_deeper, recursionLimit] at *); (try dsimp only [ktrTop] at *); omega))); (case u2 => (first | exact ult (by assumption) _ (by first | exact Nat.le_refl _ | exact Nat.le_of_ble_eq_true rfl | decide | omega) | exact ult2 (by assumption) | ((try simp only [units_deeper]); (try dsimp only [ktrTop]); first | exact ult (by assumption) _ (by first | exact Nat.le_refl _ | exact Nat.le_of_ble_eq_true rfl | decide | omega) | exact ult2 (by assumption) | exact ult3 (by assumption) _ (by first | exact Nat.le_refl _ | exact Nat.le_of_ble_eq_true rfl | decide | omega)) | ((try simp only [units_deeper] at *); (try dsimp only [ktrTop] at *); omega))))
  k_with "con3" => ((case B3 => k_asm); (case F3 => k_asm); (case X3 => k_asm); (case T3 => k_asm); (case k3 => first | exact rfl | assumption); (case d3 => (first | exact dlt (by assumption) _ (by first | exact Nat.le_refl _ | exact Nat.le_of_ble_eq_true rfl | decide | omega) | ((try simp only [depth_deeper]); (try dsimp only [ktrTop]); first | exact dlt (by assumption) _ (by first | exact Nat.le_refl _ | exact Nat.le_of_ble_eq_true rfl | decide | omega) | exact dlt3 (by assumption) _ (by first | exact Nat.le_refl _ | exact Nat.le_of_ble_eq_true rfl | decide | omega)) | ((try simp only [depth_deeper, recursionLimit] at *); (try dsimp only [ktrTop] at *); omega))); (case u3 => (first | exact ult (by assumption) _ (by first | exact Nat.le_refl _ | exact Nat.le_of_ble_eq_true rfl | decide | omega) | exact ult2 (by assumption) | ((try simp only [units_deeper]); (try dsimp only [ktrTop]); first | exact ult (by assumption) _ (by first | exact Nat.le_refl _ | exact Nat.le_of_ble_eq_true rfl | decide | omega) | exact ult2 (by assumption) | exact ult3 (by assumption) _ (by first | exact Nat.le_refl _ | exact Nat.le_of_ble_eq_true rfl | decide | omega)) | ((try simp only [units_deeper] at *); (try dsimp only [ktrTop] at *); omega))))
  k_with "subs" => first | exact List.forall_mem_nil _ | (refine List.forall_mem_cons.mpr ⟨?zzha, ?zzhb⟩; (case zzha => walk_at "mem"); (case zzhb => walk_at "subs")) | (refine List.forall_mem_append.mpr ⟨?_, ?_⟩ <;> walk_at "subs") | (intro p hp; walk_at "mem")
  k_with "enterF" => (refine' code_def ?zzk1 ?zzk2 ?zzk3 ?zzk4 ?zzk5 ?zzkA ?zzkF ?zzkK ?zzk6 ?zzk7 ?zzk8 ?zzk9 ?zzkB ?_ ?zzc2 ?zzc3 ?zzc4 ?zzc5; (case zzkA => exact rfl); (case zzkF => exact rfl); (case zzkK => first | exact rfl | assumption); (case zzk1 => k_asm); (case zzk2 => k_asm); (case zzk3 => k_asm); (case zzk4 => k_asm); (case zzk5 => k_asm); (case zzk6 => k_is); (case zzk7 => k_is); (case zzk8 => ktr_room); (case zzk9 => exact BindsTo.of_eq rfl); (case zzkB => exact locs rfl); (case zzc5 => decide); (case zzc2 => exact rfl); (case zzc3 => exact rfl); (case zzc4 => exact rfl); k_whole; intro g' L' h' FG' F' N' B' X' T'; (try dsimp only); (try k_fold))
  k_with "call ref" => (k_here; (with_reducible show wpAny _ _ (call (Value.ref 148) _) _ _ _); k_dflt (refine' call_cls ?zzk1 ?zzk2 ?zzk3 ?zzk4 ?zzk5 ?zzk6 ?_; (case zzk1 => k_asm); (case zzk2 => k_asm); (case zzk3 => k_asm); (case zzk4 => k_is); (case zzk5 => k_is); (case zzk6 => k_is); k_whole; intro x' d' h' F' N' l1 l2; (try k_lt l1); (try k_lt2 l2); (try k_sweep); walk_at "enterF"))
  k_with "call ref" => (k_here; (with_reducible show wpAny _ _ (call (Value.ref 66) _) _ _ _); k_dflt (refine' call_cls ?zzk1 ?zzk2 ?zzk3 ?zzk4 ?zzk5 ?zzk6 ?_; (case zzk1 => k_asm); (case zzk2 => k_asm); (case zzk3 => k_asm); (case zzk4 => k_is); (case zzk5 => k_is); (case zzk6 => k_is); k_whole; intro x' d' h' F' N' l1 l2; (try k_lt l1); (try k_lt2 l2); (try k_sweep); walk_at "enterF"))
  k_with "compareOp In str ref" => (k_here; (with_reducible show wpAny _ _ (compareOp CmpOp.In (Value.str _ _) (Value.ref _)) _ _ _); (with_unfolding_all refine' in_tuple_strs ?zzk1 ?zzk2 ?_; (case zzk1 => exact kun_topT (by k_asm) (by k_asm) (by k_is)); (case zzk2 => kde_strs); k_whole))
  k_with "call ref" => (k_here; (with_reducible show wpAny _ _ (call (Value.ref 28) _) _ _ _); k_dflt (refine wpAny_call ?_; walk_at "enterF"))
  k_with "call ref" => (k_here; (with_reducible show wpAny _ _ (call (Value.ref 21) _) _ _ _); k_dflt (refine wpAny_call ?_; walk_at "enterF"))
  k_with "pull" => first | exact Pull.head | (refine' Pull.tail ?zzb; (case zzb => walk_at "pull")) | (refine' Pull.app ?zzb; (case zzb => walk_at "pull"))
  k_with "tups" => first | assumption | exact tups_nil | (refine tups_cons ?_; walk_at "tups") | (refine tups_app ?_ ?_ <;> walk_at "tups")
  k_with "subT" => first | (refine subT_cons ?zzha ?zzhb; (case zzha => first | exact Or.inl rfl | (refine Or.inr ?_; walk_at "mem")); (case zzhb => walk_at "subT")) | (refine subT_app ?_ ?_ <;> walk_at "subT") | (intro p hp _; walk_at "mem")
  k_with "getMethod ref" => (k_here; k_dflt (refine' comp_method ?zzF ?zzX ?zzN ?zzC ?zzd ?zzO ?zzg ?zzf ?zzt ?zzn ?_; (case zzF => k_asm); (case zzX => k_asm); (case zzN => k_asm); (case zzC => walk_at "mem"); (case zzd => walk_at "mem"); (case zzO => assumption); (case zzg => k_is); (case zzf => k_is); (case zzt => k_is); (case zzn => (intro _ _ _ _ _ _ _ _; k_get)); k_whole))
  k_with "setAttr ref" => (k_here; (with_reducible show wpAny _ _ (setAttr (Value.ref _) _ _) _ _ _); refine Hold.out ?_)
  k_with "binaryOp Mult ref int" => (k_here; (with_reducible show wpAny _ _ (binaryOp Operator.Mult (Value.ref _) (Value.int _ _)) _ _ _); refine Hold.out ?_)
  k_with "call ref" => (k_here; (with_reducible show wpAny _ _ (call (Value.ref 124) _) _ _ _); k_dflt (refine wpAny_call ?_; walk_at "enterF"))
  k_with "exec For Name Call cons nil" => (k_here; (rename Fr _ _ _ _ => lF'); (with_unfolding_all refine' For_invVF lF' ?zzk1 ?zzk2 ?_; (case zzk1 => exact rfl); (case zzk2 => exact rfl); k_whole))
  k_with "pyIter ref" => (k_here; (with_reducible show wpAny _ _ (pyIter (Value.ref _)) (fun it s₂ => LoopAtV _ _ _ _ _ _ _ _ _ it s₂) _ _); refine Hold.out ?_)
  k_with "call ref" => (k_here; k_dflt (show wpAny _ _ (call (Value.ref 98) _) _ _ _); refine Hold.out ?_)
  k_with "call ref" => (k_here; k_dflt (show wpAny _ _ (call (Value.ref 91) _) _ _ _); refine Hold.out ?_)
  k_with "call ref" => (k_here; k_dflt (show wpAny _ _ (call (Value.ref 131) _) _ _ _); refine Hold.out ?_)
  trivial
section
variable {w : World} {p : Program} {loose : List Str} {mean : ExcName → Option Value} {mg mb : Str → Option Value} {dp un : Nat} {gd : Option (List PySem.Code)} {cn : Str} {cs : Scope} {a : Addr} {ccd : Value} {cl : List (Str × Addr)} {outer : List Env} {A₀ : Around} {base h₀ : Heap} {L : Addr} {m : Str → Option Value} {s : Shared}
    {Q E : Value → Shared → Prop} {folds : Bool} {C d R P Wt : Addr} {l rest news : List (Addr × Obj)} {lab mark : Nat} {od : Obj} {g : Bool}
theorem split_at {h e : Nat} {ht et : Tok} (N : News h₀ L s.heap news) (B : Below A₀ base outer h₀) (F : Fr h₀ L s.heap m) (X : (hd.heap_39 w.params).In h₀) (T : Top p loose mean mg mb h₀) (k : cs.kind = .function) (dd : dp + 1 < recursionLimit) (u : un + 8 * 1 + 300 < cLine)
    (ret : ∀ a' vs h' tk', Fr h₀ L h' m → News h₀ L h' ((a', tup vs) :: news) → (∀ p ∈ news, p.1 < a') → (∀ ns, (a', tup vs) ∈ ns → RowIn ns (.ref a') (spl g h e)) → Q (.ref a') { s with heap := h', toks := tk' }) :
    wpAny (model PySem.Challenge.rw_oj0023_01.row.prog w) (ktrTop dp un gd cn cs L a ccd cl outer) (call (.ref 131) [.ref C, .int (h : Int) ht, .int (e : Int) et, .bool g]) Q E s :=
  ConM.at (mu := []) N (split_ok w C 0 news h e ht et g) B F X T k dd u (by
    rintro r mu tl h' tk' F' N' ⟨rfl, a', vs, rfl, hlt, rfl, hR⟩
    exact ret _ _ _ _ F' N' hlt hR)
end
theorem dup1L {h₀ h : Heap} {L : Addr} {q q' : Addr × Obj} {R news : List (Addr × Obj)} (N : News h₀ L h (q :: q' :: R)) (hs : ∀ p ∈ news, p ∈ R) : News h₀ L h ([q] ++ ((q' :: tps R) ++ news)) := fun p hp => N p (by
  rcases List.mem_append.mp hp with hp | hp
  · rw [List.mem_singleton.mp hp]; exact .head _
  · rcases List.mem_append.mp hp with hp | hp
    · rcases List.mem_cons.mp hp with e | hp
      · rw [e]; exact .tail _ (.head _)
      · exact .tail _ (.tail _ (tps_sub p hp))
    · exact .tail _ (.tail _ (hs p hp)))
theorem setup_W22b_2 : True := by
  k_with "newTuple" => (k_here; kup_bare; k_dflt (refine' newTuple_let ?zzF ?zzN ?_ ?zzz; (case zzF => k_asm); (case zzN => k_asm); (case zzz => kmk_size)); intro D' h' F' ob' N' l1; (try k_sweep))
  k_with "newList" => (k_here; k_dflt (refine' newList_let ?zzk1 ?zzk2 ?_; (case zzk1 => k_asm); (case zzk2 => k_asm); k_whole); intro l' h' F' ob' N' l1; (try k_sweep))
  k_with "binaryOp Add ref ref" => (k_here; (with_reducible show wpAny _ _ (binaryOp Operator.Add (Value.ref _) (Value.ref _)) _ _ _); k_dflt (refine' add_let ?zzF ?zzN ?zzl ?zzb ?zze ?_ ?zzz; (case zzF => k_asm); (case zzN => k_asm); (case zzl => k_mem); (case zzb => k_mem); (case zze => first | (simp only [List.append_assoc, List.cons_append, List.nil_append]; done) | (simp only [List.append_assoc, List.cons_append, List.nil_append]; exact rfl) | exact rfl); (case zzz => (rw [sizeLine_eq]; simp only [List.length_cons, List.length_nil, List.length_append, List.length_replicate]; omega))); intro D' h' F' ob' N' l1; (try dsimp only))
  k_with "sepN" => first | assumption | exact List.forall_mem_nil _ | (refine List.forall_mem_cons.mpr ⟨?zzha, ?zzhb⟩; (case zzha => first | with_reducible assumption | (refine Ne.symm ?_; with_reducible assumption) | exact neL (by with_reducible assumption) (by walk_at "mem") | (refine Ne.symm ?_; exact neL (by with_reducible assumption) (by walk_at "mem")) | k_ne); (case zzhb => walk_at "sepN")) | (refine List.forall_mem_append.mpr ⟨?_, ?_⟩ <;> walk_at "sepN")
  trivial
theorem loop_ok (w : World) (folds : Bool) (C d R P Wt : Addr) (news : List (Addr × Obj)) (lab mark : Nat) (od : Obj) (v : Value) (g : Bool) (e : Nat) (et : Tok) (n : Nd) (hC : (C, instObj 148 d) ∈ news) (nd : ∀ p ∈ news, p.1 ≠ d) (hO : CompO w folds R P Wt lab mark od) (hx : NodeIn news v n) (hl : lab < 90000) :
    ConM w 2 138 [.ref C, v, .bool g, .int (e : Int) et] [(d, od)] news (fun mu' tl r => ∃ od' T n3 tvs tl', mu' = [(d, od')] ∧ tl = (T, listOf (List.toArray tvs) n3) :: tl' ∧ r = .ref T ∧ Tups tl' ∧ (∀ p ∈ news, p.1 < T) ∧ CompO w folds R P Wt (lab + 2) (mark + 1) od' ∧
      Each (TaskIn (tl' ++ news)) tvs [.label (lab + 1), .row (spl g (lab + 2) e), .label (lab + 2), .row (.mark mark), .node n, .row (.prog mark), .row (.jump (lab + 1))]) := by
  unfold ConM
  k_fill
  intro pg loose mean mg mb dp un gd cn cs a ccd cl outer A₀ base h₀ L m s Q E B F X N Tp hk hd hu hret
  simp only [List.cons_append, List.nil_append] at N
  refine wpAny_call ?_
  k_dflt ktr_enter
  rename Fr _ _ _ _ => lF9
  refine FrL lF9 ?_
  clear lF9
  intro mL9 lF9
  k_steps
  refine Hold.of ?_
  rename News _ _ _ _ => nN1
  refine' label_at nN1 (by walk_at "pull") (by walk_at "mem") (by walk_at "sepN") hO (by omega) ?B2 ?F2 ?X2 ?T2 ?k2 ?d2 ?u2 ?_
  walk_at "con2"
  intro od1 h1 tk1 lt1 F1 N1 hO1
  (try dsimp only)
  (try k_fold)
  k_steps
  refine Hold.of ?_
  rename News _ _ _ _ => nN2
  refine' label_at nN2 (by walk_at "pull") (by walk_at "mem") (by walk_at "sepN") hO1 (by omega) ?B2 ?F2 ?X2 ?T2 ?k2 ?d2 ?u2 ?_
  walk_at "con2"
  intro od2 h2 tk2 lt2 F2 N2 hO2
  have hOc2 := hO2
  obtain ⟨a1, a2, a3, a4, a5, a6, a7, a8, rfl⟩ := hO2
  (try dsimp only)
  (try k_fold)
  k_steps
  refine Hold.of ?_
  rename News _ _ _ _ => nM0
  have nM := Pull.out (D := d) nM0 (by walk_at "pull")
  clear nM0
  refine' set_dict ?k1 ?k2 ?k3 ?k4 ?k5 ?k6 ?k7 ?k8 ?k9 ?k10 ?k11 ?k12 ?k13 ?_
  case k1 => k_asm
  case k2 => k_asm
  case k3 => k_asm
  case k4 => k_inst
  case k5 => exact rfl
  case k6 => k_is
  case k7 => k_is
  case k8 => k_is
  case k9 => k_is
  case k10 => k_get
  case k11 => k_put
  case k12 => exact Upd.head (by walk_at "sepN")
  case k13 => exact Nat.le_of_ble_eq_true rfl
  k_whole
  intro h' F' N'
  have hOc4 := CompO.fromN (lab := lab + 1 + 1) (mark := mark + 1) N' rfl rfl
  k_steps
  refine Hold.of ?_
  rename News _ _ _ _ => nS9
  refine' split_at (h := lab + 2) (e := e) nS9 ?B2 ?F2 ?X2 ?T2 ?k2 ?d2 ?u2 ?_
  walk_at "con2"
  intro sa9 sv9 hs9 ks9 Fs9 Ns9 sl9 sR9
  (try dsimp only)
  (try k_fold)
  k_steps
  rename News _ _ _ _ => kN
  rename Fr _ _ _ _ => kF
  rename (∀ p ∈ (_ : List (Addr × Obj)), p.1 < (_ : Addr)) => lT
  have kN2 := Pull.out2 (D := d) kN (by walk_at "pull") Pull.head
  refine' hret _ [_] (_ :: _) _ _ kF (dup1L kN2 (by walk_at "app")) ⟨_, _, _, [_, _, _, _, _, _, _], _, rfl, rfl, rfl, tups_tps _, (fun p hp => lT p (by walk_at "mem")), hOc4, .cons ?a0 (.cons ?a1 (.cons ?a2 (.cons ?a3 (.cons ?a4 (.cons ?a5 (.cons ?a6 .nil))))))⟩
  case a0 => exact .label' (memT (by walk_at "mem")) rfl
  case a1 => exact .row (memT (by walk_at "mem")) (sR9 _ (memT (by walk_at "mem")))
  case a2 => exact .label' (memT (by walk_at "mem")) rfl
  case a3 => exact .row (memT (by walk_at "mem")) (.mark' (memT (by walk_at "mem")) rfl)
  case a4 => exact .node (memT (by walk_at "mem")) (hx.monoT fun p hp _ => List.mem_append.mpr (.inr hp))
  case a5 => exact .row (memT (by walk_at "mem")) (.prog' (memT (by walk_at "mem")) rfl)
  case a6 => exact .row (memT (by walk_at "mem")) (.jump' (memT (by walk_at "mem")) rfl)
section
variable {w : World} {p : Program} {loose : List Str} {mean : ExcName → Option Value} {mg mb : Str → Option Value} {dp un : Nat} {gd : Option (List PySem.Code)} {cn : Str} {cs : Scope} {a : Addr} {ccd : Value} {cl : List (Str × Addr)} {outer : List Env} {A₀ : Around} {base h₀ : Heap} {L : Addr} {m : Str → Option Value} {s : Shared}
    {Q E : Value → Shared → Prop} {folds : Bool} {C d R P Wt : Addr} {l rest news : List (Addr × Obj)} {lab mark : Nat} {od : Obj} {g : Bool}
theorem loop_at {v : Value} {e : Nat} {et : Tok} {n : Nd} (N : News h₀ L s.heap l) (Pl : Pull d od l rest) (hC : (C, instObj 148 d) ∈ rest) (nd : ∀ p ∈ rest, p.1 ≠ d) (hO : CompO w folds R P Wt lab mark od) (hx : NodeIn rest v n) (hl : lab < 90000)
    (B : Below A₀ base outer h₀) (F : Fr h₀ L s.heap m) (X : (hd.heap_39 w.params).In h₀) (T : Top p loose mean mg mb h₀) (k : cs.kind = .function) (dd : dp + 2 < recursionLimit) (u : un + 8 * 2 + 300 < cLine)
    (ret : ∀ od' T n3 tvs tl' h' tk', Fr h₀ L h' m → News h₀ L h' ((d, od') :: (T, listOf (List.toArray tvs) n3) :: (tl' ++ rest)) → Tups tl' → (∀ p ∈ rest, p.1 < T) → CompO w folds R P Wt (lab + 2) (mark + 1) od' → Each (TaskIn (tl' ++ rest)) tvs [.label (lab + 1), .row (spl g (lab + 2) e), .label (lab + 2), .row (.mark mark), .node n, .row (.prog mark), .row (.jump (lab + 1))] → Q (.ref T) { s with heap := h', toks := tk' }) :
    wpAny (model PySem.Challenge.rw_oj0023_01.row.prog w) (ktrTop dp un gd cn cs L a ccd cl outer) (call (.ref 138) [.ref C, v, .bool g, .int (e : Int) et]) Q E s :=
  ConM.at (mu := [_]) (Pull.out N Pl) (loop_ok w folds C d R P Wt rest lab mark od v g e et n hC nd hO hx hl) B F X T k dd u (by
    rintro r mu tl h' tk' F' N' ⟨od', T, n3, tvs, tl', rfl, rfl, rfl, ht, hs, hO', hE⟩
    exact ret _ _ _ _ _ _ _ F' N' ht hs hO' hE)
end
end Mine
end
section
open PySem PySem.W PyProof.Rows PyProof.V
set_option Elab.async false
set_option maxRecDepth 100000
set_option maxHeartbeats 2000000
namespace Mine


theorem setup_W23n_1 : True := by
  k_with_none
  k_with "mem0" => first | with_reducible exact List.mem_cons_self | (refine List.mem_cons_of_mem _ ?_; k_mem)
  k_with "all0" => first | assumption | exact fun p hp => Nat.ne_of_lt (ktn_ltOf (by assumption) p hp)
  k_with "execs cons" => (k_here; k_fold; (try ((rename Fr _ _ _ _ => lF9); (refine FrL lF9 ?_); clear lF9; intro mL9 lF9)))
  k_with "eval Tuple" => (k_here; k_fold)
  k_with "eval List" => (k_here; k_fold)
  k_with "eval BinOp" => (k_here; k_fold)
  k_with "exec Assign" => (k_here; k_fold)
  k_with "eval IfExp" => (k_here; k_fold)
  k_with "eval Call" => (k_here; (try k_fold); k_dflt (refine Call_ ?_))
  k_with "exec For Tuple Name cons nil" => (k_here; (rename Fr _ _ _ _ => lF'); (with_unfolding_all refine' For_turns lF' ?_; k_whole))
  k_with "exec For Tuple Call cons nil" => (k_here; (rename Fr _ _ _ _ => lF'); (with_unfolding_all refine' For_turns lF' ?_; k_whole))
  k_with "AccPost" => dsimp only [AccPost]
  k_with "same" => (intro z h1 h3; (simp only [List.contains_cons, List.contains_nil, Bool.or_false, Bool.or_eq_false_iff, beq_eq_false_iff_ne, ne_eq] at h3); (simp +zetaDelta [h1, h3]; done))
  k_with "mem" => first | with_reducible assumption | with_reducible exact List.mem_cons_self | (refine List.mem_cons_of_mem _ ?_; walk_at "mem") | (refine List.mem_append.mpr (Or.inr ?_); walk_at "mem") | (refine List.mem_append.mpr (Or.inl ?_); walk_at "mem")
  k_with "app" => (intro p hp; walk_at "mem")
  k_with "con" => ((case B => k_asm); (case F => k_asm); (case X => k_asm); (case T => k_asm); (case k => first | exact rfl | assumption); (case d => (first | exact dlt (by assumption) _ (by first | exact Nat.le_refl _ | exact Nat.le_of_ble_eq_true rfl | decide | omega) | ((try simp only [depth_deeper]); (try dsimp only [ktrTop]); first | exact dlt (by assumption) _ (by first | exact Nat.le_refl _ | exact Nat.le_of_ble_eq_true rfl | decide | omega) | exact dlt3 (by assumption) _ (by first | exact Nat.le_refl _ | exact Nat.le_of_ble_eq_true rfl | decide | omega)) | ((try simp only [depth_deeper, recursionLimit] at *); (try dsimp only [ktrTop] at *); omega))); (case u => (first | exact ult (by assumption) _ (by first | exact Nat.le_refl _ | exact Nat.le_of_ble_eq_true rfl | decide | omega) | exact ult2 (by assumption) | ((try simp only [units_deeper]); (try dsimp only [ktrTop]); first | exact ult (by assumption) _ (by first | exact Nat.le_refl _ | exact Nat.le_of_ble_eq_true rfl | decide | omega) | exact ult2 (by assumption) | exact ult3 (by assumption) _ (by first | exact Nat.le_refl _ | exact Nat.le_of_ble_eq_true rfl | decide | omega)) | ((try simp only [units_deeper] at *); (try dsimp only [ktrTop] at *); omega))))
  k_with "enterC" => (refine' code_defC ?zzk1 ?zzk2 ?zzk3 ?zzk4 ?zzk5 ?zzkA ?zzkF ?zzkK ?zzk6 ?zzk7 ?zzk8 ?zzk9 ?zzkB ?zzkD ?_ ?zzc2 ?zzc3 ?zzc4; (case zzkA => exact rfl); (case zzkF => exact rfl); (case zzkK => assumption); (case zzk1 => k_asm); (case zzk2 => k_asm); (case zzk3 => k_asm); (case zzk4 => k_asm); (case zzk5 => k_asm); (case zzk6 => k_is); (case zzk7 => k_is); (case zzk8 => ktr_room); (case zzk9 => exact BindsTo.of_eq rfl); (case zzkB => exact rfl); (case zzkD => decide +kernel); (case zzc2 => exact rfl); (case zzc3 => exact rfl); (case zzc4 => exact rfl); k_whole; intro g' L' h' tk' cells' FG' F' N' Y' B' X' T' l1; (try k_lt l1); k_cells Y'; (try simp only [List.cons_append, List.nil_append] at N'); (try dsimp only); (try k_fold))
  k_with "con2" => ((case B2 => k_asm); (case F2 => k_asm); (case X2 => k_asm); (case T2 => k_asm); (case k2 => first | exact rfl | assumption); (case d2 => (first | exact dlt (by assumption) _ (by first | exact Nat.le_refl _ | exact Nat.le_of_ble_eq_true rfl | decide | omega) | ((try simp only [depth_deeper]); (try dsimp only [ktrTop]); first | exact dlt (by assumption) _ (by first | exact Nat.le_refl _ | exact Nat.le_of_ble_eq_true rfl | decide | omega) | exact dlt3 (by assumption) _ (by first | exact Nat.le_refl _ | exact Nat.le_of_ble_eq_true rfl | decide | omega)) | ((try simp only [depth_deeper, recursionLimit] at *); (try dsimp only [ktrTop] at *); omega))); (case u2 => (first | exact ult (by assumption) _ (by first | exact Nat.le_refl _ | exact Nat.le_of_ble_eq_true rfl | decide | omega) | exact ult2 (by assumption) | ((try simp only [units_deeper]); (try dsimp only [ktrTop]); first | exact ult (by assumption) _ (by first | exact Nat.le_refl _ | exact Nat.le_of_ble_eq_true rfl | decide | omega) | exact ult2 (by assumption) | exact ult3 (by assumption) _ (by first | exact Nat.le_refl _ | exact Nat.le_of_ble_eq_true rfl | decide | omega)) | ((try simp only [units_deeper] at *); (try dsimp only [ktrTop] at *); omega))))
  k_with "con3" => ((case B3 => k_asm); (case F3 => k_asm); (case X3 => k_asm); (case T3 => k_asm); (case k3 => first | exact rfl | assumption); (case d3 => (first | exact dlt (by assumption) _ (by first | exact Nat.le_refl _ | exact Nat.le_of_ble_eq_true rfl | decide | omega) | ((try simp only [depth_deeper]); (try dsimp only [ktrTop]); first | exact dlt (by assumption) _ (by first | exact Nat.le_refl _ | exact Nat.le_of_ble_eq_true rfl | decide | omega) | exact dlt3 (by assumption) _ (by first | exact Nat.le_refl _ | exact Nat.le_of_ble_eq_true rfl | decide | omega)) | ((try simp only [depth_deeper, recursionLimit] at *); (try dsimp only [ktrTop] at *); omega))); (case u3 => (first | exact ult (by assumption) _ (by first | exact Nat.le_refl _ | exact Nat.le_of_ble_eq_true rfl | decide | omega) | exact ult2 (by assumption) | ((try simp only [units_deeper]); (try dsimp only [ktrTop]); first | exact ult (by assumption) _ (by first | exact Nat.le_refl _ | exact Nat.le_of_ble_eq_true rfl | decide | omega) | exact ult2 (by assumption) | exact ult3 (by assumption) _ (by first | exact Nat.le_refl _ | exact Nat.le_of_ble_eq_true rfl | decide | omega)) | ((try simp only [units_deeper] at *); (try dsimp only [ktrTop] at *); omega))))
  k_with "subs" => first | exact List.forall_mem_nil _ | (refine List.forall_mem_cons.mpr ⟨?zzha, ?zzhb⟩; (case zzha => walk_at "mem"); (case zzhb => walk_at "subs")) | (refine List.forall_mem_append.mpr ⟨?_, ?_⟩ <;> walk_at "subs") | (intro p hp; walk_at "mem")
  k_with "enterF" => (refine' code_def ?zzk1 ?zzk2 ?zzk3 ?zzk4 ?zzk5 ?zzkA ?zzkF ?zzkK ?zzk6 ?zzk7 ?zzk8 ?zzk9 ?zzkB ?_ ?zzc2 ?zzc3 ?zzc4 ?zzc5; (case zzkA => exact rfl); (case zzkF => exact rfl); (case zzkK => first | exact rfl | assumption); (case zzk1 => k_asm); (case zzk2 => k_asm); (case zzk3 => k_asm); (case zzk4 => k_asm); (case zzk5 => k_asm); (case zzk6 => k_is); (case zzk7 => k_is); (case zzk8 => ktr_room); (case zzk9 => exact BindsTo.of_eq rfl); (case zzkB => exact locs rfl); (case zzc5 => decide); (case zzc2 => exact rfl); (case zzc3 => exact rfl); (case zzc4 => exact rfl); k_whole; intro g' L' h' FG' F' N' B' X' T'; (try dsimp only); (try k_fold))
  k_with "call ref" => (k_here; (with_reducible show wpAny _ _ (call (Value.ref 148) _) _ _ _); k_dflt (refine' call_cls ?zzk1 ?zzk2 ?zzk3 ?zzk4 ?zzk5 ?zzk6 ?_; (case zzk1 => k_asm); (case zzk2 => k_asm); (case zzk3 => k_asm); (case zzk4 => k_is); (case zzk5 => k_is); (case zzk6 => k_is); k_whole; intro x' d' h' F' N' l1 l2; (try k_lt l1); (try k_lt2 l2); (try k_sweep); walk_at "enterF"))
  k_with "call ref" => (k_here; (with_reducible show wpAny _ _ (call (Value.ref 66) _) _ _ _); k_dflt (refine' call_cls ?zzk1 ?zzk2 ?zzk3 ?zzk4 ?zzk5 ?zzk6 ?_; (case zzk1 => k_asm); (case zzk2 => k_asm); (case zzk3 => k_asm); (case zzk4 => k_is); (case zzk5 => k_is); (case zzk6 => k_is); k_whole; intro x' d' h' F' N' l1 l2; (try k_lt l1); (try k_lt2 l2); (try k_sweep); walk_at "enterF"))
  k_with "compareOp In str ref" => (k_here; (with_reducible show wpAny _ _ (compareOp CmpOp.In (Value.str _ _) (Value.ref _)) _ _ _); (with_unfolding_all refine' in_tuple_strs ?zzk1 ?zzk2 ?_; (case zzk1 => exact kun_topT (by k_asm) (by k_asm) (by k_is)); (case zzk2 => kde_strs); k_whole))
  k_with "call ref" => (k_here; (with_reducible show wpAny _ _ (call (Value.ref 28) _) _ _ _); k_dflt (refine wpAny_call ?_; walk_at "enterF"))
  k_with "call ref" => (k_here; (with_reducible show wpAny _ _ (call (Value.ref 21) _) _ _ _); k_dflt (refine wpAny_call ?_; walk_at "enterF"))
  k_with "pull" => first | exact Pull.head | (refine' Pull.tail ?zzb; (case zzb => walk_at "pull")) | (refine' Pull.app ?zzb; (case zzb => walk_at "pull"))
  k_with "tups" => first | assumption | exact tups_nil | (refine tups_cons ?_; walk_at "tups") | (refine tups_app ?_ ?_ <;> walk_at "tups")
  k_with "subT" => first | (refine subT_cons ?zzha ?zzhb; (case zzha => first | exact Or.inl rfl | (refine Or.inr ?_; walk_at "mem")); (case zzhb => walk_at "subT")) | (refine subT_app ?_ ?_ <;> walk_at "subT") | (intro p hp _; walk_at "mem")
  trivial
section
variable {prog : Program} {w : World} {A : Around} {E : Value → Shared → Prop} {s : Shared} {h₀ : Heap} {L : Addr} {m : Str → Option Value} {news : List (Addr × Obj)} {l : Addr} {v : Value} {tok0 : Tok}
theorem mul_rep {Q : Value → Shared → Prop} {n : Nat} (hn : n ≤ 2) (F : Fr h₀ L s.heap m) (N : News h₀ L s.heap news) {k : Nat} (hl : s.heap.get? l = some (listOf [v].toArray k))
    (h : ∀ D h', Fr h₀ L h' m → News h₀ L h' ((D, listOf (List.toArray (List.replicate n v)) 0) :: news) → (∀ p ∈ news, p.1 < D) → Q (.ref D) { s with heap := h' }) :
    wpAny (model prog w) A (binaryOp .Mult (.ref l) (.int (n : Int) tok0)) Q E s := by
  have h0 : n = 0 ∨ n = 1 ∨ n = 2 := by omega
  rcases h0 with rfl | rfl | rfl
  · exact mul_lst0 F N hl h
  · exact mul_lst1 F N hl h
  · exact mul_lst2 F N hl h
theorem sub_at {a b c : Int} {t u : Tok} {Q : Value → Shared → Prop} (e : a - b = c) (h : Q (.int c s.toks) { s with toks := s.toks + 1 }) : wpAny (model prog w) A (binaryOp .Sub (.int a t) (.int b u)) Q E s := by
  subst e; exact PyProof.Rows.sub_int h
theorem max_at {a b c : Int} {t u : Tok} {Q : Value → Shared → Prop} (hh : A.handled = none) (F : Fr h₀ L s.heap m) (N : News h₀ L s.heap news) (e : (if b > a then b else a) = c)
    (h : ∀ h' tk t', Fr h₀ L h' m → News h₀ L h' news → Q (.int c t') { s with heap := h', toks := tk }) : wpAny (model prog w) A (call (.builtin "max") [.int a t, .int b u]) Q E s := by
  subst e; exact max_two_N hh F N fun h' tk F' N' => h h' tk _ F' N'
theorem gt_no {a b : Int} {t u : Tok} {Q : Value → Shared → Prop} (e : ¬ b < a) (h : Q (.bool false) s) : wpAny (model prog w) A (compareOp .Gt (.int a t) (.int b u)) Q E s :=
  PyProof.Rows.gt_int (by rw [decide_eq_false e]; exact h)
theorem lt_no {a b : Int} {t u : Tok} {Q : Value → Shared → Prop} (e : ¬ a < b) (h : Q (.bool false) s) : wpAny (model prog w) A (compareOp .Lt (.int a t) (.int b u)) Q E s :=
  PyProof.Rows.lt_int (by rw [decide_eq_false e]; exact h)
theorem lt_yes {a b : Int} {t u : Tok} {Q : Value → Shared → Prop} (e : a < b) (h : Q (.bool true) s) : wpAny (model prog w) A (compareOp .Lt (.int a t) (.int b u)) Q E s :=
  PyProof.Rows.lt_int (by rw [decide_eq_true e]; exact h)
end
theorem Each.rep {α β : Type} {R : α → β → Prop} {a : α} {b : β} (h : R a b) : ∀ n, Each R (List.replicate n a) (List.replicate n b)
  | 0 => .nil
  | n + 1 => .cons h (Each.rep h n)
theorem setup_W23n_2 : True := by
  k_with "getMethod ref" => (k_here; k_dflt (refine' comp_method ?zzF ?zzX ?zzN ?zzC ?zzd ?zzO ?zzg ?zzf ?zzt ?zzn ?_; (case zzF => k_asm); (case zzX => k_asm); (case zzN => k_asm); (case zzC => walk_at "mem"); (case zzd => walk_at "mem"); (case zzO => assumption); (case zzg => k_is); (case zzf => k_is); (case zzt => k_is); (case zzn => (intro _ _ _ _ _ _ _ _; k_get)); k_whole))
  k_with "binaryOp Mult ref int" => (k_here; (with_reducible show wpAny _ _ (binaryOp Operator.Mult (Value.ref _) (Value.int _ _)) _ _ _); refine Hold.out ?_)
  k_with "call ref" => (k_here; (with_reducible show wpAny _ _ (call (Value.ref 124) _) _ _ _); k_dflt (refine wpAny_call ?_; walk_at "enterF"))
  k_with "exec For Name Call cons nil" => (k_here; (rename Fr _ _ _ _ => lF'); (with_unfolding_all refine' For_invVF lF' ?zzk1 ?zzk2 ?_; (case zzk1 => exact rfl); (case zzk2 => exact rfl); k_whole))
  k_with "pyIter ref" => (k_here; (with_reducible show wpAny _ _ (pyIter (Value.ref _)) (fun it s₂ => LoopAtV _ _ _ _ _ _ _ _ _ it s₂) _ _); refine Hold.out ?_)
  k_with "call ref" => (k_here; k_dflt (show wpAny _ _ (call (Value.ref 98) _) _ _ _); refine Hold.out ?_)
  k_with "call ref" => (k_here; k_dflt (show wpAny _ _ (call (Value.ref 91) _) _ _ _); refine Hold.out ?_)
  k_with "call ref" => (k_here; k_dflt (show wpAny _ _ (call (Value.ref 131) _) _ _ _); refine Hold.out ?_)
  k_with "call ref" => (k_here; k_dflt (show wpAny _ _ (call (Value.ref 138) _) _ _ _); refine Hold.out ?_)
  k_with "call builtin:len" => (k_here; k_dflt (refine' len_lst ?zzN ?zzm ?zzl ?_; (case zzN => k_asm); (case zzm => k_mem); (case zzl => (simp only [List.length_replicate]; omega))))
  k_with "binaryOp Sub int int" => (k_here; k_dflt (refine sub_at (by assumption) ?_))
  k_with "call builtin:max" => (k_here; (rename News _ _ _ _ => N'); (rename Fr _ _ _ _ => F'); k_dflt (refine max_at rfl F' N' (by assumption) ?_); clear N' F'; intro h' tk' t' F' N')
  k_with "compareOp Gt int int" => (k_here; k_dflt (refine gt_no ?zzzh ?_; (case zzzh => (simp only [List.length_replicate]; omega))))
  k_with "compareOp Lt int int" => (k_here; k_dflt (first | refine lt_yes (by assumption) ?_ | refine lt_no (by assumption) ?_))
  k_with "newTuple" => (k_here; kup_bare; k_dflt (refine' newTuple_let ?zzF ?zzN ?_ ?zzz; (case zzF => k_asm); (case zzN => k_asm); (case zzz => kmk_size)); intro D' h' F' ob' N' l1; (try k_sweep))
  k_with "newList" => (k_here; k_dflt (refine' newList_let ?zzk1 ?zzk2 ?_; (case zzk1 => k_asm); (case zzk2 => k_asm); k_whole); intro l' h' F' ob' N' l1; (try k_sweep))
  k_with "binaryOp Add ref ref" => (k_here; (with_reducible show wpAny _ _ (binaryOp Operator.Add (Value.ref _) (Value.ref _)) _ _ _); k_dflt (refine' add_let ?zzF ?zzN ?zzl ?zzb ?zze ?_ ?zzz; (case zzF => k_asm); (case zzN => k_asm); (case zzl => k_mem); (case zzb => k_mem); (case zze => first | (simp only [List.append_assoc, List.cons_append, List.nil_append]; done) | (simp only [List.append_assoc, List.cons_append, List.nil_append]; exact rfl) | exact rfl); (case zzz => (rw [sizeLine_eq]; simp only [List.length_cons, List.length_nil, List.length_append, List.length_replicate]; omega))); intro D' h' F' ob' N' l1; (try dsimp only))
  k_with "sepN" => first | assumption | exact List.forall_mem_nil _ | (refine List.forall_mem_cons.mpr ⟨?zzha, ?zzhb⟩; (case zzha => first | with_reducible assumption | (refine Ne.symm ?_; with_reducible assumption) | exact neL (by with_reducible assumption) (by walk_at "mem") | (refine Ne.symm ?_; exact neL (by with_reducible assumption) (by walk_at "mem")) | k_ne); (case zzhb => walk_at "sepN")) | (refine List.forall_mem_append.mpr ⟨?_, ?_⟩ <;> walk_at "sepN")
  trivial
theorem nd_times_z (w : World) (folds : Bool) (g : Bool) (n : Nd) (l : Nat) (hle : l ≤ 2) : NdC w folds 9 (.times l (l : Int) g n) := by
  intro C d R P Wt news sc od rvs wvs n1 n2 nv hC nd nr nw hdR hdW hRW hO hr hn hlab hmark hsz
  have hl3 : l = 0 ∨ l = 1 ∨ l = 2 := by omega
  have eE : expand folds (.times l (l : Int) g n) sc = ({ sc with labels := sc.labels + 1 }, List.replicate l (.node n) ++ [.label (sc.labels + 1)]) := by rcases hl3 with rfl | rfl | rfl <;> rfl
  rw [eE] at hsz ⊢
  clear eE
  simp only [List.length_append, List.length_replicate, List.length_cons, List.length_nil] at hsz
  have hrl := hr.length
  have f1 : (if (0 : Int) > 0 then 0 else 0) = (0 : Int) := rfl
  have f2 : Builtin.Range.small 0 0 1 = true := rfl
  have f3 : Builtin.Range.rangeSize 0 0 1 = ((0 : Nat) : Int) := rfl
  have f4 : (l : Int) - (l : Int) = 0 := Int.sub_self _
  have f5 : ¬ (l : Int) < 0 := by omega
  cases hn with
  | @times va vt vt1 vt2 _ _ _ v _ hm hx =>
  unfold ConM
  k_fill
  intro pg loose mean mg mb dp un gd cn cs a ccd cl outer A₀ base h₀ L m s Q E B F X N Tp hk hd hu hret
  simp only [List.cons_append, List.nil_append] at N
  refine wpAny_call ?_
  k_dflt ktr_enter
  rename Fr _ _ _ _ => lF9
  refine FrL lF9 ?_
  clear lF9
  intro mL9 lF9
  k_steps
  refine Hold.of ?_
  refine' mul_rep hle ?F ?N ?l ?_
  case F => k_asm
  case N => k_asm
  case l => exact (News.get (by k_asm) (by k_mem))
  intro D' h' F' N' l1
  (try k_lt l1)
  (try dsimp only)
  k_steps
  refine Hold.of ?_
  rename News _ _ _ _ => nN1
  refine' label_at nN1 (by walk_at "pull") (by walk_at "mem") (by walk_at "sepN") hO (by omega) ?B2 ?F2 ?X2 ?T2 ?k2 ?d2 ?u2 ?_
  walk_at "con2"
  intro od1 h1 tk1 lt1 F1 N1 hO1
  (try dsimp only)
  (try k_fold)
  k_steps
  refine Hold.of ?_
  rename News _ _ _ _ => kNr
  rename Fr _ _ _ _ => kFr
  rename IsRange _ _ _ _ _ _ _ _ => hRr
  refine iter_rangeUnr (n := 0) rfl hRr (by assumption) (by assumption) kFr kNr fun I hlt => RangeRest.zero fun h8 tk8 F8 N8 => ?_
  clear kNr kFr
  k_steps
  refine Hold.of ?_
  rename News _ _ _ _ => nN
  refine' wait_at (rvs := rvs) (wvs := wvs) (tvs := (List.replicate l _ ++ [_])) nN (by walk_at "pull") (by walk_at "mem") (by walk_at "mem") (by walk_at "mem") (by walk_at "mem") (by walk_at "sepN") hO1 ?len ?B2 ?F2 ?X2 ?T2 ?k2 ?d2 ?u2 ?_
  walk_at "con2"
  case len => simp only [List.length_append, List.length_replicate, List.length_cons, List.length_nil]; omega
  intro r' n2' h' tk' F' N'
  (try dsimp only)
  (try k_fold)
  k_steps
  rename News _ _ _ _ => kN
  rename Fr _ _ _ _ => kF
  refine' nd_ret (d := d) (R := R) (Wt := Wt) (tvs := (List.replicate l _ ++ [_])) hret kF kN (by walk_at "pull") (by walk_at "pull") (by walk_at "pull") (by walk_at "app") rfl hO1 hr (Each.append (Each.rep ?a0 l) (.cons ?b0 .nil))
  case a0 => exact .node (memT (by walk_at "mem")) (hx.monoT fun p hp _ => List.mem_append.mpr (.inr hp))
  case b0 => exact .label' (memT (by walk_at "mem")) rfl
theorem nd_times_o (w : World) (folds : Bool) (g : Bool) (n : Nd) (l : Nat) (hle : l ≤ 2) : NdC w folds 9 (.times l ((l : Int) + 1) g n) := by
  intro C d R P Wt news sc od rvs wvs n1 n2 nv hC nd nr nw hdR hdW hRW hO hr hn hlab hmark hsz
  have hl3 : l = 0 ∨ l = 1 ∨ l = 2 := by omega
  have eE : expand folds (.times l ((l : Int) + 1) g n) sc = ({ sc with labels := sc.labels + 2 }, List.replicate l (.node n) ++ [.row (spl g (sc.labels + 2) (sc.labels + 1)), .label (sc.labels + 2), .node n, .label (sc.labels + 1)]) := by rcases hl3 with rfl | rfl | rfl <;> rfl
  rw [eE] at hsz ⊢
  clear eE
  simp only [List.length_append, List.length_replicate, List.length_cons, List.length_nil] at hsz
  have hrl := hr.length
  have f1 : (if (0 : Int) > 1 then 0 else 1) = (1 : Int) := rfl
  have f4 : (l : Int) + 1 - (l : Int) = 1 := by omega
  have f5 : ¬ (l : Int) + 1 < 0 := by omega
  cases hn with
  | @times va vt vt1 vt2 _ _ _ v _ hm hx =>
  have pd10 : True := trivial
  have pd11 : True := trivial
  unfold ConM
  k_fill
  intro pg loose mean mg mb dp un gd cn cs a ccd cl outer A₀ base h₀ L m s Q E B F X N Tp hk hd hu hret
  simp only [List.cons_append, List.nil_append] at N
  refine wpAny_call ?_
  k_dflt ktr_enter
  rename Fr _ _ _ _ => lF9
  refine FrL lF9 ?_
  clear lF9
  intro mL9 lF9
  k_steps
  refine Hold.of ?_
  refine' mul_rep hle ?F ?N ?l ?_
  case F => k_asm
  case N => k_asm
  case l => exact (News.get (by k_asm) (by k_mem))
  intro D' h' F' N' l1
  (try k_lt l1)
  (try dsimp only)
  k_steps
  refine Hold.of ?_
  rename News _ _ _ _ => nN1
  refine' label_at nN1 (by walk_at "pull") (by walk_at "mem") (by walk_at "sepN") hO (by omega) ?B2 ?F2 ?X2 ?T2 ?k2 ?d2 ?u2 ?_
  walk_at "con2"
  intro od1 h1 tk1 lt1 F1 N1 hO1
  (try dsimp only)
  (try k_fold)
  k_steps
  refine Hold.of ?_
  rename News _ _ _ _ => kNr
  rename Fr _ _ _ _ => kFr
  rename IsRange _ _ _ _ _ _ _ _ => hRr
  refine iter_rangeUnr (n := 1) rfl hRr rfl rfl kFr kNr fun I hlt => RangeRest.succ ?_
  intro h8 tk8 F8 N8
  have hIn : ∀ p ∈ news, p.1 ≠ I := fun p hp => Nat.ne_of_lt (hlt p (by walk_at "mem"))
  clear kNr kFr
  k_steps
  refine Hold.of ?_
  rename News _ _ _ _ => nN2
  refine' label_at nN2 (by walk_at "pull") (by walk_at "mem") (by walk_at "sepN") hO1 (by omega) ?B2 ?F2 ?X2 ?T2 ?k2 ?d2 ?u2 ?_
  walk_at "con2"
  intro od2 h2 tk2 lt2 F2 N2 hO2
  (try dsimp only)
  (try k_fold)
  k_steps
  refine Hold.of ?_
  rename News _ _ _ _ => nS9
  refine' split_at (h := sc.labels + 2) (e := sc.labels + 1) nS9 ?B2 ?F2 ?X2 ?T2 ?k2 ?d2 ?u2 ?_
  walk_at "con2"
  intro sa9 sv9 hs9 ks9 Fs9 Ns9 sl9 sR9
  (try dsimp only)
  (try k_fold)
  k_steps
  rename News _ _ _ _ => kN4
  rename Fr _ _ _ _ => kF4
  have kN5 := Pull.out (D := I) kN4 (by walk_at "pull")
  refine ⟨_, _, _, _, rfl, kF4, kN5, (by walk_at "sepN"), RangeRest.zero fun h9 tk9 F9 N9 => ?_⟩
  k_steps
  refine Hold.of ?_
  rename News _ _ _ _ => nN
  refine' wait_at (rvs := rvs) (wvs := wvs) (tvs := (List.replicate l _ ++ [_, _, _, _])) nN (by walk_at "pull") (by walk_at "mem") (by walk_at "mem") (by walk_at "mem") (by walk_at "mem") (by walk_at "sepN") hO2 ?len ?B2 ?F2 ?X2 ?T2 ?k2 ?d2 ?u2 ?_
  walk_at "con2"
  case len => simp only [List.length_append, List.length_replicate, List.length_cons, List.length_nil]; omega
  intro r' n2' h' tk' F' N'
  (try dsimp only)
  (try k_fold)
  k_steps
  rename News _ _ _ _ => kN
  rename Fr _ _ _ _ => kF
  refine' nd_ret (d := d) (R := R) (Wt := Wt) (tvs := (List.replicate l _ ++ [_, _, _, _])) hret kF kN (by walk_at "pull") (by walk_at "pull") (by walk_at "pull") (by walk_at "app") rfl hO2 hr (Each.append (Each.rep ?a0 l) (.cons ?b0 (.cons ?b1 (.cons ?b2 (.cons ?b3 .nil)))))
  case a0 => exact .node (memT (by walk_at "mem")) (hx.monoT fun p hp _ => List.mem_append.mpr (.inr hp))
  case b0 => exact .row (memT (by walk_at "mem")) (sR9 _ (memT (by walk_at "mem")))
  case b1 => exact .label' (memT (by walk_at "mem")) rfl
  case b2 => exact .node (memT (by walk_at "mem")) (hx.monoT fun p hp _ => List.mem_append.mpr (.inr hp))
  case b3 => exact .label' (memT (by walk_at "mem")) rfl
theorem nd_times_n (w : World) (folds : Bool) (g : Bool) (n : Nd) (l : Nat) (hle : l ≤ 2) : NdC w folds 9 (.times l (-1) g n) := by
  intro C d R P Wt news sc od rvs wvs n1 n2 nv hC nd nr nw hdR hdW hRW hO hr hn hlab hmark hsz
  have hl3 : l = 0 ∨ l = 1 ∨ l = 2 := by omega
  have eE : expand folds (.times l (-1) g n) sc = ({ sc with labels := sc.labels + 3, marks := sc.marks + 1 }, List.replicate l (.node n) ++ ([.label (sc.labels + 2), .row (spl g (sc.labels + 3) (sc.labels + 1)), .label (sc.labels + 3), .row (.mark sc.marks), .node n, .row (.prog sc.marks), .row (.jump (sc.labels + 2))] ++ [.label (sc.labels + 1)])) := by rcases hl3 with rfl | rfl | rfl <;> rfl
  rw [eE] at hsz ⊢
  clear eE
  simp only [List.length_append, List.length_replicate, List.length_cons, List.length_nil] at hsz
  have hrl := hr.length
  have f1 : (if (0 : Int) > -1 - (l : Int) then 0 else -1 - (l : Int)) = 0 := if_pos (by omega)
  have f2 : Builtin.Range.small 0 (-1 - (l : Int)) 1 = true := by rcases hl3 with rfl | rfl | rfl <;> rfl
  have f3 : Builtin.Range.rangeSize 0 (-1 - (l : Int)) 1 = ((0 : Nat) : Int) := by rcases hl3 with rfl | rfl | rfl <;> rfl
  have f4 : (-1 : Int) - (l : Int) = -1 - (l : Int) := rfl
  have f5 : (-1 : Int) < 0 := by decide
  cases hn with
  | @times va vt vt1 vt2 _ _ _ v _ hm hx =>
  unfold ConM
  k_fill
  intro pg loose mean mg mb dp un gd cn cs a ccd cl outer A₀ base h₀ L m s Q E B F X N Tp hk hd hu hret
  simp only [List.cons_append, List.nil_append] at N
  refine wpAny_call ?_
  k_dflt ktr_enter
  rename Fr _ _ _ _ => lF9
  refine FrL lF9 ?_
  clear lF9
  intro mL9 lF9
  k_steps
  refine Hold.of ?_
  refine' mul_rep hle ?F ?N ?l ?_
  case F => k_asm
  case N => k_asm
  case l => exact (News.get (by k_asm) (by k_mem))
  intro D' h' F' N' l1
  (try k_lt l1)
  (try dsimp only)
  k_steps
  refine Hold.of ?_
  rename News _ _ _ _ => nN1
  refine' label_at nN1 (by walk_at "pull") (by walk_at "mem") (by walk_at "sepN") hO (by omega) ?B2 ?F2 ?X2 ?T2 ?k2 ?d2 ?u2 ?_
  walk_at "con2"
  intro od1 h1 tk1 lt1 F1 N1 hO1
  (try dsimp only)
  (try k_fold)
  k_steps
  refine Hold.of ?_
  rename News _ _ _ _ => nNL
  have nnL := nNL
  refine' loop_at (mark := sc.marks) (lab := sc.labels + 1) (e := sc.labels + 1) (n := n) nNL (by walk_at "pull") (by walk_at "mem") (by walk_at "sepN") hO1 (hx.monoT (by walk_at "subT")) (by omega) ?B2 ?F2 ?X2 ?T2 ?k2 ?d2 ?u2 ?_
  walk_at "con2"
  intro od4 T4 n4 tvs4 tl4 h4 tk4 F4 N4 ht4 hs4 hO4 hE4
  have hl4 : tvs4.length = 7 := hE4.length
  (try dsimp only)
  (try k_fold)
  k_steps
  refine Hold.of ?_
  rename News _ _ _ _ => kNr
  rename Fr _ _ _ _ => kFr
  rename IsRange _ _ _ _ _ _ _ _ => hRr
  refine iter_rangeUnr (n := 0) rfl hRr (by assumption) (by assumption) kFr kNr fun I hlt => RangeRest.zero fun h8 tk8 F8 N8 => ?_
  clear kNr kFr
  k_steps
  rename News _ _ _ _ => nNW
  have hTW : @LT.lt Nat _ Wt T4 := hs4 (Wt, listOf wvs.toArray n2) (by walk_at "mem")
  have hlW : ∀ p ∈ tl4, p.1 ≠ Wt := apart nNW (by walk_at "mem") (by walk_at "app") ht4
  refine Hold.of ?_
  rename News _ _ _ _ => nN
  refine' wait_at (rvs := rvs) (wvs := wvs) (tvs := (List.replicate l _ ++ (tvs4 ++ [_]))) nN (by walk_at "pull") (by walk_at "mem") (by walk_at "mem") (by walk_at "mem") (by walk_at "mem") (by walk_at "sepN") hO4 ?len ?B2 ?F2 ?X2 ?T2 ?k2 ?d2 ?u2 ?_
  walk_at "con2"
  case len => simp only [List.length_append, List.length_replicate, List.length_cons, List.length_nil]; omega
  intro r' n2' h' tk' F' N'
  (try dsimp only)
  (try k_fold)
  k_steps
  rename News _ _ _ _ => kN
  rename Fr _ _ _ _ => kF
  refine' nd_ret (d := d) (R := R) (Wt := Wt) (tvs := (List.replicate l _ ++ (tvs4 ++ [_]))) hret kF kN (by walk_at "pull") (by walk_at "pull") (by walk_at "pull") (by walk_at "app") rfl hO4 hr (Each.append (Each.rep ?a0 l) (Each.append ?c0 (.cons ?b0 .nil)))
  case a0 => exact .node (memT (by walk_at "mem")) (hx.monoT fun p hp _ => List.mem_append.mpr (.inr hp))
  case c0 => exact hE4.imp fun _ _ h => h.tps (by walk_at "subT")
  case b0 => exact .label' (memT (by walk_at "mem")) rfl
end Mine
end
section
open PySem PySem.W PyProof.Rows PyProof.V
set_option Elab.async false
set_option maxRecDepth 100000
namespace Mine
section
variable {prog : Program} {w : World} {A : Around} {E : Value → Shared → Prop} {s : Shared}
theorem ne_nils {a b : Addr} {vs : List Value} {Q : Value → Shared → Prop} (hl : s.heap.IsList a vs.toArray) (hb : s.heap.IsList b (List.toArray [])) (hu : A.units + 64 < cLine)
    (h : Q (.bool (!vs.isEmpty)) s) : wpAny (model prog w) A (compareOp .NotEq (.ref a) (.ref b)) Q E s := by
  cases vs with
  | nil =>
    have := SeqAt.RcNeAt.lists (A := A) (e := fun _ => true) hl hb rfl (by omega) (fun j h1 _ => absurd h1 (by simp)) prog w E Q
    exact this (by simpa using h)
  | cons x r =>
    have := SeqAt.RcNeAt.lists_lengths (A := A) hl hb (by simp) (by omega) prog w E Q
    exact this (by simpa using h)
theorem ne_snoc {a b : Addr} {vs : List Value} {v : Value} {Q : Value → Shared → Prop} (hl : s.heap.IsList a (List.toArray (vs ++ [v]))) (hb : s.heap.IsList b (List.toArray [])) (hu : A.units + 64 < cLine)
    (h : Q (.bool true) s) : wpAny (model prog w) A (compareOp .NotEq (.ref a) (.ref b)) Q E s :=
  ne_nils hl hb hu (by rw [show (!(vs ++ [v]).isEmpty) = true from by simp]; exact h)
theorem last_snoc (v : Value) : ∀ vs : List Value, kl_last (vs ++ [v]) = some (vs, v)
  | [] => rfl
  | x :: r => by rw [List.cons_append]; unfold kl_last; rw [last_snoc v r]
end
end Mine
end
section
set_option Elab.async false
open PySem PySem.W PyProof.Rows PyProof.V
namespace Mine
theorem ConM.mono {w : World} {size size' : Nat} {f : Addr} {vs : List Value} {mu news : List (Addr × Obj)} {Post : List (Addr × Obj) → List (Addr × Obj) → Value → Prop} (C : ConM w size f vs mu news Post) (h : size ≤ size') : ConM w size' f vs mu news Post := by
  intro p loose mean mg mb dp un gd cn cs a ccd cl outer A₀ base h₀ L m s Q E B F X N T hk hd hu hret
  exact C _ _ _ _ _ _ _ _ _ _ _ _ _ _ _ _ _ _ _ _ _ _ B F X N T hk (by omega) (by omega) hret
theorem NdC.mono {w : World} {folds : Bool} {size size' : Nat} {n : Nd} (h : NdC w folds size n) (hs : size ≤ size') : NdC w folds size' n :=
  fun C d R P Wt news s od rvs wvs n1 n2 nv a1 a2 a3 a4 a5 a6 a7 a8 a9 a10 a11 a12 a13 => (h C d R P Wt news s od rvs wvs n1 n2 nv a1 a2 a3 a4 a5 a6 a7 a8 a9 a10 a11 a12 a13).mono hs
theorem nd_times (w : World) (folds : Bool) {least : Nat} {most : Int} (g : Bool) (n : Nd) (h : least ≤ 2) (hm : most = -1 ∨ ((least : Int) ≤ most ∧ most ≤ least + 1)) : NdC w folds 9 (.times least most g n) := by
  have h0 : most = -1 ∨ most = (least : Int) ∨ most = (least : Int) + 1 := by omega
  rcases h0 with rfl | rfl | rfl
  · exact nd_times_n w folds g n least h
  · exact nd_times_z w folds g n least h
  · exact nd_times_o w folds g n least h
theorem nd_all (w : World) (folds : Bool) : ∀ (k : Nat) (n : Nd), Gen k n → NdC w folds 9 n
  | k, .chr c, h => (nd_chr w folds c (by rw [gen_chr] at h; exact h)).mono (by omega)
  | _, .any, _ => (nd_any w folds).mono (by omega)
  | _, .set, _ => (nd_set w folds).mono (by omega)
  | _ + 1, .times least most g n, h => nd_times w folds g n h.1 h.2.1
  | _ + 1, .seq a b, _ => (nd_seq w folds a b).mono (by omega)
  | _ + 1, .alt a b, _ => (nd_alt w folds a b).mono (by omega)
  | _ + 1, .group g n, h => (nd_group w folds g n h.1).mono (by omega)
  | 0, .times .., h => h.elim
  | 0, .seq .., h => h.elim
  | 0, .alt .., h => h.elim
  | 0, .group .., h => h.elim
/-- what holds at each turn of Compiling.run -/
noncomputable def RunI (s : CS) (ts : List Tk) : Prop := Inv s ts ∧ (∀ n, .node n ∈ ts → ∃ k, Gen k n) ∧ s.labels + 3 * costs ts ≤ 18000 ∧ s.marks + costs ts ≤ 18000 ∧ s.rows.length + costs ts ≤ 18000
theorem expand_more {folds : Bool} {k : Nat} {n : Nd} (h : Gen k n) (s : CS) : (expand folds n s).1.labels ≤ s.labels + 3 ∧ (expand folds n s).1.marks ≤ s.marks + 1 := by
  cases n with
  | times least most g p =>
    cases k with
    | zero => exact h.elim
    | succ k =>
      obtain ⟨h1, h2, _⟩ := h
      simp only [expand_q1, expand_q2, expand_q3, expand_q4, expand_q5, expand_q6, expand_q7]
      split
      · exact ⟨Nat.le_refl _, Nat.le_refl _⟩
      · simp only []; omega
  | _ => simp [expand_q1, expand_q2, expand_q3, expand_q4, expand_q5, expand_q6, expand_q7]
theorem opt_nodes {g : Bool} {e : Nat} {p m : Nd} : ∀ {n l}, Tk.node m ∈ optTasks g e p n l → m = p
  | 0, l, h => by simp [optTasks_q1, optTasks_q2] at h
  | n + 1, l, h => by
    simp only [optTasks_q1, optTasks_q2, List.cons_append, List.nil_append, List.mem_cons, Tk.node.injEq, reduceCtorEq, false_or] at h
    rcases h with h | h
    · exact h
    · exact opt_nodes h
theorem expand_gen {folds : Bool} {k : Nat} {n m : Nd} (h : Gen k n) (s : CS) (hm : .node m ∈ (expand folds n s).2) : ∃ k, Gen k m := by
  cases n with
  | times least most g p =>
    cases k with
    | zero => exact h.elim
    | succ k =>
      obtain ⟨h1, h2, h3⟩ := h
      refine ⟨k, ?_⟩
      have : m = p := by
        simp only [expand_q1, expand_q2, expand_q3, expand_q4, expand_q5, expand_q6, expand_q7] at hm
        split at hm
        · simp only [List.mem_append, List.mem_replicate, Tk.node.injEq, List.mem_cons, reduceCtorEq, false_or, List.not_mem_nil, or_false] at hm
          rcases hm with h | h
          · exact h.2
          · exact h
        · simp only [List.mem_append, List.mem_replicate, Tk.node.injEq, List.mem_cons, reduceCtorEq, false_or, List.not_mem_nil, or_false] at hm
          rcases hm with h | h
          · exact h.2
          · exact opt_nodes h
      rw [this]; exact h3
  | seq a b =>
    cases k with
    | zero => exact h.elim
    | succ k =>
      simp only [expand_q1, expand_q2, expand_q3, expand_q4, expand_q5, expand_q6, expand_q7, List.mem_cons, Tk.node.injEq, List.not_mem_nil, or_false] at hm
      rcases hm with rfl | rfl
      · exact ⟨k, h.1⟩
      · exact ⟨k, h.2⟩
  | alt a b =>
    cases k with
    | zero => exact h.elim
    | succ k =>
      simp only [expand_q1, expand_q2, expand_q3, expand_q4, expand_q5, expand_q6, expand_q7, List.mem_cons, Tk.node.injEq, List.not_mem_nil, or_false, reduceCtorEq, false_or] at hm
      rcases hm with rfl | rfl
      · exact ⟨k, h.1⟩
      · exact ⟨k, h.2⟩
  | group g p =>
    cases k with
    | zero => exact h.elim
    | succ k =>
      simp only [expand_q1, expand_q2, expand_q3, expand_q4, expand_q5, expand_q6, expand_q7, List.mem_cons, Tk.node.injEq, List.not_mem_nil, or_false, reduceCtorEq, false_or] at hm
      subst hm; exact ⟨k, h.2⟩
  | _ => simp [expand_q1, expand_q2, expand_q3, expand_q4, expand_q5, expand_q6, expand_q7] at hm
theorem RunI.row {s : CS} {r : Rw} {ts : List Tk} (i : RunI s (.row r :: ts)) : RunI { s with rows := s.rows ++ [r] } ts := by
  obtain ⟨⟨i1, i2⟩, i3, i4, i5, i6⟩ := i
  simp only [costs_q1, costs_n, costs_r, costs_l] at i4 i5 i6
  exact ⟨⟨i1, i2⟩, fun n hn => i3 n (.tail _ hn), by simp only []; omega, by simp only []; omega, by simp only [List.length_append, List.length_cons, List.length_nil]; omega⟩
theorem RunI.label {s : CS} {l : Nat} {ts : List Tk} (i : RunI s (.label l :: ts)) : RunI { s with places := put l s.rows.length s.places } ts := by
  obtain ⟨⟨i1, i2⟩, i3, i4, i5, i6⟩ := i
  simp only [costs_q1, costs_n, costs_r, costs_l] at i4 i5 i6
  simp only [labs_q1, labs_q2, labs_q3, labs_q4, List.nodup_cons, List.mem_cons] at i1 i2
  exact ⟨⟨i1.2, fun l hl => i2 l (.inr hl)⟩, fun n hn => i3 n (.tail _ hn), by simp only []; omega, by simp only []; omega, by simp only []; omega⟩
theorem RunI.node {folds : Bool} {s : CS} {n : Nd} {ts : List Tk} (i : RunI s (.node n :: ts)) : RunI (expand folds n s).1 ((expand folds n s).2 ++ ts) := by
  obtain ⟨i1, i3, i4, i5, i6⟩ := i
  obtain ⟨k, hk⟩ := i3 n (.head _)
  obtain ⟨a, b⟩ := expand_more (folds := folds) hk s
  have c := expand_cost folds n s
  simp only [costs_q1, costs_n, costs_r, costs_l] at i4 i5 i6
  refine ⟨i1.expand, fun m hm => ?_, by rw [costs_append]; omega, by rw [costs_append]; omega, by rw [costs_append]; omega⟩
  rcases List.mem_append.mp hm with hm | hm
  · exact expand_gen hk s hm
  · exact i3 m (.tail _ hm)
theorem Pull.out4 {h₀ h : Heap} {L D C B A : Addr} {o o' o2 o3 : Obj} {l r r' r2 r3 : List (Addr × Obj)} (N : News h₀ L h l) (P : Pull D o l r) (P' : Pull C o' r r') (P2 : Pull B o2 r' r2) (P3 : Pull A o3 r2 r3) : News h₀ L h ((D, o) :: (C, o') :: (B, o2) :: (A, o3) :: r3) := fun p hp => by
  rcases List.mem_cons.mp hp with e | hp
  · rw [e]; exact N _ (P.sub _ (.head _))
  · exact Pull.out3 (fun q hq => N q (P.sub q (.tail _ hq))) P' P2 P3 p hp
theorem dup4t {h₀ h : Heap} {L : Addr} {q q' q2 q3 : Addr × Obj} {R news : List (Addr × Obj)} (N : News h₀ L h (q :: q' :: q2 :: q3 :: R)) (hs : ∀ p ∈ news, p ∈ R) : News h₀ L h ([q, q', q2, q3] ++ (tps R ++ news)) := fun p hp => N p (by
  rcases List.mem_append.mp hp with hp | hp
  · rcases List.mem_cons.mp hp with e | hp
    · rw [e]; exact .head _
    · rcases List.mem_cons.mp hp with e | hp
      · rw [e]; exact .tail _ (.head _)
      · rcases List.mem_cons.mp hp with e | hp
        · rw [e]; exact .tail _ (.tail _ (.head _))
        · rw [List.mem_singleton.mp hp]; exact .tail _ (.tail _ (.tail _ (.head _)))
  · rcases List.mem_append.mp hp with hp | hp
    · exact .tail _ (.tail _ (.tail _ (.tail _ (tps_sub p hp))))
    · exact .tail _ (.tail _ (.tail _ (.tail _ (hs p hp)))))
theorem dict_tp {w : World} {o : Obj} {kvs : List (Int × Value)} (h : o.IsDictOf (IK w) kvs) (d : Addr) : isTp (d, o) = false := by
  obtain ⟨es, ep, hx, _⟩ := h
  have : o.cls = .type "dict" := hx.1
  simp [isTp, this]
theorem DictK.tp {w : World} {d : Addr} {o : Obj} {c : Kept} (h : DictK w d o c) : isTp (d, o) = false := let ⟨_, _, h, _⟩ := h; dict_tp h d
theorem apartT {h₀ h : Heap} {L D : Addr} {o : Obj} {l r : List (Addr × Obj)} (N : News h₀ L h l) (hm : (D, o) ∈ l) (ho : isTp (D, o) = false) (hr : ∀ p ∈ r, p ∈ l) (t : Tups r) : ∀ p ∈ r, p.1 ≠ D := by
  intro p hp e
  have h1 := (N p (hr p hp)).1
  have h2 := (N _ hm).1
  rw [e] at h1
  have h4 : p.2 = o := Option.some.inj (h1.symm.trans h2)
  have h5 := t p hp
  simp only [isTp, h4] at h5 ho
  rw [h5] at ho; cases ho
theorem fn2 {stored : List Str} {m₀ m₁ : Str → Option Value} (hm : ∀ z, stored.contains z = false → m₁ z = m₀ z) : m₁ = fun z => if stored.contains z then m₁ z else m₀ z := by
  funext z
  cases e5 : stored.contains z with
  | true => simp
  | false => simp only [Bool.false_eq_true, if_false]; exact hm z e5
end Mine
end
section
open PySem PySem.W PyProof.Rows PyProof.V
set_option Elab.async false
set_option maxRecDepth 100000
set_option maxHeartbeats 2000000
namespace Mine


theorem setup_W25_1 : True := by
  k_with_none
  k_with "mem0" => first | with_reducible exact List.mem_cons_self | (refine List.mem_cons_of_mem _ ?_; k_mem)
  k_with "all0" => first | assumption | exact fun p hp => Nat.ne_of_lt (ktn_ltOf (by assumption) p hp)
  k_with "execs cons" => (k_here; k_fold)
  k_with "eval Tuple" => (k_here; k_fold)
  k_with "eval List" => (k_here; k_fold)
  k_with "eval BinOp" => (k_here; k_fold)
  k_with "exec Assign" => (k_here; k_fold)
  k_with "eval IfExp" => (k_here; k_fold)
  k_with "binaryOp Add ref ref" => (k_here; (with_reducible show wpAny _ _ (binaryOp Operator.Add (Value.ref _) (Value.ref _)) _ _ _); k_dflt (refine' add_lists ?zzF ?zzN ?zzl ?zzb ?_ ?zzz; (case zzF => k_asm); (case zzN => k_asm); (case zzl => exact News.isList (by k_asm) (by k_mem)); (case zzb => exact News.isList (by k_asm) (by k_mem)); (case zzz => first | assumption | (simp only [List.length_cons, List.length_nil] at *; rw [sizeLine_eq] at *; omega))); intro h' F' N'; (try dsimp only))
  k_with "eval Call" => (k_here; (try k_fold); k_dflt (refine Call_ ?_))
  k_with "exec For Tuple Name cons nil" => (k_here; (rename Fr _ _ _ _ => lF'); (with_unfolding_all refine' For_turns lF' ?_; k_whole))
  k_with "exec For Tuple Call cons nil" => (k_here; (rename Fr _ _ _ _ => lF'); (with_unfolding_all refine' For_turns lF' ?_; k_whole))
  k_with "AccPost" => dsimp only [AccPost]
  k_with "same" => (intro z h1 h3; (simp only [List.contains_cons, List.contains_nil, Bool.or_false, Bool.or_eq_false_iff, beq_eq_false_iff_ne, ne_eq] at h3); (simp [h1, h3]; done))
  k_with "mem" => first | with_reducible assumption | with_reducible exact List.mem_cons_self | (refine List.mem_cons_of_mem _ ?_; walk_at "mem") | (refine List.mem_append.mpr (Or.inr ?_); walk_at "mem") | (refine List.mem_append.mpr (Or.inl ?_); walk_at "mem")
  k_with "app" => (intro p hp; walk_at "mem")
  k_with "con" => ((case B => k_asm); (case F => k_asm); (case X => k_asm); (case T => k_asm); (case k => first | exact rfl | assumption); (case d => (first | exact dlt (by assumption) _ (by first | exact Nat.le_refl _ | exact Nat.le_of_ble_eq_true rfl | decide | omega) | ((try simp only [depth_deeper]); (try dsimp only [ktrTop]); first | exact dlt (by assumption) _ (by first | exact Nat.le_refl _ | exact Nat.le_of_ble_eq_true rfl | decide | omega) | exact dlt3 (by assumption) _ (by first | exact Nat.le_refl _ | exact Nat.le_of_ble_eq_true rfl | decide | omega)) | ((try simp only [depth_deeper, recursionLimit] at *); (try dsimp only [ktrTop] at *); omega))); (case u => (first | exact ult (by assumption) _ (by first | exact Nat.le_refl _ | exact Nat.le_of_ble_eq_true rfl | decide | omega) | exact ult2 (by assumption) | ((try simp only [units_deeper]); (try dsimp only [ktrTop]); first | exact ult (by assumption) _ (by first | exact Nat.le_refl _ | exact Nat.le_of_ble_eq_true rfl | decide | omega) | exact ult2 (by assumption) | exact ult3 (by assumption) _ (by first | exact Nat.le_refl _ | exact Nat.le_of_ble_eq_true rfl | decide | omega)) | ((try simp only [units_deeper] at *); (try dsimp only [ktrTop] at *); omega))))
  k_with "enterC" => (refine' code_defC ?zzk1 ?zzk2 ?zzk3 ?zzk4 ?zzk5 ?zzkA ?zzkF ?zzkK ?zzk6 ?zzk7 ?zzk8 ?zzk9 ?zzkB ?zzkD ?_ ?zzc2 ?zzc3 ?zzc4; (case zzkA => exact rfl); (case zzkF => exact rfl); (case zzkK => assumption); (case zzk1 => k_asm); (case zzk2 => k_asm); (case zzk3 => k_asm); (case zzk4 => k_asm); (case zzk5 => k_asm); (case zzk6 => k_is); (case zzk7 => k_is); (case zzk8 => ktr_room); (case zzk9 => exact BindsTo.of_eq rfl); (case zzkB => exact rfl); (case zzkD => decide +kernel); (case zzc2 => exact rfl); (case zzc3 => exact rfl); (case zzc4 => exact rfl); k_whole; intro g' L' h' tk' cells' FG' F' N' Y' B' X' T' l1; (try k_lt l1); k_cells Y'; (try simp only [List.cons_append, List.nil_append] at N'); (try dsimp only); (try k_fold))
  k_with "con2" => ((case B2 => k_asm); (case F2 => k_asm); (case X2 => k_asm); (case T2 => k_asm); (case k2 => first | exact rfl | assumption); (case d2 => (first | exact dlt (by assumption) _ (by first | exact Nat.le_refl _ | exact Nat.le_of_ble_eq_true rfl | decide | omega) | ((try simp only [depth_deeper]); (try dsimp only [ktrTop]); first | exact dlt (by assumption) _ (by first | exact Nat.le_refl _ | exact Nat.le_of_ble_eq_true rfl | decide | omega) | exact dlt3 (by assumption) _ (by first | exact Nat.le_refl _ | exact Nat.le_of_ble_eq_true rfl | decide | omega)) | ((try simp only [depth_deeper, recursionLimit] at *); (try dsimp only [ktrTop] at *); omega))); (case u2 => (first | exact ult (by assumption) _ (by first | exact Nat.le_refl _ | exact Nat.le_of_ble_eq_true rfl | decide | omega) | exact ult2 (by assumption) | ((try simp only [units_deeper]); (try dsimp only [ktrTop]); first | exact ult (by assumption) _ (by first | exact Nat.le_refl _ | exact Nat.le_of_ble_eq_true rfl | decide | omega) | exact ult2 (by assumption) | exact ult3 (by assumption) _ (by first | exact Nat.le_refl _ | exact Nat.le_of_ble_eq_true rfl | decide | omega)) | ((try simp only [units_deeper] at *); (try dsimp only [ktrTop] at *); omega))))
  k_with "con3" => ((case B3 => k_asm); (case F3 => k_asm); (case X3 => k_asm); (case T3 => k_asm); (case k3 => first | exact rfl | assumption); (case d3 => (first | exact dlt (by assumption) _ (by first | exact Nat.le_refl _ | exact Nat.le_of_ble_eq_true rfl | decide | omega) | ((try simp only [depth_deeper]); (try dsimp only [ktrTop]); first | exact dlt (by assumption) _ (by first | exact Nat.le_refl _ | exact Nat.le_of_ble_eq_true rfl | decide | omega) | exact dlt3 (by assumption) _ (by first | exact Nat.le_refl _ | exact Nat.le_of_ble_eq_true rfl | decide | omega)) | ((try simp only [depth_deeper, recursionLimit] at *); (try dsimp only [ktrTop] at *); omega))); (case u3 => (first | exact ult (by assumption) _ (by first | exact Nat.le_refl _ | exact Nat.le_of_ble_eq_true rfl | decide | omega) | exact ult2 (by assumption) | ((try simp only [units_deeper]); (try dsimp only [ktrTop]); first | exact ult (by assumption) _ (by first | exact Nat.le_refl _ | exact Nat.le_of_ble_eq_true rfl | decide | omega) | exact ult2 (by assumption) | exact ult3 (by assumption) _ (by first | exact Nat.le_refl _ | exact Nat.le_of_ble_eq_true rfl | decide | omega)) | ((try simp only [units_deeper] at *); (try dsimp only [ktrTop] at *); omega))))
  k_with "subs" => first | exact List.forall_mem_nil _ | (refine List.forall_mem_cons.mpr ⟨?zzha, ?zzhb⟩; (case zzha => walk_at "mem"); (case zzhb => walk_at "subs")) | (refine List.forall_mem_append.mpr ⟨?_, ?_⟩ <;> walk_at "subs") | (intro p hp; walk_at "mem")
  k_with "enterF" => (refine' code_def ?zzk1 ?zzk2 ?zzk3 ?zzk4 ?zzk5 ?zzkA ?zzkF ?zzkK ?zzk6 ?zzk7 ?zzk8 ?zzk9 ?zzkB ?_ ?zzc2 ?zzc3 ?zzc4 ?zzc5; (case zzkA => exact rfl); (case zzkF => exact rfl); (case zzkK => first | exact rfl | assumption); (case zzk1 => k_asm); (case zzk2 => k_asm); (case zzk3 => k_asm); (case zzk4 => k_asm); (case zzk5 => k_asm); (case zzk6 => k_is); (case zzk7 => k_is); (case zzk8 => ktr_room); (case zzk9 => exact BindsTo.of_eq rfl); (case zzkB => exact locs rfl); (case zzc5 => decide); (case zzc2 => exact rfl); (case zzc3 => exact rfl); (case zzc4 => exact rfl); k_whole; intro g' L' h' FG' F' N' B' X' T'; (try dsimp only); (try k_fold))
  k_with "call ref" => (k_here; (with_reducible show wpAny _ _ (call (Value.ref 148) _) _ _ _); k_dflt (refine' call_cls ?zzk1 ?zzk2 ?zzk3 ?zzk4 ?zzk5 ?zzk6 ?_; (case zzk1 => k_asm); (case zzk2 => k_asm); (case zzk3 => k_asm); (case zzk4 => k_is); (case zzk5 => k_is); (case zzk6 => k_is); k_whole; intro x' d' h' F' N' l1 l2; (try k_lt l1); (try k_lt2 l2); (try k_sweep); walk_at "enterF"))
  k_with "call ref" => (k_here; (with_reducible show wpAny _ _ (call (Value.ref 66) _) _ _ _); k_dflt (refine' call_cls ?zzk1 ?zzk2 ?zzk3 ?zzk4 ?zzk5 ?zzk6 ?_; (case zzk1 => k_asm); (case zzk2 => k_asm); (case zzk3 => k_asm); (case zzk4 => k_is); (case zzk5 => k_is); (case zzk6 => k_is); k_whole; intro x' d' h' F' N' l1 l2; (try k_lt l1); (try k_lt2 l2); (try k_sweep); walk_at "enterF"))
  k_with "compareOp In str ref" => (k_here; (with_reducible show wpAny _ _ (compareOp CmpOp.In (Value.str _ _) (Value.ref _)) _ _ _); (with_unfolding_all refine' in_tuple_strs ?zzk1 ?zzk2 ?_; (case zzk1 => exact kun_topT (by k_asm) (by k_asm) (by k_is)); (case zzk2 => kde_strs); k_whole))
  k_with "call ref" => (k_here; (with_reducible show wpAny _ _ (call (Value.ref 28) _) _ _ _); k_dflt (refine wpAny_call ?_; walk_at "enterF"))
  k_with "call ref" => (k_here; (with_reducible show wpAny _ _ (call (Value.ref 21) _) _ _ _); k_dflt (refine wpAny_call ?_; walk_at "enterF"))
  k_with "pull" => first | exact Pull.head | (refine' Pull.tail ?zzb; (case zzb => walk_at "pull")) | (refine' Pull.app ?zzb; (case zzb => walk_at "pull"))
  k_with "tups" => first | assumption | exact tups_nil | (refine tups_cons ?_; walk_at "tups") | (refine tups_app ?_ ?_ <;> walk_at "tups")
  k_with "subT" => first | (refine subT_cons ?zzha ?zzhb; (case zzha => first | exact Or.inl rfl | (refine Or.inr ?_; walk_at "mem")); (case zzhb => walk_at "subT")) | (refine subT_app ?_ ?_ <;> walk_at "subT") | (intro p hp _; walk_at "mem")
  k_with "sepN" => first | assumption | exact List.forall_mem_nil _ | (refine List.forall_mem_cons.mpr ⟨?zzha, ?zzhb⟩; (case zzha => first | with_reducible assumption | (refine Ne.symm ?_; with_reducible assumption) | k_ne); (case zzhb => walk_at "sepN"))
  k_with "call builtin:list.append" => (k_here; (with_reducible show wpAny _ _ (call (Value.builtin _) [Value.ref _, _]) _ _ _); (rename News _ _ _ _ => nN); k_dflt (refine' app_lst ?zzF ?zzN ?zzs ?zzz ?_; (case zzF => k_asm); (case zzN => exact Pull.out nN (by walk_at "pull")); (case zzs => walk_at "sepN"); (case zzz => omega)); intro h' F' N')
  k_with "exec While" => (k_here; k_dflt (refine whl_start 0 ?_); refine Hold.out ?_)
  k_with "WhlRest" => refine Hold.out ?_
  k_with "call ref" => (k_here; k_dflt (show wpAny _ _ (call (Value.ref 98) _) _ _ _); refine Hold.out ?_)
  k_with "call ref" => (k_here; k_dflt (show wpAny _ _ (call (Value.ref 110) _) _ _ _); refine Hold.out ?_)
  k_with "compareOp NotEq ref ref" => (k_here; (with_reducible show wpAny _ _ (compareOp CmpOp.NotEq (Value.ref _) (Value.ref _)) _ _ _); refine Hold.out ?_)
  k_with "call builtin:list.pop" => (k_here; (with_reducible show wpAny _ _ (call (Value.builtin _) [Value.ref _]) _ _ _); refine Hold.out ?_)
  k_with "call builtin:len" => (k_here; k_dflt (refine' len_lst ?zzN ?zzm ?zzl ?_; (case zzN => k_asm); (case zzm => k_mem); (case zzl => omega)))
  k_with "setItem ref int" => (k_here; (with_reducible show wpAny _ _ (setItem (Value.ref _) (Value.int _ _) (Value.int _ _)) _ _ _); refine Hold.out ?_)
  k_with "same2" => (intro z h3; have h4 := h3; (simp only [List.contains_cons, List.contains_nil, Bool.or_false, Bool.or_eq_false_iff, beq_eq_false_iff_ne, ne_eq] at h3); (simp +zetaDelta [h3.1, h3.2]; done))
  trivial
theorem drop_tp {D : Addr} {o : Obj} {a b : List (Addr × Obj)} {p : Addr × Obj} (ho : isTp (D, o) = false) (hp : p ∈ a ++ (D, o) :: b) (ht : isTp p = true) : p ∈ a ++ b := by
  rcases List.mem_append.mp hp with h | h
  · exact List.mem_append.mpr (.inl h)
  · rcases List.mem_cons.mp h with e | h
    · rw [e, ho] at ht; cases ht
    · exact List.mem_append.mpr (.inr h)
inductive RInv (w : World) (folds : Bool) (news : List (Addr × Obj)) (sf : CS) (g0 : Heap) (L0 : Addr) (m₀ : Str → Option Value) (s : Shared) (d R P Wt : Addr) : Nat → Shared → Prop
  | mk {h : Heap} {tk : Nat} {m₁ : Str → Option Value} {tl₁ : List (Addr × Obj)} {sc : CS} {ts : List Tk} {od : Obj} {rvs tvs : List Value} {n1 : Nat} {op : Obj} {n2 : Nat} (hI : RunI sc ts) (hR : RunL folds sc ts sf) (hF : Fr g0 L0 h m₁) (hN : News g0 L0 h ([(d, od), (R, listOf (List.toArray rvs) n1), (P, op), (Wt, listOf (List.toArray tvs.reverse) n2)] ++ (tl₁ ++ news))) (hT : Tups tl₁)
    (hz : ∀ z, [Str.ofString "word", Str.ofString "thing"].contains z = false → m₁ z = m₀ z) (hO : CompO w folds R P Wt sc.labels sc.marks od) (hr : Each (RowIn (tl₁ ++ news)) rvs sc.rows) (hP : DictK w P op sc.places) (ht : Each (TaskIn (tl₁ ++ news)) tvs ts) :
    RInv w folds news sf g0 L0 m₀ s d R P Wt (costs ts) { heap := h, gens := s.gens, drawn := s.drawn, toks := tk, os := s.os }
theorem comp_attr {w : World} {A : Around} {E : Value → Shared → Prop} {s : Shared} {h₀ : Heap} {L : Addr} {m : Str → Option Value} {news : List (Addr × Obj)} {C d R P Wt : Addr} {od : Obj} {folds : Bool} {lab mark : Nat} {name : Str} {expr : Bool} {Q : Value → Shared → Prop} {v : Value} {attr : Option Value} {K : Frag} {prog : Program}
    (F : Fr h₀ L s.heap m) (X₀ : K.In h₀) (N : News h₀ L s.heap news) (hC : (C, instObj 148 d) ∈ news) (hd : (d, od) ∈ news) (hO : CompO w folds R P Wt lab mark od) (hg : plainGet K 148 name = true) (hh : hasDictIn K 148 = true) (ha : findIn K (.ref 148) name = some attr) (hn : noGet K attr = true)
    (hl : ∀ t1 t2 t3 t4 t5 t6 t7 t8, getL name [ent w "folds" t1 (.bool folds), ent w "rows" t2 (.ref R), ent w "places" t3 (.ref P), ent w "labels" t4 (.int (lab : Int) t7), ent w "marks" t5 (.int (mark : Int) t8), ent w "waiting" t6 (.ref Wt)] = some (some v))
    (hv : handedIn v = true) (h : Q v { s with toks := s.toks + 1 }) : wpAny (model prog w) A (getAttr (.ref C) name expr) Q E s := by
  obtain ⟨t1, t2, t3, t4, t5, t6, t7, t8, rfl⟩ := hO
  exact get_own F X₀ (InstAt.of_news N hC hd) hg hh ha hn (hl _ _ _ _ _ _ _ _) hv h
theorem TaskIn.parts {ns : List (Addr × Obj)} {v : Value} {t : Tk} (h : TaskIn ns v t) : ∃ a wrd tk thing, v = .ref a ∧ (a, tup [.str wrd tk, thing]) ∈ ns ∧ ((wrd = Str.ofString "row" ∧ ∃ r, t = .row r ∧ RowIn ns thing r) ∨ (wrd = Str.ofString "label" ∧ ∃ l tl, t = .label l ∧ thing = .int ((l : Nat) : Int) tl) ∨ (wrd = Str.ofString "node" ∧ ∃ n, t = .node n ∧ NodeIn ns thing n)) := by
  induction h with
  | node hm hn => exact ⟨_, _, _, _, rfl, hm, .inr (.inr ⟨rfl, _, rfl, hn⟩)⟩
  | row hm hr => exact ⟨_, _, _, _, rfl, hm, .inl ⟨rfl, _, rfl, hr⟩⟩
  | label hm => exact ⟨_, _, _, _, rfl, hm, .inr (.inl ⟨rfl, _, _, rfl, rfl⟩)⟩
theorem Fr.useL2 {G : Prop} {h₀ h : Heap} {L : Addr} {m : Str → Option Value} (F : Fr h₀ L h m) (k : let m' := m; Fr h₀ L h m' → G) : G := k F
theorem setup_W25_2 : True := by
  k_with "compareOp Eq str str" => (k_here; (rename RunMark => im'); refine Hold.out ?_)
  k_with "getAttr ref" => (k_here; k_dflt (refine' comp_attr ?zzF ?zzX ?zzN ?zzC ?zzd ?zzO ?zzg ?zzh ?zza ?zzn ?zzl ?zzv ?_; (case zzF => k_asm); (case zzX => k_asm); (case zzN => k_asm); (case zzC => walk_at "mem"); (case zzd => walk_at "mem"); (case zzO => assumption); (case zzg => k_is); (case zzh => k_is); (case zza => k_is); (case zzn => k_is); (case zzl => (intro _ _ _ _ _ _ _ _; k_get)); (case zzv => k_handed)); k_whole)
  k_with "getMethod ref" => (k_here; k_dflt (refine' comp_method ?zzF ?zzX ?zzN ?zzC ?zzd ?zzO ?zzg ?zzf ?zzt ?zzn ?_; (case zzF => k_asm); (case zzX => k_asm); (case zzN => k_asm); (case zzC => walk_at "mem"); (case zzd => walk_at "mem"); (case zzO => assumption); (case zzg => k_is); (case zzf => k_is); (case zzt => k_is); (case zzn => (intro _ _ _ _ _ _ _ _; k_get)); k_whole))
  trivial
set_option tactic.hygienic true in
theorem run_ok (w : World) (folds : Bool) (C d R P Wt : Addr) (news : List (Addr × Obj)) (n : Nd) (nv : Value) (od op : Obj) (n1 n2 k : Nat) (sf : CS) (hC : (C, instObj 148 d) ∈ news) (nd : ∀ p ∈ news, p.1 ≠ d) (nr : ∀ p ∈ news, p.1 ≠ R) (np : ∀ p ∈ news, p.1 ≠ P) (nw : ∀ p ∈ news, p.1 ≠ Wt)
    (hdR : d ≠ R) (hdP : d ≠ P) (hdW : d ≠ Wt) (hRP : R ≠ P) (hRW : R ≠ Wt) (hPW : P ≠ Wt) (hO : CompO w folds R P Wt 0 0 od) (hP : DictK w P op []) (hn : NodeIn news nv n) (hg : Gen k n) (hc : cost n ≤ 4000) (hrun : RunL folds st0 [.node n, .row .done] sf) :
    ConM w 12 105 [.ref C, nv] [(d, od), (R, listOf (List.toArray []) n1), (P, op), (Wt, listOf (List.toArray []) n2)] news (fun mu' tl r => ∃ od' rvs' n1' op' n2', mu' = [(d, od'), (R, listOf (List.toArray rvs') n1'), (P, op'), (Wt, listOf (List.toArray []) n2')] ∧ CompO w folds R P Wt sf.labels sf.marks od' ∧ Each (RowIn (tl ++ news)) rvs' sf.rows ∧ DictK w P op' sf.places ∧ Tups tl) := by
  have hO0 := hO
  unfold ConM
  k_fill
  intro pg loose mean mg mb dp un gd cn cs a ccd cl outer A₀ base h₀ L m s Q E B F X N Tp hk hd hu hret
  simp only [List.cons_append, List.nil_append] at N hret
  refine wpAny_call ?_
  k_dflt ktr_enter
  rename_i g0 L0 h0 FG0 F0 N0 B0 X0 T0
  k_steps
  refine Hold.of ?_
  rename News _ _ _ _ => nN
  have nP := Pull.out (D := Wt) nN (by walk_at "pull")
  refine' ConM.at (mu := [_]) nP (wait_ok w folds C d R P Wt _ _ 0 0 _ [] [] [_, _] n1 n2 _ (by walk_at "mem") (by walk_at "mem") (by walk_at "mem") (by walk_at "mem") (by walk_at "sepN") hO0 ?len) ?B ?F ?X ?T ?k ?d ?u ?_
  walk_at "con"
  case len => simp
  rintro r' mu' tl' h' tk' F' N' ⟨n2', rfl, rfl⟩
  simp only [List.cons_append, List.nil_append] at N'
  (try dsimp only)
  (try k_fold)
  k_steps
  refine Hold.of ?_
  rename Fr _ _ _ _ => kF
  rename News _ _ _ _ => kN
  have kN2 := Pull.out4 (D := d) (C := R) (B := P) (A := Wt) kN (by walk_at "pull") (by walk_at "pull") (by walk_at "pull") (by walk_at "pull")
  have kN3 := dup4t kN2 (show ∀ p ∈ news, p ∈ _ from by walk_at "app")
  refine Fr.useL2 kF ?_
  clear kF
  intro m₀ F1
  obtain ⟨Inv, hInv⟩ : ∃ I : Nat → Shared → Prop, I = RInv w folds news sf g0 L0 m₀ s d R P Wt := ⟨_, rfl⟩
  refine whl_ind Inv ?turn (costs [.node n, .row .done]) _ ?init
  case init =>
    refine of_eq2 hInv (.mk (sc := st0) (ts := [.node n, .row .done]) (rvs := []) (tvs := [_, _]) ?i hrun F1 kN3 (tups_tps _) (fun _ _ => rfl) hO0 .nil hP (.cons (.node (memT (by walk_at "mem")) (hn.monoT fun p hp _ => List.mem_append.mpr (.inr hp))) (.cons (.row (memT (by walk_at "mem")) (.done (memT (by walk_at "mem")))) .nil)))
    refine ⟨⟨by simp [labs_q1, labs_q2, labs_q3, labs_q4], by simp [labs_q1, labs_q2, labs_q3, labs_q4]⟩, fun m hm => ?_, ?_, ?_, ?_⟩
    · simp only [List.mem_cons, Tk.node.injEq, List.not_mem_nil, or_false, reduceCtorEq] at hm
      subst hm; exact ⟨k, hg⟩
    · simp only [costs_q1, costs_n, costs_r, costs_l, st0]; omega
    · simp only [costs_q1, costs_n, costs_r, costs_l, st0]; omega
    · simp only [costs_q1, costs_n, costs_r, costs_l, st0, List.length_nil]; omega
  case turn =>
    clear hO hO0 hP kN kN2 kN3 F1 hrun
    intro n' s' hs ih
    rw [hInv] at hs
    cases hs with
    | @mk h tk m₁ tl₁ sc ts od rvs tvs n1 op n2 hI hR hF hN hT hz hO hr hP ht =>
    rw [fn2 hz] at hF
    refine Fr.useL2 hF ?_
    clear hF
    intro mL hF
    simp only [List.cons_append, List.nil_append] at hN
    have sR : ∀ p ∈ tl₁ ++ news, p.1 ≠ R := fun p hp => (List.mem_append.mp hp).elim (fun hp => apart hN (.tail _ (.head _)) (fun q hq => .tail _ (.tail _ (.tail _ (.tail _ (List.mem_append.mpr (.inl hq)))))) hT p hp) (nr p)
    have sW : ∀ p ∈ tl₁ ++ news, p.1 ≠ Wt := fun p hp => (List.mem_append.mp hp).elim (fun hp => apart hN (.tail _ (.tail _ (.tail _ (.head _)))) (fun q hq => .tail _ (.tail _ (.tail _ (.tail _ (List.mem_append.mpr (.inl hq)))))) hT p hp) (nw p)
    have sP : ∀ p ∈ tl₁ ++ news, p.1 ≠ P := fun p hp => (List.mem_append.mp hp).elim (fun hp => apartT hN (.tail _ (.tail _ (.head _))) hP.tp (fun q hq => .tail _ (.tail _ (.tail _ (.tail _ (List.mem_append.mpr (.inl hq)))))) hT p hp) (np p)
    have sd : ∀ p ∈ tl₁ ++ news, p.1 ≠ d := fun p hp => (List.mem_append.mp hp).elim (fun hp => apartT hN (.head _) (by obtain ⟨_, _, _, _, _, _, _, _, rfl⟩ := hO; rfl) (fun q hq => .tail _ (.tail _ (.tail _ (.tail _ (List.mem_append.mpr (.inl hq)))))) hT p hp) (nd p)
    have hC1 : (C, instObj 148 d) ∈ tl₁ ++ news := List.mem_append.mpr (.inr hC)
    have hOc := hO
    have hrl := hr.length
    have htl := ht.length
    have hcl := length_costs ts
    have hb1 := hI.2.2.1
    have hb2 := hI.2.2.2.1
    have hb3 := hI.2.2.2.2
    have hzR : rvs.length < 20000 := by omega
    have hzW : tvs.length < 20000 := by omega
    refine whl_turn (k := 0) (by first | passes_own | with_unfolding_all passes_own) ?_
    rcases ts with _ | ⟨t0, ts'⟩
    case nil =>
      cases hR
      cases ht
      k_steps
      refine Hold.of ?_
      rename News _ _ _ _ => kN
      refine ne_nils (vs := []) (kN.isList (.tail _ (.tail _ (.tail _ (.tail _ (.head _)))))) (kN.isList (.head _)) ?hu ?_
      case hu => (first | exact ult (by assumption) _ (by first | exact Nat.le_refl _ | exact Nat.le_of_ble_eq_true rfl | decide | omega) | exact ult2 (by assumption) | ((try simp only [units_deeper]); (try dsimp only [ktrTop]); first | exact ult (by assumption) _ (by first | exact Nat.le_refl _ | exact Nat.le_of_ble_eq_true rfl | decide | omega) | exact ult2 (by assumption) | exact ult3 (by assumption) _ (by first | exact Nat.le_refl _ | exact Nat.le_of_ble_eq_true rfl | decide | omega)) | ((try simp only [units_deeper] at *); (try dsimp only [ktrTop] at *); omega))
      k_steps
      rename Fr _ _ _ _ => kF
      rename News _ _ _ _ => kM
      have kN2 := Pull.out4 (D := d) (C := R) (B := P) (A := Wt) kM (by walk_at "pull") (by walk_at "pull") (by walk_at "pull") (by walk_at "pull")
      exact hret _ [_, _, _, _] _ _ _ kF (dup4t kN2 (by walk_at "app")) ⟨_, rvs, n1, op, n2, rfl, hOc, hr.imp fun _ _ h => h.tps (fun p hp _ => by walk_at "mem"), hP, tups_tps _⟩
    case cons =>
      cases ht with
      | @cons v _ vs _ h1 h2 =>
      obtain ⟨a, wrd, t', thing, rfl, hm, hk3⟩ := h1.parts
      clear h1
      have rmk : RunMark := ⟨trivial⟩
      rw [List.reverse_cons] at hN
      k_steps
      refine Hold.of ?_
      rename News _ _ _ _ => kN
      refine ne_snoc (kN.isList (.tail _ (.tail _ (.tail _ (.tail _ (.head _)))))) (kN.isList (.head _)) ?hu ?_
      case hu => (first | exact ult (by assumption) _ (by first | exact Nat.le_refl _ | exact Nat.le_of_ble_eq_true rfl | decide | omega) | exact ult2 (by assumption) | ((try simp only [units_deeper]); (try dsimp only [ktrTop]); first | exact ult (by assumption) _ (by first | exact Nat.le_refl _ | exact Nat.le_of_ble_eq_true rfl | decide | omega) | exact ult2 (by assumption) | exact ult3 (by assumption) _ (by first | exact Nat.le_refl _ | exact Nat.le_of_ble_eq_true rfl | decide | omega)) | ((try simp only [units_deeper] at *); (try dsimp only [ktrTop] at *); omega))
      k_steps
      refine Hold.of ?_
      rename Fr _ _ _ _ => kF
      have kN2 := Pull.out4 (D := d) (C := R) (B := P) (A := Wt) kN (by walk_at "pull") (by walk_at "pull") (by walk_at "pull") (by walk_at "pull")
      clear kN
      refine' kl_pop kF (Pull.out (D := Wt) kN2 (by walk_at "pull")) (last_snoc _ _) (.head (by walk_at "sepN")) ?hz ?_
      case hz => (rw [sizeLine_eq]; simp only [List.length_append, List.length_reverse, List.length_cons, List.length_nil] at hzW ⊢; omega)
      intro h' F' N'
      k_steps
      refine Hold.of ?_
      rename RunMark => im2
      clear im2
      rcases hk3 with ⟨rfl, r0, rfl, hr1⟩ | ⟨rfl, l0, tl', rfl, rfl⟩ | ⟨rfl, n0, rfl, hn1⟩
      case inl =>
        have hR' : RunL folds { sc with rows := sc.rows ++ [r0] } ts' sf := RunL.inv hR
        clear hR
        k_steps
        refine Hold.of ?_
        rename Fr _ _ _ _ => kF
        rename News _ _ _ _ => kN
        have kN2 := Pull.out4 (D := d) (C := R) (B := P) (A := Wt) kN (by walk_at "pull") (by walk_at "pull") (by walk_at "pull") (by walk_at "pull")
        refine' ih _ _ ?lt (of_eq2 hInv (.mk (ts := ts') (tvs := vs) (hI.row) hR' kF (dup4t kN2 (by walk_at "app")) (tups_tps _) ?z hOc ((hr.imp fun _ _ h => h.tps (fun p hp _ => by walk_at "mem")).append (.cons (hr1.tps (fun p hp _ => by walk_at "mem")) .nil)) hP (h2.imp fun _ _ h => h.tps (fun p hp _ => by walk_at "mem"))))
        case lt => simp only [costs_q1, costs_n, costs_r, costs_l]; omega
        case z => walk_at "same2"
      case inr.inl =>
        have hR' : RunL folds { sc with places := put l0 sc.rows.length sc.places } ts' sf := RunL.inv hR
        clear hR
        k_steps
        refine Hold.of ?_
        rename Fr _ _ _ _ => kF
        rename News _ _ _ _ => kN
        have kN2 := Pull.out4 (D := P) (C := d) (B := R) (A := Wt) kN (by walk_at "pull") (by walk_at "pull") (by walk_at "pull") (by walk_at "pull")
        clear kN
        have hll : l0 ≤ sc.labels := hI.1.2 l0 (.head _)
        obtain ⟨sm, kvs, hD, hf, hkeys⟩ := hP
        have hlen := kept_len hD hf hkeys
        refine' kdf_setItem kF kN2 (.head (by walk_at "sepN")) hD hf (by omega) ?_
        intro h'' o' kvs' F'' N'' hd' hf'
        rw [hrl] at hf'
        have hP' : DictK w P o' (put l0 sc.rows.length sc.places) := ⟨sm, kvs', hd', hf', keys_put hkeys (by omega) (by omega)⟩
        clear kN2 kF
        k_steps
        refine Hold.of ?_
        rename Fr _ _ _ _ => kF
        rename News _ _ _ _ => kN
        have kN2 := Pull.out4 (D := d) (C := R) (B := P) (A := Wt) kN (by walk_at "pull") (by walk_at "pull") (by walk_at "pull") (by walk_at "pull")
        refine' ih _ _ ?lt (of_eq2 hInv (.mk (ts := ts') (tvs := vs) (hI.label) hR' kF (dup4t kN2 (by walk_at "app")) (tups_tps _) ?z hOc ((hr.imp fun _ _ h => h.tps (fun p hp _ => by walk_at "mem"))) hP' (h2.imp fun _ _ h => h.tps (fun p hp _ => by walk_at "mem"))))
        case lt => simp only [costs_q1, costs_n, costs_r, costs_l]; omega
        case z => walk_at "same2"
      case inr.inr =>
        have hl : sc.rows.length + ts'.length + (expand folds n0 sc).2.length ≤ 20000 := (RunL.inv hR).1
        have hR' : RunL folds (expand folds n0 sc).1 ((expand folds n0 sc).2 ++ ts') sf := (RunL.inv hR).2
        clear hR
        k_steps
        refine Hold.of ?_
        rename News _ _ _ _ => kN
        have kN2 := Pull.out3 (D := d) (C := R) (B := Wt) kN (by walk_at "pull") (by walk_at "pull") (by walk_at "pull")
        clear kN
        obtain ⟨kg, hg1⟩ := hI.2.1 n0 (.head _)
        refine' ConM.at (mu := [_, _, _]) kN2 (nd_all w folds kg n0 hg1 C d R P Wt _ sc _ rvs vs.reverse _ _ thing (by walk_at "mem") (by walk_at "sepN") (by walk_at "sepN") (by walk_at "sepN") hdR hdW hRW hOc (hr.imp fun _ _ h => h.monoT fun p hp _ => by walk_at "mem") (hn1.monoT fun p hp _ => by walk_at "mem") (by omega) (by omega) ?sz) ?B2 ?F2 ?X2 ?T2 ?k2 ?d2 ?u2 ?_
        walk_at "con2"
        case sz => simp only [List.length_reverse, List.length_cons] at htl hl ⊢; omega
        rintro r' mu' tl' h' tk' F' N' ⟨od', rvs', n1', n2', tvs', rfl, hO', hr', ht', hT'⟩
        simp only [List.cons_append, List.nil_append] at N'
        (try dsimp only)
        (try k_fold)
        k_steps
        refine Hold.of ?_
        rename Fr _ _ _ _ => kF
        rename News _ _ _ _ => kN
        have kN3 := Pull.out4 (D := d) (C := R) (B := P) (A := Wt) kN (by walk_at "pull") (by walk_at "pull") (by walk_at "pull") (by walk_at "pull")
        rw [← List.reverse_append] at kN3
        refine' ih _ _ ?lt (of_eq2 hInv (.mk (ts := (expand folds n0 sc).2 ++ ts') (tvs := tvs' ++ vs) (hI.node) hR' kF (dup4t kN3 (by walk_at "app")) (tups_tps _) ?z hO' ((hr'.imp fun _ _ h => h.tps (fun p hp ht2 => ?m1))) (expand_places folds n0 sc ▸ hP) ((ht'.imp fun _ _ h => h.tps (fun p hp ht2 => ?m2)).append (h2.imp fun _ _ h => h.tps (fun p hp _ => by walk_at "mem")))))
        case lt => have := expand_cost folds n0 sc; simp only [costs_q1, costs_n, costs_r, costs_l, costs_append]; omega
        case z => walk_at "same2"
        case m1 => exact drop_tp hP.tp hp ht2
        case m2 => exact drop_tp hP.tp hp ht2
end Mine
end
section
namespace Mine
noncomputable def cb : Nat → Nat
  | 0 => 1
  | k + 1 => 3 * cb k + 8
theorem cb_q1 : cb 0 = (1) := rfl
theorem cb_q2 : cb (k + 1) = (3 * cb k + 8) := rfl
theorem cb_pos : ∀ k, 1 ≤ cb k
  | 0 => Nat.le_refl _
  | k + 1 => by simp only [cb_q1, cb_q2]; omega
theorem most_cases {least : Nat} {most : Int} (hl : least ≤ 2) (hm : most = -1 ∨ ((least : Int) ≤ most ∧ most ≤ least + 1)) : (least = 0 ∨ least = 1 ∨ least = 2) ∧ ((most < 0 ∧ most = -1) ∨ (¬ most < 0 ∧ ((most - least).toNat = 0 ∨ (most - least).toNat = 1) ∧ most.toNat ≤ 3)) := by
  refine ⟨?_, ?_⟩
  · match least, hl with
    | 0, _ => exact .inl rfl
    | 1, _ => exact .inr (.inl rfl)
    | 2, _ => exact .inr (.inr rfl)
  · rcases hm with rfl | ⟨h1, h2⟩
    · exact .inl ⟨by decide, rfl⟩
    · obtain ⟨j, rfl⟩ := Int.le.dest h1
      have hj : j ≤ 1 := Int.ofNat_le.mp (Int.le_of_add_le_add_left h2)
      rw [Int.add_comm, Int.add_sub_cancel, Int.toNat_natCast, ← Int.natCast_add, Int.toNat_natCast]
      refine .inr ⟨Int.not_lt.mpr (Int.natCast_nonneg _), ?_, Nat.add_le_add hj hl⟩
      match j, hj with
      | 0, _ => exact .inl rfl
      | 1, _ => exact .inr rfl
theorem gen_cost : ∀ k n, Gen k n → cost n ≤ cb k
  | k, .chr _, _ => cb_pos k
  | k, .any, _ => cb_pos k
  | k, .set, _ => cb_pos k
  | k + 1, .seq a b, h => by
    have h1 := gen_cost k a h.1
    have h2 := gen_cost k b h.2
    simp only [cost_q1, cost_q2, cost_q3, cost_q4, cost_q5, cost_q6, cost_q7, cb_q1, cb_q2]; omega
  | k + 1, .alt a b, h => by
    have h1 := gen_cost k a h.1
    have h2 := gen_cost k b h.2
    simp only [cost_q1, cost_q2, cost_q3, cost_q4, cost_q5, cost_q6, cost_q7, cb_q1, cb_q2]; omega
  | k + 1, .group g n, h => by
    have h1 := gen_cost k n h.2
    simp only [cost_q1, cost_q2, cost_q3, cost_q4, cost_q5, cost_q6, cost_q7, cb_q1, cb_q2]; omega
  | k + 1, .times least most g n, h => by
    have h1 := gen_cost k n h.2.2
    obtain ⟨hl, hm⟩ := most_cases h.1 h.2.1
    simp only [cost_q1, cost_q2, cost_q3, cost_q4, cost_q5, cost_q6, cost_q7, cb_q1, cb_q2]
    rcases hm with ⟨hm, _⟩ | ⟨hm, h0, _⟩
    · rw [if_pos hm]; rcases hl with rfl | rfl | rfl <;> omega
    · rw [if_neg hm]; rcases h0 with e | e <;> rw [e] <;> rcases hl with rfl | rfl | rfl <;> omega
  | 0, .times .., h => h.elim
  | 0, .seq .., h => h.elim
  | 0, .alt .., h => h.elim
  | 0, .group .., h => h.elim
noncomputable def lb : Nat → Nat
  | 0 => 0
  | k + 1 => 3 * lb k + 1
theorem lb_q1 : lb 0 = (0) := rfl
theorem lb_q2 : lb (k + 1) = (3 * lb k + 1) := rfl
theorem gen_loops : ∀ k n, Gen k n → loops n ≤ lb k
  | k, .chr _, _ => Nat.zero_le _
  | k, .any, _ => Nat.zero_le _
  | k, .set, _ => Nat.zero_le _
  | k + 1, .seq a b, h => by
    have h1 := gen_loops k a h.1
    have h2 := gen_loops k b h.2
    simp only [loops_q1, loops_q2, loops_q3, loops_q4, loops_q5, loops_q6, loops_q7, lb_q1, lb_q2]; omega
  | k + 1, .alt a b, h => by
    have h1 := gen_loops k a h.1
    have h2 := gen_loops k b h.2
    simp only [loops_q1, loops_q2, loops_q3, loops_q4, loops_q5, loops_q6, loops_q7, lb_q1, lb_q2]; omega
  | k + 1, .group g n, h => by
    have h1 := gen_loops k n h.2
    simp only [loops_q1, loops_q2, loops_q3, loops_q4, loops_q5, loops_q6, loops_q7, lb_q1, lb_q2]; omega
  | k + 1, .times least most g n, h => by
    have h1 := gen_loops k n h.2.2
    obtain ⟨hl, hm⟩ := most_cases h.1 h.2.1
    simp only [loops_q1, loops_q2, loops_q3, loops_q4, loops_q5, loops_q6, loops_q7, lb_q1, lb_q2]
    rcases hm with ⟨hm, _⟩ | ⟨hm, _, h3⟩
    · rw [if_pos hm, if_pos hm]; rcases hl with rfl | rfl | rfl <;> omega
    · rw [if_neg hm, if_neg hm]
      have : most.toNat = 0 ∨ most.toNat = 1 ∨ most.toNat = 2 ∨ most.toNat = 3 := by omega
      rcases this with e | e | e | e <;> rw [e] <;> omega
  | 0, .times .., h => h.elim
  | 0, .seq .., h => h.elim
  | 0, .alt .., h => h.elim
  | 0, .group .., h => h.elim
noncomputable def zb : Nat → Nat
  | 0 => 1
  | k + 1 => 2 * zb k + 1
theorem zb_q1 : zb 0 = (1) := rfl
theorem zb_q2 : zb (k + 1) = (2 * zb k + 1) := rfl
theorem zb_pos : ∀ k, 1 ≤ zb k
  | 0 => Nat.le_refl _
  | k + 1 => by simp only [zb_q1, zb_q2]; omega
theorem gen_lsz : ∀ k n, Gen k n → lsz n ≤ zb k
  | k, .chr _, _ => zb_pos k
  | k, .any, _ => zb_pos k
  | k, .set, _ => zb_pos k
  | k + 1, .seq a b, h => by
    have h1 := gen_lsz k a h.1
    have h2 := gen_lsz k b h.2
    simp only [lsz_q1, lsz_q2, lsz_q3, lsz_q4, lsz_q5, lsz_q6, lsz_q7, zb_q1, zb_q2]; omega
  | k + 1, .alt a b, h => by
    have h1 := gen_lsz k a h.1
    have h2 := gen_lsz k b h.2
    simp only [lsz_q1, lsz_q2, lsz_q3, lsz_q4, lsz_q5, lsz_q6, lsz_q7, zb_q1, zb_q2]; omega
  | k + 1, .group g n, h => by
    have h1 := gen_lsz k n h.2
    simp only [lsz_q1, lsz_q2, lsz_q3, lsz_q4, lsz_q5, lsz_q6, lsz_q7, zb_q1, zb_q2]; omega
  | k + 1, .times least most g n, h => by
    have h1 := gen_lsz k n h.2.2
    simp only [lsz_q1, lsz_q2, lsz_q3, lsz_q4, lsz_q5, lsz_q6, lsz_q7, zb_q1, zb_q2]; omega
  | 0, .times .., h => h.elim
  | 0, .seq .., h => h.elim
  | 0, .alt .., h => h.elim
  | 0, .group .., h => h.elim
theorem gen_LB : ∀ k n, lb k ≤ 50 → Gen k n → LB n
  | k, .chr _, _, _ => trivial
  | k, .any, _, _ => trivial
  | k, .set, _, _ => trivial
  | k + 1, .seq a b, hb, h => by
    have hb' : lb k ≤ 50 := by simp only [lb_q1, lb_q2] at hb; omega
    have h1 := gen_loops k a h.1
    have h2 := gen_loops k b h.2
    exact ⟨gen_LB k a hb' h.1, gen_LB k b hb' h.2, by omega⟩
  | k + 1, .alt a b, hb, h => by
    have hb' : lb k ≤ 50 := by simp only [lb_q1, lb_q2] at hb; omega
    have h1 := gen_loops k a h.1
    have h2 := gen_loops k b h.2
    exact ⟨gen_LB k a hb' h.1, gen_LB k b hb' h.2, by omega⟩
  | k + 1, .group g n, hb, h => by
    have hb' : lb k ≤ 50 := by simp only [lb_q1, lb_q2] at hb; omega
    exact gen_LB k n hb' h.2
  | k + 1, .times least most g n, hb, h => by
    have hb' : lb k ≤ 50 := by simp only [lb_q1, lb_q2] at hb; omega
    have h1 := gen_loops k n h.2.2
    exact ⟨gen_LB k n hb' h.2.2, by omega, h.1, h.2.1⟩
  | 0, .times .., _, h => h.elim
  | 0, .seq .., _, h => h.elim
  | 0, .alt .., _, h => h.elim
  | 0, .group .., _, h => h.elim
noncomputable def db : Nat → Nat
  | 0 => 0
  | k + 1 => 7 * db k + 5
theorem db_q1 : db 0 = (0) := rfl
theorem db_q2 : db (k + 1) = (7 * db k + 5) := rfl
theorem gen_dep (T : Nat) (hT : T ≤ 4) : ∀ k n, Gen k n → dep T n ≤ db k
  | k, .chr _, _ => Nat.zero_le _
  | k, .any, _ => Nat.zero_le _
  | k, .set, _ => Nat.zero_le _
  | k + 1, .seq a b, h => by
    have h1 := gen_dep T hT k a h.1
    have h2 := gen_dep T hT k b h.2
    simp only [dep_q1, dep_q2, dep_q3, dep_q4, dep_q5, dep_q6, dep_q7, db_q1, db_q2]; omega
  | k + 1, .alt a b, h => by
    have h1 := gen_dep T hT k a h.1
    have h2 := gen_dep T hT k b h.2
    simp only [dep_q1, dep_q2, dep_q3, dep_q4, dep_q5, dep_q6, dep_q7, db_q1, db_q2]; omega
  | k + 1, .group g n, h => by
    have h1 := gen_dep T hT k n h.2
    simp only [dep_q1, dep_q2, dep_q3, dep_q4, dep_q5, dep_q6, dep_q7, db_q1, db_q2]; omega
  | k + 1, .times least most g n, h => by
    have h1 := gen_dep T hT k n h.2.2
    obtain ⟨hl, hm⟩ := most_cases h.1 h.2.1
    simp only [dep_q1, dep_q2, dep_q3, dep_q4, dep_q5, dep_q6, dep_q7, db_q1, db_q2]
    rcases hm with ⟨hm, _⟩ | ⟨hm, h0, _⟩
    · rw [if_pos hm]
      have h2 : (T + 1) * (1 + dep T n) ≤ 5 * (1 + dep T n) := Nat.mul_le_mul_right _ (by omega)
      rcases hl with rfl | rfl | rfl <;> omega
    · rw [if_neg hm]; rcases h0 with e | e <;> rw [e] <;> rcases hl with rfl | rfl | rfl <;> omega
  | 0, .times .., h => h.elim
  | 0, .seq .., h => h.elim
  | 0, .alt .., h => h.elim
  | 0, .group .., h => h.elim
noncomputable def pb : Nat → Nat
  | 0 => 3
  | k + 1 => 2 * pb k + 12
theorem pb_q1 : pb 0 = (3) := rfl
theorem pb_q2 : pb (k + 1) = (2 * pb k + 12) := rfl
theorem pb_pos : ∀ k, 3 ≤ pb k
  | 0 => Nat.le_refl _
  | k + 1 => by have := pb_pos k; simp only [pb_q1, pb_q2]; omega
theorem gen_pysz (T : Nat) (hT : T ≤ 4) : ∀ k n, Gen k n → pysz T n ≤ pb k
  | k, .chr _, _ => by have := pb_pos k; simp only [pysz_q1, pysz_q2, pysz_q3, pysz_q4, pysz_q5, pysz_q6, pysz_q7]; omega
  | k, .any, _ => by have := pb_pos k; simp only [pysz_q1, pysz_q2, pysz_q3, pysz_q4, pysz_q5, pysz_q6, pysz_q7]; omega
  | k, .set, _ => by have := pb_pos k; simp only [pysz_q1, pysz_q2, pysz_q3, pysz_q4, pysz_q5, pysz_q6, pysz_q7]; omega
  | k + 1, .seq a b, h => by
    have h1 := gen_pysz T hT k a h.1
    have h2 := gen_pysz T hT k b h.2
    simp only [pysz_q1, pysz_q2, pysz_q3, pysz_q4, pysz_q5, pysz_q6, pysz_q7, pb_q1, pb_q2]; omega
  | k + 1, .alt a b, h => by
    have h1 := gen_pysz T hT k a h.1
    have h2 := gen_pysz T hT k b h.2
    simp only [pysz_q1, pysz_q2, pysz_q3, pysz_q4, pysz_q5, pysz_q6, pysz_q7, pb_q1, pb_q2]; omega
  | k + 1, .group g n, h => by
    have h1 := gen_pysz T hT k n h.2
    simp only [pysz_q1, pysz_q2, pysz_q3, pysz_q4, pysz_q5, pysz_q6, pysz_q7, pb_q1, pb_q2]; omega
  | k + 1, .times least most g n, h => by
    have h1 := gen_pysz T hT k n h.2.2
    simp only [pysz_q1, pysz_q2, pysz_q3, pysz_q4, pysz_q5, pysz_q6, pysz_q7, pb_q1, pb_q2]; omega
  | 0, .times .., h => h.elim
  | 0, .seq .., h => h.elim
  | 0, .alt .., h => h.elim
  | 0, .group .., h => h.elim
noncomputable def wb : Nat → Nat
  | 0 => 1
  | k + 1 => wb k ^ 2 * geo (wb k) 4 + 2 * wb k
theorem wb_q1 : wb 0 = (1) := rfl
theorem wb_q2 : wb (k + 1) = (wb k ^ 2 * geo (wb k) 4 + 2 * wb k) := rfl
theorem wb_pos : ∀ k, 1 ≤ wb k
  | 0 => Nat.le_refl _
  | k + 1 => by have := wb_pos k; simp only [wb_q1, wb_q2]; omega
theorem geo_mono2 {a b : Nat} (h : a ≤ b) : ∀ n, geo a n ≤ geo b n
  | 0 => Nat.le_refl _
  | n + 1 => by
    have h1 := Nat.mul_le_mul h (geo_mono2 h n)
    show 1 + a * geo a n ≤ 1 + b * geo b n
    omega
theorem sq_geo {a : Nat} (h : 1 ≤ a) : a * a ≤ a ^ 2 * geo a 4 ∧ (1 + a) * a ^ 2 ≤ a ^ 2 * geo a 4 := by
  have h1 : 1 + a ≤ geo a 4 := by
    show 1 + a ≤ 1 + a * geo a 3
    have := Nat.mul_le_mul_left a (geo_pos a 3)
    omega
  have h2 : a ^ 2 = a * a := by rw [Nat.pow_succ, Nat.pow_succ, Nat.pow_zero, Nat.one_mul]
  constructor
  · rw [← h2]; exact Nat.le_mul_of_pos_right _ (geo_pos a 4)
  · rw [Nat.mul_comm]; exact Nat.mul_le_mul_left _ h1
theorem gen_wid (T : Nat) (hT : T ≤ 4) : ∀ k n, Gen k n → wid T n ≤ wb k
  | k, .chr _, _ => wb_pos k
  | k, .any, _ => wb_pos k
  | k, .set, _ => wb_pos k
  | k + 1, .seq a b, h => by
    have h1 := gen_wid T hT k a h.1
    have h2 := gen_wid T hT k b h.2
    have h3 := Nat.mul_le_mul h1 h2
    have h4 := (sq_geo (wb_pos k)).1
    simp only [wid_q1, wid_q2, wid_q3, wid_q4, wb_q1, wb_q2]; omega
  | k + 1, .alt a b, h => by
    have h1 := gen_wid T hT k a h.1
    have h2 := gen_wid T hT k b h.2
    simp only [wid_q1, wid_q2, wid_q3, wid_q4, wb_q1, wb_q2]; omega
  | k + 1, .group g n, h => by
    have h1 := gen_wid T hT k n h.2
    simp only [wid_q1, wid_q2, wid_q3, wid_q4, wb_q1, wb_q2]; omega
  | k + 1, .times least most g n, h => by
    have h1 := gen_wid T hT k n h.2.2
    have h0 := wb_pos k
    obtain ⟨hl, hm⟩ := most_cases h.1 h.2.1
    have h2 : wid T n ^ least ≤ wb k ^ 2 := Nat.le_trans (Nat.pow_le_pow_left h1 _) (Nat.pow_le_pow_right h0 h.1)
    have h4 := (sq_geo (wb_pos k)).2
    simp only [wid_q1, wid_q2, wid_q3, wid_q4, wb_q1, wb_q2]
    rcases hm with ⟨hm, _⟩ | ⟨hm, h0, _⟩
    · rw [if_pos hm]
      have h3 := Nat.mul_le_mul h2 (Nat.le_trans (geo_mono2 h1 T) (geo_mono _ hT))
      omega
    · rw [if_neg hm]
      have h3 : (1 + wid T n) ^ (most - least).toNat ≤ 1 + wb k := by rcases h0 with e | e <;> rw [e] <;> simp <;> omega
      have h5 := Nat.mul_le_mul h2 h3
      rw [Nat.mul_comm (wb k ^ 2) (1 + wb k)] at h5
      omega
  | 0, .times .., h => h.elim
  | 0, .seq .., h => h.elim
  | 0, .alt .., h => h.elim
  | 0, .group .., h => h.elim
theorem wb_mono (k : Nat) : wb k ≤ wb (k + 1) := by
  have := wb_pos k
  simp only [wb_q1, wb_q2]; omega
theorem gen_Good (T : Nat) (hT : T ≤ 4) : ∀ k n, wb k ≤ 1000000 → Gen k n → Good T n
  | k, .chr c, _, h => by
    have h : c = 97 ∨ c = 98 ∨ c = 65 := by rw [gen_chr] at h; exact h
    show 0 ≤ c ∧ c < 1000
    omega
  | k, .any, _, _ => trivial
  | k, .set, _, _ => trivial
  | k + 1, .seq a b, hb, h => ⟨gen_Good T hT k a (Nat.le_trans (wb_mono k) hb) h.1, gen_Good T hT k b (Nat.le_trans (wb_mono k) hb) h.2, Nat.le_trans (gen_wid T hT (k + 1) _ h) hb⟩
  | k + 1, .alt a b, hb, h => ⟨gen_Good T hT k a (Nat.le_trans (wb_mono k) hb) h.1, gen_Good T hT k b (Nat.le_trans (wb_mono k) hb) h.2, Nat.le_trans (gen_wid T hT (k + 1) _ h) hb⟩
  | k + 1, .group g n, hb, h => ⟨h.1, gen_Good T hT k n (Nat.le_trans (wb_mono k) hb) h.2, Nat.le_trans (gen_wid T hT (k + 1) _ h) hb⟩
  | k + 1, .times least most g n, hb, h => ⟨h.1, h.2.1, gen_Good T hT k n (Nat.le_trans (wb_mono k) hb) h.2.2, Nat.le_trans (gen_wid T hT (k + 1) _ h) hb⟩
  | 0, .times .., _, h => h.elim
  | 0, .seq .., _, h => h.elim
  | 0, .alt .., _, h => h.elim
  | 0, .group .., _, h => h.elim
theorem gen_ok : ∀ k n, Gen k n → n.ok
  | k, .chr c, h => by
    show c = 97 ∨ c = 98 ∨ c = 65
    rw [gen_chr] at h; exact h
  | k, .any, _ => trivial
  | k, .set, _ => trivial
  | k + 1, .seq a b, h => ⟨gen_ok k a h.1, gen_ok k b h.2⟩
  | k + 1, .alt a b, h => ⟨gen_ok k a h.1, gen_ok k b h.2⟩
  | k + 1, .group g n, h => gen_ok k n h.2
  | k + 1, .times least most g n, h => ⟨gen_ok k n h.2.2, by have := h.2.1; omega⟩
  | 0, .times .., h => h.elim
  | 0, .seq .., h => h.elim
  | 0, .alt .., h => h.elim
  | 0, .group .., h => h.elim
/-! what the run keeps -/
noncomputable def Tk.fine : Tk → Prop
  | .row r => r.fine
  | .node n => ∃ k, Gen k n
  | .label _ => True
theorem fine_spl (g : Bool) (a b : Nat) : (spl g a b).fine := by cases g <;> trivial
theorem fold1_gen {c : Int} (folds : Bool) (h : c = 97 ∨ c = 98 ∨ c = 65) : 0 ≤ foldIf folds c ∧ foldIf folds c < 1000 := by
  rcases h with rfl | rfl | rfl <;> cases folds <;> decide
/-- what holds of rows, marks and places all along -/
noncomputable def RowI (s : CS) (ts : List Tk) : Prop := (∀ r ∈ s.rows, r.fine) ∧ (∀ t ∈ ts, t.fine) ∧ s.marks + costs ts ≤ 18000 ∧ s.rows.length + costs ts ≤ 18000 ∧ ∀ l q, get l s.places = some q → 0 ≤ q
theorem fine_nil (t : Tk) (h : t ∈ ([] : List Tk)) : t.fine := (List.not_mem_nil h).elim
theorem fine_cons {x : Tk} {l : List Tk} (hx : x.fine) (hl : ∀ t ∈ l, t.fine) (t : Tk) (ht : t ∈ x :: l) : t.fine := (List.mem_cons.mp ht).elim (fun e => e ▸ hx) (hl t)
theorem fine_app {l m : List Tk} (hl : ∀ t ∈ l, t.fine) (hm : ∀ t ∈ m, t.fine) (t : Tk) (ht : t ∈ l ++ m) : t.fine := (List.mem_append.mp ht).elim (hl t) (hm t)
theorem fine_rep {x : Tk} (hx : x.fine) (n : Nat) (t : Tk) (ht : t ∈ List.replicate n x) : t.fine := List.eq_of_mem_replicate ht ▸ hx
theorem fine_row {x : Rw} {l : List Rw} (hl : ∀ r ∈ l, r.fine) (hx : x.fine) (r : Rw) (hr : r ∈ l ++ [x]) : r.fine := (List.mem_append.mp hr).elim (hl r) fun e => List.mem_singleton.mp e ▸ hx
theorem opt_fine {g : Bool} {e : Nat} {p : Nd} (hp : ∃ k, Gen k p) : ∀ n l, ∀ t ∈ optTasks g e p n l, t.fine
  | 0, _ => fine_nil
  | n + 1, _ => fine_cons (fine_spl _ _ _) (fine_cons trivial (fine_cons hp (opt_fine hp n _)))
theorem expand_fine {folds : Bool} {k : Nat} {n : Nd} (h : Gen k n) (s : CS) (hm : s.marks < 20000) (hr : ∀ r ∈ s.rows, r.fine) : (∀ r ∈ (expand folds n s).1.rows, r.fine) ∧ (∀ t ∈ (expand folds n s).2, t.fine) ∧ (expand folds n s).1.marks ≤ s.marks + 1 := by
  match k, n, h with
  | k, .chr c, h =>
    rw [gen_chr] at h
    exact ⟨fine_row hr (fold1_gen folds h), fine_nil, Nat.le_succ _⟩
  | _, .any, _ => exact ⟨fine_row hr trivial, fine_nil, Nat.le_succ _⟩
  | _, .set, _ => exact ⟨fine_row hr trivial, fine_nil, Nat.le_succ _⟩
  | k + 1, .seq a b, h => exact ⟨hr, fine_cons ⟨k, h.1⟩ (fine_cons ⟨k, h.2⟩ fine_nil), Nat.le_succ _⟩
  | k + 1, .alt a b, h => exact ⟨hr, fine_cons trivial (fine_cons trivial (fine_cons ⟨k, h.1⟩ (fine_cons trivial (fine_cons trivial (fine_cons ⟨k, h.2⟩ (fine_cons trivial fine_nil)))))), Nat.le_succ _⟩
  | k + 1, .group g p, h =>
    have := h.1
    exact ⟨hr, fine_cons (show 2 * g < 20000 by omega) (fine_cons ⟨k, h.2⟩ (fine_cons (show 2 * g + 1 < 20000 by omega) fine_nil)), Nat.le_succ _⟩
  | k + 1, .times least most g p, h =>
    have hp : (Tk.node p).fine := ⟨k, h.2.2⟩
    rw [expand_q7]
    by_cases hneg : most < 0
    · rw [if_pos hneg]
      exact ⟨hr, fine_app (fine_rep hp _) (fine_cons trivial (fine_cons (fine_spl _ _ _) (fine_cons trivial (fine_cons hm (fine_cons hp (fine_cons hm (fine_cons trivial (fine_cons trivial fine_nil)))))))), Nat.le_refl _⟩
    · rw [if_neg hneg]
      exact ⟨hr, fine_app (fine_rep hp _) (fine_app (opt_fine ⟨k, h.2.2⟩ _ _) (fine_cons trivial fine_nil)), Nat.le_succ _⟩
  | 0, .times .., h => exact h.elim
  | 0, .seq .., h => exact h.elim
  | 0, .alt .., h => exact h.elim
  | 0, .group .., h => exact h.elim
theorem rowi_row {m c : Nat} (h : m + (1 + c) ≤ 18000) : m + c ≤ 18000 := Nat.le_trans (Nat.add_le_add_left (Nat.le_add_left _ _) m) h
theorem rowi_row2 {m c : Nat} (h : m + (1 + c) ≤ 18000) : m + 1 + c ≤ 18000 := Nat.add_assoc m 1 c ▸ h
theorem RunL.rowI {folds : Bool} {s : CS} {ts : List Tk} {s' : CS} (h : RunL folds s ts s') : RowI s ts → RowI s' [] := by
  induction h with
  | nil => exact id
  | @row s r ts s' _ ih =>
    exact fun ⟨a, b, c, d, e⟩ => ih ⟨fine_row a (b _ (.head _)), fun t ht => b t (.tail _ ht), rowi_row c, by rw [List.length_append]; exact rowi_row2 d, e⟩
  | @label s l ts s' _ ih =>
    refine fun ⟨a, b, c, d, e⟩ => ih ⟨a, fun t ht => b t (.tail _ ht), rowi_row c, rowi_row d, fun x q hq => ?_⟩
    by_cases hx : x = l
    · subst hx
      exact Option.some.inj ((get_put_self _ _ _).symm.trans hq) ▸ Int.natCast_nonneg _
    · exact e x q ((get_put_ne _ hx _).symm.trans hq)
  | @node s n ts s' _ _ ih =>
    rintro ⟨a, b, c, d, e⟩
    obtain ⟨k, hk⟩ := b _ (.head _)
    have hc := expand_cost folds n s
    simp only [costs_n] at c d
    obtain ⟨f1, f2, f3⟩ := expand_fine (folds := folds) hk s (by omega) a
    exact ih ⟨f1, fine_app f2 fun t ht => b t (.tail _ ht), by rw [costs_append]; omega, by rw [costs_append]; omega, by rw [expand_places]; exact e⟩
theorem settle_fine {P : Kept} {r : Rw} (h : r.fine) : (settle P r).fine := by
  cases r <;> first | trivial | exact h
end Mine
end
section
open PySem PySem.W PyProof.Rows PyProof.V
set_option Elab.async false
set_option maxRecDepth 100000
namespace Mine
section
variable {prog : Program} {w : World} {A : Around} {E : Value → Shared → Prop} {s : Shared} {env : Env} {h₀ : Heap} {target : Expr} {body : List Stmt} {Q : Flow → Shared → Prop}
theorem turns_acc2 {ax : Addr} {vs : List Value} {n : Nat} {m₀ : Str → Option Value} {news all : List (Addr × Obj)} {y : Str} {fv₀ : Value} (stored : List Str) (Inv : List Value → List (Addr × Obj) → Value → Prop)
    (hh : A.handled = none) (F : Fr h₀ env.locals s.heap m₀) (N : News h₀ env.locals s.heap all) (hs : ∀ p ∈ news, p ∈ all) (hm : (ax, listOf vs.toArray n) ∈ news) (hy : m₀ y = some fv₀) (h0 : Inv vs all fv₀)
    (turn : ∀ v r fv (u : Str → Option Value) news₁ I o h tk, Inv (v :: r) news₁ fv → (∀ p ∈ news, p ∈ news₁) → isPl (I, o) = false → (∀ p ∈ news, p.1 < I) → Fr h₀ env.locals h (fun z => if z = y then some fv else if stored.contains z then u z else m₀ z) → News h₀ env.locals h ((I, o) :: news₁) →
      wpAny (model prog w) A (assign target env v) (fun _ s₂ => wpAny (model prog w) A (execs body env) (AccPost h₀ env.locals { s with heap := h, toks := tk } I o y stored m₀ news (Inv r) Q) E s₂) E { s with heap := h, toks := tk })
    (done : ∀ fv (u : Str → Option Value) news₁ h tk, Inv [] news₁ fv → (∀ p ∈ news, p ∈ news₁) → Fr h₀ env.locals h (fun z => if z = y then some fv else if stored.contains z then u z else m₀ z) → News h₀ env.locals h news₁ → Q .next { s with heap := h, toks := tk }) :
    wpAny (model prog w) A (pyIter (.ref ax)) (fun it s₂ => TurnsAt prog w A h₀ env target body Q E it s₂) E s :=
  iter_listTurns hh F N (hs _ hm) rfl rfl fun I hlt => acc_rest stored Inv (fun o ho a => by simp [isPl, ho]) hm (fun p hp => hlt p (hs p hp)) turn done vs m₀ all fv₀ hy (fun _ _ _ => rfl) hs h0
end
theorem pullM {h₀ h : Heap} {L D : Addr} {o : Obj} {l : List (Addr × Obj)} (hm : (D, o) ∈ l) (N : News h₀ L h l) : News h₀ L h ((D, o) :: Rest D l) := fun p hp => by
  rcases List.mem_cons.mp hp with e | hp
  · rw [e]; exact N _ hm
  · exact N p (List.mem_filter.mp hp).1
theorem off_rest1' {D : Addr} {l : List (Addr × Obj)} {p : Addr × Obj} (hp : p ∈ Rest D l) : p.1 ≠ D := by
  have := (List.mem_filter.mp hp).2
  simpa using this
theorem regroup {h₀ h : Heap} {L Dk : Addr} {o' : Obj} {E ns : List (Addr × Obj)} (N : News h₀ L h ((Dk, o') :: Rest Dk (E ++ ns))) (hE : ∀ p ∈ E, p.1 ≠ Dk) : News h₀ L h (E ++ ((Dk, o') :: Rest Dk ns)) := fun p hp => by
  rcases List.mem_append.mp hp with hp | hp
  · exact N p (.tail _ (mem_rest (List.mem_append.mpr (.inl hp)) (hE p hp)))
  · rcases List.mem_cons.mp hp with e | hp
    · rw [e]; exact N _ (.head _)
    · exact N p (.tail _ (mem_rest (List.mem_append.mpr (.inr (List.mem_filter.mp hp).1)) (off_rest1' hp)))
theorem ints_snoc {ys : List Value} {cs : List Int} (h : IntsAre ys cs) (c : Int) (t : Tok) : IntsAre (ys ++ [.int c t]) (cs ++ [c]) := by
  induction h with
  | nil => exact .cons c t .nil
  | cons i u _ ih => exact .cons i u ih
theorem pick4 {h₀ h : Heap} {L : Addr} {l : List (Addr × Obj)} {a b c d : Addr × Obj} (N : News h₀ L h l) (h1 : a ∈ l) (h2 : b ∈ l) (h3 : c ∈ l) (h4 : d ∈ l) : News h₀ L h [a, b, c, d] := fun p hp => N p (by
  simp only [List.mem_cons, List.not_mem_nil, or_false] at hp
  rcases hp with rfl | rfl | rfl | rfl <;> assumption)
theorem inN {h₀ h : Heap} {L : Addr} {l : List (Addr × Obj)} (_N : News h₀ L h l) (D : Addr) (o : Obj) (h : (D, o) ∈ l) : (D, o) ∈ l := h
theorem off_rest1 {D : Addr} {l : List (Addr × Obj)} : ∀ p ∈ Rest D l, p.1 ≠ D := fun p hp => by
  have := (List.mem_filter.mp hp).2
  simpa using this
theorem ne_of_pl {h₀ h : Heap} {L D I : Addr} {o o' : Obj} {l : List (Addr × Obj)} (N : News h₀ L h l) (hI : (I, o) ∈ l) (hD : (D, o') ∈ l) (h1 : isPl (I, o) = false) (h2 : isPl (D, o') = true) : I ≠ D := by
  intro e
  subst e
  have a := (N _ hI).1
  have b := (N _ hD).1
  have e : o = o' := Option.some.inj (a.symm.trans b)
  subst e
  rw [isPl] at h1 h2
  rw [h1] at h2; cases h2
theorem pl_of_tp {p : Addr × Obj} (h : isTp p = true) : isPl p = true := by
  unfold isTp at h
  unfold isPl
  rw [h]; rfl
theorem ne_of_tp {h₀ h : Heap} {L D I : Addr} {o o' : Obj} {l : List (Addr × Obj)} (N : News h₀ L h l) (hI : (I, o) ∈ l) (hD : (D, o') ∈ l) (h1 : isTp (I, o) = true) (h2 : isTp (D, o') = false) : I ≠ D := by
  intro e
  subst e
  have a := (N _ hI).1
  have b := (N _ hD).1
  have e : o = o' := Option.some.inj (a.symm.trans b)
  subst e
  rw [isTp] at h1 h2
  rw [h1] at h2; cases h2
end Mine
end
section
open PySem PySem.W PyProof.Rows PyProof.V
set_option Elab.async false
set_option maxRecDepth 100000
set_option maxHeartbeats 2000000
namespace Mine

theorem setup_W26_1 : True := by
  k_with_none
  k_with "mem0" => first | with_reducible exact List.mem_cons_self | (refine List.mem_cons_of_mem _ ?_; k_mem)
  k_with "all0" => first | assumption | exact fun p hp => Nat.ne_of_lt (ktn_ltOf (by assumption) p hp)
  k_with "execs cons" => (k_here; k_fold)
  k_with "eval Tuple" => (k_here; k_fold)
  k_with "eval List" => (k_here; k_fold)
  k_with "eval BinOp" => (k_here; k_fold)
  k_with "exec Assign" => (k_here; k_fold)
  k_with "eval IfExp" => (k_here; k_fold)
  k_with "binaryOp Add ref ref" => (k_here; (with_reducible show wpAny _ _ (binaryOp Operator.Add (Value.ref _) (Value.ref _)) _ _ _); k_dflt (refine' add_lists ?zzF ?zzN ?zzl ?zzb ?_ ?zzz; (case zzF => k_asm); (case zzN => k_asm); (case zzl => exact News.isList (by k_asm) (by k_mem)); (case zzb => exact News.isList (by k_asm) (by k_mem)); (case zzz => first | assumption | (simp only [List.length_cons, List.length_nil] at *; rw [sizeLine_eq] at *; omega))); intro h' F' N'; (try dsimp only))
  k_with "eval Call" => (k_here; (try k_fold); k_dflt (refine Call_ ?_))
  k_with "exec For Tuple Name cons nil" => (k_here; (rename Fr _ _ _ _ => lF'); (with_unfolding_all refine' For_turns lF' ?_; k_whole))
  k_with "exec For Tuple Call cons nil" => (k_here; (rename Fr _ _ _ _ => lF'); (with_unfolding_all refine' For_turns lF' ?_; k_whole))
  k_with "AccPost" => dsimp only [AccPost]
  k_with "same" => (intro z h1 h3; (simp only [List.contains_cons, List.contains_nil, Bool.or_false, Bool.or_eq_false_iff, beq_eq_false_iff_ne, ne_eq] at h3); (simp [h1, h3]; done))
  k_with "mem" => first | with_reducible assumption | with_reducible exact List.mem_cons_self | (refine List.mem_cons_of_mem _ ?_; walk_at "mem") | (refine List.mem_append.mpr (Or.inr ?_); walk_at "mem") | (refine List.mem_append.mpr (Or.inl ?_); walk_at "mem")
  k_with "app" => (intro p hp; walk_at "mem")
  k_with "con" => ((case B => k_asm); (case F => k_asm); (case X => k_asm); (case T => k_asm); (case k => first | exact rfl | assumption); (case d => (first | exact dlt (by assumption) _ (by first | exact Nat.le_refl _ | exact Nat.le_of_ble_eq_true rfl | decide | omega) | ((try simp only [depth_deeper]); (try dsimp only [ktrTop]); first | exact dlt (by assumption) _ (by first | exact Nat.le_refl _ | exact Nat.le_of_ble_eq_true rfl | decide | omega) | exact dlt3 (by assumption) _ (by first | exact Nat.le_refl _ | exact Nat.le_of_ble_eq_true rfl | decide | omega)) | ((try simp only [depth_deeper, recursionLimit] at *); (try dsimp only [ktrTop] at *); omega))); (case u => (first | exact ult (by assumption) _ (by first | exact Nat.le_refl _ | exact Nat.le_of_ble_eq_true rfl | decide | omega) | exact ult2 (by assumption) | ((try simp only [units_deeper]); (try dsimp only [ktrTop]); first | exact ult (by assumption) _ (by first | exact Nat.le_refl _ | exact Nat.le_of_ble_eq_true rfl | decide | omega) | exact ult2 (by assumption) | exact ult3 (by assumption) _ (by first | exact Nat.le_refl _ | exact Nat.le_of_ble_eq_true rfl | decide | omega)) | ((try simp only [units_deeper] at *); (try dsimp only [ktrTop] at *); omega))))
  k_with "enterC" => (refine' code_defC ?zzk1 ?zzk2 ?zzk3 ?zzk4 ?zzk5 ?zzkA ?zzkF ?zzkK ?zzk6 ?zzk7 ?zzk8 ?zzk9 ?zzkB ?zzkD ?_ ?zzc2 ?zzc3 ?zzc4; (case zzkA => exact rfl); (case zzkF => exact rfl); (case zzkK => assumption); (case zzk1 => k_asm); (case zzk2 => k_asm); (case zzk3 => k_asm); (case zzk4 => k_asm); (case zzk5 => k_asm); (case zzk6 => k_is); (case zzk7 => k_is); (case zzk8 => ktr_room); (case zzk9 => exact BindsTo.of_eq rfl); (case zzkB => exact rfl); (case zzkD => decide +kernel); (case zzc2 => exact rfl); (case zzc3 => exact rfl); (case zzc4 => exact rfl); k_whole; intro g' L' h' tk' cells' FG' F' N' Y' B' X' T' l1; (try k_lt l1); k_cells Y'; (try simp only [List.cons_append, List.nil_append] at N'); (try dsimp only); (try k_fold))
  k_with "con2" => ((case B2 => k_asm); (case F2 => k_asm); (case X2 => k_asm); (case T2 => k_asm); (case k2 => first | exact rfl | assumption); (case d2 => (first | exact dlt (by assumption) _ (by first | exact Nat.le_refl _ | exact Nat.le_of_ble_eq_true rfl | decide | omega) | ((try simp only [depth_deeper]); (try dsimp only [ktrTop]); first | exact dlt (by assumption) _ (by first | exact Nat.le_refl _ | exact Nat.le_of_ble_eq_true rfl | decide | omega) | exact dlt3 (by assumption) _ (by first | exact Nat.le_refl _ | exact Nat.le_of_ble_eq_true rfl | decide | omega)) | ((try simp only [depth_deeper, recursionLimit] at *); (try dsimp only [ktrTop] at *); omega))); (case u2 => (first | exact ult (by assumption) _ (by first | exact Nat.le_refl _ | exact Nat.le_of_ble_eq_true rfl | decide | omega) | exact ult2 (by assumption) | ((try simp only [units_deeper]); (try dsimp only [ktrTop]); first | exact ult (by assumption) _ (by first | exact Nat.le_refl _ | exact Nat.le_of_ble_eq_true rfl | decide | omega) | exact ult2 (by assumption) | exact ult3 (by assumption) _ (by first | exact Nat.le_refl _ | exact Nat.le_of_ble_eq_true rfl | decide | omega)) | ((try simp only [units_deeper] at *); (try dsimp only [ktrTop] at *); omega))))
  k_with "con3" => ((case B3 => k_asm); (case F3 => k_asm); (case X3 => k_asm); (case T3 => k_asm); (case k3 => first | exact rfl | assumption); (case d3 => (first | exact dlt (by assumption) _ (by first | exact Nat.le_refl _ | exact Nat.le_of_ble_eq_true rfl | decide | omega) | ((try simp only [depth_deeper]); (try dsimp only [ktrTop]); first | exact dlt (by assumption) _ (by first | exact Nat.le_refl _ | exact Nat.le_of_ble_eq_true rfl | decide | omega) | exact dlt3 (by assumption) _ (by first | exact Nat.le_refl _ | exact Nat.le_of_ble_eq_true rfl | decide | omega)) | ((try simp only [depth_deeper, recursionLimit] at *); (try dsimp only [ktrTop] at *); omega))); (case u3 => (first | exact ult (by assumption) _ (by first | exact Nat.le_refl _ | exact Nat.le_of_ble_eq_true rfl | decide | omega) | exact ult2 (by assumption) | ((try simp only [units_deeper]); (try dsimp only [ktrTop]); first | exact ult (by assumption) _ (by first | exact Nat.le_refl _ | exact Nat.le_of_ble_eq_true rfl | decide | omega) | exact ult2 (by assumption) | exact ult3 (by assumption) _ (by first | exact Nat.le_refl _ | exact Nat.le_of_ble_eq_true rfl | decide | omega)) | ((try simp only [units_deeper] at *); (try dsimp only [ktrTop] at *); omega))))
  k_with "enterF" => (refine' code_def ?zzk1 ?zzk2 ?zzk3 ?zzk4 ?zzk5 ?zzkA ?zzkF ?zzkK ?zzk6 ?zzk7 ?zzk8 ?zzk9 ?zzkB ?_ ?zzc2 ?zzc3 ?zzc4 ?zzc5; (case zzkA => exact rfl); (case zzkF => exact rfl); (case zzkK => first | exact rfl | assumption); (case zzk1 => k_asm); (case zzk2 => k_asm); (case zzk3 => k_asm); (case zzk4 => k_asm); (case zzk5 => k_asm); (case zzk6 => k_is); (case zzk7 => k_is); (case zzk8 => ktr_room); (case zzk9 => exact BindsTo.of_eq rfl); (case zzkB => exact locs rfl); (case zzc5 => decide); (case zzc2 => exact rfl); (case zzc3 => exact rfl); (case zzc4 => exact rfl); k_whole; intro g' L' h' FG' F' N' B' X' T'; (try dsimp only); (try k_fold))
  k_with "call ref" => (k_here; (with_reducible show wpAny _ _ (call (Value.ref 148) _) _ _ _); k_dflt (refine' call_cls ?zzk1 ?zzk2 ?zzk3 ?zzk4 ?zzk5 ?zzk6 ?_; (case zzk1 => k_asm); (case zzk2 => k_asm); (case zzk3 => k_asm); (case zzk4 => k_is); (case zzk5 => k_is); (case zzk6 => k_is); k_whole; intro x' d' h' F' N' l1 l2; (try k_lt l1); (try k_lt2 l2); (try k_sweep); walk_at "enterF"))
  k_with "call ref" => (k_here; (with_reducible show wpAny _ _ (call (Value.ref 66) _) _ _ _); k_dflt (refine' call_cls ?zzk1 ?zzk2 ?zzk3 ?zzk4 ?zzk5 ?zzk6 ?_; (case zzk1 => k_asm); (case zzk2 => k_asm); (case zzk3 => k_asm); (case zzk4 => k_is); (case zzk5 => k_is); (case zzk6 => k_is); k_whole; intro x' d' h' F' N' l1 l2; (try k_lt l1); (try k_lt2 l2); (try k_sweep); walk_at "enterF"))
  k_with "compareOp In str ref" => (k_here; (with_reducible show wpAny _ _ (compareOp CmpOp.In (Value.str _ _) (Value.ref _)) _ _ _); (with_unfolding_all refine' in_tuple_strs ?zzk1 ?zzk2 ?_; (case zzk1 => exact kun_topT (by k_asm) (by k_asm) (by k_is)); (case zzk2 => kde_strs); k_whole))
  k_with "call ref" => (k_here; (with_reducible show wpAny _ _ (call (Value.ref 28) _) _ _ _); k_dflt (refine wpAny_call ?_; walk_at "enterF"))
  k_with "call ref" => (k_here; (with_reducible show wpAny _ _ (call (Value.ref 21) _) _ _ _); k_dflt (refine wpAny_call ?_; walk_at "enterF"))
  k_with "pull" => first | exact Pull.head | (refine' Pull.tail ?zzb; (case zzb => walk_at "pull")) | (refine' Pull.app ?zzb; (case zzb => walk_at "pull"))
  k_with "tups" => first | assumption | exact tups_nil | (refine tups_cons ?_; walk_at "tups") | (refine tups_app ?_ ?_ <;> walk_at "tups")
  k_with "subT" => first | (refine subT_cons ?zzha ?zzhb; (case zzha => first | exact Or.inl rfl | (refine Or.inr ?_; walk_at "mem")); (case zzhb => walk_at "subT")) | (refine subT_app ?_ ?_ <;> walk_at "subT") | (intro p hp _; walk_at "mem")
  k_with "sepN" => first | assumption | exact List.forall_mem_nil _ | (refine List.forall_mem_cons.mpr ⟨?zzha, ?zzhb⟩; (case zzha => first | with_reducible assumption | (refine Ne.symm ?_; with_reducible assumption) | k_ne); (case zzhb => walk_at "sepN"))
  k_with "call builtin:list.append" => (k_here; (with_reducible show wpAny _ _ (call (Value.builtin _) [Value.ref _, _]) _ _ _); (rename News _ _ _ _ => nN); k_dflt (refine' app_lst ?zzF ?zzN ?zzs ?zzz ?_; (case zzF => k_asm); (case zzN => exact Pull.out nN (by walk_at "pull")); (case zzs => walk_at "sepN"); (case zzz => omega)); intro h' F' N')
  k_with "exec For Name Attribute cons nil" => (k_here; (rename Fr _ _ _ _ => lF'); (with_unfolding_all refine' For_turns lF' ?_; k_whole))
  k_with "pyIter ref" => (k_here; refine Hold.out ?_)
  k_with "call builtin:list.append" => (k_here; (with_reducible show wpAny _ _ (call (Value.builtin _) [Value.ref _, _]) _ _ _); refine Hold.out ?_)
  k_with "subscriptTail" => (k_here; k_dflt (refine' kept_item ?zzN ?zzK ?zzq ?_ ?zzs ?zzg; (case zzq => assumption); (case zzN => k_asm); (case zzK => first | assumption | (rename KeptIn _ _ _ _ => kK'; exact kK'.mono (by walk_at "app"))); (case zzs => with_unfolding_all rfl); (case zzg => intro _; with_unfolding_all rfl)); intro t')
  trivial
theorem RowIn.still {ns : List (Addr × Obj)} {v : Value} {r : Rw} (h : RowIn ns v r) : (∃ a t tx ty x y, v = .ref a ∧ r = .split x y ∧ (a, tup [wd "split" t, .int ((x : Nat) : Int) tx, .int ((y : Nat) : Int) ty]) ∈ ns) ∨ (∃ a t tx x, v = .ref a ∧ r = .jump x ∧ (a, tup [wd "jump" t, .int ((x : Nat) : Int) tx]) ∈ ns) ∨
    (∃ a s tk rest, v = .ref a ∧ (a, tup (.str s tk :: rest)) ∈ ns ∧ (s == Str.ofString "split") = false ∧ (s == Str.ofString "jump") = false ∧ ∀ pl, settle pl r = r) := by
  induction h with
  | split h => exact .inl ⟨_, _, _, _, _, _, rfl, rfl, h⟩
  | jump h => exact .inr (.inl ⟨_, _, _, _, rfl, rfl, h⟩)
  | done h => exact .inr (.inr ⟨_, _, _, _, rfl, h, by decide +kernel, by decide +kernel, fun _ => rfl⟩)
  | save h => exact .inr (.inr ⟨_, _, _, _, rfl, h, by decide +kernel, by decide +kernel, fun _ => rfl⟩)
  | mark h => exact .inr (.inr ⟨_, _, _, _, rfl, h, by decide +kernel, by decide +kernel, fun _ => rfl⟩)
  | prog h => exact .inr (.inr ⟨_, _, _, _, rfl, h, by decide +kernel, by decide +kernel, fun _ => rfl⟩)
  | chr h => exact .inr (.inr ⟨_, _, _, _, rfl, h, by decide +kernel, by decide +kernel, fun _ => rfl⟩)
  | any h => exact .inr (.inr ⟨_, _, _, _, rfl, h, by decide +kernel, by decide +kernel, fun _ => rfl⟩)
  | set h _ _ _ => exact .inr (.inr ⟨_, _, _, _, rfl, h, by decide +kernel, by decide +kernel, fun _ => rfl⟩)
theorem setup_W26_2 : True := by
  k_with "subscriptTail" => (k_here; (with_reducible show wpAny _ _ (subscriptTail _ _ (Value.ref _) (Value.int 0 _)) _ _ _); k_dflt (refine' item_hd ?zzN ?zzm ?_ ?zzs; (case zzN => k_asm); (case zzm => first | with_reducible assumption | (refine List.mem_cons_of_mem _ ?_; with_reducible assumption)); (case zzs => with_unfolding_all rfl)))
  k_with "compareOp Eq str str" => (k_here; (with_reducible refine eq_no ?zzze ?_); (case zzze => with_reducible assumption))
  trivial
theorem settled_ok (w : World) (folds : Bool) (C d R P Wt : Addr) (news : List (Addr × Obj)) (lab mark : Nat) (od : Obj) (rvs : List Value) (n1 : Nat) (rs : List Rw) (places : Kept) (hC : (C, instObj 148 d) ∈ news) (hd0 : (d, od) ∈ news) (hR : (R, listOf rvs.toArray n1) ∈ news) (hP : KeptIn w news (.ref P) places) (hO : CompO w folds R P Wt lab mark od) (hr : Each (RowIn news) rvs rs) (hl : rs.length ≤ 20000)
    (hk : ∀ r ∈ rs, ∀ l ∈ r.labels, (get l places).isSome) (hp : ∀ l q, get l places = some q → 0 ≤ q) :
    Con w 1 145 [.ref C] news (fun ns r => ∃ a n vs, r = .ref a ∧ (a, listOf (List.toArray vs) n) ∈ ns ∧ Each (RowIn ns) vs (rs.map (settle places))) := by
  obtain ⟨t1, t2, t3, t4, t5, t6, t7, t8, rfl⟩ := hO
  unfold Con
  k_fill
  intro pg loose mean mg mb dp un gd cn cs a ccd cl outer A₀ base h₀ L m s Q E B F X N Tp hkk hd hu hret
  refine wpAny_call ?_
  k_dflt ktr_enter
  k_steps
  refine Hold.of ?_
  rename News _ _ _ _ => kN
  rename Fr _ _ _ _ => kF
  rename (∀ p ∈ news, p.1 < _) => l1
  obtain ⟨J, hJ⟩ : ∃ J : List Value → List (Addr × Obj) → Value → Prop, J = (fun r ns fv => ∃ D ws k rs1 rs2, fv = .ref D ∧ (∀ p ∈ news, p.1 < D) ∧ rs = rs1 ++ rs2 ∧ (D, listOf (List.toArray ws) k) ∈ ns ∧ Each (RowIn news) r rs2 ∧ Each (RowIn ns) ws (rs1.map (settle places))) := ⟨_, rfl⟩
  refine turns_acc2 (news := news) (y := Str.ofString "found") [Str.ofString "row"] J rfl kF kN (fun p hp => .tail _ hp) hR rfl ?h0 ?turn ?done
  case h0 => exact of_eq3 hJ ⟨_, [], 0, [], rs, rfl, l1, rfl, .head _, hr, .nil⟩
  case turn =>
    intro v r fv u news₁ I o h tk hj hsub hpl hlt F₁ N₁
    obtain ⟨D, ws, k, rs1, rs2, rfl, hDl, hrs, hD, hx, hws⟩ := to_eq3 hJ hj
    clear hj
    have hwl := hws.length
    have hrl := congrArg List.length hrs
    rw [List.length_map] at hwl
    rw [List.length_append] at hrl
    have hC1 : (C, instObj 148 d) ∈ news₁ := hsub _ hC
    have hd1 := hsub _ hd0
    have hK : KeptIn w news₁ (.ref P) places := hP.mono hsub
    cases hx with
    | @cons _ b _ bs hv hr' =>
    have hkb := hk b (by rw [hrs]; exact List.mem_append.mpr (.inr (.head _)))
    dsimp only [envOf] at F₁ N₁
    have hv1 := hv.mono hsub
    rcases hv.still with ⟨a, t, tx, ty, x, y, rfl, rfl, hm⟩ | ⟨a, t, tx, x, rfl, rfl, hm⟩ | ⟨a, rs0, rtk, rrest, rfl, hm, w1, w2, hst⟩
    · clear hv
      have hm := hsub _ hm
      obtain ⟨q1, hq1⟩ := Option.isSome_iff_exists.mp (hkb x (.head _))
      obtain ⟨q2, hq2⟩ := Option.isSome_iff_exists.mp (hkb y (.tail _ (.head _)))
      have hp1 := hp _ _ hq1
      have hp2 := hp _ _ hq2
      k_steps
      refine Hold.of ?_
      rename News _ _ _ _ => kN3
      rename Fr _ _ _ _ => kF3
      have hDm := inN kN3 D (listOf (List.toArray ws) k) (by walk_at "mem")
      refine app_lst kF3 (pullM hDm kN3) off_rest1 (by omega) ?_
      intro h9 F9 N9
      k_steps
      rename News _ _ _ _ => kN4
      rename Fr _ _ _ _ => kF4
      (try dsimp only [AccPost])
      refine AccEnd.intro kF4 kN4 (.tail _ (mem_rest (by walk_at "mem") (ne_of_pl kN3 (by walk_at "mem") hDm hpl rfl))) (fun p hp => .tail _ (mem_rest (by have hs1 := hsub p hp; walk_at "mem") (Nat.ne_of_lt (hDl p hp)))) rfl ?e hpl fun hP => ?_
      case e => walk_at "same"
      refine of_eq3 hJ ⟨D, ws ++ [_], k + 1, rs1 ++ [_], bs, rfl, hDl, hrs.trans (List.append_cons _ _ _), hP.lst (.head _), hr', ?_⟩
      rw [List.map_append]
      have up : ∀ p ∈ news₁, isTp p = true → p ∈ Rest I _ := fun p hp ht => hP p (.tail _ (mem_rest (by walk_at "mem") (ne_of_tp kN3 (by walk_at "mem") hDm ht rfl))) (pl_of_tp ht)
      refine (hws.imp fun _ _ h => h.monoT up).append (.cons ?_ .nil)
      simp only [settle, hq1, hq2, Option.getD_some]
      exact .split' (hP.tup (.tail _ (mem_rest (by walk_at "mem") (ne_of_tp kN3 (by walk_at "mem") hDm rfl rfl)))) (Int.toNat_of_nonneg hp1).symm (Int.toNat_of_nonneg hp2).symm
    · clear hv
      have hm := hsub _ hm
      obtain ⟨q1, hq1⟩ := Option.isSome_iff_exists.mp (hkb x (.head _))
      have hp1 := hp _ _ hq1
      k_steps
      refine Hold.of ?_
      rename News _ _ _ _ => kN3
      rename Fr _ _ _ _ => kF3
      have hDm := inN kN3 D (listOf (List.toArray ws) k) (by walk_at "mem")
      refine app_lst kF3 (pullM hDm kN3) off_rest1 (by omega) ?_
      intro h9 F9 N9
      k_steps
      rename News _ _ _ _ => kN4
      rename Fr _ _ _ _ => kF4
      (try dsimp only [AccPost])
      refine AccEnd.intro kF4 kN4 (.tail _ (mem_rest (by walk_at "mem") (ne_of_pl kN3 (by walk_at "mem") hDm hpl rfl))) (fun p hp => .tail _ (mem_rest (by have hs1 := hsub p hp; walk_at "mem") (Nat.ne_of_lt (hDl p hp)))) rfl ?e hpl fun hP => ?_
      case e => walk_at "same"
      refine of_eq3 hJ ⟨D, ws ++ [_], k + 1, rs1 ++ [_], bs, rfl, hDl, hrs.trans (List.append_cons _ _ _), hP.lst (.head _), hr', ?_⟩
      rw [List.map_append]
      have up : ∀ p ∈ news₁, isTp p = true → p ∈ Rest I _ := fun p hp ht => hP p (.tail _ (mem_rest (by walk_at "mem") (ne_of_tp kN3 (by walk_at "mem") hDm ht rfl))) (pl_of_tp ht)
      refine (hws.imp fun _ _ h => h.monoT up).append (.cons ?_ .nil)
      simp only [settle, hq1, Option.getD_some]
      exact .jump' (hP.tup (.tail _ (mem_rest (by walk_at "mem") (ne_of_tp kN3 (by walk_at "mem") hDm rfl rfl)))) (Int.toNat_of_nonneg hp1).symm
    · clear hv
      have hm := hsub _ hm
      k_steps
      refine Hold.of ?_
      rename News _ _ _ _ => kN3
      rename Fr _ _ _ _ => kF3
      have hDm := inN kN3 D (listOf (List.toArray ws) k) (by walk_at "mem")
      refine app_lst kF3 (pullM hDm kN3) off_rest1 (by omega) ?_
      intro h9 F9 N9
      k_steps
      rename News _ _ _ _ => kN4
      rename Fr _ _ _ _ => kF4
      (try dsimp only [AccPost])
      refine AccEnd.intro kF4 kN4 (.tail _ (mem_rest (by walk_at "mem") (ne_of_pl kN3 (by walk_at "mem") hDm hpl rfl))) (fun p hp => .tail _ (mem_rest (by have hs1 := hsub p hp; walk_at "mem") (Nat.ne_of_lt (hDl p hp)))) rfl ?e hpl fun hP => ?_
      case e => walk_at "same"
      refine of_eq3 hJ ⟨D, ws ++ [_], k + 1, rs1 ++ [_], bs, rfl, hDl, hrs.trans (List.append_cons _ _ _), hP.lst (.head _), hr', ?_⟩
      rw [List.map_append]
      have up : ∀ p ∈ news₁, isTp p = true → p ∈ Rest I _ := fun p hp ht => hP p (.tail _ (mem_rest (by walk_at "mem") (ne_of_tp kN3 (by walk_at "mem") hDm ht rfl))) (pl_of_tp ht)
      refine (hws.imp fun _ _ h => h.monoT up).append (.cons ?_ .nil)
      rw [hst]
      exact hv1.monoT up
  case done =>
    intro fv u news₁ h tk hj hsub F₁ N₁
    obtain ⟨D, ws, k, rs1, rs2, rfl, hDl, hrs, hD, hx, hws⟩ := to_eq3 hJ hj
    clear hj
    cases hx
    k_steps
    rename News _ _ _ _ => kN3
    rename Fr _ _ _ _ => kF3
    rw [List.append_nil] at hrs
    subst hrs
    have hP : SubP news₁ (news₁ ++ news) := SubP.of fun p hp => List.mem_append.mpr (.inl hp)
    exact hret _ news₁ _ _ kF3 (dup0 kN3 fun p hp => hsub p hp) ⟨_, _, _, rfl, hP.lst hD, hws.imp fun _ _ h => h.monoP hP⟩
end Mine
end
section
open PySem PySem.W PyProof.Rows PyProof.V
set_option Elab.async false
set_option maxRecDepth 100000
set_option maxHeartbeats 2000000
namespace Mine

theorem setup_W27_1 : True := by
  k_with_none
  k_with "mem0" => first | with_reducible exact List.mem_cons_self | (refine List.mem_cons_of_mem _ ?_; k_mem)
  k_with "all0" => first | assumption | exact fun p hp => Nat.ne_of_lt (ktn_ltOf (by assumption) p hp)
  k_with "execs cons" => (k_here; k_fold; (try ((rename Fr _ _ _ _ => lF9); (refine FrL lF9 ?_); clear lF9; intro mL9 lF9)))
  k_with "eval Tuple" => (k_here; k_fold)
  k_with "eval List" => (k_here; k_fold)
  k_with "eval BinOp" => (k_here; k_fold)
  k_with "exec Assign" => (k_here; k_fold)
  k_with "eval IfExp" => (k_here; k_fold)
  k_with "binaryOp Add ref ref" => (k_here; (with_reducible show wpAny _ _ (binaryOp Operator.Add (Value.ref _) (Value.ref _)) _ _ _); k_dflt (refine' add_lists ?zzF ?zzN ?zzl ?zzb ?_ ?zzz; (case zzF => k_asm); (case zzN => k_asm); (case zzl => exact News.isList (by k_asm) (by k_mem)); (case zzb => exact News.isList (by k_asm) (by k_mem)); (case zzz => first | assumption | (simp only [List.length_cons, List.length_nil] at *; rw [sizeLine_eq] at *; omega))); intro h' F' N'; (try dsimp only))
  k_with "eval Call" => (k_here; (try k_fold); k_dflt (refine Call_ ?_))
  k_with "exec For Tuple Name cons nil" => (k_here; (rename Fr _ _ _ _ => lF'); (with_unfolding_all refine' For_turns lF' ?_; k_whole))
  k_with "exec For Tuple Call cons nil" => (k_here; (rename Fr _ _ _ _ => lF'); (with_unfolding_all refine' For_turns lF' ?_; k_whole))
  k_with "AccPost" => dsimp only [AccPost]
  k_with "same" => (intro z h1 h3; (simp only [List.contains_cons, List.contains_nil, Bool.or_false, Bool.or_eq_false_iff, beq_eq_false_iff_ne, ne_eq] at h3); (simp +zetaDelta [h1, h3]; done))
  k_with "mem" => first | with_reducible assumption | with_reducible exact List.mem_cons_self | (refine List.mem_cons_of_mem _ ?_; walk_at "mem") | (refine List.mem_append.mpr (Or.inr ?_); walk_at "mem") | (refine List.mem_append.mpr (Or.inl ?_); walk_at "mem")
  k_with "app" => (intro p hp; walk_at "mem")
  k_with "con" => ((case B => k_asm); (case F => k_asm); (case X => k_asm); (case T => k_asm); (case k => first | exact rfl | assumption); (case d => (first | exact dlt (by assumption) _ (by first | exact Nat.le_refl _ | exact Nat.le_of_ble_eq_true rfl | decide | omega) | ((try simp only [depth_deeper]); (try dsimp only [ktrTop]); first | exact dlt (by assumption) _ (by first | exact Nat.le_refl _ | exact Nat.le_of_ble_eq_true rfl | decide | omega) | exact dlt3 (by assumption) _ (by first | exact Nat.le_refl _ | exact Nat.le_of_ble_eq_true rfl | decide | omega)) | ((try simp only [depth_deeper, recursionLimit] at *); (try dsimp only [ktrTop] at *); omega))); (case u => (first | exact ult (by assumption) _ (by first | exact Nat.le_refl _ | exact Nat.le_of_ble_eq_true rfl | decide | omega) | exact ult2 (by assumption) | ((try simp only [units_deeper]); (try dsimp only [ktrTop]); first | exact ult (by assumption) _ (by first | exact Nat.le_refl _ | exact Nat.le_of_ble_eq_true rfl | decide | omega) | exact ult2 (by assumption) | exact ult3 (by assumption) _ (by first | exact Nat.le_refl _ | exact Nat.le_of_ble_eq_true rfl | decide | omega)) | ((try simp only [units_deeper] at *); (try dsimp only [ktrTop] at *); omega))))
  k_with "enterC" => (refine' code_defC ?zzk1 ?zzk2 ?zzk3 ?zzk4 ?zzk5 ?zzkA ?zzkF ?zzkK ?zzk6 ?zzk7 ?zzk8 ?zzk9 ?zzkB ?zzkD ?_ ?zzc2 ?zzc3 ?zzc4; (case zzkA => exact rfl); (case zzkF => exact rfl); (case zzkK => assumption); (case zzk1 => k_asm); (case zzk2 => k_asm); (case zzk3 => k_asm); (case zzk4 => k_asm); (case zzk5 => k_asm); (case zzk6 => k_is); (case zzk7 => k_is); (case zzk8 => ktr_room); (case zzk9 => exact BindsTo.of_eq rfl); (case zzkB => exact rfl); (case zzkD => decide +kernel); (case zzc2 => exact rfl); (case zzc3 => exact rfl); (case zzc4 => exact rfl); k_whole; intro g' L' h' tk' cells' FG' F' N' Y' B' X' T' l1; (try k_lt l1); k_cells Y'; (try simp only [List.cons_append, List.nil_append] at N'); (try dsimp only); (try k_fold))
  k_with "con2" => ((case B2 => k_asm); (case F2 => k_asm); (case X2 => k_asm); (case T2 => k_asm); (case k2 => first | exact rfl | assumption); (case d2 => (first | exact dlt (by assumption) _ (by first | exact Nat.le_refl _ | exact Nat.le_of_ble_eq_true rfl | decide | omega) | ((try simp only [depth_deeper]); (try dsimp only [ktrTop]); first | exact dlt (by assumption) _ (by first | exact Nat.le_refl _ | exact Nat.le_of_ble_eq_true rfl | decide | omega) | exact dlt3 (by assumption) _ (by first | exact Nat.le_refl _ | exact Nat.le_of_ble_eq_true rfl | decide | omega)) | ((try simp only [depth_deeper, recursionLimit] at *); (try dsimp only [ktrTop] at *); omega))); (case u2 => (first | exact ult (by assumption) _ (by first | exact Nat.le_refl _ | exact Nat.le_of_ble_eq_true rfl | decide | omega) | exact ult2 (by assumption) | ((try simp only [units_deeper]); (try dsimp only [ktrTop]); first | exact ult (by assumption) _ (by first | exact Nat.le_refl _ | exact Nat.le_of_ble_eq_true rfl | decide | omega) | exact ult2 (by assumption) | exact ult3 (by assumption) _ (by first | exact Nat.le_refl _ | exact Nat.le_of_ble_eq_true rfl | decide | omega)) | ((try simp only [units_deeper] at *); (try dsimp only [ktrTop] at *); omega))))
  k_with "con3" => ((case B3 => k_asm); (case F3 => k_asm); (case X3 => k_asm); (case T3 => k_asm); (case k3 => first | exact rfl | assumption); (case d3 => (first | exact dlt (by assumption) _ (by first | exact Nat.le_refl _ | exact Nat.le_of_ble_eq_true rfl | decide | omega) | ((try simp only [depth_deeper]); (try dsimp only [ktrTop]); first | exact dlt (by assumption) _ (by first | exact Nat.le_refl _ | exact Nat.le_of_ble_eq_true rfl | decide | omega) | exact dlt3 (by assumption) _ (by first | exact Nat.le_refl _ | exact Nat.le_of_ble_eq_true rfl | decide | omega)) | ((try simp only [depth_deeper, recursionLimit] at *); (try dsimp only [ktrTop] at *); omega))); (case u3 => (first | exact ult (by assumption) _ (by first | exact Nat.le_refl _ | exact Nat.le_of_ble_eq_true rfl | decide | omega) | exact ult2 (by assumption) | ((try simp only [units_deeper]); (try dsimp only [ktrTop]); first | exact ult (by assumption) _ (by first | exact Nat.le_refl _ | exact Nat.le_of_ble_eq_true rfl | decide | omega) | exact ult2 (by assumption) | exact ult3 (by assumption) _ (by first | exact Nat.le_refl _ | exact Nat.le_of_ble_eq_true rfl | decide | omega)) | ((try simp only [units_deeper] at *); (try dsimp only [ktrTop] at *); omega))))
  k_with "enterF" => (refine' code_def ?zzk1 ?zzk2 ?zzk3 ?zzk4 ?zzk5 ?zzkA ?zzkF ?zzkK ?zzk6 ?zzk7 ?zzk8 ?zzk9 ?zzkB ?_ ?zzc2 ?zzc3 ?zzc4 ?zzc5; (case zzkA => exact rfl); (case zzkF => exact rfl); (case zzkK => first | exact rfl | assumption); (case zzk1 => k_asm); (case zzk2 => k_asm); (case zzk3 => k_asm); (case zzk4 => k_asm); (case zzk5 => k_asm); (case zzk6 => k_is); (case zzk7 => k_is); (case zzk8 => ktr_room); (case zzk9 => exact BindsTo.of_eq rfl); (case zzkB => exact locs rfl); (case zzc5 => decide); (case zzc2 => exact rfl); (case zzc3 => exact rfl); (case zzc4 => exact rfl); k_whole; intro g' L' h' FG' F' N' B' X' T'; (try dsimp only); (try k_fold))
  k_with "call ref" => (k_here; (with_reducible show wpAny _ _ (call (Value.ref 148) _) _ _ _); k_dflt (refine' call_cls ?zzk1 ?zzk2 ?zzk3 ?zzk4 ?zzk5 ?zzk6 ?_; (case zzk1 => k_asm); (case zzk2 => k_asm); (case zzk3 => k_asm); (case zzk4 => k_is); (case zzk5 => k_is); (case zzk6 => k_is); k_whole; intro x' d' h' F' N' l1 l2; (try k_lt l1); (try k_lt2 l2); (try k_sweep); walk_at "enterF"))
  k_with "call ref" => (k_here; (with_reducible show wpAny _ _ (call (Value.ref 66) _) _ _ _); k_dflt (refine' call_cls ?zzk1 ?zzk2 ?zzk3 ?zzk4 ?zzk5 ?zzk6 ?_; (case zzk1 => k_asm); (case zzk2 => k_asm); (case zzk3 => k_asm); (case zzk4 => k_is); (case zzk5 => k_is); (case zzk6 => k_is); k_whole; intro x' d' h' F' N' l1 l2; (try k_lt l1); (try k_lt2 l2); (try k_sweep); walk_at "enterF"))
  k_with "compareOp In str ref" => (k_here; (with_reducible show wpAny _ _ (compareOp CmpOp.In (Value.str _ _) (Value.ref _)) _ _ _); (with_unfolding_all refine' in_tuple_strs ?zzk1 ?zzk2 ?_; (case zzk1 => exact kun_topT (by k_asm) (by k_asm) (by k_is)); (case zzk2 => kde_strs); k_whole))
  k_with "call ref" => (k_here; (with_reducible show wpAny _ _ (call (Value.ref 28) _) _ _ _); k_dflt (refine wpAny_call ?_; walk_at "enterF"))
  k_with "call ref" => (k_here; (with_reducible show wpAny _ _ (call (Value.ref 21) _) _ _ _); k_dflt (refine wpAny_call ?_; walk_at "enterF"))
  k_with "pull" => first | exact Pull.head | (refine' Pull.tail ?zzb; (case zzb => walk_at "pull")) | (refine' Pull.app ?zzb; (case zzb => walk_at "pull"))
  k_with "tups" => first | assumption | exact tups_nil | (refine tups_cons ?_; walk_at "tups") | (refine tups_app ?_ ?_ <;> walk_at "tups")
  k_with "subT" => first | (refine subT_cons ?zzha ?zzhb; (case zzha => first | exact Or.inl rfl | (refine Or.inr ?_; walk_at "mem")); (case zzhb => walk_at "subT")) | (refine subT_app ?_ ?_ <;> walk_at "subT") | (intro p hp _; walk_at "mem")
  k_with "sepN" => first | assumption | exact List.forall_mem_nil _ | (refine List.forall_mem_cons.mpr ⟨?zzha, ?zzhb⟩; (case zzha => first | with_reducible assumption | (refine Ne.symm ?_; with_reducible assumption) | k_ne); (case zzhb => walk_at "sepN"))
  k_with "call builtin:list.append" => (k_here; (with_reducible show wpAny _ _ (call (Value.builtin _) [Value.ref _, _]) _ _ _); (rename News _ _ _ _ => nN); k_dflt (refine' app_lst ?zzF ?zzN ?zzs ?zzz ?_; (case zzF => k_asm); (case zzN => exact Pull.out nN (by walk_at "pull")); (case zzs => walk_at "sepN"); (case zzz => omega)); intro h' F' N')
  k_with "call ref" => (k_here; k_dflt (show wpAny _ _ (call (Value.ref 105) _) _ _ _); refine Hold.out ?_)
  k_with "call ref" => (k_here; k_dflt (show wpAny _ _ (call (Value.ref 145) _) _ _ _); refine Hold.out ?_)
  trivial
theorem perm5 {h₀ h : Heap} {L : Addr} {w p r c d : Addr × Obj} {news : List (Addr × Obj)} (N : News h₀ L h (w :: p :: r :: c :: d :: news)) : News h₀ L h ([d, r, p, w] ++ (c :: news)) := fun q hq => N q (by
  simp only [List.cons_append, List.nil_append, List.mem_cons] at hq ⊢
  rcases hq with h | h | h | h | h | h <;> simp [h])
theorem rowI0 {k : Nat} {n : Nd} (hg : Gen k n) (hc : cost n ≤ 4000) : RowI st0 [.node n, .row .done] := by
  refine ⟨fun r h => (nomatch h), fun t ht => ?_, ?_, ?_, fun l q h => (nomatch h)⟩
  · rcases List.mem_cons.mp ht with rfl | ht
    · exact ⟨k, hg⟩
    · rw [List.mem_singleton.mp ht]; trivial
  · simp only [costs_q1, costs_n, costs_r, costs_l, st0]; omega
  · simp only [costs_q1, costs_n, costs_r, costs_l, st0, List.length_nil]; omega
theorem compile_ok (w : World) (folds : Bool) (k : Nat) (n : Nd) (nv : Value) (gr : Nat) (gt : Tok) (news : List (Addr × Obj)) (hn : NodeIn news nv n) (hg : Gen k n) (hc : cost n ≤ 4000) (sf : CS) (hrun : RunL folds st0 [.node n, .row .done] sf) :
    Con w 14 159 [nv, .int (gr : Int) gt, .bool folds] news (fun ns r => ∃ rc dc Rv t1 t2 t3 t4 t5 t6, r = .ref rc ∧ (rc, instObj 66 dc) ∈ ns ∧ (dc, dictOf [ent w "rows" t1 (.ref Rv), ent w "groups" t2 (.int (gr : Int) t5), ent w "marks" t3 (.int (sf.marks : Int) t6), ent w "folds" t4 (.bool folds)] 4) ∈ ns ∧ RowsIn ns (.ref Rv) (settled sf)) := by
  have hcp := compiled (gen_ok k n hg) hrun
  have hI := hrun.rowI (rowI0 hg hc)
  unfold Con
  k_fill
  intro pg loose mean mg mb dp un gd cn cs a ccd cl outer A₀ base h₀ L m s Q E B F X N Tp hk hd hu hret
  refine wpAny_call ?_
  k_dflt ktr_enter
  rename Fr _ _ _ _ => lF9
  refine FrL lF9 ?_
  clear lF9
  intro mL9 lF9
  k_steps
  refine Hold.of ?_
  rename News _ _ _ _ => kN
  rename (∀ p ∈ news, p.1 < _) => l1
  have kP := perm5 kN
  rename (_ ∧ _ ∧ AllLt _ news) => gR
  rename (_ ∧ _ ∧ _ ∧ AllLt _ news) => gP
  rename (_ ∧ _ ∧ _ ∧ _ ∧ AllLt _ news) => gW
  obtain ⟨gR1, gR2, gR3⟩ := gR
  obtain ⟨gP1, gP2, gP3, gP4⟩ := gP
  obtain ⟨gW1, gW2, gW3, gW4, gW5⟩ := gW
  refine' ConM.at (mu := [_, _, _, _]) kP (run_ok w folds _ _ _ _ _ _ n nv _ _ _ _ k sf (.head _) ?nd ?nr ?np ?nw ?a1 ?a2 ?a3 ?a4 ?a5 ?a6 ⟨_, _, _, _, _, _, _, _, rfl⟩ ?hP (hn.mono fun p hp => .tail _ hp) hg hc hrun) ?B ?F ?X ?T ?k ?d ?u ?_
  case nd => exact List.forall_mem_cons.mpr ⟨by k_ne, fun p hp => Nat.ne_of_lt (l1 p hp)⟩
  case nr => exact List.forall_mem_cons.mpr ⟨by k_ne, fun p hp => Nat.ne_of_lt (ktn_ltOf gR3 p hp)⟩
  case np => exact List.forall_mem_cons.mpr ⟨by k_ne, fun p hp => Nat.ne_of_lt (ktn_ltOf gP4 p hp)⟩
  case nw => exact List.forall_mem_cons.mpr ⟨by k_ne, fun p hp => Nat.ne_of_lt (ktn_ltOf gW5 p hp)⟩
  case a1 => k_ne
  case a2 => k_ne
  case a3 => k_ne
  case a4 => k_ne
  case a5 => k_ne
  case a6 => k_ne
  case hP => exact ⟨by assumption, [], by assumption, (show FlatPairs PyData.int [] [] by assumption), fun p hp => nomatch hp⟩
  walk_at "con"
  rintro r' mu' tl' h' tk' F' N' ⟨od', rvs', n1', op', n2', rfl, hO', hr', hP', hT'⟩
  have hO0 := hO'
  obtain ⟨t1, t2, t3, t4, t5, t6, t7, t8, rfl⟩ := hO0
  simp only [List.cons_append, List.nil_append] at N'
  (try dsimp only)
  (try k_fold)
  k_steps
  refine Hold.of ?_
  rename News _ _ _ _ => kN2
  refine' Con.at kN2 (settled_ok w folds _ _ _ _ _ _ _ _ _ rvs' n1' sf.rows sf.places (by walk_at "mem") (by walk_at "mem") (by walk_at "mem") (hP'.kept (by walk_at "mem")) hO' (hr'.imp fun _ _ h => h.mono fun p hp => by walk_at "mem") (by have := hI.2.2.2.1; omega) hcp.2.1 hI.2.2.2.2) ?B2 ?F2 ?X2 ?T2 ?k2 ?d2 ?u2 ?_
  walk_at "con2"
  rintro r2 tl2 h2 tk2 F2 N2 ⟨fa, fn, fvs, rfl, hfm, hfe⟩
  (try dsimp only)
  (try k_fold)
  k_steps
  rename News _ _ _ _ => kN3
  rename Fr _ _ _ _ => kF3
  refine hret _ _ _ _ kF3 (dup0 kN3 (by walk_at "app")) ⟨_, _, fa, _, _, _, _, _, _, rfl, List.mem_append.mpr (.inl (.head _)), List.mem_append.mpr (.inl (.tail _ (.head _))), fa, fn, fvs, rfl, by walk_at "mem", hfe.imp fun _ _ h => h.mono fun p hp => by walk_at "mem", ?_, fun r hr => ?_⟩
  · have := hI.2.2.2.1
    rw [settled, List.length_map]; omega
  · obtain ⟨r0, h0, rfl⟩ := List.mem_map.mp hr
    exact settle_fine (hI.1 r0 h0)
end Mine
end
section
namespace Mine
noncomputable def grp : Nd → List Nat
  | .seq a b => grp a ++ grp b
  | .alt a b => grp a ++ grp b
  | .group g n => (2 * g) :: (2 * g + 1) :: grp n
  | .times _ _ _ n => grp n
  | _ => []
theorem grp_q1 : grp (.seq a b) = (grp a ++ grp b) := rfl
theorem grp_q2 : grp (.alt a b) = (grp a ++ grp b) := rfl
theorem grp_q3 : grp (.group g n) = ((2 * g) :: (2 * g + 1) :: grp n) := rfl
theorem grp_q4 : grp (.times z01 z02 z03 n) = (grp n) := rfl
theorem grp_q5 : grp (.chr c) = ([]) := rfl
theorem grp_q6 : grp .any = ([]) := rfl
theorem grp_q7 : grp .set = ([]) := rfl
noncomputable def gb : Nat → Nat
  | 0 => 0
  | k + 1 => 2 * gb k + 2
theorem gb_q1 : gb 0 = (0) := rfl
theorem gb_q2 : gb (k + 1) = (2 * gb k + 2) := rfl
theorem grp_len : ∀ k n, Gen k n → (grp n).length ≤ gb k
  | k, .chr _, _ => Nat.zero_le _
  | k, .any, _ => Nat.zero_le _
  | k, .set, _ => Nat.zero_le _
  | k + 1, .seq a b, h => by
    have h1 := grp_len k a h.1
    have h2 := grp_len k b h.2
    simp only [grp_q1, grp_q2, grp_q3, grp_q4, grp_q5, grp_q6, grp_q7, gb_q1, gb_q2, List.length_append]; omega
  | k + 1, .alt a b, h => by
    have h1 := grp_len k a h.1
    have h2 := grp_len k b h.2
    simp only [grp_q1, grp_q2, grp_q3, grp_q4, grp_q5, grp_q6, grp_q7, gb_q1, gb_q2, List.length_append]; omega
  | k + 1, .group g n, h => by
    have h1 := grp_len k n h.2
    simp only [grp_q1, grp_q2, grp_q3, grp_q4, grp_q5, grp_q6, grp_q7, gb_q1, gb_q2, List.length_cons]; omega
  | k + 1, .times least most g n, h => by
    have h1 := grp_len k n h.2.2
    simp only [grp_q1, grp_q2, grp_q3, grp_q4, grp_q5, grp_q6, grp_q7, gb_q1, gb_q2]; omega
  | 0, .times .., h => h.elim
  | 0, .seq .., h => h.elim
  | 0, .alt .., h => h.elim
  | 0, .group .., h => h.elim
section
variable {text : List Int} {folds : Bool}
noncomputable def KOf (K : List Int) (c : Kept) : Prop := ∀ q ∈ c, q.1 ∈ K
theorem kof_put {K : List Int} {c : Kept} (h : KOf K c) (k v : Nat) (hk : (k : Int) ∈ K) : KOf K (put k v c) := by
  intro q hq
  unfold put PySem.W.kdfPut at hq
  split at hq
  · obtain ⟨r, hr, rfl⟩ := List.mem_map.mp hq
    have := h r hr
    split <;> exact this
  · rcases List.mem_append.mp hq with h1 | h1
    · exact h q h1
    · rw [List.mem_singleton.mp h1]; exact hk
theorem kp_refl (K : List Int) (s : St) : KOf K s.2 → KOf K s.2 := id
theorem kp_trans (K : List Int) (a b c : St) (h : KOf K a.2 → KOf K b.2) (h' : KOf K b.2 → KOf K c.2) : KOf K a.2 → KOf K c.2 := fun x => h' (h x)
theorem kp_one (K : List Int) (t : Int → Bool) : Rel (fun a b => KOf K a.2 → KOf K b.2) (one text t) := fun p c s hs hc => by
  rw [(one_mem hs).1]; exact hc
theorem kp_ways (K : List Int) : ∀ n : Nd, (∀ g ∈ grp n, (g : Int) ∈ K) → Rel (fun a b => KOf K a.2 → KOf K b.2) (ways text folds n)
  | .chr _, _ => kp_one K _
  | .any, _ => kp_one K _
  | .set, _ => kp_one K _
  | .seq a b, hk => Rel.each (kp_trans K) (kp_ways K a fun g hg => hk g (List.mem_append.mpr (.inl hg))) (kp_ways K b fun g hg => hk g (List.mem_append.mpr (.inr hg)))
  | .alt a b, hk => fun p c s hs => (List.mem_append.mp hs).elim (kp_ways K a (fun g hg => hk g (List.mem_append.mpr (.inl hg))) p c s) (kp_ways K b (fun g hg => hk g (List.mem_append.mpr (.inr hg))) p c s)
  | .group g n, hk => fun p c s hs hc => by
    obtain ⟨q, hq, e⟩ := List.mem_map.mp hs
    rw [← e]
    exact kof_put (kp_ways K n (fun g hg => hk g (.tail _ (.tail _ hg))) p _ q hq (kof_put hc _ _ (hk _ (.head _)))) _ _ (hk _ (.tail _ (.head _)))
  | .times least most g n, hk => Rel.times (kp_refl K) (kp_trans K) (kp_ways K n hk) least most g _
theorem sub_len : ∀ (l K : List Int), l.Nodup → (∀ x ∈ l, x ∈ K) → l.length ≤ K.length
  | [], _, _, _ => Nat.zero_le _
  | a :: l, K, hn, hs => by
    have hn' := List.nodup_cons.mp hn
    have ha := hs a (.head _)
    have h1 := sub_len l (K.erase a) hn'.2 fun x hx => (List.mem_erase_of_ne (fun e : x = a => hn'.1 (by rw [← e]; exact hx))).mpr (hs x (.tail _ hx))
    have h2 := List.length_erase_of_mem ha
    have h3 := List.length_pos_of_mem ha
    simp only [List.length_cons]; omega
theorem ways_small {k : Nat} {n : Nd} (hg : Gen k n) {s : St} {p : Nat} (hs : s ∈ ways text folds n p []) (hn : (s.2.map (·.1)).Nodup) : s.2.length ≤ gb k := by
  have h1 := kp_ways (text := text) (folds := folds) ((grp n).map fun g : Nat => (g : Int)) n (fun g hg => List.mem_map.mpr ⟨g, hg, rfl⟩) p [] s hs (fun q hq => nomatch hq)
  have h2 := sub_len (s.2.map (·.1)) ((grp n).map fun g : Nat => (g : Int)) hn fun x hx => by
    obtain ⟨q, hq, rfl⟩ := List.mem_map.mp hx
    exact h1 q hq
  rw [List.length_map, List.length_map] at h2
  exact Nat.le_trans h2 (grp_len k n hg)
end
end Mine
end
section
open PySem PySem.W PyProof.Rows PyProof.V PySem.Calls
set_option Elab.async false
set_option maxRecDepth 100000
namespace Mine
/-! the sort's questions stay among the items -/
noncomputable def InB (n : Nat) (p : Array Nat) : Prop := ∀ x ∈ p, x < n
theorem InB.getD {n : Nat} {p : Array Nat} (h : InB n p) (hn : 0 < n) (i : Nat) : p.getD i 0 < n := by
  unfold Array.getD
  split
  · exact h _ (Array.getElem_mem _)
  · exact hn
theorem InB.perm {n : Nat} {p q : Array Nat} (h : InB n p) (e : q.Perm p) : InB n q := fun x hx => h x (e.mem_iff.mp hx)
theorem InB.rev {n : Nat} {p : Array Nat} (h : InB n p) (i j : Nat) : InB n (kas_rev p i j) := h.perm (mirror_perm _ _ _ _)
theorem InB.bub {n : Nat} {p : Array Nat} (h : InB n p) (i j : Nat) : InB n (bubble p i j) := h.perm (bubble_perm _ _ _)
noncomputable def KIn (n : Nat) {α : Type} : KasT α → (α → Prop) → Prop
  | .ret a, R => R a
  | .ask i j k, R => i < n ∧ j < n ∧ ∀ b, KIn n (k b) R
theorem KIn.bind {n : Nat} {α β : Type} {f : α → KasT β} {R : β → Prop} {S : α → Prop} : ∀ (t : KasT α), KIn n t S → (∀ a, S a → KIn n (f a) R) → KIn n (t.bind f) R
  | .ret a, h, k => k a h
  | .ask _ _ t, h, k => ⟨h.1, h.2.1, fun b => KIn.bind (t b) (h.2.2 b) k⟩
theorem kin_asc {n : Nat} (hn : 0 < n) {p : Array Nat} (hp : InB n p) : ∀ f m, KIn n (kas_asc p f m) (fun _ => True)
  | 0, _ => trivial
  | f + 1, m => ⟨hp.getD hn _, hp.getD hn _, fun b => by
    cases b with
    | true => exact trivial
    | false => exact kin_asc hn hp f (m + 1)⟩
theorem kin_desc {n : Nat} (hn : 0 < n) : ∀ f (p : Array Nat) m q, InB n p → KIn n (kas_desc f p m q) (fun r => InB n r.1)
  | 0, p, _, _, hp => hp
  | f + 1, p, m, q, hp => ⟨hp.getD hn _, hp.getD hn _, fun b => by
    cases b with
    | true =>
      show KIn n (if q > 0 then kas_desc f (kas_rev p (m - (q + 1)) m) (m + 1) 0 else kas_desc f p (m + 1) 0) _
      split
      · exact kin_desc hn f _ _ _ (hp.rev _ _)
      · exact kin_desc hn f _ _ _ hp
    | false =>
      refine ⟨hp.getD hn _, hp.getD hn _, fun d => ?_⟩
      cases d with
      | true => exact hp
      | false => exact kin_desc hn f _ _ _ hp⟩
theorem kin_tail3 {n : Nat} (hn : 0 < n) {p : Array Nat} (hp : InB n p) (m nrem : Nat) : KIn n (kas_tail3 m nrem p) (fun r => InB n r.2) :=
  KIn.bind _ (kin_asc hn (hp.rev _ _) _ _) fun _ _ => hp.rev _ _
theorem kin_descPart {n : Nat} (hn : 0 < n) {p : Array Nat} (hp : InB n p) (m nrem : Nat) : KIn n (kas_descPart m nrem p) (fun r => InB n r.2) :=
  KIn.bind _ (kin_desc hn _ p _ _ hp) fun r hr => by
    show KIn n (if r.2.2 > 0 then _ else _) _
    split
    · exact kin_tail3 hn (hr.rev _ _) _ _
    · exact kin_tail3 hn hr _ _
theorem kin_count {n : Nat} (hn : 0 < n) {p : Array Nat} (hp : InB n p) (nrem : Nat) : KIn n (kas_count nrem p) (fun r => InB n r.2) :=
  KIn.bind _ (kin_asc hn hp _ _) fun m _ => by
    show KIn n (if (m == nrem) = true then _ else _) _
    split
    · exact hp
    · split
      · refine ⟨hp.getD hn _, hp.getD hn _, fun b => ?_⟩
        cases b with
        | true => exact hp
        | false => exact kin_descPart hn (hp.rev _ _) _ _
      · exact kin_descPart hn hp _ _
theorem kin_place {n : Nat} (hn : 0 < n) {p : Array Nat} (hp : InB n p) (k : Nat) : ∀ f l r, KIn n (kas_place p k f l r) (fun _ => True)
  | 0, _, _ => trivial
  | f + 1, l, r => by
    show KIn n (if l ≥ r then _ else _) _
    split
    · exact trivial
    · refine ⟨hp.getD hn _, hp.getD hn _, fun b => ?_⟩
      cases b with
      | true => exact kin_place hn hp k f _ _
      | false => exact kin_place hn hp k f _ _
theorem kin_bin {n : Nat} (hn : 0 < n) : ∀ f (p : Array Nat) k, InB n p → KIn n (kas_bin f p k) (fun q => InB n q)
  | 0, _, _, hp => hp
  | f + 1, p, k, hp => KIn.bind _ (kin_place hn hp k _ _ _) fun _ _ => kin_bin hn f _ _ (hp.bub _ _)
theorem kin_sort {n : Nat} (hn : 0 < n) : KIn n (kas_sort n) (fun q => InB n q) :=
  KIn.bind _ (kin_count hn (p := List.toArray (List.range n)) (fun x hx => by simpa using hx) n) fun r hr => by
    show KIn n (if r.1 < n then _ else _) _
    split
    · exact kin_bin hn _ _ _ hr
    · exact hr
noncomputable def kasRun (c : Nat → Nat → Bool) {α : Type} : KasT α → α
  | .ret a => a
  | .ask i j k => kasRun c (k (c i j))
theorem kin_run {n : Nat} {α : Type} {cmp : Nat → Nat → (Bool → Shared → Prop) → Shared → Prop} {c : Nat → Nat → Bool} {s : Shared} (hc : ∀ i j (C : Bool → Shared → Prop), i < n → j < n → C (c i j) s → cmp i j C s) {R : α → Prop} {G : α → Shared → Prop} :
    ∀ t : KasT α, KIn n t R → (R (kasRun c t) → G (kasRun c t) s) → t.kasWp cmp G s
  | .ret _, h, k => k h
  | .ask i j t, h, k => hc i j _ h.1 h.2.1 (kin_run hc (t (c i j)) (h.2.2 _) k)
/-! pairs of ints -/
noncomputable def lexLt (p q : Int × Int) : Bool := if p.1 = q.1 then (if p.2 = q.2 then false else decide (p.2 < q.2)) else decide (p.1 < q.1)
noncomputable def srt (c : Kept) : List (Int × Int) :=
  if c.length < 2 then c else (kasRun (fun i j => lexLt (c.getD i (0, 0)) (c.getD j (0, 0))) (kas_sort c.length)).toList.map fun i => c.getD i (0, 0)
noncomputable def PairIn (ns : List (Addr × Obj)) (v : Value) (q : Int × Int) : Prop := ∃ a t u, v = .ref a ∧ (a, tup [.int q.1 t, .int q.2 u]) ∈ ns
theorem PairIn.mono {ns ns' : List (Addr × Obj)} {v : Value} {q : Int × Int} (h : PairIn ns v q) (hs : ∀ p ∈ ns, p ∈ ns') : PairIn ns' v q :=
  let ⟨a, t, u, e, m⟩ := h; ⟨a, t, u, e, hs _ m⟩
theorem open_gen {lo : Addr} {news : List (Addr × Obj)} {C : List Value → List (Addr × Obj) → Prop} : ∀ (kvs : List (Int × Value)) (c : Kept), FlatPairs PyData.int kvs (kdfD c) → ∀ (vs : List Value) (tups : List (Addr × Obj)) (c0 : Kept), Each (PairIn tups) vs c0 → Tups tups → (∀ q ∈ tups, (∀ p ∈ news, p.1 < q.1)) →
    (∀ vs' tups', Each (PairIn tups') vs' (c0 ++ c) → Tups tups' → (∀ q ∈ tups', (∀ p ∈ news, p.1 < q.1)) → C vs' tups') → KdxOpen lo news (kvs.map fun p => (kyVal (PyData.int p.1), p.2)) vs tups C
  | [], [], _, vs, tups, c0, he, ht, hn, k => by
    rw [List.append_nil] at k
    exact k vs tups he ht hn
  | [], _ :: _, h, _, _, _, _, _, _, _ => nomatch h
  | _ :: _, [], h, _, _, _, _, _, _, _ => nomatch h
  | (k0, v0) :: kvs, (k1, v1) :: c, h, vs, tups, c0, he, ht, hn, k => by
    cases h with
    | cons hv htl =>
      obtain ⟨u, rfl⟩ := PyProof.V.Flat.int_inv hv
      refine KdxOpen.cons fun a t _ hna _ => ?_
      refine open_gen kvs c htl _ _ (c0 ++ [(_, _)]) ((he.imp fun _ _ x => x.mono fun p hp => .tail _ hp).append (.cons ⟨a, t, u, rfl, .head _⟩ .nil)) (fun p hp => ?_) (fun p hp => ?_) (by simpa using k)
      · rcases List.mem_cons.mp hp with e | hp
        · rw [e]; simp [isTp]
        · exact ht p hp
      · rcases List.mem_cons.mp hp with e | hp
        · rw [e]; exact hna
        · exact hn p hp
section
variable {prog : Program} {w : World} {A : Around} {E : Value → Shared → Prop} {s : Shared} {h₀ : Heap} {L a : Addr} {m : Str → Option Value} {news : List (Addr × Obj)} {vs : List Value}
theorem small_sort {n : Nat} {P : PySem.Fin → Shared → Prop} (F : Fr h₀ L s.heap m) (N : News h₀ L s.heap news) (ho : s.heap.get? a = some (seqObj "list" vs.toArray n)) (haL : a ≠ L) (ha0 : h₀.get? a = none) (hna : ∀ p ∈ news, p.1 ≠ a)
    (h2 : vs.length < 2) (h : ∀ c h', Fr h₀ L h' m → News h₀ L h' ((a, seqObj "list" vs.toArray c) :: news) → P (.done (.ret .none)) { s with heap := h' }) :
    wpAny (model prog w) A (Builtin.«list.sort» ⟨[.ref a], []⟩) P E s := by
  have ha : a < s.heap.objs.size := Heap.lt_size ho
  have s1 := Heap.SameBut.update s.heap a (Obj.mapSeq fun _ => (#[] : Array Value))
  obtain ⟨e1, ho1⟩ : ∃ e1, (s.heap.update a (Obj.mapSeq fun _ => (#[] : Array Value))).get? a = some (seqObj "list" #[] e1) := ⟨_, get?_update_seq ho fun _ => #[]⟩
  have F3 : Fr h₀ L (((s.heap.update a (Obj.mapSeq fun _ => (#[] : Array Value))).push (seqObj "tuple" vs.toArray 0)).push (seqObj "list" #[] 0)) m := ((kas_fr F s1 haL ha0).push _).push _
  have N2 : News h₀ L (((s.heap.update a (Obj.mapSeq fun _ => (#[] : Array Value))).push (seqObj "tuple" vs.toArray 0)).push (seqObj "list" #[] 0)) news :=
    (kas_news N s1 hna).grown fun b x e => Heap.get?_push_of_some _ (Heap.get?_push_of_some _ e)
  have ho6 : (((s.heap.update a (Obj.mapSeq fun _ => (#[] : Array Value))).push (seqObj "tuple" vs.toArray 0)).push (seqObj "list" #[] 0)).get? a = some (seqObj "list" #[] e1) := Heap.get?_push_of_some _ (Heap.get?_push_of_some _ ho1)
  rw [list_sort_plain]
  refine wpAny_bind (listItems_at ho rfl ?_)
  refine wpAny_bind (listUpdate_at ho rfl ?_ (by rw [List.size_toArray, sizeLine_eq]; omega) (Nat.zero_le _))
  refine wpAny_bind (seqEpoch_at ho1 rfl ?_)
  refine wpAny_bind (wpAny_newTuple ?_ (by show vs.length ≤ _; rw [sizeLine_eq]; omega))
  refine wpAny_bind (wpAny_newList ?_ (Nat.zero_le _))
  refine wpAny_holding ?_
  show wpAny (model prog w) A _ P E { s with heap := ((s.heap.update a (Obj.mapSeq fun _ => (#[] : Array Value))).push (seqObj "tuple" vs.toArray 0)).push (seqObj "list" #[] 0) }
  dsimp only
  have hn2 : vs.toArray.size < 2 := by rw [List.size_toArray]; omega
  rw [if_pos hn2, if_pos hn2]
  refine wpAny_bind (wpAny_pure ?_)
  rw [StateT.run_pure]
  refine wpAny_bind (wpAny_pure ?_)
  dsimp only
  have eo : (arrOf (SortSt.mk' general' (vs.toArray.zip vs.toArray) #[] 7 none)).map (·.2) = vs.toArray := by
    show (vs.toArray.zip vs.toArray).map (·.2) = vs.toArray
    apply Array.ext
    · simp
    · intro i h1 h2; simp
  rw [eo]
  have s2 := Heap.SameBut.update (((s.heap.update a (Obj.mapSeq fun _ => (#[] : Array Value))).push (seqObj "tuple" vs.toArray 0)).push (seqObj "list" #[] 0)) a (Obj.mapSeq fun _ => vs.toArray)
  obtain ⟨c2, hc2⟩ : ∃ c2, ((((s.heap.update a (Obj.mapSeq fun _ => (#[] : Array Value))).push (seqObj "tuple" vs.toArray 0)).push (seqObj "list" #[] 0)).update a (Obj.mapSeq fun _ => vs.toArray)).get? a = some (seqObj "list" vs.toArray c2) := ⟨_, get?_update_seq ho6 fun _ => vs.toArray⟩
  refine wpAny_bind (seqEpoch_at ho6 rfl ?_)
  refine wpAny_bind (listUpdate_at ho6 rfl ?_ (Nat.zero_le _) (by rw [List.size_toArray, sizeLine_eq]; omega))
  simp only [bne_self_eq_false, Bool.false_eq_true, if_false]
  refine wpAny_pure (h c2 _ (kas_fr F3 s2 haL ha0) fun p hp => ?_)
  rcases List.mem_cons.mp hp with rfl | hp
  · exact ⟨hc2, haL, ha0⟩
  · exact kas_news N2 s2 hna p hp
end
end Mine
end
section
open PySem PySem.W PyProof.Rows PyProof.V PySem.Calls
set_option Elab.async false
set_option maxRecDepth 100000
namespace Mine
theorem each_getD {α β : Type} {R : α → β → Prop} {as : List α} {bs : List β} (h : Each R as bs) (a0 : α) (b0 : β) {i : Nat} (hi : i < bs.length) : R (as.getD i a0) (bs.getD i b0) := by
  have e : bs[i]? = some (bs.getD i b0) := by rw [List.getD_eq_getElem?_getD, List.getElem?_eq_getElem hi]; rfl
  obtain ⟨a, ea, hr⟩ := h.get e
  rw [List.getD_eq_getElem?_getD, ea]
  exact hr
theorem each_map {α β : Type} {R : α → β → Prop} {f : Nat → α} {g : Nat → β} {n : Nat} (h : ∀ i, i < n → R (f i) (g i)) : ∀ l : List Nat, (∀ x ∈ l, x < n) → Each R (l.map f) (l.map g)
  | [], _ => .nil
  | x :: l, hl => .cons (h x (hl x (.head _))) (each_map h l fun y hy => hl y (.tail _ hy))
theorem firsts {h₀ h : Heap} {L : Addr} {news : List (Addr × Obj)} (N : News h₀ L h news) {vs : List Value} {c : Kept} (he : Each (PairIn news) vs c) : ∃ fs, KatTups h vs fs ∧ fs.length = vs.length ∧ ∀ v ∈ fs, ∃ i t, v = Value.int i t := by
  induction he with
  | nil => exact ⟨[], .nil, rfl, fun v h => nomatch h⟩
  | cons hr _ ih =>
    obtain ⟨a, t, u, rfl, hm⟩ := hr
    obtain ⟨fs, h1, h2, h3⟩ := ih
    refine ⟨.int _ t :: fs, .cons (N.get hm) rfl rfl rfl h1, by simp [h2], fun v hv => ?_⟩
    rcases List.mem_cons.mp hv with rfl | hv
    · exact ⟨_, _, rfl⟩
    · exact h3 v hv
section
variable {prog : Program} {w : World} {A : Around} {E : Value → Shared → Prop} {s : Shared} {h₀ : Heap} {L D : Addr} {m : Str → Option Value} {news : List (Addr × Obj)} {vs : List Value}
theorem sort_pairs {n : Nat} {Q : Value → Shared → Prop} {c : Kept} (F : Fr h₀ L s.heap m) (N : News h₀ L s.heap ((D, listOf vs.toArray n) :: news)) {tups : List (Addr × Obj)} (sep : ∀ p ∈ news, p.1 ≠ D) (hsub : ∀ p ∈ tups, p ∈ news) (he : Each (PairIn tups) vs c) (h64 : c.length < 64)
    (h : ∀ out k h', Fr h₀ L h' m → News h₀ L h' ((D, listOf (List.toArray out) k) :: news) → Each (PairIn tups) out (srt c) → Q .none { s with heap := h' }) :
    wpAny (model prog w) A (call (.builtin "list.sort") [.ref D]) Q E s := by
  have hl := he.length
  have nz := N (D, listOf vs.toArray n) (.head _)
  by_cases h2 : vs.length < 2
  · refine wpAny_call_entry slot_list_sort ⟨_, nz.1, rfl⟩ entry_list_sort (small_sort (news := news) F (fun p hp => N p (.tail _ hp)) nz.1 nz.2.1 nz.2.2 sep h2 fun c' h' F' N' => ⟨_, rfl, h vs c' h' F' N' ?_⟩) (args_list_sort _)
    rw [srt, if_pos (by omega)]; exact he
  · refine kat_lsort F N (.head sep) (vs := vs) (by simp) (by omega) (by omega) fun e1 h' F' N' => ?_
    have Nn : News h₀ L h' news := fun p hp => N' p (.tail _ hp)
    obtain ⟨fs, f1, f2, f3⟩ := firsts Nn (he.imp fun _ _ x => x.mono hsub)
    refine kat_kind (T := .type "int") f1 (by omega) (fun v hv => ?_) (by decide) ?_
    · obtain ⟨i, t, rfl⟩ := f3 v hv
      exact Looks.of_pure rfl
    · refine kin_run (n := vs.length) (c := fun i j => lexLt (c.getD i (0, 0)) (c.getD j (0, 0))) ?hc _ (kin_sort (by omega)) fun hR => ?_
      case hc =>
        intro i j C hi hj hC
        have p1 := each_getD he Value.none (0, 0) (i := i) (by omega)
        have p2 := each_getD he Value.none (0, 0) (i := j) (by omega)
        show wpAny _ _ (keyLt' _ (vs.getD i Value.none) (vs.getD j Value.none)) _ _ _
        revert p1 p2 hC
        generalize vs.getD i Value.none = v1
        generalize vs.getD j Value.none = v2
        generalize c.getD i (0, 0) = q1
        generalize c.getD j (0, 0) = q2
        rintro hC ⟨a1, t1, u1, rfl, m1⟩ ⟨a2, t2, u2, rfl, m2⟩
        refine kat_lt (Nn.get (hsub _ m1)) rfl (Nn.get (hsub _ m2)) rfl ?_
        show KatLex _ _ _ _ _ C [(.int q1.1 t1, .int q2.1 t2), (.int q1.2 u1, .int q2.2 u2)] 0 _
        refine kat_cons (wpAny_eqBool_int (kat_go (fun e => ?_) fun e => ?_))
        · have e' : q1.1 = q2.1 := by simpa using e
          refine kat_yes (kat_cons (wpAny_eqBool_int (kat_go (fun e2 => ?_) fun e2 => ?_)))
          · have e2' : q1.2 = q2.2 := by simpa using e2
            refine kat_yes (kat_nil ?_)
            rw [lexLt, if_pos e', if_pos e2'] at hC
            exact hC
          · have e2' : ¬ q1.2 = q2.2 := by simpa using e2
            refine kat_no ?_
            rw [lexLt, if_pos e', if_neg e2'] at hC
            exact kat_one _ _ (PyProof.Rows.lt_int hC)
        · have e' : ¬ q1.1 = q2.1 := by simpa using e
          refine kat_no ?_
          rw [lexLt, if_neg e'] at hC
          exact oneLt_int hC
      refine KasFin.intro F' N' (.head sep) fun h'' c' F'' N'' => h _ c' h'' F'' N'' ?_
      rw [srt, if_neg (by omega), ← hl]
      exact each_map (n := vs.length) (fun i hi => each_getD he Value.none (0, 0) (by omega)) _ fun x hx => hR x (by simpa using hx)
theorem sorted_items {v d : Addr} {o : Obj} {kvs : List (Int × Value)} {c : Kept} {Q : Value → Shared → Prop} (hh : A.handled = none) (F : Fr h₀ L s.heap m) (N : News h₀ L s.heap news) (hvw : (v, { cls := .type "dict_items", data := .fields #[.ref d] }) ∈ news) (hmd : (d, o) ∈ news) (hod : o.IsDictOf (intKind prog w) kvs) (hf : FlatPairs PyData.int kvs (kdfD c)) (h64 : c.length < 64)
    (h : ∀ B tups out k h' tk, (∀ q ∈ tups ++ news, q.1 < B) → (∀ q ∈ tups, ∀ p ∈ news, p.1 < q.1) → Tups tups → Fr h₀ L h' m → News h₀ L h' ((B, listOf (List.toArray out) k) :: (tups ++ news)) → Each (PairIn tups) out (srt c) → Q (.ref B) { s with heap := h', toks := tk }) :
    wpAny (model prog w) A (call (.builtin "sorted") [.ref v]) Q E s := by
  have hkl : kvs.length = c.length := by
    have := congrArg List.length (Mine.flat_keys hf)
    simpa using this
  refine kdx_sortedN (knd := intKind prog w) (enc := PyData.int) (ps := kvs.map fun p => (kyVal (PyData.int p.1), p.2)) hh F N hvw hmd hod (by omega) (fun _ _ h => Value.isInt_shape h) rfl fun lo hlo => ?_
  refine open_gen kvs c hf [] [] [] .nil (fun p hp => nomatch hp) (fun q hq => nomatch hq) fun vs' tups' he ht hn => ?_
  intro B h' tk hB F' N'
  rw [List.nil_append] at he
  refine sort_pairs F' N' (fun p hp => Nat.ne_of_lt (hB p hp)) (fun p hp => List.mem_append.mpr (.inl hp)) he h64 fun out k h'' F'' N'' ho => h B tups' out k h'' tk hB hn ht F'' N'' ho
end
end Mine
end
section
open PySem PySem.W PyProof.Rows PyProof.V PySem.Calls
set_option Elab.async false
set_option maxRecDepth 100000
namespace Mine
noncomputable def pairD (p : Int × Int) : Dat := .tuple [.int p.1, .int p.2]
noncomputable def datOf (s : St) : Dat := .tuple [.int (s.1 : Int), .list ((srt s.2).map pairD)]
/-- an end and what is kept, sorted -/
noncomputable def StD (ns : List (Addr × Obj)) (v : Value) (s : St) : Prop := ∃ a t la n out, v = .ref a ∧ (a, tup [.int (s.1 : Int) t, .ref la]) ∈ ns ∧ (la, listOf (List.toArray out) n) ∈ ns ∧ Each (PairIn ns) out (srt s.2)
theorem StD.mono {ns ns' : List (Addr × Obj)} {v : Value} {s : St} (h : StD ns v s) (hs : ∀ p ∈ ns, p ∈ ns') : StD ns' v s :=
  let ⟨a, t, la, n, out, e, m1, m2, h⟩ := h; ⟨a, t, la, n, out, e, hs _ m1, hs _ m2, h.imp fun _ _ x => x.mono hs⟩
theorem pairs_dat {ns : List (Addr × Obj)} {vs : List Value} {c : List (Int × Int)} (h : Each (PairIn ns) vs c) : DatAll ns vs (c.map pairD) := by
  induction h with
  | nil => exact .nil
  | cons hr _ ih =>
    obtain ⟨a, t, u, rfl, hm⟩ := hr
    exact .cons (.tuple hm (.cons (.int _ _) (.cons (.int _ _) .nil))) ih
theorem StD.dat {ns : List (Addr × Obj)} {v : Value} {s : St} (h : StD ns v s) : DatIn ns v (datOf s) := by
  obtain ⟨a, t, la, n, out, rfl, m1, m2, h⟩ := h
  exact .tuple m1 (.cons (.int _ _) (.cons (.list m2 (pairs_dat h)) .nil))
theorem sts_dat {ns : List (Addr × Obj)} {vs : List Value} {l : List St} (h : Each (StD ns) vs l) : DatAll ns vs (l.map datOf) := by
  induction h with
  | nil => exact .nil
  | cons hr _ ih => exact .cons hr.dat ih
theorem dat_ok (s : St) : kqdOk 8 (datOf s) = true := by
  simp [kqdOk, datOf, pairD]
theorem dats_ok (l : List St) : ∀ d ∈ l.map datOf, kqdOk 8 d = true := fun d hd => by
  obtain ⟨s, _, rfl⟩ := List.mem_map.mp hd
  exact dat_ok s
section
variable {prog : Program} {w : World} {A : Around} {E : Value → Shared → Prop} {s : Shared} {h₀ : Heap} {L a b : Addr} {news : List (Addr × Obj)} {Q : Value → Shared → Prop}
theorem eq_sts {xs ys : List Value} {ka kb : Nat} {l : List St} (N : News h₀ L s.heap news) (ma : (a, listOf (List.toArray xs) ka) ∈ news) (mb : (b, listOf (List.toArray ys) kb) ∈ news) (ha : Each (StD news) xs l) (hb : Each (StD news) ys l) (hu : A.units + 64 < cLine) (h : Q (.bool true) s) :
    wpAny (model prog w) A (compareOp .Eq (.ref a) (.ref b)) Q E s :=
  kqd_eq N ma rfl rfl (sts_dat ha) (fun _ h => h) mb rfl rfl (sts_dat hb) (fun _ h => h) (dats_ok l) (dats_ok l) hu (by simpa using h)
theorem eq_three {x1 x2 y2 : Int} {t1 t2 u1 u2 : Tok} {f : Bool} (e2 : x2 = y2) (N : News h₀ L s.heap news) (ma : (a, tup [.int x1 t1, .int x2 t2, .bool f]) ∈ news) (mb : (b, tup [.int x1 u1, .int y2 u2, .bool f]) ∈ news) (hu : A.units + 64 < cLine) (h : Q (.bool true) s) :
    wpAny (model prog w) A (compareOp .Eq (.ref a) (.ref b)) Q E s := by
  subst e2
  have ra : ∃ as, Reads s.heap (.ref a) (.tuple [.int x1, .int x2, .bool f]) as := ⟨_, reads_tuple_at (N.get ma) rfl rfl (.cons (.int _ _) (.cons (.int _ _) (.cons (.bool _) .nil)))⟩
  have rb : ∃ as, Reads s.heap (.ref b) (.tuple [.int x1, .int x2, .bool f]) as := ⟨_, reads_tuple_at (N.get mb) rfl rfl (.cons (.int _ _) (.cons (.int _ _) (.cons (.bool _) .nil)))⟩
  obtain ⟨as, ra⟩ := ra
  obtain ⟨bs, rb⟩ := rb
  refine eq_dataH ra rb ?_ ?_ hu ?_
  · simp [SeqAt.shaped, PyData.canLay0, PyData.canLayAll0, PyData.depth, PyData.depthAll]
  · simp [SeqAt.shaped, PyData.canLay0, PyData.canLayAll0, PyData.depth, PyData.depthAll]
  · have e : PyData.eqv (.tuple [.int x1, .int x2, .bool f]) (.tuple [.int x1, .int x2, .bool f]) = true := by
      simp [PyData.eqv, PyData.eqvAll]
    rw [e]; exact h
end
end Mine
end
section
open PySem PySem.W PyProof.Rows PyProof.V PySem.Calls PyProof.Rows.LCg PyProof.Rows.LCp
set_option Elab.async false
set_option maxRecDepth 100000
namespace Mine
section
variable {w : World} {A : Around} {s : Shared} {h₀ : Heap} {L : Addr} {m : Str → Option Value} {env : Env}
theorem comp_due {elt : Expr} {x x₂ : Str} {scope : Scope} {cl : List (Str × Addr)} {S : List (Addr × Obj) → Prop} {Fin : List Value → List (Addr × Obj) → Prop} {base : List (Addr × Obj)} {vs : List Value} {l : List St}
    (hs : Each (StIn w base) vs l) (hsm : ∀ s ∈ l, (s.2.map (·.1)).Nodup → s.2.length < 64)
    (turn : ∀ ns (p : Nat) (c : Kept) t d o kvs, (∀ q ∈ base, q ∈ ns) → (d, o) ∈ ns → (d == sysModules) = false → o.IsDictOf (IK w) kvs → FlatPairs PyData.int kvs (kdfD c) → c.length < 64 →
      ∀ ys I oI C oC D m₂ h tk (E' : Value → Shared → Prop), NsObj oC m₂ → m₂ x = some (.int (p : Int) t) → m₂ x₂ = some (.ref d) → Fr h₀ L h m → News h₀ L h ((I, oI) :: (C, oC) :: (D, lst ys) :: ns) → Off3 I C D ns → ((@Ne Nat I C) ∧ (@Ne Nat I D) ∧ (@Ne Nat C D)) →
        wpAny (model PySem.Challenge.rw_oj0023_01.row.prog w) A (eval elt (compEnvC scope cl C env)) (CompEnd h₀ L m { s with heap := h, toks := tk } I oI C oC D (lst ys) S (fun y ns' => StD ns' y (p, c) ∧ ∀ q ∈ ns, q ∈ ns')) E' { s with heap := h, toks := tk })
    (fin : ∀ ys ns, Each (StD ns) ys l → (∀ q ∈ base, q ∈ ns) → Fin ys ns) :
    CompRestP PySem.Challenge.rw_oj0023_01.row.prog w A h₀ L m env elt x x₂ scope cl s S (fun i v => vs.toArray[i]? = some v) Fin vs.length 0 [] base := by
  refine compP_rest (fun r ys ns => ∃ xs zs, Each (StIn w ns) r xs ∧ Each (StD ns) ys zs ∧ (∀ q ∈ base, q ∈ ns) ∧ zs ++ xs = l) ?turn ?fin _ 0 [] base rfl ⟨l, [], hs, .nil, fun _ h => h, rfl⟩
  case turn =>
    rintro v r ys ns ⟨xs, zs, hx, hy, hsub, htot⟩
    cases hx with
    | @cons _ b _ bs hv hr =>
      obtain ⟨va, vt, kv, rfl, hvm, d, o, kvs, rfl, hm, lo, hD, hf, hk⟩ := hv
      have hb : b ∈ l := by rw [← htot]; exact List.mem_append.mpr (.inr (.head _))
      refine ⟨_, _, _, _, _, rfl, hvm, rfl, rfl, fun I oI C oC D m₂ h tk E' hC hx1 hx2 F1 N1 off ne => ?_⟩
      refine wpAny_mono (turn ns b.1 b.2 vt d o kvs hsub hm lo hD hf (hsm b hb (kept_nodup hD hf)) ys I oI C oC D m₂ h tk E' hC hx1 hx2 F1 N1 off ne) (fun y s₂ h₂ => ?_) fun _ _ e => e
      exact compEnd_mono h₂ fun n' hn' => ⟨bs, zs ++ [b], hr.imp fun _ _ h => h.monoP (SubP.of hn'.2), (hy.imp fun _ _ h => h.mono hn'.2).append (.cons hn'.1 .nil), fun q hq => hn'.2 _ (hsub q hq), by rw [← htot]; simp⟩
  case fin =>
    rintro ys ns ⟨xs, zs, hx, hy, hsub, htot⟩
    cases hx
    rw [List.append_nil] at htot
    subst htot
    exact fin ys ns hy hsub
theorem due_end {I C D T' B V : Addr} {oI oC ov : Obj} {ys out : List Value} {ns tups : List (Addr × Obj)} {s₁ : Shared} {S : List (Addr × Obj) → Prop} {p : Nat} {c : Kept} {t : Tok} {k tk : Nat} {h' : Heap} (off : Off3 I C D ns) (F : Fr h₀ L h' m)
    (N : News h₀ L h' ((T', tup [.int (p : Int) t, .ref B]) :: (B, listOf (List.toArray out) k) :: (tups ++ ((V, ov) :: (I, oI) :: (C, oC) :: (D, lst ys) :: ns))))
    (hB : ∀ q ∈ tups ++ ((V, ov) :: (I, oI) :: (C, oC) :: (D, lst ys) :: ns), q.1 < B) (hT : B < T' ∧ ∀ q ∈ tups ++ ((V, ov) :: (I, oI) :: (C, oC) :: (D, lst ys) :: ns), q.1 < T') (hnew : ∀ q ∈ tups, ∀ p ∈ (V, ov) :: (I, oI) :: (C, oC) :: (D, lst ys) :: ns, p.1 < q.1)
    (ho : Each (PairIn tups) out (srt c)) (hS : ∀ ns', (∀ q ∈ ns, q ∈ ns') → S ns') :
    CompEnd h₀ L m s₁ I oI C oC D (lst ys) S (fun y ns' => StD ns' y (p, c) ∧ ∀ q ∈ ns, q ∈ ns') (.ref T') { s₁ with heap := h', toks := tk } := by
  have i1 : (I, oI) ∈ tups ++ ((V, ov) :: (I, oI) :: (C, oC) :: (D, lst ys) :: ns) := List.mem_append.mpr (.inr (.tail _ (.head _)))
  have i2 : (C, oC) ∈ tups ++ ((V, ov) :: (I, oI) :: (C, oC) :: (D, lst ys) :: ns) := List.mem_append.mpr (.inr (.tail _ (.tail _ (.head _))))
  have i3 : (D, lst ys) ∈ tups ++ ((V, ov) :: (I, oI) :: (C, oC) :: (D, lst ys) :: ns) := List.mem_append.mpr (.inr (.tail _ (.tail _ (.tail _ (.head _)))))
  have keep : ∀ q ∈ ns, q ∈ Rest3 I C D ((T', tup [.int (p : Int) t, .ref B]) :: (B, listOf (List.toArray out) k) :: (tups ++ ((V, ov) :: (I, oI) :: (C, oC) :: (D, lst ys) :: ns))) := fun q hq =>
    mem_rest3 (.tail _ (.tail _ (List.mem_append.mpr (.inr (.tail _ (.tail _ (.tail _ (.tail _ hq)))))))) (off.mem q hq).1 (off.mem q hq).2.1 (off.mem q hq).2.2
  refine comp_end F N (.tail _ (.tail _ i1)) (.tail _ (.tail _ i2)) (.tail _ (.tail _ i3)) (hS _ keep) ⟨⟨T', t, B, k, out, rfl, ?_, ?_, ho.imp fun _ _ x => x.mono fun q hq => ?_⟩, keep⟩
  · exact mem_rest3 (.head _) (Nat.ne_of_gt (hT.2 _ i1)) (Nat.ne_of_gt (hT.2 _ i2)) (Nat.ne_of_gt (hT.2 _ i3))
  · exact mem_rest3 (.tail _ (.head _)) (Nat.ne_of_gt (hB _ i1)) (Nat.ne_of_gt (hB _ i2)) (Nat.ne_of_gt (hB _ i3))
  · exact mem_rest3 (.tail _ (.tail _ (List.mem_append.mpr (.inl hq)))) (Nat.ne_of_gt (hnew q hq _ (.tail _ (.head _)))) (Nat.ne_of_gt (hnew q hq _ (.tail _ (.tail _ (.head _))))) (Nat.ne_of_gt (hnew q hq _ (.tail _ (.tail _ (.tail _ (.head _))))))
end
end Mine
end
section
open PySem PySem.W PyProof.Rows PyProof.V
set_option Elab.async false
set_option maxRecDepth 100000
set_option maxHeartbeats 40000000
namespace Mine


theorem setup_W30_1 : True := by
  k_with_none
  k_with "mem0" => first | with_reducible exact List.mem_cons_self | (refine List.mem_cons_of_mem _ ?_; k_mem)
  k_with "all0" => first | assumption | exact fun p hp => Nat.ne_of_lt (ktn_ltOf (by assumption) p hp)
  k_with "execs cons" => (k_here; k_fold)
  k_with "eval Tuple" => (k_here; k_fold)
  k_with "eval List" => (k_here; k_fold)
  k_with "eval BinOp" => (k_here; k_fold)
  k_with "exec Assign" => (k_here; k_fold)
  k_with "eval IfExp" => (k_here; k_fold)
  k_with "binaryOp Add ref ref" => (k_here; (with_reducible show wpAny _ _ (binaryOp Operator.Add (Value.ref _) (Value.ref _)) _ _ _); k_dflt (refine' add_lists ?zzF ?zzN ?zzl ?zzb ?_ ?zzz; (case zzF => k_asm); (case zzN => k_asm); (case zzl => exact News.isList (by k_asm) (by k_mem)); (case zzb => exact News.isList (by k_asm) (by k_mem)); (case zzz => first | assumption | (simp only [List.length_cons, List.length_nil] at *; rw [sizeLine_eq] at *; omega))); intro h' F' N'; (try dsimp only))
  k_with "eval Call" => (k_here; (try k_fold); k_dflt (refine Call_ ?_))
  k_with "exec For Tuple Name cons nil" => (k_here; (rename Fr _ _ _ _ => lF'); (with_unfolding_all refine' For_turns lF' ?_; k_whole))
  k_with "exec For Tuple Call cons nil" => (k_here; (rename Fr _ _ _ _ => lF'); (with_unfolding_all refine' For_turns lF' ?_; k_whole))
  k_with "AccPost" => dsimp only [AccPost]
  k_with "same" => (intro z h1 h3; (simp only [List.contains_cons, List.contains_nil, Bool.or_false, Bool.or_eq_false_iff, beq_eq_false_iff_ne, ne_eq] at h3); (simp [h1, h3]; done))
  k_with "mem" => first | with_reducible assumption | with_reducible exact List.mem_cons_self | (refine List.mem_cons_of_mem _ ?_; walk_at "mem") | (refine List.mem_append.mpr (Or.inr ?_); walk_at "mem") | (refine List.mem_append.mpr (Or.inl ?_); walk_at "mem")
  k_with "app" => (intro p hp; walk_at "mem")
  k_with "con" => ((case B => k_asm); (case F => k_asm); (case X => k_asm); (case T => k_asm); (case k => first | exact rfl | assumption); (case d => (first | exact dlt (by assumption) _ (by first | exact Nat.le_refl _ | exact Nat.le_of_ble_eq_true rfl | decide | omega) | ((try simp only [depth_deeper]); (try dsimp only [ktrTop]); first | exact dlt (by assumption) _ (by first | exact Nat.le_refl _ | exact Nat.le_of_ble_eq_true rfl | decide | omega) | exact dlt3 (by assumption) _ (by first | exact Nat.le_refl _ | exact Nat.le_of_ble_eq_true rfl | decide | omega)) | ((try simp only [depth_deeper, recursionLimit] at *); (try dsimp only [ktrTop] at *); omega))); (case u => (first | exact ult (by assumption) _ (by first | exact Nat.le_refl _ | exact Nat.le_of_ble_eq_true rfl | decide | omega) | exact ult2 (by assumption) | ((try simp only [units_deeper]); (try dsimp only [ktrTop]); first | exact ult (by assumption) _ (by first | exact Nat.le_refl _ | exact Nat.le_of_ble_eq_true rfl | decide | omega) | exact ult2 (by assumption) | exact ult3 (by assumption) _ (by first | exact Nat.le_refl _ | exact Nat.le_of_ble_eq_true rfl | decide | omega)) | ((try simp only [units_deeper] at *); (try dsimp only [ktrTop] at *); omega))))
  k_with "enterC" => (refine' code_defC ?zzk1 ?zzk2 ?zzk3 ?zzk4 ?zzk5 ?zzkA ?zzkF ?zzkK ?zzk6 ?zzk7 ?zzk8 ?zzk9 ?zzkB ?zzkD ?_ ?zzc2 ?zzc3 ?zzc4; (case zzkA => exact rfl); (case zzkF => exact rfl); (case zzkK => assumption); (case zzk1 => k_asm); (case zzk2 => k_asm); (case zzk3 => k_asm); (case zzk4 => k_asm); (case zzk5 => k_asm); (case zzk6 => k_is); (case zzk7 => k_is); (case zzk8 => ktr_room); (case zzk9 => exact BindsTo.of_eq rfl); (case zzkB => exact rfl); (case zzkD => decide +kernel); (case zzc2 => exact rfl); (case zzc3 => exact rfl); (case zzc4 => exact rfl); k_whole; intro g' L' h' tk' cells' FG' F' N' Y' B' X' T' l1; (try k_lt l1); k_cells Y'; (try simp only [List.cons_append, List.nil_append] at N'); (try dsimp only); (try k_fold))
  k_with "con2" => ((case B2 => k_asm); (case F2 => k_asm); (case X2 => k_asm); (case T2 => k_asm); (case k2 => first | exact rfl | assumption); (case d2 => (first | exact dlt (by assumption) _ (by first | exact Nat.le_refl _ | exact Nat.le_of_ble_eq_true rfl | decide | omega) | ((try simp only [depth_deeper]); (try dsimp only [ktrTop]); first | exact dlt (by assumption) _ (by first | exact Nat.le_refl _ | exact Nat.le_of_ble_eq_true rfl | decide | omega) | exact dlt3 (by assumption) _ (by first | exact Nat.le_refl _ | exact Nat.le_of_ble_eq_true rfl | decide | omega)) | ((try simp only [depth_deeper, recursionLimit] at *); (try dsimp only [ktrTop] at *); omega))); (case u2 => (first | exact ult (by assumption) _ (by first | exact Nat.le_refl _ | exact Nat.le_of_ble_eq_true rfl | decide | omega) | exact ult2 (by assumption) | ((try simp only [units_deeper]); (try dsimp only [ktrTop]); first | exact ult (by assumption) _ (by first | exact Nat.le_refl _ | exact Nat.le_of_ble_eq_true rfl | decide | omega) | exact ult2 (by assumption) | exact ult3 (by assumption) _ (by first | exact Nat.le_refl _ | exact Nat.le_of_ble_eq_true rfl | decide | omega)) | ((try simp only [units_deeper] at *); (try dsimp only [ktrTop] at *); omega))))
  k_with "con3" => ((case B3 => k_asm); (case F3 => k_asm); (case X3 => k_asm); (case T3 => k_asm); (case k3 => first | exact rfl | assumption); (case d3 => (first | exact dlt (by assumption) _ (by first | exact Nat.le_refl _ | exact Nat.le_of_ble_eq_true rfl | decide | omega) | ((try simp only [depth_deeper]); (try dsimp only [ktrTop]); first | exact dlt (by assumption) _ (by first | exact Nat.le_refl _ | exact Nat.le_of_ble_eq_true rfl | decide | omega) | exact dlt3 (by assumption) _ (by first | exact Nat.le_refl _ | exact Nat.le_of_ble_eq_true rfl | decide | omega)) | ((try simp only [depth_deeper, recursionLimit] at *); (try dsimp only [ktrTop] at *); omega))); (case u3 => (first | exact ult (by assumption) _ (by first | exact Nat.le_refl _ | exact Nat.le_of_ble_eq_true rfl | decide | omega) | exact ult2 (by assumption) | ((try simp only [units_deeper]); (try dsimp only [ktrTop]); first | exact ult (by assumption) _ (by first | exact Nat.le_refl _ | exact Nat.le_of_ble_eq_true rfl | decide | omega) | exact ult2 (by assumption) | exact ult3 (by assumption) _ (by first | exact Nat.le_refl _ | exact Nat.le_of_ble_eq_true rfl | decide | omega)) | ((try simp only [units_deeper] at *); (try dsimp only [ktrTop] at *); omega))))
  k_with "subs" => first | exact List.forall_mem_nil _ | (refine List.forall_mem_cons.mpr ⟨?zzha, ?zzhb⟩; (case zzha => walk_at "mem"); (case zzhb => walk_at "subs")) | (refine List.forall_mem_append.mpr ⟨?_, ?_⟩ <;> walk_at "subs") | (intro p hp; walk_at "mem")
  k_with "enterF" => (refine' code_def ?zzk1 ?zzk2 ?zzk3 ?zzk4 ?zzk5 ?zzkA ?zzkF ?zzkK ?zzk6 ?zzk7 ?zzk8 ?zzk9 ?zzkB ?_ ?zzc2 ?zzc3 ?zzc4 ?zzc5; (case zzkA => exact rfl); (case zzkF => exact rfl); (case zzkK => first | exact rfl | assumption); (case zzk1 => k_asm); (case zzk2 => k_asm); (case zzk3 => k_asm); (case zzk4 => k_asm); (case zzk5 => k_asm); (case zzk6 => k_is); (case zzk7 => k_is); (case zzk8 => ktr_room); (case zzk9 => exact BindsTo.of_eq rfl); (case zzkB => exact locs rfl); (case zzc5 => decide); (case zzc2 => exact rfl); (case zzc3 => exact rfl); (case zzc4 => exact rfl); k_whole; intro g' L' h' FG' F' N' B' X' T'; (try dsimp only); (try k_fold))
  k_with "call ref" => (k_here; (with_reducible show wpAny _ _ (call (Value.ref 148) _) _ _ _); k_dflt (refine' call_cls ?zzk1 ?zzk2 ?zzk3 ?zzk4 ?zzk5 ?zzk6 ?_; (case zzk1 => k_asm); (case zzk2 => k_asm); (case zzk3 => k_asm); (case zzk4 => k_is); (case zzk5 => k_is); (case zzk6 => k_is); k_whole; intro x' d' h' F' N' l1 l2; (try k_lt l1); (try k_lt2 l2); (try k_sweep); walk_at "enterF"))
  k_with "call ref" => (k_here; (with_reducible show wpAny _ _ (call (Value.ref 66) _) _ _ _); k_dflt (refine' call_cls ?zzk1 ?zzk2 ?zzk3 ?zzk4 ?zzk5 ?zzk6 ?_; (case zzk1 => k_asm); (case zzk2 => k_asm); (case zzk3 => k_asm); (case zzk4 => k_is); (case zzk5 => k_is); (case zzk6 => k_is); k_whole; intro x' d' h' F' N' l1 l2; (try k_lt l1); (try k_lt2 l2); (try k_sweep); walk_at "enterF"))
  k_with "compareOp In str ref" => (k_here; (with_reducible show wpAny _ _ (compareOp CmpOp.In (Value.str _ _) (Value.ref _)) _ _ _); (with_unfolding_all refine' in_tuple_strs ?zzk1 ?zzk2 ?_; (case zzk1 => exact kun_topT (by k_asm) (by k_asm) (by k_is)); (case zzk2 => kde_strs); k_whole))
  k_with "call ref" => (k_here; (with_reducible show wpAny _ _ (call (Value.ref 28) _) _ _ _); k_dflt (refine wpAny_call ?_; walk_at "enterF"))
  k_with "call ref" => (k_here; (with_reducible show wpAny _ _ (call (Value.ref 21) _) _ _ _); k_dflt (refine wpAny_call ?_; walk_at "enterF"))
  k_with "pull" => first | exact Pull.head | (refine' Pull.tail ?zzb; (case zzb => walk_at "pull")) | (refine' Pull.app ?zzb; (case zzb => walk_at "pull"))
  k_with "tups" => first | assumption | exact tups_nil | (refine tups_cons ?_; walk_at "tups") | (refine tups_app ?_ ?_ <;> walk_at "tups")
  k_with "subT" => first | (refine subT_cons ?zzha ?zzhb; (case zzha => first | exact Or.inl rfl | (refine Or.inr ?_; walk_at "mem")); (case zzhb => walk_at "subT")) | (refine subT_app ?_ ?_ <;> walk_at "subT") | (intro p hp _; walk_at "mem")
  k_with "sepN" => first | assumption | exact List.forall_mem_nil _ | (refine List.forall_mem_cons.mpr ⟨?zzha, ?zzhb⟩; (case zzha => first | with_reducible assumption | (refine Ne.symm ?_; with_reducible assumption) | k_ne); (case zzhb => walk_at "sepN"))
  k_with "call builtin:list.append" => (k_here; (with_reducible show wpAny _ _ (call (Value.builtin _) [Value.ref _, _]) _ _ _); (rename News _ _ _ _ => nN); k_dflt (refine' app_lst ?zzF ?zzN ?zzs ?zzz ?_; (case zzF => k_asm); (case zzN => exact Pull.out nN (by walk_at "pull")); (case zzs => walk_at "sepN"); (case zzz => omega)); intro h' F' N')
  k_with "call ref" => (k_here; k_dflt (show wpAny _ _ (call (Value.ref 166) _) _ _ _); refine Hold.out ?_)
  k_with "conL" => ((case qB => k_asm); (case qF => k_asm); (case qX => k_asm); (case qT => k_asm); (case qk => first | exact rfl | assumption); (case qd => ((simp only [depth_deeper, depth_caller, recursionLimit, claimMargin]); first | done | omega)); (case qu => ((try simp only [units_deeper, units_caller]); (simp only [cLine]); omega)))
  k_with "CompSrc" => ((with_reducible show LCg.CompSrc _ _ _ _ _ _ _ (Expr.Subscript _ _ _) _ _ _ _ _ _); refine Hold.out ?_)
  k_with "call ref" => (k_here; k_dflt (show wpAny _ _ (call (Value.ref 180) _) _ _ _); refine Hold.out ?_)
  k_with "call ref" => (k_here; k_dflt (show wpAny _ _ (call (Value.ref 159) _) _ _ _); refine Hold.out ?_)
  k_with "call ref" => (k_here; k_dflt (show wpAny _ _ (call (Value.ref 227) _) _ _ _); refine Hold.out ?_)
  k_with "call ref" => (k_here; k_dflt (show wpAny _ _ (call (Value.ref 234) _) _ _ _); refine Hold.out ?_)
  k_with "call ref" => (k_here; k_dflt (show wpAny _ _ (call (Value.ref 239) _) _ _ _); refine Hold.out ?_)
  k_with "exec Assign cons ListComp" => (k_here; (with_reducible show wpAny _ _ (exec (Stmt.Assign [Expr.Name _ _] (Expr.ListComp (Expr.Tuple _ _ _) _ _ _) _) _) _ _ _); refine Hold.out ?_)
  k_with "SrcLP" => (k_here; refine Hold.out ?_)
  k_with "call builtin:sorted" => (k_here; (with_reducible show wpAny _ _ (call (Value.builtin "sorted") [Value.ref _]) _ _ _); refine Hold.out ?_)
  k_with "compareOp Eq ref ref" => (k_here; (with_reducible show wpAny _ _ (compareOp CmpOp.Eq (Value.ref _) (Value.ref _)) _ _ _); refine Hold.out ?_)
  trivial
structure CntMark : Prop where
  x : True
theorem setup_W30_2 : True := by
  k_with "subscriptTail" => (k_here; (rename CntMark => cm'); refine Hold.out ?_)
  trivial
theorem names_ok : namesOk hd.view_39 (looseW hd.view_39 []) (namesW hd.view_39 []) = true := by decide +kernel
theorem imports_ok : importsNone hd.view_39 = true := by decide +kernel
local macro_rules | `(tactic| k_qdec) => `(tactic| k_extra "qdec0")
theorem setup_W30_3 : True := by
  k_with "qdec0" => first | exact names_ok | exact imports_ok
  trivial
set_option tactic.hygienic true in
theorem law_walk : WalkO hd.view_39 [] (XL hd.view_39 []) HK.says PySem.Challenge.rw_oj0023_01.row.toRowW { name := Str.ofString "law", params := fa_law, body := fb_law, scope := fs_law, pos := fp_law } [] fun f vs => PySem.call f vs := by
  dsimp only [HK, fa_law, fb_law, fs_law, fp_law]
  k_go0
  k_steps
  refine Hold.of ?_
  rename_i Dk hh1 tkk oo1 qq1 qe1 Cn hh2 ll1 Dt hh3 ll2 hh4 hh5 oc dc hh6 kF kN qq3 qe3 qq4 qe4
  rename IntsAre _ (List.map _ _) => hI8
  rename (List.length _ = (List.map _ _).length) => hL8
  rw [List.length_map, List.length_take] at hL8
  have nP := Pull.out (D := Dk) kN (.tail (.tail .head))
  refine' draw_at nP hI8 (by decide) (by decide) ?qs (by omega) ?qB ?qF ?qX ?qT ?qk ?qd ?qu ?_
  case qs => walk_at "sepN"
  walk_at "conL"
  intro vs1 n1 ns1 x t h' tk' F' N' hi1 hl1 hx0 hx1
  (try dsimp only)
  (try k_fold)
  k_steps
  refine Hold.of ?_
  rename IsRange _ _ _ _ _ _ _ _ => hrg
  rename Fr _ _ _ _ => kF1
  rename News _ _ _ _ => kN1
  have hrr : Builtin.Range.small 0 (1 + x) 1 = true ∧ Builtin.Range.rangeSize 0 (1 + x) 1 = (((1 + x).toNat : Nat) : Int) := by
    have : x = 0 ∨ x = 1 ∨ x = 2 ∨ x = 3 := by omega
    rcases this with rfl | rfl | rfl | rfl <;> exact ⟨by decide, by decide⟩
  have hnn : 1 ≤ (1 + x).toNat ∧ (1 + x).toNat ≤ 4 := by omega
  generalize (1 + x).toNat = nn at hrr hnn
  refine LCg.CompSrc.range rfl kF1 kN1 hrg hrr.1 hrr.2 (by rw [sizeLine_eq]; omega) fun g => ?_
  clear hrg
  refine comp_rest nn (fun i ys ns => (∃ cs, IntsAre ys cs ∧ cs.length = i ∧ ∀ c ∈ cs, c = 97 ∨ c = 98 ∨ c = 65 ∨ c = 10) ∧ (∃ vs n zs, (Dk, listOf (List.toArray vs) n) ∈ ns ∧ IntsAre vs zs ∧ vs.length < 1000) ∧ (_, oc) ∈ ns ∧ (Cn, listOf (List.toArray [.int 0 tkk]) 0) ∈ ns) ?turn ?fin nn 0 [] _ (Nat.zero_add _) ⟨⟨[], .nil, rfl, fun c h => nomatch h⟩, ⟨vs1, n1, ns1, .head _, hi1, hl1⟩, by walk_at "mem", by walk_at "mem"⟩
  case turn =>
    rintro i ys ns v hi ⟨tv, rfl⟩ ⟨⟨cs, hcs, hcl, hca⟩, ⟨vs, n, zs, hDm, hzs, hvl⟩, hoc, hCn⟩ I oI C oC D m₂ h tk E' hC' hx1 F1 N1 off ne
    k_steps
    refine Hold.of ?_
    rename News _ _ _ _ => kN2
    rename (_ ∧ _ ∧ _ ∧ AllLt _ ns) => g5
    have offD := off.mem _ hDm
    have kP := pullM (D := Dk) (o := listOf (List.toArray vs) n) (by walk_at "mem") kN2
    refine' draw_at kP hzs (by decide) (by decide) off_rest1 hvl ?qB ?qF ?qX ?qT ?qk ?qd ?qu ?_
    walk_at "conL"
    intro vs2 n2 zs2 x2 t2 h' tk' F' N' hi2 hl2 hy0 hy1
    have kQ := regroup (E := [_, _, _, _]) N' (List.forall_mem_cons.mpr ⟨Nat.ne_of_gt (ktn_ltOf g5.2.2.2 _ hDm), List.forall_mem_cons.mpr ⟨Ne.symm offD.1, List.forall_mem_cons.mpr ⟨Ne.symm offD.2.1, List.forall_mem_cons.mpr ⟨Ne.symm offD.2.2, List.forall_mem_nil _⟩⟩⟩⟩)
    simp only [List.cons_append, List.nil_append] at kQ
    clear N' kP kN2
    have hoc' := mem_rest (I := Dk) hoc oo1.2
    have hCn' := mem_rest (I := Dk) hCn (Nat.ne_of_gt ll1.1)
    have offC := off.mem _ hCn
    have offO := off.mem _ hoc
    (try dsimp only)
    (try k_fold)
    have hx4 : x2 = 0 ∨ x2 = 1 ∨ x2 = 2 ∨ x2 = 3 := by omega
    rcases hx4 with hx4 | hx4 | hx4 | hx4 <;> subst hx4
    all_goals (
      k_steps
      rename News _ _ _ _ => kN5
      rename Fr _ _ _ _ => kF5
      refine comp_end kF5 kN5 (by walk_at "mem") (by walk_at "mem") (by walk_at "mem") trivial ⟨⟨cs ++ [_], ints_snoc hcs _ _, by simp [hcl], fun c hc => ?_⟩, ⟨vs2, n2, zs2, mem_rest3 (by walk_at "mem") offD.1 offD.2.1 offD.2.2, hi2, hl2⟩, mem_rest3 (by walk_at "mem") offO.1 offO.2.1 offO.2.2, mem_rest3 (by walk_at "mem") offC.1 offC.2.1 offC.2.2⟩
      rcases List.mem_append.mp hc with hc | hc
      · exact hca c hc
      · rw [List.mem_singleton.mp hc]; simp)
  case fin =>
    rintro ys ns ⟨⟨cs, hcs, hcl, hca⟩, ⟨vs, n, zs, hDm, hzs, hvl⟩, hoc, hCn⟩
    clear kN nP kN1
    k_steps
    refine Hold.of ?_
    rename News _ _ _ _ => kN2
    rename LCg.Off1 _ _ => o1
    have offD := off1_mem o1 _ hDm
    have offC := off1_mem o1 _ hCn
    have offO := off1_mem o1 _ hoc
    have kX := pick4 kN2 (.tail _ hDm) (.tail _ hCn) (.head _) (.tail _ hoc)
    clear kN2 o1
    refine' draw_at kX hzs (by decide) (by decide) ?qs hvl ?qB ?qF ?qX ?qT ?qk ?qd ?qu ?_
    case qs => exact List.forall_mem_cons.mpr ⟨Nat.ne_of_gt ll1.1, List.forall_mem_cons.mpr ⟨Ne.symm offD, List.forall_mem_cons.mpr ⟨oo1.2, List.forall_mem_nil _⟩⟩⟩
    walk_at "conL"
    intro vs2 n2 zs2 x2 t2 h' tk' F' N' hi2 hl2 hy0 hy1
    clear kX
    (try dsimp only)
    (try k_fold)
    k_steps
    refine Hold.of ?_
    rename News _ _ _ _ => kN2

    refine' node_at (cnt := 0) (node_ok2 _ 2) kN2 hi2 hl2 ?qa (Nat.ne_of_lt ll1.1) (by decide) rfl ?qB ?qF ?qX ?qT ?qk ?qd ?qu ?_
    case qa =>
      intro p hp
      simp only [List.mem_cons, List.not_mem_nil, or_false] at hp
      rcases hp with rfl | rfl
      · exact .inr ⟨Ne.symm offD, Ne.symm offC⟩
      · exact .inr ⟨oo1.2, Nat.ne_of_lt ll1.2.2⟩
    walk_at "conL"
    intro r' vs3 n3 zs3 cnt cnk n4 tl' nd h' tk' F' N' hi3 hl3 hc0 hc1 hnd hgen htl
    clear kN2
    (try dsimp only)
    (try k_fold)
    k_steps
    refine Hold.of ?_
    rename News _ _ _ _ => kN2
    rename Fr _ _ _ _ => kF2
    generalize (x2 == 1) = fo at kN2 kF2 ⊢
    have hcost : cost nd ≤ 41 := gen_cost 2 nd hgen
    have hT4 : cs.length ≤ 4 := by omega
    have hpz : pysz cs.length nd ≤ 48 := gen_pysz cs.length hT4 2 nd hgen
    have hwz : wid cs.length nd ≤ wb 2 := gen_wid cs.length hT4 2 nd hgen
    have hgood : Good cs.length nd := gen_Good cs.length hT4 2 nd (by decide) hgen
    have hdz : dep cs.length nd ≤ 40 := gen_dep cs.length hT4 2 nd hgen
    have hcs0 : ∀ c ∈ cs, 0 ≤ c ∧ c < 1000 := fun c hc => by rcases hca c hc with h | h | h | h <;> rw [h] <;> decide
    obtain ⟨sf, hrun⟩ := run_exists fo 100 st0 [.node nd, .row .done] (by simp only [costs_q1, costs_n, costs_r, costs_l]; omega) (by simp only [costs_q1, costs_n, costs_r, costs_l, st0, List.length_nil]; omega)
    refine' Con.at kN2 (compile_ok _ fo 2 nd _ cnt _ _ (hnd.mono fun p hp => by walk_at "mem") hgen (by omega) sf hrun) ?qB ?qF ?qX ?qT ?qk ?qd ?qu ?_
    walk_at "conL"
    rintro r' tl3 h' tk' F' N' ⟨rc, dc, Rv, t1, t2, t3, t4, t5, t6, rfl, hrc, hdc, hrows⟩
    (try dsimp only)
    (try k_fold)
    k_steps
    refine Hold.of ?_
    rename Fr _ _ _ _ => kF2
    k_dflt (refine LCp.Assign_ListComp_P (F₀ := kF2) (by rfl) (by with_unfolding_all rfl) (by with_unfolding_all rfl) (by decide) (by rfl) (by decide) (by rfl) (by rfl) (by decide) (by rfl) (by rfl) ?_)
    k_steps
    refine Hold.of ?_
    rename News _ _ _ _ => kN3
    refine' Con.at kN3 (ways_ok _ cs fo nd hgood _ _ _ _ 0 _ [] (hnd.mono fun p hp => by walk_at "mem") ⟨_, _, [], rfl, by walk_at "mem", by assumption, by assumption, (show FlatPairs PyData.int [] [] by assumption), fun p hp => nomatch hp⟩ ⟨_, _, ys, rfl, by walk_at "mem", hcs, hcs0, hT4⟩ (Nat.zero_le _)) ?qB ?qF ?qX ?qT ?qk ?qd ?qu ?_
    walk_at "conL"
    rintro r' tl4 h' tk' F' N' ⟨ra, rn, rvs, rfl, rm, re⟩
    (try dsimp only)
    (try k_fold)
    k_steps
    refine Hold.of ?_
    rename News _ _ _ _ => kN4
    rename Fr _ _ _ _ => kF4
    have hrl : rvs.length ≤ 137263 := by
      rw [re.length]
      exact Nat.le_trans (ways_wid (text := cs) (folds := fo) nd 0 []) (Nat.le_trans hwz (by decide))
    refine LCp.SrcLP.ledger rfl kF4 kN4 rm (by rw [List.size_toArray, sizeLine_eq]; omega) fun g' => ?_
    refine comp_due re (fun s hs hn => Nat.lt_of_le_of_lt (ways_small hgen hs hn) (by decide)) ?turn2 ?fin2
    case turn2 =>
      intro ns p c t d o kvs hsub hdm lo hD hf hcl ys' I oI C oC D m₂ h tk E' hC hx1 hx2 F1 N1 off ne
      k_steps
      refine Hold.of ?_
      rename News _ _ _ _ => kN5
      rename Fr _ _ _ _ => kF5
      refine sorted_items rfl kF5 kN5 (.head _) (by walk_at "mem") hD hf hcl fun B tups out kk h9 tk9 hB9 hn9 ht9 F9 N9 ho9 => ?_
      have hsz9 := fun (q : Addr × Obj) hq => Heap.lt_size (N9 q hq).1
      k_steps
      rename News _ _ _ _ => kN6
      rename Fr _ _ _ _ => kF6
      exact due_end off kF6 kN6 hB9 ⟨hsz9 _ (.head _), fun q hq => hsz9 q (.tail _ hq)⟩ hn9 ho9 fun ns' hk => .inr ⟨_, hk _ (hsub _ rm), rfl, _, rfl⟩
    case fin2 =>
      intro ys2 ns hy hsub
      have hrc1 := hsub (rc, instObj 66 dc) (by walk_at "mem")
      have hdc1 := hsub _ (by walk_at "mem" : (dc, dictOf [ent _ "rows" t1 (.ref Rv), ent _ "groups" t2 (.int (cnt : Int) t5), ent _ "marks" t3 (.int (sf.marks : Int) t6), ent _ "folds" t4 (.bool fo)] 4) ∈ _)
      have hcomp := compiled (gen_ok 2 nd hgen) hrun
      obtain ⟨gn, hgn⟩ := (hcomp.2.2 cs).steps
      k_steps
      refine Hold.of ?_
      rename Fr _ _ _ _ => kF5
      k_dflt (refine LCp.Assign_ListComp_P (F₀ := kF5) (by rfl) (by with_unfolding_all rfl) (by with_unfolding_all rfl) (by decide) (by rfl) (by decide) (by rfl) (by rfl) (by decide) (by rfl) (by rfl) ?_)
      k_steps
      refine Hold.of ?_
      rename News _ _ _ _ => kN5
      have hub : SubP _ ns := SubP.of hsub
      refine' Con.at kN5 (gone_ok _ cs fo (settled sf) _ gn 0 0 [] [] _ _ _ _ _ _ _ _ hgn (Nat.le_trans (ways_wid (text := cs) (folds := fo) nd 0 []) (Nat.le_trans hwz (by decide))) ((hrows.monoP (SubP.of fun p hp => hsub p (by walk_at "mem"))).monoP (SubP.of fun p hp => by walk_at "mem")) ⟨_, _, [], rfl, .tail _ (.head _), by assumption, by assumption, (show FlatPairs PyData.int [] [] by assumption), fun p hp => nomatch hp⟩ ⟨_, _, [], rfl, .head _, by assumption, by assumption, (show FlatPairs PyData.int [] [] by assumption), fun p hp => nomatch hp⟩ ⟨_, _, ys, rfl, .tail _ (.tail _ (.tail _ (hsub _ (by walk_at "mem")))), hcs, hcs0, hT4⟩) ?qB ?qF ?qX ?qT ?qk ?qd ?qu ?_
      walk_at "conL"
      rintro r' tl5 h' tk' F' N' ⟨ra3, rn3, rvs3, rfl, rm3, re3⟩
      (try dsimp only)
      (try k_fold)
      k_steps
      refine Hold.of ?_
      rename News _ _ _ _ => kN4
      rename Fr _ _ _ _ => kF4
      have hrl3 : rvs3.length ≤ 137263 := by
        rw [re3.length]
        exact Nat.le_trans (ways_wid (text := cs) (folds := fo) nd 0 []) (Nat.le_trans hwz (by decide))
      refine LCp.SrcLP.ledger rfl kF4 kN4 rm3 (by rw [List.size_toArray, sizeLine_eq]; omega) fun g' => ?_
      refine comp_due re3 (fun s hs hn => Nat.lt_of_le_of_lt (ways_small hgen hs hn) (by decide)) ?turn3 ?fin3
      case turn3 =>
        intro ns3 p c t d o kvs hsub3 hdm lo hD hf hcl ys' I oI C oC D m₂ h tk E' hC hx1 hx2 F1 N1 off ne
        k_steps
        refine Hold.of ?_
        rename News _ _ _ _ => kN5
        rename Fr _ _ _ _ => kF5
        refine sorted_items rfl kF5 kN5 (.head _) (by walk_at "mem") hD hf hcl fun B tups out kk h9 tk9 hB9 hn9 ht9 F9 N9 ho9 => ?_
        have hsz9 := fun (q : Addr × Obj) hq => Heap.lt_size (N9 q hq).1
        k_steps
        rename News _ _ _ _ => kN6
        rename Fr _ _ _ _ => kF6
        exact due_end off kF6 kN6 hB9 ⟨hsz9 _ (.head _), fun q hq => hsz9 q (.tail _ hq)⟩ hn9 ho9 fun ns' hk => .inr ⟨_, hk _ (hsub3 _ rm3), rfl, _, rfl⟩
      case fin3 =>
        intro ys3 ns3 hy3 hsub3
        have hrc3 := hsub3 (rc, instObj 66 dc) (by walk_at "mem")
        have hdc3 := hsub3 _ (by walk_at "mem" : (dc, dictOf [ent _ "rows" t1 (.ref Rv), ent _ "groups" t2 (.int (cnt : Int) t5), ent _ "marks" t3 (.int (sf.marks : Int) t6), ent _ "folds" t4 (.bool fo)] 4) ∈ _)
        have cmk : CntMark := ⟨trivial⟩
        have hcn3 := hsub3 (Cn, listOf (List.toArray [.int (cnt : Int) cnk]) n4) (by have := hsub (Cn, listOf (List.toArray [.int (cnt : Int) cnk]) n4) (by walk_at "mem"); walk_at "mem")
        k_steps
        refine Hold.of ?_
        rename News _ _ _ _ => kN5
        refine eq_sts kN5 (.head _) (.tail _ (hsub3 _ (by walk_at "mem"))) (hy3.imp fun _ _ x => x.mono fun p hp => .tail _ hp) (hy.imp fun _ _ x => x.mono fun p hp => .tail _ (hsub3 _ (by walk_at "mem"))) (by (try simp only [units_deeper, units_caller]); (simp only [cLine]); omega) ?_
        k_steps
        refine Hold.of ?_
        rename News _ _ _ _ => kN6
        refine item_vs (vs := [.int (cnt : Int) cnk]) (k := 0) kN6 (.tail _ (.tail _ hcn3)) rfl (by decide) ?_ (by with_unfolding_all rfl) (by intro _; with_unfolding_all rfl)
        rename CntMark => cmk2
        clear cmk2
        k_steps
        refine Hold.of ?_
        rename News _ _ _ _ => kN7
        have hlz : lsz nd ≤ 7 := gen_lsz 2 nd hgen
        refine' Con.at kN7 (loops_ok _ nd (gen_LB 2 nd (by decide) hgen) _ _ (hnd.mono fun p hp => .tail _ (.tail _ (hsub3 _ (by have := hsub p (by walk_at "mem"); walk_at "mem"))))) ?qB ?qF ?qX ?qT ?qk ?qd ?qu ?_
        walk_at "conL"
        rintro r' tl6 h' tk' F' N' ⟨t9, rfl⟩
        (try dsimp only)
        (try k_fold)
        k_steps
        refine Hold.of ?_
        rename News _ _ _ _ => kN8
        refine eq_three (congrArg (fun x : Nat => (x : Int)) hcomp.1) kN8 (by walk_at "mem") (by walk_at "mem") (by (try simp only [units_deeper, units_caller]); (simp only [cLine]); omega) ?_
        k_steps
theorem hd (walk : WalkO hd.view_39 [] (XL hd.view_39 []) HK.says PySem.Challenge.rw_oj0023_01.row.toRowW ldef [] fun f vs => PySem.call f vs) : PySem.Challenge.rw_oj0023_01.Holds := by
  w_on
  refine holds_law said1 fun said => ?_
  refine holds_open (q := hd.view_39) (loose := []) (Xt := fun s => xlAt hd.view_39 [] s && recOk PySem.Challenge.rw_oj0023_01.row.records s) (XP := XL hd.view_39 []) (Yf := Hook.obs HK) (Ya := Hook.val HK) (YP := Hook.says HK) (d := ldef) (N := 3234) left1 (Hook.of HK) (Hook.keeps HK) (fun s e => xl_of s (Bool.and_eq_true_iff.mp e).1) XL.keeps (by rfl) (by rfl) (by rfl) (fun s e => recFacts_of (Bool.and_eq_true_iff.mp e).2) (by rfl) (by first | assumption | decide +kernel) (by decide +kernel) ⟨rfl, rfl, rfl, rfl, rfl, by decide +kernel⟩ ?hw walk
  case hw => w_witness2
theorem law_holds : PySem.Challenge.rw_oj0023_01.Holds := hd law_walk
end Mine
end
set_option maxRecDepth 100000 in
theorem PySem.Challenge.cw_oj0023_01_holds : PySem.Challenge.rw_oj0023_01.Holds :=
  Mine.law_holds
