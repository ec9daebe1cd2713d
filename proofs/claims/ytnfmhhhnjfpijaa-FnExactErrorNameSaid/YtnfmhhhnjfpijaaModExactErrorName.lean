/- FnExactErrorName: what the functions that it reaches compute, as plain functions, and that they do so. No condition. -/
import Derived.Test.YtnfmhhhnjfpijaaRows
import Derived.Test.YtnfmhhhnjfpijaaAm4
namespace Go.Proofs.Ytnfmhhhnjfpijaa
open Go.Am
set_option maxRecDepth 100000
set_option linter.unusedVariables false

noncomputable def spec_ErrorName (code0 : Int) : Option (List UInt8 × Unit) :=
  bif code0 == (0 : Int) then
    some (([110, 111, 110, 101] : List UInt8), ())
  else
    bif code0 == (3 : Int) then
      some (([102, 108, 111, 119] : List UInt8), ())
    else
      bif code0 == (4 : Int) then
        some (([108, 105, 109, 105, 116] : List UInt8), ())
      else
        bif code0 == (5 : Int) then
          some (([115, 116, 97, 116, 101] : List UInt8), ())
        else
          bif code0 == (6 : Int) then
            some (([102, 105, 110, 97, 108] : List UInt8), ())
          else
            bif code0 == (7 : Int) then
              some (([101, 110, 99, 111, 100, 105, 110, 103] : List UInt8), ())
            else
              some (([] : List UInt8), ())
noncomputable def impl_ErrorName (code0 : Int) : Option (List UInt8 × Unit) :=
  bif code0 == (0 : Int) then
    some (([110, 111, 110, 101] : List UInt8), ())
  else
    bif code0 == (3 : Int) then
      some (([102, 108, 111, 119] : List UInt8), ())
    else
      bif code0 == (4 : Int) then
        some (([108, 105, 109, 105, 116] : List UInt8), ())
      else
        bif code0 == (5 : Int) then
          some (([115, 116, 97, 116, 101] : List UInt8), ())
        else
          bif code0 == (6 : Int) then
            some (([102, 105, 110, 97, 108] : List UInt8), ())
          else
            bif code0 == (7 : Int) then
              some (([101, 110, 99, 111, 100, 105, 110, 103] : List UInt8), ())
            else
              some (([] : List UInt8), ())
noncomputable def laws_FnExactErrorName (aCode0 : Int) : Option (Bool × Unit) :=
  Option.bind (spec_ErrorName aCode0) fun t6 =>
  Option.bind (impl_ErrorName aCode0) fun t8 =>
  bif !(t8.1 == t6.1) then
    some (false, ())
  else
    some (true, ())
def tab : Tab := lookT [(3, .int .i64), (4, .bool), (9, .str)]
theorem tok_3 : TOK Try.prog 3 (.int .i64) := ⟨by kernel_rfl, by kernel_rfl⟩
theorem tok_4 : TOK Try.prog 4 (.bool) := ⟨by kernel_rfl, by kernel_rfl⟩
theorem tok_9 : TOK Try.prog 9 (.str) := ⟨by kernel_rfl, by kernel_rfl⟩
theorem tab_ok : tab.ok Try.prog := (tab_cons tok_3 (tab_cons tok_4 (tab_cons tok_9 tab_nil)))
@[reducible] def cfg (Γ : Env) : Cfg := { τ := tab, eq := fun _ => false, Γ := Γ }
theorem cfg_ok {Γ : Env} (h : Γ.ok Try.prog) : (cfg Γ).ok Try.prog := ⟨tab_ok, (fun _ _ h => by cases h), h, by kernel_rfl⟩
@[reducible] noncomputable def e_spec_ErrorName : FnE := { f := 11, args := [.int .i64], res := [.str], F := fun xs => spec_ErrorName xs.1 }
theorem ok_spec_ErrorName : FnOK Try.prog e_spec_ErrorName := by
  refine FnOK.of (e := e_spec_ErrorName) (C := cfg []) (cfg_ok env_nil) Try.func11 (c := codeOf Try.f11) rfl Try.call11 (by decide)
    (.leaf) ?_ ?_
  · exact conds_leaf _ _
  · intro xs r h
    refine Eq.trans (Eq.symm ?_) h
    kernel_rfl
@[reducible] noncomputable def e_impl_ErrorName : FnE := { f := 12, args := [.int .i64], res := [.str], F := fun xs => impl_ErrorName xs.1 }
theorem ok_impl_ErrorName : FnOK Try.prog e_impl_ErrorName := by
  refine FnOK.of (e := e_impl_ErrorName) (C := cfg []) (cfg_ok env_nil) Try.func12 (c := codeOf Try.f12) rfl Try.call12 (by decide)
    (.leaf) ?_ ?_
  · exact conds_leaf _ _
  · intro xs r h
    refine Eq.trans (Eq.symm ?_) h
    kernel_rfl
@[reducible] noncomputable def e_laws_FnExactErrorName : FnE := { f := 4, args := [.int .i64], res := [.bool], F := fun xs => laws_FnExactErrorName xs.1 }
theorem ok_laws_FnExactErrorName : FnOK Try.prog e_laws_FnExactErrorName := by
  refine FnOK.of (e := e_laws_FnExactErrorName) (C := cfg [e_spec_ErrorName, e_impl_ErrorName]) (cfg_ok (env_cons ok_spec_ErrorName (env_cons ok_impl_ErrorName env_nil))) Try.func4 (c := codeOf Try.f4) rfl Try.call4 (by decide)
    (.leaf) ?_ ?_
  · exact conds_leaf _ _
  · intro xs r h
    refine Eq.trans (Eq.symm ?_) h
    kernel_rfl
end Go.Proofs.Ytnfmhhhnjfpijaa
