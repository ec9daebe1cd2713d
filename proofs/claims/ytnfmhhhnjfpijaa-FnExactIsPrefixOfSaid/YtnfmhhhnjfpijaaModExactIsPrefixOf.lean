/- FnExactIsPrefixOf: what the functions that it reaches compute, as plain functions, and that they do so. No condition. -/
import Derived.Test.YtnfmhhhnjfpijaaRows
import Derived.Test.YtnfmhhhnjfpijaaAm4
namespace Go.Proofs.Ytnfmhhhnjfpijaa
open Go.Am
set_option maxRecDepth 100000
set_option linter.unusedVariables false

noncomputable def spec_IsPrefixOf (a0 : List UInt8) (b1 : List UInt8) : Option (Bool × Unit) :=
  let t9 : Bool := decide ((a0.length : Int) ≤ (b1.length : Int))
  guardP ((t9 = true → (0 ≤ (0 : Int) ∧ (0 : Int) ≤ (a0.length : Int) ∧ (a0.length : Int) ≤ b1.length))) <|
  some ((match t9 with | true => (((b1.drop (0 : Int).toNat).take ((a0.length : Int).toNat - (0 : Int).toNat)) == a0) | false => false), ())
noncomputable def stringslite_HasPrefix (s0 : List UInt8) (prefix1 : List UInt8) : Option (Bool × Unit) :=
  let t9 : Bool := decide ((s0.length : Int) ≥ (prefix1.length : Int))
  guardP ((t9 = true → (0 ≤ (0 : Int) ∧ (0 : Int) ≤ (prefix1.length : Int) ∧ (prefix1.length : Int) ≤ s0.length))) <|
  some ((match t9 with | true => (((s0.drop (0 : Int).toNat).take ((prefix1.length : Int).toNat - (0 : Int).toNat)) == prefix1) | false => false), ())
noncomputable def strings_HasPrefix (s0 : List UInt8) (prefix1 : List UInt8) : Option (Bool × Unit) :=
  Option.bind (stringslite_HasPrefix s0 prefix1) fun t7 =>
  some (t7.1, ())
noncomputable def impl_IsPrefixOf (a0 : List UInt8) (b1 : List UInt8) : Option (Bool × Unit) :=
  Option.bind (strings_HasPrefix b1 a0) fun t7 =>
  some (t7.1, ())
noncomputable def laws_FnExactIsPrefixOf (aA0 : List UInt8) (aB1 : List UInt8) : Option (Bool × Unit) :=
  bif decide ((aA0.length : Int) > (1048576 : Int)) then
    some (true, ())
  else
    bif decide ((aB1.length : Int) > (1048576 : Int)) then
      some (true, ())
    else
      Option.bind (spec_IsPrefixOf aA0 aB1) fun t15 =>
      Option.bind (impl_IsPrefixOf aA0 aB1) fun t18 =>
      bif !(t18.1 == t15.1) then
        some (false, ())
      else
        some (true, ())
def tab : Tab := lookT [(3, .int .i64), (4, .bool), (9, .str)]
theorem tok_3 : TOK Try.prog 3 (.int .i64) := ⟨by kernel_rfl, by kernel_rfl⟩
theorem tok_4 : TOK Try.prog 4 (.bool) := ⟨by kernel_rfl, by kernel_rfl⟩
theorem tok_9 : TOK Try.prog 9 (.str) := ⟨by kernel_rfl, by kernel_rfl⟩
theorem tab_ok : tab.ok Try.prog := (tab_cons tok_3 (tab_cons tok_4 (tab_cons tok_9 tab_nil)))
@[reducible] def cfg (Γ : Env) : Cfg := { τ := tab, eq := fun _ => false, Γ := Γ }
theorem cfg_ok {Γ : Env} (h : Γ.ok Try.prog) : (cfg Γ).ok Try.prog := ⟨tab_ok, (fun _ _ h => by cases h), h, by kernel_rfl⟩
@[reducible] noncomputable def e_spec_IsPrefixOf : FnE := { f := 9, args := [.str, .str], res := [.bool], F := fun xs => spec_IsPrefixOf xs.1 xs.2.1 }
theorem ok_spec_IsPrefixOf : FnOK Try.prog e_spec_IsPrefixOf := by
  refine FnOK.of (e := e_spec_IsPrefixOf) (C := cfg []) (cfg_ok env_nil) Try.func9 (c := codeOf Try.f9) rfl Try.call9 (by decide)
    (.leaf) ?_ ?_
  · exact conds_leaf _ _
  · intro xs r h
    refine Eq.trans (Eq.symm ?_) h
    kernel_rfl
@[reducible] noncomputable def e_stringslite_HasPrefix : FnE := { f := 31, args := [.str, .str], res := [.bool], F := fun xs => stringslite_HasPrefix xs.1 xs.2.1 }
theorem ok_stringslite_HasPrefix : FnOK Try.prog e_stringslite_HasPrefix := by
  refine FnOK.of (e := e_stringslite_HasPrefix) (C := cfg []) (cfg_ok env_nil) Try.func31 (c := codeOf Try.f31) rfl Try.call31 (by decide)
    (.leaf) ?_ ?_
  · exact conds_leaf _ _
  · intro xs r h
    refine Eq.trans (Eq.symm ?_) h
    kernel_rfl
@[reducible] noncomputable def e_strings_HasPrefix : FnE := { f := 26, args := [.str, .str], res := [.bool], F := fun xs => strings_HasPrefix xs.1 xs.2.1 }
theorem ok_strings_HasPrefix : FnOK Try.prog e_strings_HasPrefix := by
  refine FnOK.of (e := e_strings_HasPrefix) (C := cfg [e_stringslite_HasPrefix]) (cfg_ok (env_cons ok_stringslite_HasPrefix env_nil)) Try.func26 (c := codeOf Try.f26) rfl Try.call26 (by decide)
    (.leaf) ?_ ?_
  · exact conds_leaf _ _
  · intro xs r h
    refine Eq.trans (Eq.symm ?_) h
    kernel_rfl
@[reducible] noncomputable def e_impl_IsPrefixOf : FnE := { f := 10, args := [.str, .str], res := [.bool], F := fun xs => impl_IsPrefixOf xs.1 xs.2.1 }
theorem ok_impl_IsPrefixOf : FnOK Try.prog e_impl_IsPrefixOf := by
  refine FnOK.of (e := e_impl_IsPrefixOf) (C := cfg [e_strings_HasPrefix]) (cfg_ok (env_cons ok_strings_HasPrefix env_nil)) Try.func10 (c := codeOf Try.f10) rfl Try.call10 (by decide)
    (.leaf) ?_ ?_
  · exact conds_leaf _ _
  · intro xs r h
    refine Eq.trans (Eq.symm ?_) h
    kernel_rfl
@[reducible] noncomputable def e_laws_FnExactIsPrefixOf : FnE := { f := 3, args := [.str, .str], res := [.bool], F := fun xs => laws_FnExactIsPrefixOf xs.1 xs.2.1 }
theorem ok_laws_FnExactIsPrefixOf : FnOK Try.prog e_laws_FnExactIsPrefixOf := by
  refine FnOK.of (e := e_laws_FnExactIsPrefixOf) (C := cfg [e_spec_IsPrefixOf, e_impl_IsPrefixOf]) (cfg_ok (env_cons ok_spec_IsPrefixOf (env_cons ok_impl_IsPrefixOf env_nil))) Try.func3 (c := codeOf Try.f3) rfl Try.call3 (by decide)
    (.leaf) ?_ ?_
  · exact conds_leaf _ _
  · intro xs r h
    refine Eq.trans (Eq.symm ?_) h
    kernel_rfl
end Go.Proofs.Ytnfmhhhnjfpijaa
