/- FnExactIsRising: what the functions that it reaches compute, as plain functions, and that they do so. No condition. -/
import Derived.Test.YtnfmhhhnjfpijaaRows
import Derived.Test.YtnfmhhhnjfpijaaAm4
namespace Go.Proofs.Ytnfmhhhnjfpijaa
open Go.Am
set_option maxRecDepth 100000
set_option linter.unusedVariables false

@[reducible] def laws_toIntS_l1_p : List PE := [.val 0 (.slice 3 (.int .i64)) (.u false), .val 3 (.slice 3 (.int .i64)) (.u true), .val 4 (.int .i64) (.u false)]
def laws_toIntS_l1_fuel (a0_1 : List Int) (out3 : List Int) (i4 : Int) : Nat := ((a0_1.length : Int) - i4).toNat + 1
noncomputable def laws_toIntS_l1 : Nat → List Int → List Int → Int → Option (List Int × Unit)
  | 0, _, _, _ => none
  | N + 1, a0_1, out3, i4 =>
    bif decide (i4 < (a0_1.length : Int)) then
      guardP (0 ≤ i4 ∧ i4 < a0_1.length) <|
      guardP (0 ≤ i4 ∧ i4 < out3.length) <|
      laws_toIntS_l1 N a0_1 (out3.set i4.toNat (a0_1.getD i4.toNat (0 : Int))) (IntKind.i64.wrap (i4 + (1 : Int)))
    else
      some (out3, ())
noncomputable def laws_toIntS (a0 : List Int) : Option (List Int × Unit) :=
  guardP (0 ≤ (a0.length : Int) ∧ (a0.length : Int) ≤ (a0.length : Int) ∧ (a0.length : Int) ≤ capN) <|
  let t7 : List Int := List.replicate (a0.length : Int).toNat (0 : Int)
  laws_toIntS_l1 (laws_toIntS_l1_fuel a0 t7 (0 : Int)) a0 t7 (0 : Int)
@[reducible] def spec_IsRising_l1_p : List PE := [.val 0 (.slice 3 (.int .i64)) (.u false), .val 3 (.int .i64) (.u false)]
def spec_IsRising_l1_fuel (l0_1 : List Int) (i3 : Int) : Nat := ((l0_1.length : Int) - i3).toNat + 1
noncomputable def spec_IsRising_l1 : Nat → List Int → Int → Option (Bool × Unit)
  | 0, _, _ => none
  | N + 1, l0_1, i3 =>
    bif decide (i3 < (l0_1.length : Int)) then
      guardP (0 ≤ i3 ∧ i3 < l0_1.length) <|
      guardP (0 ≤ (IntKind.i64.wrap (i3 - (1 : Int))) ∧ (IntKind.i64.wrap (i3 - (1 : Int))) < l0_1.length) <|
      bif decide ((l0_1.getD i3.toNat (0 : Int)) < (l0_1.getD (IntKind.i64.wrap (i3 - (1 : Int))).toNat (0 : Int))) then
        some (false, ())
      else
        spec_IsRising_l1 N l0_1 (IntKind.i64.wrap (i3 + (1 : Int)))
    else
      some (true, ())
noncomputable def spec_IsRising (l0 : List Int) : Option (Bool × Unit) :=
  spec_IsRising_l1 (spec_IsRising_l1_fuel l0 (1 : Int)) l0 (1 : Int)
@[reducible] def impl_IsRising_l1_p : List PE := [.val 0 (.slice 3 (.int .i64)) (.u false), .val 3 (.int .i64) (.u false)]
def impl_IsRising_l1_fuel (l0_1 : List Int) (i3 : Int) : Nat := ((l0_1.length : Int) - i3).toNat + 1
noncomputable def impl_IsRising_l1 : Nat → List Int → Int → Option (Bool × Unit)
  | 0, _, _ => none
  | N + 1, l0_1, i3 =>
    bif decide (i3 < (l0_1.length : Int)) then
      guardP (0 ≤ i3 ∧ i3 < l0_1.length) <|
      guardP (0 ≤ (IntKind.i64.wrap (i3 - (1 : Int))) ∧ (IntKind.i64.wrap (i3 - (1 : Int))) < l0_1.length) <|
      bif decide ((l0_1.getD i3.toNat (0 : Int)) < (l0_1.getD (IntKind.i64.wrap (i3 - (1 : Int))).toNat (0 : Int))) then
        some (false, ())
      else
        impl_IsRising_l1 N l0_1 (IntKind.i64.wrap (i3 + (1 : Int)))
    else
      some (true, ())
noncomputable def impl_IsRising (l0 : List Int) : Option (Bool × Unit) :=
  impl_IsRising_l1 (impl_IsRising_l1_fuel l0 (1 : Int)) l0 (1 : Int)
@[reducible] def laws_eqIntS_l1_p : List PE := [.val 0 (.slice 3 (.int .i64)) (.u false), .val 1 (.slice 3 (.int .i64)) (.u false), .val 5 (.int .i64) (.u false)]
def laws_eqIntS_l1_fuel (a0_1 : List Int) (b1_1 : List Int) (i5 : Int) : Nat := ((a0_1.length : Int) - i5).toNat + 1
noncomputable def laws_eqIntS_l1 : Nat → List Int → List Int → Int → Option (Bool × Unit)
  | 0, _, _, _ => none
  | N + 1, a0_1, b1_1, i5 =>
    bif decide (i5 < (a0_1.length : Int)) then
      guardP (0 ≤ i5 ∧ i5 < a0_1.length) <|
      guardP (0 ≤ i5 ∧ i5 < b1_1.length) <|
      bif (a0_1.getD i5.toNat (0 : Int)) != (b1_1.getD i5.toNat (0 : Int)) then
        some (false, ())
      else
        laws_eqIntS_l1 N a0_1 b1_1 (IntKind.i64.wrap (i5 + (1 : Int)))
    else
      some (true, ())
noncomputable def laws_eqIntS (a0 : List Int) (b1 : List Int) : Option (Bool × Unit) :=
  bif (a0.length : Int) != (b1.length : Int) then
    some (false, ())
  else
    laws_eqIntS_l1 (laws_eqIntS_l1_fuel a0 b1 (0 : Int)) a0 b1 (0 : Int)
noncomputable def laws_FnExactIsRising (aL0 : List Int) : Option (Bool × Unit) :=
  bif decide ((aL0.length : Int) > (1048576 : Int)) then
    some (true, ())
  else
    Option.bind (laws_toIntS aL0) fun t10 =>
    Option.bind (spec_IsRising t10.1) fun t11 =>
    Option.bind (laws_toIntS aL0) fun t13 =>
    Option.bind (impl_IsRising t13.1) fun t15 =>
    bif !(t15.1 == t11.1) then
      some (false, ())
    else
      Option.bind (laws_toIntS aL0) fun t21 =>
      Option.bind (laws_eqIntS t13.1 t21.1) fun t22 =>
      bif !t22.1 then
        some (false, ())
      else
        some (true, ())
def tab : Tab := lookT [(3, .int .i64), (4, .bool), (25, .slice 3 (.int .i64))]
theorem tok_3 : TOK Try.prog 3 (.int .i64) := ⟨by kernel_rfl, by kernel_rfl⟩
theorem tok_4 : TOK Try.prog 4 (.bool) := ⟨by kernel_rfl, by kernel_rfl⟩
theorem tok_25 : TOK Try.prog 25 (.slice 3 (.int .i64)) := ⟨by kernel_rfl, by kernel_rfl⟩
theorem tab_ok : tab.ok Try.prog := (tab_cons tok_3 (tab_cons tok_4 (tab_cons tok_25 tab_nil)))
@[reducible] def cfg (Γ : Env) : Cfg := { τ := tab, eq := fun _ => false, Γ := Γ }
theorem cfg_ok {Γ : Env} (h : Γ.ok Try.prog) : (cfg Γ).ok Try.prog := ⟨tab_ok, (fun _ _ h => by cases h), h, by kernel_rfl⟩
@[reducible] noncomputable def e_laws_toIntS : FnE := { f := 14, args := [.slice 3 (.int .i64)], res := [.slice 3 (.int .i64)], F := fun xs => laws_toIntS xs.1 }
theorem ok_laws_toIntS : FnOK Try.prog e_laws_toIntS := by
  refine FnOK.of (e := e_laws_toIntS) (C := cfg []) (cfg_ok env_nil) Try.func14 (c := codeOf Try.f14) rfl Try.call14 (by decide)
    ((.seq .leaf (.seq .leaf (.seq (.seq .leaf (.block (.loop laws_toIntS_l1_p (fun N v => laws_toIntS_l1 N v.1 v.2.1 v.2.2.1) (fun v => laws_toIntS_l1_fuel v.1 v.2.1 v.2.2.1) (fun K1 => .leaf)))) .leaf)))) ?_ ?_
  · exact ⟨conds_leaf _ _, ⟨conds_leaf _ _, ⟨⟨conds_leaf _ _, ⟨fun _ => rfl, fun N => ⟨(fun v => by kernel_rfl), conds_leaf _ _⟩⟩⟩, conds_leaf _ _⟩⟩⟩
  · intro xs r h
    refine Eq.trans (Eq.symm ?_) h
    kernel_rfl
@[reducible] noncomputable def e_spec_IsRising : FnE := { f := 13, args := [.slice 3 (.int .i64)], res := [.bool], F := fun xs => spec_IsRising xs.1 }
theorem ok_spec_IsRising : FnOK Try.prog e_spec_IsRising := by
  refine FnOK.of (e := e_spec_IsRising) (C := cfg []) (cfg_ok env_nil) Try.func13 (c := codeOf Try.f13) rfl Try.call13 (by decide)
    ((.seq .leaf (.seq (.seq .leaf (.block (.loop spec_IsRising_l1_p (fun N v => spec_IsRising_l1 N v.1 v.2.1) (fun v => spec_IsRising_l1_fuel v.1 v.2.1) (fun K1 => .leaf)))) .leaf))) ?_ ?_
  · exact ⟨conds_leaf _ _, ⟨⟨conds_leaf _ _, ⟨fun _ => rfl, fun N => ⟨(fun v => by kernel_rfl), conds_leaf _ _⟩⟩⟩, conds_leaf _ _⟩⟩
  · intro xs r h
    refine Eq.trans (Eq.symm ?_) h
    kernel_rfl
@[reducible] noncomputable def e_impl_IsRising : FnE := { f := 15, args := [.slice 3 (.int .i64)], res := [.bool], F := fun xs => impl_IsRising xs.1 }
theorem ok_impl_IsRising : FnOK Try.prog e_impl_IsRising := by
  refine FnOK.of (e := e_impl_IsRising) (C := cfg []) (cfg_ok env_nil) Try.func15 (c := codeOf Try.f15) rfl Try.call15 (by decide)
    ((.seq .leaf (.seq (.seq .leaf (.block (.loop impl_IsRising_l1_p (fun N v => impl_IsRising_l1 N v.1 v.2.1) (fun v => impl_IsRising_l1_fuel v.1 v.2.1) (fun K1 => .leaf)))) .leaf))) ?_ ?_
  · exact ⟨conds_leaf _ _, ⟨⟨conds_leaf _ _, ⟨fun _ => rfl, fun N => ⟨(fun v => by kernel_rfl), conds_leaf _ _⟩⟩⟩, conds_leaf _ _⟩⟩
  · intro xs r h
    refine Eq.trans (Eq.symm ?_) h
    kernel_rfl
@[reducible] noncomputable def e_laws_eqIntS : FnE := { f := 16, args := [.slice 3 (.int .i64), .slice 3 (.int .i64)], res := [.bool], F := fun xs => laws_eqIntS xs.1 xs.2.1 }
theorem ok_laws_eqIntS : FnOK Try.prog e_laws_eqIntS := by
  refine FnOK.of (e := e_laws_eqIntS) (C := cfg []) (cfg_ok env_nil) Try.func16 (c := codeOf Try.f16) rfl Try.call16 (by decide)
    ((.seq .leaf (.seq .leaf (.seq (.seq .leaf (.block (.loop laws_eqIntS_l1_p (fun N v => laws_eqIntS_l1 N v.1 v.2.1 v.2.2.1) (fun v => laws_eqIntS_l1_fuel v.1 v.2.1 v.2.2.1) (fun K1 => .leaf)))) .leaf)))) ?_ ?_
  · exact ⟨conds_leaf _ _, ⟨conds_leaf _ _, ⟨⟨conds_leaf _ _, ⟨fun _ => rfl, fun N => ⟨(fun v => by kernel_rfl), conds_leaf _ _⟩⟩⟩, conds_leaf _ _⟩⟩⟩
  · intro xs r h
    refine Eq.trans (Eq.symm ?_) h
    kernel_rfl
@[reducible] noncomputable def e_laws_FnExactIsRising : FnE := { f := 5, args := [.slice 3 (.int .i64)], res := [.bool], F := fun xs => laws_FnExactIsRising xs.1 }
theorem ok_laws_FnExactIsRising : FnOK Try.prog e_laws_FnExactIsRising := by
  refine FnOK.of (e := e_laws_FnExactIsRising) (C := cfg [e_laws_toIntS, e_spec_IsRising, e_impl_IsRising, e_laws_eqIntS]) (cfg_ok (env_cons ok_laws_toIntS (env_cons ok_spec_IsRising (env_cons ok_impl_IsRising (env_cons ok_laws_eqIntS env_nil))))) Try.func5 (c := codeOf Try.f5) rfl Try.call5 (by decide)
    (.leaf) ?_ ?_
  · exact conds_leaf _ _
  · intro xs r h
    refine Eq.trans (Eq.symm ?_) h
    kernel_rfl
end Go.Proofs.Ytnfmhhhnjfpijaa
