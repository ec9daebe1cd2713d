/- FnExactFirstDifference: what the functions that it reaches compute, as plain functions, and that they do so. No condition. -/
import Derived.Test.YtnfmhhhnjfpijaaRows
import Derived.Test.YtnfmhhhnjfpijaaAm4
namespace Go.Proofs.Ytnfmhhhnjfpijaa
open Go.Am
set_option maxRecDepth 100000
set_option linter.unusedVariables false

@[reducible] def laws_szStringS_l1_p : List PE := [.val 0 (.slice 9 (.str)) (.u false), .val 1 (.int .i64) (.u false), .val 5 (.int .i64) (.u false)]
def laws_szStringS_l1_fuel (a0_1 : List (List UInt8)) (left1_1 : Int) (i5 : Int) : Nat := ((a0_1.length : Int) - i5).toNat + 1
noncomputable def laws_szStringS_l1 : Nat → List (List UInt8) → Int → Int → Option (Int × Unit)
  | 0, _, _, _ => none
  | N + 1, a0_1, left1_1, i5 =>
    bif decide (i5 < (a0_1.length : Int)) then
      guardP (0 ≤ i5 ∧ i5 < a0_1.length) <|
      let t24 : Int := IntKind.i64.wrap (left1_1 - ((a0_1.getD i5.toNat ([] : List UInt8)).length : Int))
      bif decide (t24 < (0 : Int)) then
        some ((-1 : Int), ())
      else
        laws_szStringS_l1 N a0_1 t24 (IntKind.i64.wrap (i5 + (1 : Int)))
    else
      some (left1_1, ())
noncomputable def laws_szStringS (a0 : List (List UInt8)) (left1 : Int) : Option (Int × Unit) :=
  let t9 : Int := IntKind.i64.wrap (left1 - (a0.length : Int))
  bif decide (t9 < (0 : Int)) then
    some ((-1 : Int), ())
  else
    laws_szStringS_l1 (laws_szStringS_l1_fuel a0 t9 (0 : Int)) a0 t9 (0 : Int)
@[reducible] def laws_toStringS_l1_p : List PE := [.val 0 (.slice 9 (.str)) (.u false), .val 3 (.slice 9 (.str)) (.u true), .val 4 (.int .i64) (.u false)]
def laws_toStringS_l1_fuel (a0_1 : List (List UInt8)) (out3 : List (List UInt8)) (i4 : Int) : Nat := ((a0_1.length : Int) - i4).toNat + 1
noncomputable def laws_toStringS_l1 : Nat → List (List UInt8) → List (List UInt8) → Int → Option (List (List UInt8) × Unit)
  | 0, _, _, _ => none
  | N + 1, a0_1, out3, i4 =>
    bif decide (i4 < (a0_1.length : Int)) then
      guardP (0 ≤ i4 ∧ i4 < a0_1.length) <|
      guardP (0 ≤ i4 ∧ i4 < out3.length) <|
      laws_toStringS_l1 N a0_1 (out3.set i4.toNat (a0_1.getD i4.toNat ([] : List UInt8))) (IntKind.i64.wrap (i4 + (1 : Int)))
    else
      some (out3, ())
noncomputable def laws_toStringS (a0 : List (List UInt8)) : Option (List (List UInt8) × Unit) :=
  guardP (0 ≤ (a0.length : Int) ∧ (a0.length : Int) ≤ (a0.length : Int) ∧ (a0.length : Int) ≤ capN) <|
  let t7 : List (List UInt8) := List.replicate (a0.length : Int).toNat ([] : List UInt8)
  laws_toStringS_l1 (laws_toStringS_l1_fuel a0 t7 (0 : Int)) a0 t7 (0 : Int)
@[reducible] def spec_FirstDifference_l1_p : List PE := [.val 0 (.slice 9 (.str)) (.u false), .val 1 (.slice 9 (.str)) (.u false), .val 5 (.int .i64) (.u false)]
def spec_FirstDifference_l1_fuel (a0_1 : List (List UInt8)) (b1_1 : List (List UInt8)) (i5 : Int) : Nat := ((a0_1.length : Int) - i5).toNat + 1
noncomputable def spec_FirstDifference_l1 : Nat → List (List UInt8) → List (List UInt8) → Int → Option (Int × Unit)
  | 0, _, _, _ => none
  | N + 1, a0_1, b1_1, i5 =>
    bif (decide (i5 < (a0_1.length : Int))) && (decide (i5 < (b1_1.length : Int))) then
      guardP (0 ≤ i5 ∧ i5 < a0_1.length) <|
      guardP (0 ≤ i5 ∧ i5 < b1_1.length) <|
      bif !((a0_1.getD i5.toNat ([] : List UInt8)) == (b1_1.getD i5.toNat ([] : List UInt8))) then
        some (i5, ())
      else
        spec_FirstDifference_l1 N a0_1 b1_1 (IntKind.i64.wrap (i5 + (1 : Int)))
    else
      bif (a0_1.length : Int) == (b1_1.length : Int) then
        some ((-1 : Int), ())
      else
        some (min (a0_1.length : Int) (b1_1.length : Int), ())
noncomputable def spec_FirstDifference (a0 : List (List UInt8)) (b1 : List (List UInt8)) : Option (Int × Unit) :=
  spec_FirstDifference_l1 (spec_FirstDifference_l1_fuel a0 b1 (0 : Int)) a0 b1 (0 : Int)
@[reducible] def impl_FirstDifference_l1_p : List PE := [.val 0 (.slice 9 (.str)) (.u false), .val 1 (.slice 9 (.str)) (.u false), .val 10 (.int .i64) (.u false), .val 11 (.int .i64) (.u false)]
def impl_FirstDifference_l1_fuel (a0_1 : List (List UInt8)) (b1_1 : List (List UInt8)) (t10_1 : Int) (t11 : Int) : Nat := (t10_1 - t11).toNat + 1
noncomputable def impl_FirstDifference_l1 : Nat → List (List UInt8) → List (List UInt8) → Int → Int → Option (Int × Unit)
  | 0, _, _, _, _ => none
  | N + 1, a0_1, b1_1, t10_1, t11 =>
    bif decide (t11 < t10_1) then
      guardP (0 ≤ t11 ∧ t11 < a0_1.length) <|
      guardP (0 ≤ t11 ∧ t11 < b1_1.length) <|
      bif !((a0_1.getD t11.toNat ([] : List UInt8)) == (b1_1.getD t11.toNat ([] : List UInt8))) then
        some (t11, ())
      else
        impl_FirstDifference_l1 N a0_1 b1_1 t10_1 (IntKind.i64.wrap (t11 + (1 : Int)))
    else
      bif (a0_1.length : Int) == (b1_1.length : Int) then
        some ((-1 : Int), ())
      else
        some (min (a0_1.length : Int) (b1_1.length : Int), ())
noncomputable def impl_FirstDifference (a0 : List (List UInt8)) (b1 : List (List UInt8)) : Option (Int × Unit) :=
  let t10 : Int := min (a0.length : Int) (b1.length : Int)
  impl_FirstDifference_l1 (impl_FirstDifference_l1_fuel a0 b1 t10 (0 : Int)) a0 b1 t10 (0 : Int)
@[reducible] def laws_eqStringS_l1_p : List PE := [.val 0 (.slice 9 (.str)) (.u false), .val 1 (.slice 9 (.str)) (.u false), .val 5 (.int .i64) (.u false)]
def laws_eqStringS_l1_fuel (a0_1 : List (List UInt8)) (b1_1 : List (List UInt8)) (i5 : Int) : Nat := ((a0_1.length : Int) - i5).toNat + 1
noncomputable def laws_eqStringS_l1 : Nat → List (List UInt8) → List (List UInt8) → Int → Option (Bool × Unit)
  | 0, _, _, _ => none
  | N + 1, a0_1, b1_1, i5 =>
    bif decide (i5 < (a0_1.length : Int)) then
      guardP (0 ≤ i5 ∧ i5 < a0_1.length) <|
      guardP (0 ≤ i5 ∧ i5 < b1_1.length) <|
      bif !((a0_1.getD i5.toNat ([] : List UInt8)) == (b1_1.getD i5.toNat ([] : List UInt8))) then
        some (false, ())
      else
        laws_eqStringS_l1 N a0_1 b1_1 (IntKind.i64.wrap (i5 + (1 : Int)))
    else
      some (true, ())
noncomputable def laws_eqStringS (a0 : List (List UInt8)) (b1 : List (List UInt8)) : Option (Bool × Unit) :=
  bif (a0.length : Int) != (b1.length : Int) then
    some (false, ())
  else
    laws_eqStringS_l1 (laws_eqStringS_l1_fuel a0 b1 (0 : Int)) a0 b1 (0 : Int)
noncomputable def laws_FnExactFirstDifference (aA0 : List (List UInt8)) (aB1 : List (List UInt8)) : Option (Bool × Unit) :=
  Option.bind (laws_szStringS aA0 (1048576 : Int)) fun t12 =>
  bif decide (t12.1 < (0 : Int)) then
    some (true, ())
  else
    Option.bind (laws_szStringS aB1 t12.1) fun t17 =>
    bif decide (t17.1 < (0 : Int)) then
      some (true, ())
    else
      Option.bind (laws_toStringS aA0) fun t21 =>
      Option.bind (laws_toStringS aB1) fun t23 =>
      Option.bind (spec_FirstDifference t21.1 t23.1) fun t24 =>
      Option.bind (laws_toStringS aA0) fun t26 =>
      Option.bind (laws_toStringS aB1) fun t28 =>
      Option.bind (impl_FirstDifference t26.1 t28.1) fun t31 =>
      bif t31.1 != t24.1 then
        some (false, ())
      else
        Option.bind (laws_toStringS aA0) fun t37 =>
        Option.bind (laws_eqStringS t26.1 t37.1) fun t38 =>
        bif !t38.1 then
          some (false, ())
        else
          Option.bind (laws_toStringS aB1) fun t42 =>
          Option.bind (laws_eqStringS t28.1 t42.1) fun t43 =>
          bif !t43.1 then
            some (false, ())
          else
            some (true, ())
def tab : Tab := lookT [(3, .int .i64), (4, .bool), (9, .str), (29, .slice 9 (.str))]
theorem tok_3 : TOK Try.prog 3 (.int .i64) := ⟨by kernel_rfl, by kernel_rfl⟩
theorem tok_4 : TOK Try.prog 4 (.bool) := ⟨by kernel_rfl, by kernel_rfl⟩
theorem tok_9 : TOK Try.prog 9 (.str) := ⟨by kernel_rfl, by kernel_rfl⟩
theorem tok_29 : TOK Try.prog 29 (.slice 9 (.str)) := ⟨by kernel_rfl, by kernel_rfl⟩
theorem tab_ok : tab.ok Try.prog := (tab_cons tok_3 (tab_cons tok_4 (tab_cons tok_9 (tab_cons tok_29 tab_nil))))
@[reducible] def cfg (Γ : Env) : Cfg := { τ := tab, eq := fun _ => false, Γ := Γ }
theorem cfg_ok {Γ : Env} (h : Γ.ok Try.prog) : (cfg Γ).ok Try.prog := ⟨tab_ok, (fun _ _ h => by cases h), h, by kernel_rfl⟩
@[reducible] noncomputable def e_laws_szStringS : FnE := { f := 17, args := [.slice 9 (.str), .int .i64], res := [.int .i64], F := fun xs => laws_szStringS xs.1 xs.2.1 }
theorem ok_laws_szStringS : FnOK Try.prog e_laws_szStringS := by
  refine FnOK.of (e := e_laws_szStringS) (C := cfg []) (cfg_ok env_nil) Try.func17 (c := codeOf Try.f17) rfl Try.call17 (by decide)
    ((.seq .leaf (.seq .leaf (.seq .leaf (.seq (.seq .leaf (.block (.loop laws_szStringS_l1_p (fun N v => laws_szStringS_l1 N v.1 v.2.1 v.2.2.1) (fun v => laws_szStringS_l1_fuel v.1 v.2.1 v.2.2.1) (fun K1 => .leaf)))) .leaf))))) ?_ ?_
  · exact ⟨conds_leaf _ _, ⟨conds_leaf _ _, ⟨conds_leaf _ _, ⟨⟨conds_leaf _ _, ⟨fun _ => rfl, fun N => ⟨(fun v => by kernel_rfl), conds_leaf _ _⟩⟩⟩, conds_leaf _ _⟩⟩⟩⟩
  · intro xs r h
    refine Eq.trans (Eq.symm ?_) h
    kernel_rfl
@[reducible] noncomputable def e_laws_toStringS : FnE := { f := 19, args := [.slice 9 (.str)], res := [.slice 9 (.str)], F := fun xs => laws_toStringS xs.1 }
theorem ok_laws_toStringS : FnOK Try.prog e_laws_toStringS := by
  refine FnOK.of (e := e_laws_toStringS) (C := cfg []) (cfg_ok env_nil) Try.func19 (c := codeOf Try.f19) rfl Try.call19 (by decide)
    ((.seq .leaf (.seq .leaf (.seq (.seq .leaf (.block (.loop laws_toStringS_l1_p (fun N v => laws_toStringS_l1 N v.1 v.2.1 v.2.2.1) (fun v => laws_toStringS_l1_fuel v.1 v.2.1 v.2.2.1) (fun K1 => .leaf)))) .leaf)))) ?_ ?_
  · exact ⟨conds_leaf _ _, ⟨conds_leaf _ _, ⟨⟨conds_leaf _ _, ⟨fun _ => rfl, fun N => ⟨(fun v => by kernel_rfl), conds_leaf _ _⟩⟩⟩, conds_leaf _ _⟩⟩⟩
  · intro xs r h
    refine Eq.trans (Eq.symm ?_) h
    kernel_rfl
@[reducible] noncomputable def e_spec_FirstDifference : FnE := { f := 18, args := [.slice 9 (.str), .slice 9 (.str)], res := [.int .i64], F := fun xs => spec_FirstDifference xs.1 xs.2.1 }
theorem ok_spec_FirstDifference : FnOK Try.prog e_spec_FirstDifference := by
  refine FnOK.of (e := e_spec_FirstDifference) (C := cfg []) (cfg_ok env_nil) Try.func18 (c := codeOf Try.f18) rfl Try.call18 (by decide)
    ((.seq .leaf (.seq (.seq .leaf (.block (.loop spec_FirstDifference_l1_p (fun N v => spec_FirstDifference_l1 N v.1 v.2.1 v.2.2.1) (fun v => spec_FirstDifference_l1_fuel v.1 v.2.1 v.2.2.1) (fun K1 => .leaf)))) .leaf))) ?_ ?_
  · exact ⟨conds_leaf _ _, ⟨⟨conds_leaf _ _, ⟨fun _ => rfl, fun N => ⟨(fun v => by kernel_rfl), conds_leaf _ _⟩⟩⟩, conds_leaf _ _⟩⟩
  · intro xs r h
    refine Eq.trans (Eq.symm ?_) h
    kernel_rfl
@[reducible] noncomputable def e_impl_FirstDifference : FnE := { f := 20, args := [.slice 9 (.str), .slice 9 (.str)], res := [.int .i64], F := fun xs => impl_FirstDifference xs.1 xs.2.1 }
theorem ok_impl_FirstDifference : FnOK Try.prog e_impl_FirstDifference := by
  refine FnOK.of (e := e_impl_FirstDifference) (C := cfg []) (cfg_ok env_nil) Try.func20 (c := codeOf Try.f20) rfl Try.call20 (by decide)
    ((.seq .leaf (.seq (.seq .leaf (.block (.loop impl_FirstDifference_l1_p (fun N v => impl_FirstDifference_l1 N v.1 v.2.1 v.2.2.1 v.2.2.2.1) (fun v => impl_FirstDifference_l1_fuel v.1 v.2.1 v.2.2.1 v.2.2.2.1) (fun K1 => .leaf)))) .leaf))) ?_ ?_
  · exact ⟨conds_leaf _ _, ⟨⟨conds_leaf _ _, ⟨fun _ => rfl, fun N => ⟨(fun v => by kernel_rfl), conds_leaf _ _⟩⟩⟩, conds_leaf _ _⟩⟩
  · intro xs r h
    refine Eq.trans (Eq.symm ?_) h
    kernel_rfl
@[reducible] noncomputable def e_laws_eqStringS : FnE := { f := 21, args := [.slice 9 (.str), .slice 9 (.str)], res := [.bool], F := fun xs => laws_eqStringS xs.1 xs.2.1 }
theorem ok_laws_eqStringS : FnOK Try.prog e_laws_eqStringS := by
  refine FnOK.of (e := e_laws_eqStringS) (C := cfg []) (cfg_ok env_nil) Try.func21 (c := codeOf Try.f21) rfl Try.call21 (by decide)
    ((.seq .leaf (.seq .leaf (.seq (.seq .leaf (.block (.loop laws_eqStringS_l1_p (fun N v => laws_eqStringS_l1 N v.1 v.2.1 v.2.2.1) (fun v => laws_eqStringS_l1_fuel v.1 v.2.1 v.2.2.1) (fun K1 => .leaf)))) .leaf)))) ?_ ?_
  · exact ⟨conds_leaf _ _, ⟨conds_leaf _ _, ⟨⟨conds_leaf _ _, ⟨fun _ => rfl, fun N => ⟨(fun v => by kernel_rfl), conds_leaf _ _⟩⟩⟩, conds_leaf _ _⟩⟩⟩
  · intro xs r h
    refine Eq.trans (Eq.symm ?_) h
    kernel_rfl
@[reducible] noncomputable def e_laws_FnExactFirstDifference : FnE := { f := 6, args := [.slice 9 (.str), .slice 9 (.str)], res := [.bool], F := fun xs => laws_FnExactFirstDifference xs.1 xs.2.1 }
theorem ok_laws_FnExactFirstDifference : FnOK Try.prog e_laws_FnExactFirstDifference := by
  refine FnOK.of (e := e_laws_FnExactFirstDifference) (C := cfg [e_laws_szStringS, e_laws_toStringS, e_spec_FirstDifference, e_impl_FirstDifference, e_laws_eqStringS]) (cfg_ok (env_cons ok_laws_szStringS (env_cons ok_laws_toStringS (env_cons ok_spec_FirstDifference (env_cons ok_impl_FirstDifference (env_cons ok_laws_eqStringS env_nil)))))) Try.func6 (c := codeOf Try.f6) rfl Try.call6 (by decide)
    (.leaf) ?_ ?_
  · exact conds_leaf _ _
  · intro xs r h
    refine Eq.trans (Eq.symm ?_) h
    kernel_rfl
end Go.Proofs.Ytnfmhhhnjfpijaa
