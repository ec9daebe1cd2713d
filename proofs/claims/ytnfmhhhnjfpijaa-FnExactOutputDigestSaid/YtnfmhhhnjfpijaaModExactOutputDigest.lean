/- FnExactOutputDigest: what the functions that it reaches compute, as plain functions, and that they do so. No condition. -/
import Derived.Test.YtnfmhhhnjfpijaaRows
import Derived.Test.YtnfmhhhnjfpijaaAm4
namespace Go.Proofs.Ytnfmhhhnjfpijaa
open Go.Am
set_option maxRecDepth 100000
set_option linter.unusedVariables false

@[reducible] def laws_szStringS_l1_p : List PE := [.val 0 (.slice 9 (.str)) (.u false), .val 1 (.int .i64) (.u false), .val 5 (.int .i64) (.u false)]
def laws_szStringS_l1_fuel (a0_1 : List (List UInt8)) (left1_1 : Int) (i5 : Int) : Nat := ((a0_1.length : Int) - i5).toNat + 1
noncomputable def laws_szStringS_l1 : Nat → List (List UInt8) → Int → Int → Option (Int × Unit)
  | 0, _, _, _ => none
  | N + 1, a0_1, left1_1, i5 =>
    bif decide (i5 < (a0_1.length : Int)) then
      guardP (0 ≤ i5 ∧ i5 < a0_1.length) <|
      let t24 : Int := IntKind.i64.wrap (left1_1 - ((a0_1.getD i5.toNat ([] : List UInt8)).length : Int))
      bif decide (t24 < (0 : Int)) then
        some ((-1 : Int), ())
      else
        laws_szStringS_l1 N a0_1 t24 (IntKind.i64.wrap (i5 + (1 : Int)))
    else
      some (left1_1, ())
noncomputable def laws_szStringS (a0 : List (List UInt8)) (left1 : Int) : Option (Int × Unit) :=
  let t9 : Int := IntKind.i64.wrap (left1 - (a0.length : Int))
  bif decide (t9 < (0 : Int)) then
    some ((-1 : Int), ())
  else
    laws_szStringS_l1 (laws_szStringS_l1_fuel a0 t9 (0 : Int)) a0 t9 (0 : Int)
@[reducible] def laws_toStringS_l1_p : List PE := [.val 0 (.slice 9 (.str)) (.u false), .val 3 (.slice 9 (.str)) (.u true), .val 4 (.int .i64) (.u false)]
def laws_toStringS_l1_fuel (a0_1 : List (List UInt8)) (out3 : List (List UInt8)) (i4 : Int) : Nat := ((a0_1.length : Int) - i4).toNat + 1
noncomputable def laws_toStringS_l1 : Nat → List (List UInt8) → List (List UInt8) → Int → Option (List (List UInt8) × Unit)
  | 0, _, _, _ => none
  | N + 1, a0_1, out3, i4 =>
    bif decide (i4 < (a0_1.length : Int)) then
      guardP (0 ≤ i4 ∧ i4 < a0_1.length) <|
      guardP (0 ≤ i4 ∧ i4 < out3.length) <|
      laws_toStringS_l1 N a0_1 (out3.set i4.toNat (a0_1.getD i4.toNat ([] : List UInt8))) (IntKind.i64.wrap (i4 + (1 : Int)))
    else
      some (out3, ())
noncomputable def laws_toStringS (a0 : List (List UInt8)) : Option (List (List UInt8) × Unit) :=
  guardP (0 ≤ (a0.length : Int) ∧ (a0.length : Int) ≤ (a0.length : Int) ∧ (a0.length : Int) ≤ capN) <|
  let t7 : List (List UInt8) := List.replicate (a0.length : Int).toNat ([] : List UInt8)
  laws_toStringS_l1 (laws_toStringS_l1_fuel a0 t7 (0 : Int)) a0 t7 (0 : Int)
@[reducible] def spec_l33Mix_l1_p : List PE := [.val 0 (.int .i64) (.u false), .val 1 (.str) (.u false), .val 5 (.int .i64) (.u false)]
def spec_l33Mix_l1_fuel (h0_1 : Int) (s1_1 : List UInt8) (i5 : Int) : Nat := ((s1_1.length : Int) - i5).toNat + 1
noncomputable def spec_l33Mix_l1 : Nat → Int → List UInt8 → Int → Option (Int × Unit)
  | 0, _, _, _ => none
  | N + 1, h0_1, s1_1, i5 =>
    bif decide (i5 < (s1_1.length : Int)) then
      guardP (0 ≤ i5 ∧ i5 < s1_1.length) <|
      guardP ((1000003 : Int) ≠ 0) <|
      spec_l33Mix_l1 N (Int.tmod (IntKind.i64.wrap ((IntKind.i64.wrap ((IntKind.i64.wrap (h0_1 * (131 : Int))) + (IntKind.i64.wrap ((s1_1.getD i5.toNat 0).toNat : Int)))) + (7 : Int))) (1000003 : Int)) s1_1 (IntKind.i64.wrap (i5 + (1 : Int)))
    else
      some (h0_1, ())
noncomputable def spec_l33Mix (h0 : Int) (s1 : List UInt8) : Option (Int × Unit) :=
  spec_l33Mix_l1 (spec_l33Mix_l1_fuel h0 s1 (0 : Int)) h0 s1 (0 : Int)
@[reducible] def spec_OutputDigest_l1_p : List PE := [.val 0 (.slice 9 (.str)) (.u false), .val 3 (.int .i64) (.u false), .val 4 (.int .i64) (.u false)]
def spec_OutputDigest_l1_fuel (l0_1 : List (List UInt8)) (h3 : Int) (i4 : Int) : Nat := ((l0_1.length : Int) - i4).toNat + 1
noncomputable def spec_OutputDigest_l1 : Nat → List (List UInt8) → Int → Int → Option (Int × Unit)
  | 0, _, _, _ => none
  | N + 1, l0_1, h3, i4 =>
    bif decide (i4 < (l0_1.length : Int)) then
      guardP (0 ≤ i4 ∧ i4 < l0_1.length) <|
      guardP ((l0_1.getD i4.toNat ([] : List UInt8)).length + ([10] : List UInt8).length ≤ capS) <|
      Option.bind (spec_l33Mix h3 ((l0_1.getD i4.toNat ([] : List UInt8)) ++ ([10] : List UInt8))) fun t17 =>
      spec_OutputDigest_l1 N l0_1 t17.1 (IntKind.i64.wrap (i4 + (1 : Int)))
    else
      some (h3, ())
noncomputable def spec_OutputDigest (l0 : List (List UInt8)) : Option (Int × Unit) :=
  spec_OutputDigest_l1 (spec_OutputDigest_l1_fuel l0 (1 : Int) (0 : Int)) l0 (1 : Int) (0 : Int)
@[reducible] def impl_mixed_l1_p : List PE := [.val 0 (.int .i64) (.u false), .val 1 (.str) (.u false), .val 5 (.int .i64) (.u false)]
def impl_mixed_l1_fuel (digest0_1 : Int) (s1_1 : List UInt8) (i5 : Int) : Nat := ((s1_1.length : Int) - i5).toNat + 1
noncomputable def impl_mixed_l1 : Nat → Int → List UInt8 → Int → Option (Int × Unit)
  | 0, _, _, _ => none
  | N + 1, digest0_1, s1_1, i5 =>
    bif decide (i5 < (s1_1.length : Int)) then
      guardP (0 ≤ i5 ∧ i5 < s1_1.length) <|
      guardP ((1000003 : Int) ≠ 0) <|
      impl_mixed_l1 N (Int.tmod (IntKind.i64.wrap ((IntKind.i64.wrap ((IntKind.i64.wrap ((131 : Int) * digest0_1)) + (IntKind.i64.wrap ((s1_1.getD i5.toNat 0).toNat : Int)))) + (7 : Int))) (1000003 : Int)) s1_1 (IntKind.i64.wrap (i5 + (1 : Int)))
    else
      some (digest0_1, ())
noncomputable def impl_mixed (digest0 : Int) (s1 : List UInt8) : Option (Int × Unit) :=
  impl_mixed_l1 (impl_mixed_l1_fuel digest0 s1 (0 : Int)) digest0 s1 (0 : Int)
@[reducible] def impl_OutputDigest_l1_p : List PE := [.val 3 (.int .i64) (.u false), .val 6 (.slice 9 (.str)) (.u false), .val 7 (.int .i64) (.u false), .val 8 (.int .i64) (.u false)]
def impl_OutputDigest_l1_fuel (digest3 : Int) (t6 : List (List UInt8)) (t7_1 : Int) (t8 : Int) : Nat := (t7_1 - t8).toNat + 1
noncomputable def impl_OutputDigest_l1 : Nat → Int → List (List UInt8) → Int → Int → Option (Int × Unit)
  | 0, _, _, _, _ => none
  | N + 1, digest3, t6, t7_1, t8 =>
    bif decide (t8 < t7_1) then
      guardP (0 ≤ t8 ∧ t8 < t6.length) <|
      guardP ((t6.getD t8.toNat ([] : List UInt8)).length + ([10] : List UInt8).length ≤ capS) <|
      Option.bind (impl_mixed digest3 ((t6.getD t8.toNat ([] : List UInt8)) ++ ([10] : List UInt8))) fun t15 =>
      impl_OutputDigest_l1 N t15.1 t6 t7_1 (IntKind.i64.wrap (t8 + (1 : Int)))
    else
      some (digest3, ())
noncomputable def impl_OutputDigest (l0 : List (List UInt8)) : Option (Int × Unit) :=
  impl_OutputDigest_l1 (impl_OutputDigest_l1_fuel (1 : Int) l0 (l0.length : Int) (0 : Int)) (1 : Int) l0 (l0.length : Int) (0 : Int)
@[reducible] def laws_eqStringS_l1_p : List PE := [.val 0 (.slice 9 (.str)) (.u false), .val 1 (.slice 9 (.str)) (.u false), .val 5 (.int .i64) (.u false)]
def laws_eqStringS_l1_fuel (a0_1 : List (List UInt8)) (b1_1 : List (List UInt8)) (i5 : Int) : Nat := ((a0_1.length : Int) - i5).toNat + 1
noncomputable def laws_eqStringS_l1 : Nat → List (List UInt8) → List (List UInt8) → Int → Option (Bool × Unit)
  | 0, _, _, _ => none
  | N + 1, a0_1, b1_1, i5 =>
    bif decide (i5 < (a0_1.length : Int)) then
      guardP (0 ≤ i5 ∧ i5 < a0_1.length) <|
      guardP (0 ≤ i5 ∧ i5 < b1_1.length) <|
      bif !((a0_1.getD i5.toNat ([] : List UInt8)) == (b1_1.getD i5.toNat ([] : List UInt8))) then
        some (false, ())
      else
        laws_eqStringS_l1 N a0_1 b1_1 (IntKind.i64.wrap (i5 + (1 : Int)))
    else
      some (true, ())
noncomputable def laws_eqStringS (a0 : List (List UInt8)) (b1 : List (List UInt8)) : Option (Bool × Unit) :=
  bif (a0.length : Int) != (b1.length : Int) then
    some (false, ())
  else
    laws_eqStringS_l1 (laws_eqStringS_l1_fuel a0 b1 (0 : Int)) a0 b1 (0 : Int)
noncomputable def laws_FnExactOutputDigest (aL0 : List (List UInt8)) : Option (Bool × Unit) :=
  Option.bind (laws_szStringS aL0 (1048576 : Int)) fun t9 =>
  bif decide (t9.1 < (0 : Int)) then
    some (true, ())
  else
    Option.bind (laws_toStringS aL0) fun t13 =>
    Option.bind (spec_OutputDigest t13.1) fun t14 =>
    Option.bind (laws_toStringS aL0) fun t16 =>
    Option.bind (impl_OutputDigest t16.1) fun t18 =>
    bif t18.1 != t14.1 then
      some (false, ())
    else
      Option.bind (laws_toStringS aL0) fun t24 =>
      Option.bind (laws_eqStringS t16.1 t24.1) fun t25 =>
      bif !t25.1 then
        some (false, ())
      else
        some (true, ())
def tab : Tab := lookT [(3, .int .i64), (4, .bool), (5, .int .u8), (9, .str), (29, .slice 9 (.str))]
theorem tok_3 : TOK Try.prog 3 (.int .i64) := ⟨by kernel_rfl, by kernel_rfl⟩
theorem tok_4 : TOK Try.prog 4 (.bool) := ⟨by kernel_rfl, by kernel_rfl⟩
theorem tok_5 : TOK Try.prog 5 (.int .u8) := ⟨by kernel_rfl, by kernel_rfl⟩
theorem tok_9 : TOK Try.prog 9 (.str) := ⟨by kernel_rfl, by kernel_rfl⟩
theorem tok_29 : TOK Try.prog 29 (.slice 9 (.str)) := ⟨by kernel_rfl, by kernel_rfl⟩
theorem tab_ok : tab.ok Try.prog := (tab_cons tok_3 (tab_cons tok_4 (tab_cons tok_5 (tab_cons tok_9 (tab_cons tok_29 tab_nil)))))
@[reducible] def cfg (Γ : Env) : Cfg := { τ := tab, eq := fun _ => false, Γ := Γ }
theorem cfg_ok {Γ : Env} (h : Γ.ok Try.prog) : (cfg Γ).ok Try.prog := ⟨tab_ok, (fun _ _ h => by cases h), h, by kernel_rfl⟩
@[reducible] noncomputable def e_laws_szStringS : FnE := { f := 17, args := [.slice 9 (.str), .int .i64], res := [.int .i64], F := fun xs => laws_szStringS xs.1 xs.2.1 }
theorem ok_laws_szStringS : FnOK Try.prog e_laws_szStringS := by
  refine FnOK.of (e := e_laws_szStringS) (C := cfg []) (cfg_ok env_nil) Try.func17 (c := codeOf Try.f17) rfl Try.call17 (by decide)
    ((.seq .leaf (.seq .leaf (.seq .leaf (.seq (.seq .leaf (.block (.loop laws_szStringS_l1_p (fun N v => laws_szStringS_l1 N v.1 v.2.1 v.2.2.1) (fun v => laws_szStringS_l1_fuel v.1 v.2.1 v.2.2.1) (fun K1 => .leaf)))) .leaf))))) ?_ ?_
  · exact ⟨conds_leaf _ _, ⟨conds_leaf _ _, ⟨conds_leaf _ _, ⟨⟨conds_leaf _ _, ⟨fun _ => rfl, fun N => ⟨(fun v => by kernel_rfl), conds_leaf _ _⟩⟩⟩, conds_leaf _ _⟩⟩⟩⟩
  · intro xs r h
    refine Eq.trans (Eq.symm ?_) h
    kernel_rfl
@[reducible] noncomputable def e_laws_toStringS : FnE := { f := 19, args := [.slice 9 (.str)], res := [.slice 9 (.str)], F := fun xs => laws_toStringS xs.1 }
theorem ok_laws_toStringS : FnOK Try.prog e_laws_toStringS := by
  refine FnOK.of (e := e_laws_toStringS) (C := cfg []) (cfg_ok env_nil) Try.func19 (c := codeOf Try.f19) rfl Try.call19 (by decide)
    ((.seq .leaf (.seq .leaf (.seq (.seq .leaf (.block (.loop laws_toStringS_l1_p (fun N v => laws_toStringS_l1 N v.1 v.2.1 v.2.2.1) (fun v => laws_toStringS_l1_fuel v.1 v.2.1 v.2.2.1) (fun K1 => .leaf)))) .leaf)))) ?_ ?_
  · exact ⟨conds_leaf _ _, ⟨conds_leaf _ _, ⟨⟨conds_leaf _ _, ⟨fun _ => rfl, fun N => ⟨(fun v => by kernel_rfl), conds_leaf _ _⟩⟩⟩, conds_leaf _ _⟩⟩⟩
  · intro xs r h
    refine Eq.trans (Eq.symm ?_) h
    kernel_rfl
@[reducible] noncomputable def e_spec_l33Mix : FnE := { f := 27, args := [.int .i64, .str], res := [.int .i64], F := fun xs => spec_l33Mix xs.1 xs.2.1 }
theorem ok_spec_l33Mix : FnOK Try.prog e_spec_l33Mix := by
  refine FnOK.of (e := e_spec_l33Mix) (C := cfg []) (cfg_ok env_nil) Try.func27 (c := codeOf Try.f27) rfl Try.call27 (by decide)
    ((.seq .leaf (.seq (.seq .leaf (.block (.loop spec_l33Mix_l1_p (fun N v => spec_l33Mix_l1 N v.1 v.2.1 v.2.2.1) (fun v => spec_l33Mix_l1_fuel v.1 v.2.1 v.2.2.1) (fun K1 => .leaf)))) .leaf))) ?_ ?_
  · exact ⟨conds_leaf _ _, ⟨⟨conds_leaf _ _, ⟨fun _ => rfl, fun N => ⟨(fun v => by kernel_rfl), conds_leaf _ _⟩⟩⟩, conds_leaf _ _⟩⟩
  · intro xs r h
    refine Eq.trans (Eq.symm ?_) h
    kernel_rfl
@[reducible] noncomputable def e_spec_OutputDigest : FnE := { f := 22, args := [.slice 9 (.str)], res := [.int .i64], F := fun xs => spec_OutputDigest xs.1 }
theorem ok_spec_OutputDigest : FnOK Try.prog e_spec_OutputDigest := by
  refine FnOK.of (e := e_spec_OutputDigest) (C := cfg [e_spec_l33Mix]) (cfg_ok (env_cons ok_spec_l33Mix env_nil)) Try.func22 (c := codeOf Try.f22) rfl Try.call22 (by decide)
    ((.seq .leaf (.seq .leaf (.seq (.seq .leaf (.block (.loop spec_OutputDigest_l1_p (fun N v => spec_OutputDigest_l1 N v.1 v.2.1 v.2.2.1) (fun v => spec_OutputDigest_l1_fuel v.1 v.2.1 v.2.2.1) (fun K1 => .leaf)))) .leaf)))) ?_ ?_
  · exact ⟨conds_leaf _ _, ⟨conds_leaf _ _, ⟨⟨conds_leaf _ _, ⟨fun _ => rfl, fun N => ⟨(fun v => by kernel_rfl), conds_leaf _ _⟩⟩⟩, conds_leaf _ _⟩⟩⟩
  · intro xs r h
    refine Eq.trans (Eq.symm ?_) h
    kernel_rfl
@[reducible] noncomputable def e_impl_mixed : FnE := { f := 28, args := [.int .i64, .str], res := [.int .i64], F := fun xs => impl_mixed xs.1 xs.2.1 }
theorem ok_impl_mixed : FnOK Try.prog e_impl_mixed := by
  refine FnOK.of (e := e_impl_mixed) (C := cfg []) (cfg_ok env_nil) Try.func28 (c := codeOf Try.f28) rfl Try.call28 (by decide)
    ((.seq .leaf (.seq (.seq .leaf (.block (.loop impl_mixed_l1_p (fun N v => impl_mixed_l1 N v.1 v.2.1 v.2.2.1) (fun v => impl_mixed_l1_fuel v.1 v.2.1 v.2.2.1) (fun K1 => .leaf)))) .leaf))) ?_ ?_
  · exact ⟨conds_leaf _ _, ⟨⟨conds_leaf _ _, ⟨fun _ => rfl, fun N => ⟨(fun v => by kernel_rfl), conds_leaf _ _⟩⟩⟩, conds_leaf _ _⟩⟩
  · intro xs r h
    refine Eq.trans (Eq.symm ?_) h
    kernel_rfl
@[reducible] noncomputable def e_impl_OutputDigest : FnE := { f := 23, args := [.slice 9 (.str)], res := [.int .i64], F := fun xs => impl_OutputDigest xs.1 }
theorem ok_impl_OutputDigest : FnOK Try.prog e_impl_OutputDigest := by
  refine FnOK.of (e := e_impl_OutputDigest) (C := cfg [e_impl_mixed]) (cfg_ok (env_cons ok_impl_mixed env_nil)) Try.func23 (c := codeOf Try.f23) rfl Try.call23 (by decide)
    ((.seq .leaf (.seq .leaf (.seq (.seq .leaf (.block (.loop impl_OutputDigest_l1_p (fun N v => impl_OutputDigest_l1 N v.1 v.2.1 v.2.2.1 v.2.2.2.1) (fun v => impl_OutputDigest_l1_fuel v.1 v.2.1 v.2.2.1 v.2.2.2.1) (fun K1 => .leaf)))) .leaf)))) ?_ ?_
  · exact ⟨conds_leaf _ _, ⟨conds_leaf _ _, ⟨⟨conds_leaf _ _, ⟨fun _ => rfl, fun N => ⟨(fun v => by kernel_rfl), conds_leaf _ _⟩⟩⟩, conds_leaf _ _⟩⟩⟩
  · intro xs r h
    refine Eq.trans (Eq.symm ?_) h
    kernel_rfl
@[reducible] noncomputable def e_laws_eqStringS : FnE := { f := 21, args := [.slice 9 (.str), .slice 9 (.str)], res := [.bool], F := fun xs => laws_eqStringS xs.1 xs.2.1 }
theorem ok_laws_eqStringS : FnOK Try.prog e_laws_eqStringS := by
  refine FnOK.of (e := e_laws_eqStringS) (C := cfg []) (cfg_ok env_nil) Try.func21 (c := codeOf Try.f21) rfl Try.call21 (by decide)
    ((.seq .leaf (.seq .leaf (.seq (.seq .leaf (.block (.loop laws_eqStringS_l1_p (fun N v => laws_eqStringS_l1 N v.1 v.2.1 v.2.2.1) (fun v => laws_eqStringS_l1_fuel v.1 v.2.1 v.2.2.1) (fun K1 => .leaf)))) .leaf)))) ?_ ?_
  · exact ⟨conds_leaf _ _, ⟨conds_leaf _ _, ⟨⟨conds_leaf _ _, ⟨fun _ => rfl, fun N => ⟨(fun v => by kernel_rfl), conds_leaf _ _⟩⟩⟩, conds_leaf _ _⟩⟩⟩
  · intro xs r h
    refine Eq.trans (Eq.symm ?_) h
    kernel_rfl
@[reducible] noncomputable def e_laws_FnExactOutputDigest : FnE := { f := 7, args := [.slice 9 (.str)], res := [.bool], F := fun xs => laws_FnExactOutputDigest xs.1 }
theorem ok_laws_FnExactOutputDigest : FnOK Try.prog e_laws_FnExactOutputDigest := by
  refine FnOK.of (e := e_laws_FnExactOutputDigest) (C := cfg [e_laws_szStringS, e_laws_toStringS, e_spec_OutputDigest, e_impl_OutputDigest, e_laws_eqStringS]) (cfg_ok (env_cons ok_laws_szStringS (env_cons ok_laws_toStringS (env_cons ok_spec_OutputDigest (env_cons ok_impl_OutputDigest (env_cons ok_laws_eqStringS env_nil)))))) Try.func7 (c := codeOf Try.f7) rfl Try.call7 (by decide)
    (.leaf) ?_ ?_
  · exact conds_leaf _ _
  · intro xs r h
    refine Eq.trans (Eq.symm ?_) h
    kernel_rfl
end Go.Proofs.Ytnfmhhhnjfpijaa
