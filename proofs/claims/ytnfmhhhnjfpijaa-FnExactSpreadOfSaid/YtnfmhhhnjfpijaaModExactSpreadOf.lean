/- FnExactSpreadOf: what the functions that it reaches compute, as plain functions, and that they do so. No condition. -/
import Derived.Test.YtnfmhhhnjfpijaaRows
import Derived.Test.YtnfmhhhnjfpijaaAm4
namespace Go.Proofs.Ytnfmhhhnjfpijaa
open Go.Am
set_option maxRecDepth 100000
set_option linter.unusedVariables false

@[reducible] def laws_toIntS_l1_p : List PE := [.val 0 (.slice 3 (.int .i64)) (.u false), .val 3 (.slice 3 (.int .i64)) (.u true), .val 4 (.int .i64) (.u false)]
def laws_toIntS_l1_fuel (a0_1 : List Int) (out3 : List Int) (i4 : Int) : Nat := ((a0_1.length : Int) - i4).toNat + 1
noncomputable def laws_toIntS_l1 : Nat → List Int → List Int → Int → Option (List Int × Unit)
  | 0, _, _, _ => none
  | N + 1, a0_1, out3, i4 =>
    bif decide (i4 < (a0_1.length : Int)) then
      guardP (0 ≤ i4 ∧ i4 < a0_1.length) <|
      guardP (0 ≤ i4 ∧ i4 < out3.length) <|
      laws_toIntS_l1 N a0_1 (out3.set i4.toNat (a0_1.getD i4.toNat (0 : Int))) (IntKind.i64.wrap (i4 + (1 : Int)))
    else
      some (out3, ())
noncomputable def laws_toIntS (a0 : List Int) : Option (List Int × Unit) :=
  guardP (0 ≤ (a0.length : Int) ∧ (a0.length : Int) ≤ (a0.length : Int) ∧ (a0.length : Int) ≤ capN) <|
  let t7 : List Int := List.replicate (a0.length : Int).toNat (0 : Int)
  laws_toIntS_l1 (laws_toIntS_l1_fuel a0 t7 (0 : Int)) a0 t7 (0 : Int)
@[reducible] def spec_TurnsOf_j1_p : List PE := [.val 0 (.slice 3 (.int .i64)) (.u false), .val 1 (.int .i64) (.u false), .val 5 (.int .i64) (.u false), .val 6 (.int .i64) (.u false)]
noncomputable def spec_TurnsOf_j1 (K1 : (List Int × Int × Int × Int × Unit) → Option (Int × Unit)) (order0_2 : List Int) (id1_2 : Int) (n5_1 : Int) (i6_1 : Int) : Option (Int × Unit) :=
  K1 (order0_2, id1_2, n5_1, IntKind.i64.wrap (i6_1 + (1 : Int)), ())
@[reducible] def spec_TurnsOf_l1_p : List PE := [.val 0 (.slice 3 (.int .i64)) (.u false), .val 1 (.int .i64) (.u false), .val 5 (.int .i64) (.u false), .val 6 (.int .i64) (.u false)]
def spec_TurnsOf_l1_fuel (order0_1 : List Int) (id1_1 : Int) (n5 : Int) (i6 : Int) : Nat := ((order0_1.length : Int) - i6).toNat + 1
noncomputable def spec_TurnsOf_l1 : Nat → List Int → Int → Int → Int → Option (Int × Unit)
  | 0, _, _, _, _ => none
  | N + 1, order0_1, id1_1, n5, i6 =>
    bif decide (i6 < (order0_1.length : Int)) then
      guardP (0 ≤ i6 ∧ i6 < order0_1.length) <|
      bif (order0_1.getD i6.toNat (0 : Int)) == id1_1 then
        spec_TurnsOf_j1 (fun v => spec_TurnsOf_l1 N v.1 v.2.1 v.2.2.1 v.2.2.2.1) order0_1 id1_1 (IntKind.i64.wrap (n5 + (1 : Int))) i6
      else
        spec_TurnsOf_j1 (fun v => spec_TurnsOf_l1 N v.1 v.2.1 v.2.2.1 v.2.2.2.1) order0_1 id1_1 n5 i6
    else
      some (n5, ())
noncomputable def spec_TurnsOf (order0 : List Int) (id1 : Int) : Option (Int × Unit) :=
  spec_TurnsOf_l1 (spec_TurnsOf_l1_fuel order0 id1 (0 : Int) (0 : Int)) order0 id1 (0 : Int) (0 : Int)
@[reducible] def spec_SpreadOf_j1_p : List PE := [.val 0 (.slice 3 (.int .i64)) (.u false), .val 1 (.slice 3 (.int .i64)) (.u false), .val 5 (.int .i64) (.u false), .val 6 (.int .i64) (.u false), .val 7 (.int .i64) (.u false), .val 8 (.int .i64) (.u false)]
noncomputable def spec_SpreadOf_j1 (K1 : (List Int × List Int × Int × Int × Int × Unit) → Option (Int × Unit)) (order0_2 : List Int) (ids1_2 : List Int) (low5_1 : Int) (high6_1 : Int) (i7_1 : Int) (n8 : Int) : Option (Int × Unit) :=
  K1 (order0_2, ids1_2, low5_1, max high6_1 n8, IntKind.i64.wrap (i7_1 + (1 : Int)), ())
@[reducible] def spec_SpreadOf_l1_p : List PE := [.val 0 (.slice 3 (.int .i64)) (.u false), .val 1 (.slice 3 (.int .i64)) (.u false), .val 5 (.int .i64) (.u false), .val 6 (.int .i64) (.u false), .val 7 (.int .i64) (.u false)]
def spec_SpreadOf_l1_fuel (order0_1 : List Int) (ids1_1 : List Int) (low5 : Int) (high6 : Int) (i7 : Int) : Nat := ((ids1_1.length : Int) - i7).toNat + 1
noncomputable def spec_SpreadOf_l1 : Nat → List Int → List Int → Int → Int → Int → Option (Int × Unit)
  | 0, _, _, _, _, _ => none
  | N + 1, order0_1, ids1_1, low5, high6, i7 =>
    bif decide (i7 < (ids1_1.length : Int)) then
      guardP (0 ≤ i7 ∧ i7 < ids1_1.length) <|
      Option.bind (spec_TurnsOf order0_1 (ids1_1.getD i7.toNat (0 : Int))) fun t20 =>
      bif (i7 == (0 : Int)) || (decide (t20.1 < low5)) then
        spec_SpreadOf_j1 (fun v => spec_SpreadOf_l1 N v.1 v.2.1 v.2.2.1 v.2.2.2.1 v.2.2.2.2.1) order0_1 ids1_1 t20.1 high6 i7 t20.1
      else
        spec_SpreadOf_j1 (fun v => spec_SpreadOf_l1 N v.1 v.2.1 v.2.2.1 v.2.2.2.1 v.2.2.2.2.1) order0_1 ids1_1 low5 high6 i7 t20.1
    else
      some (IntKind.i64.wrap (high6 - low5), ())
noncomputable def spec_SpreadOf (order0 : List Int) (ids1 : List Int) : Option (Int × Unit) :=
  spec_SpreadOf_l1 (spec_SpreadOf_l1_fuel order0 ids1 (0 : Int) (0 : Int) (0 : Int)) order0 ids1 (0 : Int) (0 : Int) (0 : Int)
noncomputable def impl_one (holds0 : Bool) : Option (Int × Unit) :=
  bif holds0 then
    some ((1 : Int), ())
  else
    some ((0 : Int), ())
@[reducible] def impl_TurnsOf_l1_p : List PE := [.val 1 (.int .i64) (.u false), .val 5 (.int .i64) (.u false), .val 8 (.slice 3 (.int .i64)) (.u false), .val 9 (.int .i64) (.u false), .val 10 (.int .i64) (.u false)]
def impl_TurnsOf_l1_fuel (id1_1 : Int) (count5 : Int) (t8 : List Int) (t9_1 : Int) (t10 : Int) : Nat := (t9_1 - t10).toNat + 1
noncomputable def impl_TurnsOf_l1 : Nat → Int → Int → List Int → Int → Int → Option (Int × Unit)
  | 0, _, _, _, _, _ => none
  | N + 1, id1_1, count5, t8, t9_1, t10 =>
    bif decide (t10 < t9_1) then
      guardP (0 ≤ t10 ∧ t10 < t8.length) <|
      Option.bind (impl_one ((t8.getD t10.toNat (0 : Int)) == id1_1)) fun t18 =>
      impl_TurnsOf_l1 N id1_1 (IntKind.i64.wrap (count5 + t18.1)) t8 t9_1 (IntKind.i64.wrap (t10 + (1 : Int)))
    else
      some (count5, ())
noncomputable def impl_TurnsOf (order0 : List Int) (id1 : Int) : Option (Int × Unit) :=
  impl_TurnsOf_l1 (impl_TurnsOf_l1_fuel id1 (0 : Int) order0 (order0.length : Int) (0 : Int)) id1 (0 : Int) order0 (order0.length : Int) (0 : Int)
@[reducible] def impl_SpreadOf_l1_p : List PE := [.val 0 (.slice 3 (.int .i64)) (.u false), .val 5 (.int .i64) (.u false), .val 6 (.int .i64) (.u false), .val 22 (.slice 3 (.int .i64)) (.u false), .val 23 (.int .i64) (.u false), .val 24 (.int .i64) (.u false)]
def impl_SpreadOf_l1_fuel (order0_1 : List Int) (least5 : Int) (most6 : Int) (t22 : List Int) (t23_1 : Int) (t24 : Int) : Nat := (t23_1 - t24).toNat + 1
noncomputable def impl_SpreadOf_l1 : Nat → List Int → Int → Int → List Int → Int → Int → Option (Int × Unit)
  | 0, _, _, _, _, _, _ => none
  | N + 1, order0_1, least5, most6, t22, t23_1, t24 =>
    bif decide (t24 < t23_1) then
      guardP (0 ≤ t24 ∧ t24 < t22.length) <|
      Option.bind (impl_TurnsOf order0_1 (t22.getD t24.toNat (0 : Int))) fun t31 =>
      Option.bind (impl_TurnsOf order0_1 (t22.getD t24.toNat (0 : Int))) fun t36 =>
      impl_SpreadOf_l1 N order0_1 (min least5 t31.1) (max most6 t36.1) t22 t23_1 (IntKind.i64.wrap (t24 + (1 : Int)))
    else
      some (IntKind.i64.wrap (most6 - least5), ())
noncomputable def impl_SpreadOf (order0 : List Int) (ids1 : List Int) : Option (Int × Unit) :=
  bif (ids1.length : Int) == (0 : Int) then
    some ((0 : Int), ())
  else
    guardP (0 ≤ (0 : Int) ∧ (0 : Int) < ids1.length) <|
    guardP (0 ≤ (0 : Int) ∧ (0 : Int) < ids1.length) <|
    Option.bind (impl_TurnsOf order0 (ids1.getD (0 : Int).toNat (0 : Int))) fun t16 =>
    Option.bind (impl_TurnsOf order0 (ids1.getD (0 : Int).toNat (0 : Int))) fun t21 =>
    impl_SpreadOf_l1 (impl_SpreadOf_l1_fuel order0 t16.1 t21.1 ids1 (ids1.length : Int) (0 : Int)) order0 t16.1 t21.1 ids1 (ids1.length : Int) (0 : Int)
@[reducible] def laws_eqIntS_l1_p : List PE := [.val 0 (.slice 3 (.int .i64)) (.u false), .val 1 (.slice 3 (.int .i64)) (.u false), .val 5 (.int .i64) (.u false)]
def laws_eqIntS_l1_fuel (a0_1 : List Int) (b1_1 : List Int) (i5 : Int) : Nat := ((a0_1.length : Int) - i5).toNat + 1
noncomputable def laws_eqIntS_l1 : Nat → List Int → List Int → Int → Option (Bool × Unit)
  | 0, _, _, _ => none
  | N + 1, a0_1, b1_1, i5 =>
    bif decide (i5 < (a0_1.length : Int)) then
      guardP (0 ≤ i5 ∧ i5 < a0_1.length) <|
      guardP (0 ≤ i5 ∧ i5 < b1_1.length) <|
      bif (a0_1.getD i5.toNat (0 : Int)) != (b1_1.getD i5.toNat (0 : Int)) then
        some (false, ())
      else
        laws_eqIntS_l1 N a0_1 b1_1 (IntKind.i64.wrap (i5 + (1 : Int)))
    else
      some (true, ())
noncomputable def laws_eqIntS (a0 : List Int) (b1 : List Int) : Option (Bool × Unit) :=
  bif (a0.length : Int) != (b1.length : Int) then
    some (false, ())
  else
    laws_eqIntS_l1 (laws_eqIntS_l1_fuel a0 b1 (0 : Int)) a0 b1 (0 : Int)
noncomputable def laws_FnExactSpreadOf (aOrder0 : List Int) (aIds1 : List Int) : Option (Bool × Unit) :=
  bif decide ((aOrder0.length : Int) > (1048576 : Int)) then
    some (true, ())
  else
    bif decide ((aIds1.length : Int) > (1048576 : Int)) then
      some (true, ())
    else
      Option.bind (laws_toIntS aOrder0) fun t16 =>
      Option.bind (laws_toIntS aIds1) fun t18 =>
      Option.bind (spec_SpreadOf t16.1 t18.1) fun t19 =>
      Option.bind (laws_toIntS aOrder0) fun t21 =>
      Option.bind (laws_toIntS aIds1) fun t23 =>
      Option.bind (impl_SpreadOf t21.1 t23.1) fun t26 =>
      bif t26.1 != t19.1 then
        some (false, ())
      else
        Option.bind (laws_toIntS aOrder0) fun t32 =>
        Option.bind (laws_eqIntS t21.1 t32.1) fun t33 =>
        bif !t33.1 then
          some (false, ())
        else
          Option.bind (laws_toIntS aIds1) fun t37 =>
          Option.bind (laws_eqIntS t23.1 t37.1) fun t38 =>
          bif !t38.1 then
            some (false, ())
          else
            some (true, ())
def tab : Tab := lookT [(3, .int .i64), (4, .bool), (25, .slice 3 (.int .i64))]
theorem tok_3 : TOK Try.prog 3 (.int .i64) := ⟨by kernel_rfl, by kernel_rfl⟩
theorem tok_4 : TOK Try.prog 4 (.bool) := ⟨by kernel_rfl, by kernel_rfl⟩
theorem tok_25 : TOK Try.prog 25 (.slice 3 (.int .i64)) := ⟨by kernel_rfl, by kernel_rfl⟩
theorem tab_ok : tab.ok Try.prog := (tab_cons tok_3 (tab_cons tok_4 (tab_cons tok_25 tab_nil)))
@[reducible] def cfg (Γ : Env) : Cfg := { τ := tab, eq := fun _ => false, Γ := Γ }
theorem cfg_ok {Γ : Env} (h : Γ.ok Try.prog) : (cfg Γ).ok Try.prog := ⟨tab_ok, (fun _ _ h => by cases h), h, by kernel_rfl⟩
@[reducible] noncomputable def e_laws_toIntS : FnE := { f := 14, args := [.slice 3 (.int .i64)], res := [.slice 3 (.int .i64)], F := fun xs => laws_toIntS xs.1 }
theorem ok_laws_toIntS : FnOK Try.prog e_laws_toIntS := by
  refine FnOK.of (e := e_laws_toIntS) (C := cfg []) (cfg_ok env_nil) Try.func14 (c := codeOf Try.f14) rfl Try.call14 (by decide)
    ((.seq .leaf (.seq .leaf (.seq (.seq .leaf (.block (.loop laws_toIntS_l1_p (fun N v => laws_toIntS_l1 N v.1 v.2.1 v.2.2.1) (fun v => laws_toIntS_l1_fuel v.1 v.2.1 v.2.2.1) (fun K1 => .leaf)))) .leaf)))) ?_ ?_
  · exact ⟨conds_leaf _ _, ⟨conds_leaf _ _, ⟨⟨conds_leaf _ _, ⟨fun _ => rfl, fun N => ⟨(fun v => by kernel_rfl), conds_leaf _ _⟩⟩⟩, conds_leaf _ _⟩⟩⟩
  · intro xs r h
    refine Eq.trans (Eq.symm ?_) h
    kernel_rfl
@[reducible] noncomputable def e_spec_TurnsOf : FnE := { f := 29, args := [.slice 3 (.int .i64), .int .i64], res := [.int .i64], F := fun xs => spec_TurnsOf xs.1 xs.2.1 }
theorem ok_spec_TurnsOf : FnOK Try.prog e_spec_TurnsOf := by
  refine FnOK.of (e := e_spec_TurnsOf) (C := cfg []) (cfg_ok env_nil) Try.func29 (c := codeOf Try.f29) rfl Try.call29 (by decide)
    ((.seq .leaf (.seq .leaf (.seq (.seq .leaf (.block (.loop spec_TurnsOf_l1_p (fun N v => spec_TurnsOf_l1 N v.1 v.2.1 v.2.2.1 v.2.2.2.1) (fun v => spec_TurnsOf_l1_fuel v.1 v.2.1 v.2.2.1 v.2.2.2.1) (fun K1 => (.seq .leaf (.join spec_TurnsOf_j1_p (fun v => spec_TurnsOf_j1 K1 v.1 v.2.1 v.2.2.1 v.2.2.2.1) .leaf .leaf)))))) .leaf)))) ?_ ?_
  · exact ⟨conds_leaf _ _, ⟨conds_leaf _ _, ⟨⟨conds_leaf _ _, ⟨fun _ => rfl, fun N => ⟨(fun v => by kernel_rfl), ⟨conds_leaf _ _, ⟨conds_leaf _ _, (fun v => by kernel_rfl), conds_leaf _ _⟩⟩⟩⟩⟩, conds_leaf _ _⟩⟩⟩
  · intro xs r h
    refine Eq.trans (Eq.symm ?_) h
    kernel_rfl
@[reducible] noncomputable def e_spec_SpreadOf : FnE := { f := 24, args := [.slice 3 (.int .i64), .slice 3 (.int .i64)], res := [.int .i64], F := fun xs => spec_SpreadOf xs.1 xs.2.1 }
theorem ok_spec_SpreadOf : FnOK Try.prog e_spec_SpreadOf := by
  refine FnOK.of (e := e_spec_SpreadOf) (C := cfg [e_spec_TurnsOf]) (cfg_ok (env_cons ok_spec_TurnsOf env_nil)) Try.func24 (c := codeOf Try.f24) rfl Try.call24 (by decide)
    ((.seq .leaf (.seq .leaf (.seq .leaf (.seq (.seq .leaf (.block (.loop spec_SpreadOf_l1_p (fun N v => spec_SpreadOf_l1 N v.1 v.2.1 v.2.2.1 v.2.2.2.1 v.2.2.2.2.1) (fun v => spec_SpreadOf_l1_fuel v.1 v.2.1 v.2.2.1 v.2.2.2.1 v.2.2.2.2.1) (fun K1 => (.seq .leaf (.seq (.block (.seq .leaf (.join spec_SpreadOf_j1_p (fun v => spec_SpreadOf_j1 K1 v.1 v.2.1 v.2.2.1 v.2.2.2.1 v.2.2.2.2.1 v.2.2.2.2.2.1) .leaf .leaf))) .leaf)))))) .leaf))))) ?_ ?_
  · exact ⟨conds_leaf _ _, ⟨conds_leaf _ _, ⟨conds_leaf _ _, ⟨⟨conds_leaf _ _, ⟨fun _ => rfl, fun N => ⟨(fun v => by kernel_rfl), ⟨conds_leaf _ _, ⟨⟨conds_leaf _ _, ⟨conds_leaf _ _, (fun v => by kernel_rfl), conds_leaf _ _⟩⟩, conds_leaf _ _⟩⟩⟩⟩⟩, conds_leaf _ _⟩⟩⟩⟩
  · intro xs r h
    refine Eq.trans (Eq.symm ?_) h
    kernel_rfl
@[reducible] noncomputable def e_impl_one : FnE := { f := 32, args := [.bool], res := [.int .i64], F := fun xs => impl_one xs.1 }
theorem ok_impl_one : FnOK Try.prog e_impl_one := by
  refine FnOK.of (e := e_impl_one) (C := cfg []) (cfg_ok env_nil) Try.func32 (c := codeOf Try.f32) rfl Try.call32 (by decide)
    (.leaf) ?_ ?_
  · exact conds_leaf _ _
  · intro xs r h
    refine Eq.trans (Eq.symm ?_) h
    kernel_rfl
@[reducible] noncomputable def e_impl_TurnsOf : FnE := { f := 30, args := [.slice 3 (.int .i64), .int .i64], res := [.int .i64], F := fun xs => impl_TurnsOf xs.1 xs.2.1 }
theorem ok_impl_TurnsOf : FnOK Try.prog e_impl_TurnsOf := by
  refine FnOK.of (e := e_impl_TurnsOf) (C := cfg [e_impl_one]) (cfg_ok (env_cons ok_impl_one env_nil)) Try.func30 (c := codeOf Try.f30) rfl Try.call30 (by decide)
    ((.seq .leaf (.seq .leaf (.seq (.seq .leaf (.block (.loop impl_TurnsOf_l1_p (fun N v => impl_TurnsOf_l1 N v.1 v.2.1 v.2.2.1 v.2.2.2.1 v.2.2.2.2.1) (fun v => impl_TurnsOf_l1_fuel v.1 v.2.1 v.2.2.1 v.2.2.2.1 v.2.2.2.2.1) (fun K1 => .leaf)))) .leaf)))) ?_ ?_
  · exact ⟨conds_leaf _ _, ⟨conds_leaf _ _, ⟨⟨conds_leaf _ _, ⟨fun _ => rfl, fun N => ⟨(fun v => by kernel_rfl), conds_leaf _ _⟩⟩⟩, conds_leaf _ _⟩⟩⟩
  · intro xs r h
    refine Eq.trans (Eq.symm ?_) h
    kernel_rfl
@[reducible] noncomputable def e_impl_SpreadOf : FnE := { f := 25, args := [.slice 3 (.int .i64), .slice 3 (.int .i64)], res := [.int .i64], F := fun xs => impl_SpreadOf xs.1 xs.2.1 }
theorem ok_impl_SpreadOf : FnOK Try.prog e_impl_SpreadOf := by
  refine FnOK.of (e := e_impl_SpreadOf) (C := cfg [e_impl_TurnsOf]) (cfg_ok (env_cons ok_impl_TurnsOf env_nil)) Try.func25 (c := codeOf Try.f25) rfl Try.call25 (by decide)
    ((.seq .leaf (.seq .leaf (.seq .leaf (.seq (.seq .leaf (.block (.loop impl_SpreadOf_l1_p (fun N v => impl_SpreadOf_l1 N v.1 v.2.1 v.2.2.1 v.2.2.2.1 v.2.2.2.2.1 v.2.2.2.2.2.1) (fun v => impl_SpreadOf_l1_fuel v.1 v.2.1 v.2.2.1 v.2.2.2.1 v.2.2.2.2.1 v.2.2.2.2.2.1) (fun K1 => .leaf)))) .leaf))))) ?_ ?_
  · exact ⟨conds_leaf _ _, ⟨conds_leaf _ _, ⟨conds_leaf _ _, ⟨⟨conds_leaf _ _, ⟨fun _ => rfl, fun N => ⟨(fun v => by kernel_rfl), conds_leaf _ _⟩⟩⟩, conds_leaf _ _⟩⟩⟩⟩
  · intro xs r h
    refine Eq.trans (Eq.symm ?_) h
    kernel_rfl
@[reducible] noncomputable def e_laws_eqIntS : FnE := { f := 16, args := [.slice 3 (.int .i64), .slice 3 (.int .i64)], res := [.bool], F := fun xs => laws_eqIntS xs.1 xs.2.1 }
theorem ok_laws_eqIntS : FnOK Try.prog e_laws_eqIntS := by
  refine FnOK.of (e := e_laws_eqIntS) (C := cfg []) (cfg_ok env_nil) Try.func16 (c := codeOf Try.f16) rfl Try.call16 (by decide)
    ((.seq .leaf (.seq .leaf (.seq (.seq .leaf (.block (.loop laws_eqIntS_l1_p (fun N v => laws_eqIntS_l1 N v.1 v.2.1 v.2.2.1) (fun v => laws_eqIntS_l1_fuel v.1 v.2.1 v.2.2.1) (fun K1 => .leaf)))) .leaf)))) ?_ ?_
  · exact ⟨conds_leaf _ _, ⟨conds_leaf _ _, ⟨⟨conds_leaf _ _, ⟨fun _ => rfl, fun N => ⟨(fun v => by kernel_rfl), conds_leaf _ _⟩⟩⟩, conds_leaf _ _⟩⟩⟩
  · intro xs r h
    refine Eq.trans (Eq.symm ?_) h
    kernel_rfl
@[reducible] noncomputable def e_laws_FnExactSpreadOf : FnE := { f := 8, args := [.slice 3 (.int .i64), .slice 3 (.int .i64)], res := [.bool], F := fun xs => laws_FnExactSpreadOf xs.1 xs.2.1 }
theorem ok_laws_FnExactSpreadOf : FnOK Try.prog e_laws_FnExactSpreadOf := by
  refine FnOK.of (e := e_laws_FnExactSpreadOf) (C := cfg [e_laws_toIntS, e_spec_SpreadOf, e_impl_SpreadOf, e_laws_eqIntS]) (cfg_ok (env_cons ok_laws_toIntS (env_cons ok_spec_SpreadOf (env_cons ok_impl_SpreadOf (env_cons ok_laws_eqIntS env_nil))))) Try.func8 (c := codeOf Try.f8) rfl Try.call8 (by decide)
    (.leaf) ?_ ?_
  · exact conds_leaf _ _
  · intro xs r h
    refine Eq.trans (Eq.symm ?_) h
    kernel_rfl
end Go.Proofs.Ytnfmhhhnjfpijaa
