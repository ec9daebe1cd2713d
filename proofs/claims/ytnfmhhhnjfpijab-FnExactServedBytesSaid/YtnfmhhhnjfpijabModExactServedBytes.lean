/- FnExactServedBytes: what the functions that it reaches compute, as plain functions, and that they do so. No condition. -/
import Derived.Test.YtnfmhhhnjfpijabRows
import Derived.Test.YtnfmhhhnjfpijabAm4
namespace Go.Proofs.Ytnfmhhhnjfpijab
open Go.Am
set_option maxRecDepth 100000
set_option linter.unusedVariables false

@[reducible] def tyFrame : Ty := .pair (.int .i64) (.pair (.int .i64) (.pair (.int .i64) (.pair (.str) (.pair (.bool) (.pair (.int .i64) (.pair (.int .i64) (.pair (.int .i64) (.pair (.bool) (.unit)))))))))
@[reducible] def TFrame : Type := Int × Int × Int × List UInt8 × Bool × Int × Int × Int × Bool × Unit
def zFrame : TFrame := ((0 : Int), ((0 : Int), ((0 : Int), (([] : List UInt8), (false, ((0 : Int), ((0 : Int), ((0 : Int), (false, ())))))))))
noncomputable def laws_szFrame (a0 : TFrame) (left1 : Int) : Option (Int × Unit) :=
  let t9 : Int := IntKind.i64.wrap (left1 - (a0.2.2.2.1.length : Int))
  bif decide (t9 < (0 : Int)) then
    some ((-1 : Int), ())
  else
    some (t9, ())
@[reducible] def laws_szFrameS_l1_p : List PE := [.val 0 (.slice 31 (tyFrame)) (.u false), .val 1 (.int .i64) (.u false), .val 5 (.int .i64) (.u false)]
def laws_szFrameS_l1_fuel (a0_1 : List TFrame) (left1_1 : Int) (i5 : Int) : Nat := ((a0_1.length : Int) - i5).toNat + 1
noncomputable def laws_szFrameS_l1 : Nat → List TFrame → Int → Int → Option (Int × Unit)
  | 0, _, _, _ => none
  | N + 1, a0_1, left1_1, i5 =>
    bif decide (i5 < (a0_1.length : Int)) then
      guardP (0 ≤ i5 ∧ i5 < a0_1.length) <|
      Option.bind (laws_szFrame (a0_1.getD i5.toNat zFrame) left1_1) fun t23 =>
      bif decide (t23.1 < (0 : Int)) then
        some ((-1 : Int), ())
      else
        laws_szFrameS_l1 N a0_1 t23.1 (IntKind.i64.wrap (i5 + (1 : Int)))
    else
      some (left1_1, ())
noncomputable def laws_szFrameS (a0 : List TFrame) (left1 : Int) : Option (Int × Unit) :=
  let t9 : Int := IntKind.i64.wrap (left1 - (a0.length : Int))
  bif decide (t9 < (0 : Int)) then
    some ((-1 : Int), ())
  else
    laws_szFrameS_l1 (laws_szFrameS_l1_fuel a0 t9 (0 : Int)) a0 t9 (0 : Int)
noncomputable def laws_toFrame (a0 : TFrame) : Option (TFrame × Unit) :=
  some ((a0.1, (a0.2.1, (a0.2.2.1, (a0.2.2.2.1, (a0.2.2.2.2.1, (a0.2.2.2.2.2.1, (a0.2.2.2.2.2.2.1, (a0.2.2.2.2.2.2.2.1, (a0.2.2.2.2.2.2.2.2.1, ()))))))))), ())
@[reducible] def laws_toFrameS_l1_p : List PE := [.val 0 (.slice 31 (tyFrame)) (.u false), .val 3 (.slice 32 (tyFrame)) (.u true), .val 4 (.int .i64) (.u false)]
def laws_toFrameS_l1_fuel (a0_1 : List TFrame) (out3 : List TFrame) (i4 : Int) : Nat := ((a0_1.length : Int) - i4).toNat + 1
noncomputable def laws_toFrameS_l1 : Nat → List TFrame → List TFrame → Int → Option (List TFrame × Unit)
  | 0, _, _, _ => none
  | N + 1, a0_1, out3, i4 =>
    bif decide (i4 < (a0_1.length : Int)) then
      guardP (0 ≤ i4 ∧ i4 < a0_1.length) <|
      Option.bind (laws_toFrame (a0_1.getD i4.toNat zFrame)) fun t20 =>
      guardP (0 ≤ i4 ∧ i4 < out3.length) <|
      laws_toFrameS_l1 N a0_1 (out3.set i4.toNat t20.1) (IntKind.i64.wrap (i4 + (1 : Int)))
    else
      some (out3, ())
noncomputable def laws_toFrameS (a0 : List TFrame) : Option (List TFrame × Unit) :=
  guardP (0 ≤ (a0.length : Int) ∧ (a0.length : Int) ≤ (a0.length : Int) ∧ (a0.length : Int) ≤ capN) <|
  let t7 : List TFrame := List.replicate (a0.length : Int).toNat zFrame
  laws_toFrameS_l1 (laws_toFrameS_l1_fuel a0 t7 (0 : Int)) a0 t7 (0 : Int)
@[reducible] def spec_ServedBytes_j1_p : List PE := [.val 0 (.slice 32 (tyFrame)) (.u false), .val 1 (.int .i64) (.u false), .val 5 (.int .i64) (.u false), .val 6 (.int .i64) (.u false)]
noncomputable def spec_ServedBytes_j1 (K1 : (List TFrame × Int × Int × Int × Unit) → Option (Int × Unit)) (l0_2 : List TFrame) (id1_2 : Int) (n5_1 : Int) (i6_1 : Int) : Option (Int × Unit) :=
  K1 (l0_2, id1_2, n5_1, IntKind.i64.wrap (i6_1 + (1 : Int)), ())
@[reducible] def spec_ServedBytes_l1_p : List PE := [.val 0 (.slice 32 (tyFrame)) (.u false), .val 1 (.int .i64) (.u false), .val 5 (.int .i64) (.u false), .val 6 (.int .i64) (.u false)]
def spec_ServedBytes_l1_fuel (l0_1 : List TFrame) (id1_1 : Int) (n5 : Int) (i6 : Int) : Nat := ((l0_1.length : Int) - i6).toNat + 1
noncomputable def spec_ServedBytes_l1 : Nat → List TFrame → Int → Int → Int → Option (Int × Unit)
  | 0, _, _, _, _ => none
  | N + 1, l0_1, id1_1, n5, i6 =>
    bif decide (i6 < (l0_1.length : Int)) then
      guardP (0 ≤ i6 ∧ i6 < l0_1.length) <|
      let t18 : Bool := (l0_1.getD i6.toNat zFrame).1 == (8 : Int)
      guardP ((t18 = true → (0 ≤ i6 ∧ i6 < l0_1.length))) <|
      bif t18 && ((l0_1.getD i6.toNat zFrame).2.1 == id1_1) then
        guardP (0 ≤ i6 ∧ i6 < l0_1.length) <|
        spec_ServedBytes_j1 (fun v => spec_ServedBytes_l1 N v.1 v.2.1 v.2.2.1 v.2.2.2.1) l0_1 id1_1 (IntKind.i64.wrap (n5 + ((l0_1.getD i6.toNat zFrame).2.2.2.1.length : Int))) i6
      else
        spec_ServedBytes_j1 (fun v => spec_ServedBytes_l1 N v.1 v.2.1 v.2.2.1 v.2.2.2.1) l0_1 id1_1 n5 i6
    else
      some (n5, ())
noncomputable def spec_ServedBytes (l0 : List TFrame) (id1 : Int) : Option (Int × Unit) :=
  spec_ServedBytes_l1 (spec_ServedBytes_l1_fuel l0 id1 (0 : Int) (0 : Int)) l0 id1 (0 : Int) (0 : Int)
@[reducible] def impl_ServedBytes_l1_p : List PE := [.val 1 (.int .i64) (.u false), .val 5 (.int .i64) (.u false), .val 8 (.slice 32 (tyFrame)) (.u false), .val 9 (.int .i64) (.u false), .val 10 (.int .i64) (.u false)]
def impl_ServedBytes_l1_fuel (id1_1 : Int) (sum5 : Int) (t8 : List TFrame) (t9_1 : Int) (t10 : Int) : Nat := (t9_1 - t10).toNat + 1
noncomputable def impl_ServedBytes_l1 : Nat → Int → Int → List TFrame → Int → Int → Option (Int × Unit)
  | 0, _, _, _, _, _ => none
  | N + 1, id1_1, sum5, t8, t9_1, t10 =>
    bif decide (t10 < t9_1) then
      guardP (0 ≤ t10 ∧ t10 < t8.length) <|
      bif ((t8.getD t10.toNat zFrame).1 == (8 : Int)) && ((t8.getD t10.toNat zFrame).2.1 == id1_1) then
        impl_ServedBytes_l1 N id1_1 (IntKind.i64.wrap (sum5 + ((t8.getD t10.toNat zFrame).2.2.2.1.length : Int))) t8 t9_1 (IntKind.i64.wrap (t10 + (1 : Int)))
      else
        impl_ServedBytes_l1 N id1_1 sum5 t8 t9_1 (IntKind.i64.wrap (t10 + (1 : Int)))
    else
      some (sum5, ())
noncomputable def impl_ServedBytes (l0 : List TFrame) (id1 : Int) : Option (Int × Unit) :=
  impl_ServedBytes_l1 (impl_ServedBytes_l1_fuel id1 (0 : Int) l0 (l0.length : Int) (0 : Int)) id1 (0 : Int) l0 (l0.length : Int) (0 : Int)
noncomputable def laws_eqFrame (a0 : TFrame) (b1 : TFrame) : Option (Bool × Unit) :=
  bif a0.1 != b1.1 then
    some (false, ())
  else
    bif a0.2.1 != b1.2.1 then
      some (false, ())
    else
      bif a0.2.2.1 != b1.2.2.1 then
        some (false, ())
      else
        bif !(a0.2.2.2.1 == b1.2.2.2.1) then
          some (false, ())
        else
          bif !(a0.2.2.2.2.1 == b1.2.2.2.2.1) then
            some (false, ())
          else
            bif a0.2.2.2.2.2.1 != b1.2.2.2.2.2.1 then
              some (false, ())
            else
              bif a0.2.2.2.2.2.2.1 != b1.2.2.2.2.2.2.1 then
                some (false, ())
              else
                bif a0.2.2.2.2.2.2.2.1 != b1.2.2.2.2.2.2.2.1 then
                  some (false, ())
                else
                  bif !(a0.2.2.2.2.2.2.2.2.1 == b1.2.2.2.2.2.2.2.2.1) then
                    some (false, ())
                  else
                    some (true, ())
@[reducible] def laws_eqFrameS_l1_p : List PE := [.val 0 (.slice 32 (tyFrame)) (.u false), .val 1 (.slice 32 (tyFrame)) (.u false), .val 5 (.int .i64) (.u false)]
def laws_eqFrameS_l1_fuel (a0_1 : List TFrame) (b1_1 : List TFrame) (i5 : Int) : Nat := ((a0_1.length : Int) - i5).toNat + 1
noncomputable def laws_eqFrameS_l1 : Nat → List TFrame → List TFrame → Int → Option (Bool × Unit)
  | 0, _, _, _ => none
  | N + 1, a0_1, b1_1, i5 =>
    bif decide (i5 < (a0_1.length : Int)) then
      guardP (0 ≤ i5 ∧ i5 < a0_1.length) <|
      guardP (0 ≤ i5 ∧ i5 < b1_1.length) <|
      Option.bind (laws_eqFrame (a0_1.getD i5.toNat zFrame) (b1_1.getD i5.toNat zFrame)) fun t25 =>
      bif !t25.1 then
        some (false, ())
      else
        laws_eqFrameS_l1 N a0_1 b1_1 (IntKind.i64.wrap (i5 + (1 : Int)))
    else
      some (true, ())
noncomputable def laws_eqFrameS (a0 : List TFrame) (b1 : List TFrame) : Option (Bool × Unit) :=
  bif (a0.length : Int) != (b1.length : Int) then
    some (false, ())
  else
    laws_eqFrameS_l1 (laws_eqFrameS_l1_fuel a0 b1 (0 : Int)) a0 b1 (0 : Int)
noncomputable def laws_FnExactServedBytes (aL0 : List TFrame) (aId1 : Int) : Option (Bool × Unit) :=
  Option.bind (laws_szFrameS aL0 (1048576 : Int)) fun t11 =>
  bif decide (t11.1 < (0 : Int)) then
    some (true, ())
  else
    Option.bind (laws_toFrameS aL0) fun t15 =>
    Option.bind (spec_ServedBytes t15.1 aId1) fun t17 =>
    Option.bind (laws_toFrameS aL0) fun t19 =>
    Option.bind (impl_ServedBytes t19.1 aId1) fun t22 =>
    bif t22.1 != t17.1 then
      some (false, ())
    else
      Option.bind (laws_toFrameS aL0) fun t28 =>
      Option.bind (laws_eqFrameS t19.1 t28.1) fun t29 =>
      bif !t29.1 then
        some (false, ())
      else
        some (true, ())
def tab : Tab := lookT [(3, .int .i64), (4, .bool), (9, .str), (22, .slice 31 (tyFrame)), (25, .slice 32 (tyFrame)), (31, tyFrame), (32, tyFrame)]
theorem tok_3 : TOK Try.prog 3 (.int .i64) := ⟨by kernel_rfl, by kernel_rfl⟩
theorem tok_4 : TOK Try.prog 4 (.bool) := ⟨by kernel_rfl, by kernel_rfl⟩
theorem tok_9 : TOK Try.prog 9 (.str) := ⟨by kernel_rfl, by kernel_rfl⟩
theorem tok_22 : TOK Try.prog 22 (.slice 31 (tyFrame)) := ⟨by kernel_rfl, by kernel_rfl⟩
theorem tok_25 : TOK Try.prog 25 (.slice 32 (tyFrame)) := ⟨by kernel_rfl, by kernel_rfl⟩
theorem tok_31 : TOK Try.prog 31 (tyFrame) := ⟨by kernel_rfl, by kernel_rfl⟩
theorem tok_32 : TOK Try.prog 32 (tyFrame) := ⟨by kernel_rfl, by kernel_rfl⟩
theorem tab_ok : tab.ok Try.prog := (tab_cons tok_3 (tab_cons tok_4 (tab_cons tok_9 (tab_cons tok_22 (tab_cons tok_25 (tab_cons tok_31 (tab_cons tok_32 tab_nil)))))))
@[reducible] def cfg (Γ : Env) : Cfg := { τ := tab, eq := fun _ => false, Γ := Γ }
theorem cfg_ok {Γ : Env} (h : Γ.ok Try.prog) : (cfg Γ).ok Try.prog := ⟨tab_ok, (fun _ _ h => by cases h), h, by kernel_rfl⟩
@[reducible] noncomputable def e_laws_szFrame : FnE := { f := 9, args := [tyFrame, .int .i64], res := [.int .i64], F := fun xs => laws_szFrame xs.1 xs.2.1 }
theorem ok_laws_szFrame : FnOK Try.prog e_laws_szFrame := by
  refine FnOK.of (e := e_laws_szFrame) (C := cfg []) (cfg_ok env_nil) Try.func9 (c := codeOf Try.f9) rfl Try.call9 (by decide)
    (.leaf) ?_ ?_
  · exact conds_leaf _ _
  · intro xs r h
    refine Eq.trans (Eq.symm ?_) h
    kernel_rfl
@[reducible] noncomputable def e_laws_szFrameS : FnE := { f := 4, args := [.slice 31 (tyFrame), .int .i64], res := [.int .i64], F := fun xs => laws_szFrameS xs.1 xs.2.1 }
theorem ok_laws_szFrameS : FnOK Try.prog e_laws_szFrameS := by
  refine FnOK.of (e := e_laws_szFrameS) (C := cfg [e_laws_szFrame]) (cfg_ok (env_cons ok_laws_szFrame env_nil)) Try.func4 (c := codeOf Try.f4) rfl Try.call4 (by decide)
    ((.seq .leaf (.seq .leaf (.seq .leaf (.seq (.seq .leaf (.block (.loop laws_szFrameS_l1_p (fun N v => laws_szFrameS_l1 N v.1 v.2.1 v.2.2.1) (fun v => laws_szFrameS_l1_fuel v.1 v.2.1 v.2.2.1) (fun K1 => .leaf)))) .leaf))))) ?_ ?_
  · exact ⟨conds_leaf _ _, ⟨conds_leaf _ _, ⟨conds_leaf _ _, ⟨⟨conds_leaf _ _, ⟨fun _ => rfl, fun N => ⟨(fun v => by kernel_rfl), conds_leaf _ _⟩⟩⟩, conds_leaf _ _⟩⟩⟩⟩
  · intro xs r h
    refine Eq.trans (Eq.symm ?_) h
    kernel_rfl
@[reducible] noncomputable def e_laws_toFrame : FnE := { f := 10, args := [tyFrame], res := [tyFrame], F := fun xs => laws_toFrame xs.1 }
theorem ok_laws_toFrame : FnOK Try.prog e_laws_toFrame := by
  refine FnOK.of (e := e_laws_toFrame) (C := cfg []) (cfg_ok env_nil) Try.func10 (c := codeOf Try.f10) rfl Try.call10 (by decide)
    (.leaf) ?_ ?_
  · exact conds_leaf _ _
  · intro xs r h
    refine Eq.trans (Eq.symm ?_) h
    kernel_rfl
@[reducible] noncomputable def e_laws_toFrameS : FnE := { f := 6, args := [.slice 31 (tyFrame)], res := [.slice 32 (tyFrame)], F := fun xs => laws_toFrameS xs.1 }
theorem ok_laws_toFrameS : FnOK Try.prog e_laws_toFrameS := by
  refine FnOK.of (e := e_laws_toFrameS) (C := cfg [e_laws_toFrame]) (cfg_ok (env_cons ok_laws_toFrame env_nil)) Try.func6 (c := codeOf Try.f6) rfl Try.call6 (by decide)
    ((.seq .leaf (.seq .leaf (.seq (.seq .leaf (.block (.loop laws_toFrameS_l1_p (fun N v => laws_toFrameS_l1 N v.1 v.2.1 v.2.2.1) (fun v => laws_toFrameS_l1_fuel v.1 v.2.1 v.2.2.1) (fun K1 => .leaf)))) .leaf)))) ?_ ?_
  · exact ⟨conds_leaf _ _, ⟨conds_leaf _ _, ⟨⟨conds_leaf _ _, ⟨fun _ => rfl, fun N => ⟨(fun v => by kernel_rfl), conds_leaf _ _⟩⟩⟩, conds_leaf _ _⟩⟩⟩
  · intro xs r h
    refine Eq.trans (Eq.symm ?_) h
    kernel_rfl
@[reducible] noncomputable def e_spec_ServedBytes : FnE := { f := 5, args := [.slice 32 (tyFrame), .int .i64], res := [.int .i64], F := fun xs => spec_ServedBytes xs.1 xs.2.1 }
theorem ok_spec_ServedBytes : FnOK Try.prog e_spec_ServedBytes := by
  refine FnOK.of (e := e_spec_ServedBytes) (C := cfg []) (cfg_ok env_nil) Try.func5 (c := codeOf Try.f5) rfl Try.call5 (by decide)
    ((.seq .leaf (.seq .leaf (.seq (.seq .leaf (.block (.loop spec_ServedBytes_l1_p (fun N v => spec_ServedBytes_l1 N v.1 v.2.1 v.2.2.1 v.2.2.2.1) (fun v => spec_ServedBytes_l1_fuel v.1 v.2.1 v.2.2.1 v.2.2.2.1) (fun K1 => (.seq .leaf (.join spec_ServedBytes_j1_p (fun v => spec_ServedBytes_j1 K1 v.1 v.2.1 v.2.2.1 v.2.2.2.1) .leaf .leaf)))))) .leaf)))) ?_ ?_
  · exact ⟨conds_leaf _ _, ⟨conds_leaf _ _, ⟨⟨conds_leaf _ _, ⟨fun _ => rfl, fun N => ⟨(fun v => by kernel_rfl), ⟨conds_leaf _ _, ⟨conds_leaf _ _, (fun v => by kernel_rfl), conds_leaf _ _⟩⟩⟩⟩⟩, conds_leaf _ _⟩⟩⟩
  · intro xs r h
    refine Eq.trans (Eq.symm ?_) h
    kernel_rfl
@[reducible] noncomputable def e_impl_ServedBytes : FnE := { f := 7, args := [.slice 32 (tyFrame), .int .i64], res := [.int .i64], F := fun xs => impl_ServedBytes xs.1 xs.2.1 }
theorem ok_impl_ServedBytes : FnOK Try.prog e_impl_ServedBytes := by
  refine FnOK.of (e := e_impl_ServedBytes) (C := cfg []) (cfg_ok env_nil) Try.func7 (c := codeOf Try.f7) rfl Try.call7 (by decide)
    ((.seq .leaf (.seq .leaf (.seq (.seq .leaf (.block (.loop impl_ServedBytes_l1_p (fun N v => impl_ServedBytes_l1 N v.1 v.2.1 v.2.2.1 v.2.2.2.1 v.2.2.2.2.1) (fun v => impl_ServedBytes_l1_fuel v.1 v.2.1 v.2.2.1 v.2.2.2.1 v.2.2.2.2.1) (fun K1 => .leaf)))) .leaf)))) ?_ ?_
  · exact ⟨conds_leaf _ _, ⟨conds_leaf _ _, ⟨⟨conds_leaf _ _, ⟨fun _ => rfl, fun N => ⟨(fun v => by kernel_rfl), conds_leaf _ _⟩⟩⟩, conds_leaf _ _⟩⟩⟩
  · intro xs r h
    refine Eq.trans (Eq.symm ?_) h
    kernel_rfl
@[reducible] noncomputable def e_laws_eqFrame : FnE := { f := 11, args := [tyFrame, tyFrame], res := [.bool], F := fun xs => laws_eqFrame xs.1 xs.2.1 }
theorem ok_laws_eqFrame : FnOK Try.prog e_laws_eqFrame := by
  refine FnOK.of (e := e_laws_eqFrame) (C := cfg []) (cfg_ok env_nil) Try.func11 (c := codeOf Try.f11) rfl Try.call11 (by decide)
    (.leaf) ?_ ?_
  · exact conds_leaf _ _
  · intro xs r h
    refine Eq.trans (Eq.symm ?_) h
    kernel_rfl
@[reducible] noncomputable def e_laws_eqFrameS : FnE := { f := 8, args := [.slice 32 (tyFrame), .slice 32 (tyFrame)], res := [.bool], F := fun xs => laws_eqFrameS xs.1 xs.2.1 }
theorem ok_laws_eqFrameS : FnOK Try.prog e_laws_eqFrameS := by
  refine FnOK.of (e := e_laws_eqFrameS) (C := cfg [e_laws_eqFrame]) (cfg_ok (env_cons ok_laws_eqFrame env_nil)) Try.func8 (c := codeOf Try.f8) rfl Try.call8 (by decide)
    ((.seq .leaf (.seq .leaf (.seq (.seq .leaf (.block (.loop laws_eqFrameS_l1_p (fun N v => laws_eqFrameS_l1 N v.1 v.2.1 v.2.2.1) (fun v => laws_eqFrameS_l1_fuel v.1 v.2.1 v.2.2.1) (fun K1 => .leaf)))) .leaf)))) ?_ ?_
  · exact ⟨conds_leaf _ _, ⟨conds_leaf _ _, ⟨⟨conds_leaf _ _, ⟨fun _ => rfl, fun N => ⟨(fun v => by kernel_rfl), conds_leaf _ _⟩⟩⟩, conds_leaf _ _⟩⟩⟩
  · intro xs r h
    refine Eq.trans (Eq.symm ?_) h
    kernel_rfl
@[reducible] noncomputable def e_laws_FnExactServedBytes : FnE := { f := 3, args := [.slice 31 (tyFrame), .int .i64], res := [.bool], F := fun xs => laws_FnExactServedBytes xs.1 xs.2.1 }
theorem ok_laws_FnExactServedBytes : FnOK Try.prog e_laws_FnExactServedBytes := by
  refine FnOK.of (e := e_laws_FnExactServedBytes) (C := cfg [e_laws_szFrameS, e_laws_toFrameS, e_spec_ServedBytes, e_impl_ServedBytes, e_laws_eqFrameS]) (cfg_ok (env_cons ok_laws_szFrameS (env_cons ok_laws_toFrameS (env_cons ok_spec_ServedBytes (env_cons ok_impl_ServedBytes (env_cons ok_laws_eqFrameS env_nil)))))) Try.func3 (c := codeOf Try.f3) rfl Try.call3 (by decide)
    (.leaf) ?_ ?_
  · exact conds_leaf _ _
  · intro xs r h
    refine Eq.trans (Eq.symm ?_) h
    kernel_rfl
end Go.Proofs.Ytnfmhhhnjfpijab
