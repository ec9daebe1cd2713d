/- The abstract machine, part 3: what a piece of Go code does, as plain data, and that it does so. No condition. -/
import Derived.Test.YtbcdobkgmgngmaaDoorAm2
import Derived.Great.BuildSlice
namespace Go.Am
open Go.RowKit

section
variable {P : Program} {g : Glob} {W0 : Base g} {w w' : World} {X X' : Nat → Prop} {B n : Nat} {own : Bool} {s : St} {F : Key → List Nat} {a : Act} {H H' : List Nat} {o : Oper} {tg : Tags} {τ : Tab}

/-- a value that may become an element of a list that owns its array -/
def takeE (s : St) (x : Op1) (t : Ty) : Option (t.den × St × Bool) :=
  match takeT s x t with
  | some u => match u.T, u.f, u.x, t.flat with
    | T, _, y, true => match castTo t T y with | some z => some (z, u.s, u.moved) | none => none
    | T, .u true, y, false => match castTo t T y with | some z => some (z, u.s, u.moved) | none => none
    | _, _, _, _ => none
  | none => none

theorem takeE_sound (h : R n W0 w X F H s a) (ht : tg.ok a) {x : Operand} {t : Ty} {z : t.den} {s' : St} {mv : Bool} (hk : takeE s (op1 s tg x) t = some (z, s', mv)) :
    ∃ F' S vs, a.eval x = pack t vs ∧ rd w X W0.B true t z vs S ∧ R n W0 w X F' (S ++ H) s' a ∧ (mv = false → s' = s) := by
  unfold takeE at hk
  split at hk
  · rename_i u hu
    obtain ⟨hT, F', S, vs, h1, h2, h3, h4, hl⟩ := takeT_sound h ht hu
    split at hk
    · rename_i hfl
      split at hk
      · rename_i z' hz
        simp only [Option.some.injEq, Prod.mk.injEq] at hk
        obtain ⟨rfl, rfl, rfl⟩ := hk
        have e := castTo_eq hz
        have hflU : u.T.flat = true := by rw [hT]; assumption
        have hS : rd w (fun b => X b ∨ b ∈ S) W0.B false u.T u.x vs [] := rdF_freeze (fun _ h => .inl h) hl h2 (fun _ h => .inr h)
        have h5 := (rd_flat (X' := X) (own' := true) (w' := w) hflU hS).2
        refine ⟨F', [], vs, by rw [h1, hT], ?_, h3.drop, fun hm => (h4 hm).1⟩
        have e2 : (⟨u.T, u.x⟩ : TV) = ⟨t, z'⟩ := e
        cases u with
        | mk UT Uf Ux Us Um => simp only at e2 h5; cases e2; exact h5
      · cases hk
    · rename_i hf hfl
      split at hk
      · rename_i z' hz
        simp only [Option.some.injEq, Prod.mk.injEq] at hk
        obtain ⟨rfl, rfl, rfl⟩ := hk
        have e := castTo_eq hz
        refine ⟨F', S, vs, by rw [h1, hT], ?_, h3, fun hm => (h4 hm).1⟩
        have e2 : (⟨u.T, u.x⟩ : TV) = ⟨t, z'⟩ := e
        cases u with
        | mk UT Uf Ux Us Um => simp only at e2 h2 hf; subst hf; cases e2; unfold rdF at h2; exact h2
      · cases hk
    · cases hk
  · cases hk

def bsGo (tg : Tags) (t : Ty) : Nat → List (Nat × Operand) → St → Bool → Option (List t.den × St × Bool)
  | _, [], s, mv => some ([], s, mv)
  | k, (i, y) :: r, s, mv => match Nat.beq i k with
    | false => none
    | true => match takeE s (op1 s tg y) t with
      | some (z, s1, m1) => match bsGo tg t (k + 1) r s1 (mv || m1) with
        | some (l, s2, m2) => some (z :: l, s2, m2)
        | none => none
      | none => none

theorem bsGo_mv : ∀ {r : List (Nat × Operand)} {t : Ty} {k : Nat} {s : St} {mv : Bool} {l : List t.den} {s' : St} {mv' : Bool}, bsGo tg t k r s mv = some (l, s', mv') → mv' = false → mv = false
  | [], t, k, s, mv, l, s', mv', h, hm => by simp only [bsGo, Option.some.injEq, Prod.mk.injEq] at h; rw [h.2.2]; exact hm
  | (i, y) :: r, t, k, s, mv, l, s', mv', h, hm => by
    simp only [bsGo] at h
    split at h
    · cases h
    · split at h
      · split at h
        · rename_i hb
          simp only [Option.some.injEq, Prod.mk.injEq] at h
          obtain ⟨_, _, rfl⟩ := h
          have := bsGo_mv hb hm
          simp only [Bool.or_eq_false_iff] at this
          exact this.1
        · cases h
      · cases h

theorem bsGo_sound (ht : tg.ok a) {t : Ty} : ∀ {parts : List (Nat × Operand)} {k : Nat} {s : St} {mv : Bool} {l : List t.den} {s' : St} {mv' : Bool} {F : Key → List Nat} {H : List Nat} {cs : Array Value} {A M C : List Value},
    R n W0 w X F H s a → cs.toList = A ++ (M ++ C) → A.length = k * t.size → M.length = parts.length * t.size → bsGo tg t k parts s mv = some (l, s', mv') →
    ∃ F' S vs cs', Instr.fill (fun i => some (i * t.size, t.size)) cs (parts.map fun p => (p.1, a.eval p.2)) = some cs' ∧ cs'.toList = A ++ (vs ++ C) ∧ rows (rd w X W0.B true t) l vs S ∧ l.length = parts.length ∧
      R n W0 w X F' (S ++ H) s' a ∧ (mv' = false → s' = s)
  | [], k, s, mv, l, s', mv', F, H, cs, A, M, C, hR, hcs, hA, hM, hb => by
    simp only [bsGo, Option.some.injEq, Prod.mk.injEq] at hb
    obtain ⟨rfl, rfl, rfl⟩ := hb
    have : M = [] := List.eq_nil_of_length_eq_zero (by simpa using hM)
    subst this
    exact ⟨F, [], [], cs, rfl, hcs, ⟨rfl, rfl⟩, rfl, hR, fun _ => rfl⟩
  | (i, y) :: r, k, s, mv, l, s', mv', F, H, cs, A, M, C, hR, hcs, hA, hM, hb => by
    simp only [bsGo] at hb
    split at hb
    · cases hb
    · rename_i hik
      have hik := Nat.eq_of_beq_eq_true hik
      subst hik
      split at hb
      · rename_i z s1 m1 hz
        split at hb
        · rename_i l2 s2 m2 hb2
          simp only [Option.some.injEq, Prod.mk.injEq] at hb
          obtain ⟨rfl, rfl, rfl⟩ := hb
          obtain ⟨F1, Sn, vs, h1, h2, h3, h4⟩ := takeE_sound hR ht hz
          have hcells := pack_cells (rd_one h2) (rd_len h2)
          have hcsz : (a.eval y).cells.size = t.size := by rw [h1, ← Array.length_toList, hcells, rd_len h2]
          have hM' : M.length = t.size + r.length * t.size := by rw [hM, List.length_cons, Nat.add_mul]; omega
          obtain ⟨cs1, g1, g2⟩ := fill_step (place := fun i => some (i * t.size, t.size)) (i := i) (rest := r.map fun p => (p.1, a.eval p.2)) (v := a.eval y) rfl (pre := A) (mid := M.take t.size) (post := M.drop t.size ++ C)
            (by rw [hcs, ← List.append_assoc (M.take _), List.take_append_drop]) hA (by simp; omega) hcsz
          rw [h1, hcells] at g1
          obtain ⟨F', S, vs2, cs', k1, k2, k3, k4, k5, k6⟩ := bsGo_sound ht (k := i + 1) (cs := cs1) (A := A ++ vs) (M := M.drop t.size) (C := C) h3 (by rw [g1]; simp) (by simp [hA, rd_len h2, Nat.add_mul]) (by simp [hM']) hb2
          refine ⟨F', Sn ++ S, vs ++ vs2, cs', by simpa [g2] using k1, by rw [k2]; simp, ⟨vs, vs2, Sn, S, rfl, rfl, h2, k3⟩, by simp [k4], ?_, fun hm => ?_⟩
          · refine k5.sub ?_ ?_
            · intro b hb; simp only [List.mem_append] at hb ⊢; grind
            · have := k5.hnodup
              simp only [List.nodup_append, List.mem_append] at this ⊢
              grind
          · have := bsGo_mv hb2 hm
            simp only [Bool.or_eq_false_iff] at this
            exact (k6 hm).trans (h4 this.2)
        · cases hb
      · cases hb

def buildSliceRes (τ : Tab) (s : St) (tg : Tags) (e : TypeId) (len : Nat) (parts : Array (Nat × Operand)) : Option Res :=
  match τ e with
  | some (.slice e' t) => match τ e' with
    | some t2 => match decide (t2 = t), Nat.beq parts.size len && Nat.ble (len * t.size) 16777216 with
      | true, true => match bsGo tg t 0 parts.toList s false with
        | some (l, s', mv) => some ⟨.val (.slice e' t) (.u true) l, s', mv, none⟩
        | none => none
      | _, _ => none
    | none => none
  | _ => none

theorem buildSliceRes_sound (h : R n W0 w X F H s a) (ht : tg.ok a) (hτ : τ.ok P) {e : TypeId} {len : Nat} {parts : Array (Nat × Operand)} (ho : o.op = .buildSlice e len parts) {r : Res} (hr : buildSliceRes τ s tg e len parts = some r) : Sound P n W0 w X H s a o r := by
  unfold buildSliceRes at hr
  split at hr
  · rename_i e' t hT
    split at hr
    · rename_i t2 hT2
      split at hr
      · rename_i hd hbq
        split at hr
        · rename_i l s' mv hb
          simp only [Option.some.injEq] at hr
          subst hr
          have := of_decide_eq_true hd
          subst this
          simp only [Bool.and_eq_true, Nat.ble_eq] at hbq
          have hlen := Nat.eq_of_beq_eq_true hbq.1
          obtain ⟨hu, hpos⟩ := (hτ _ _ hT).slice
          obtain ⟨i, hi, his, _, hz⟩ := (hτ _ _ hT2).size
          intro _ K Q hK
          obtain ⟨cs0, hcs0⟩ : ∃ cs0 : Array Value, cs0 = (Array.range (len * i.size)).map ((pack t2 (zcells t2)).cells[· % (pack t2 (zcells t2)).cells.size]!) := ⟨_, rfl⟩
          have hcsz : cs0.toList.length = len * t2.size := by rw [hcs0]; simp [his]
          obtain ⟨F', S, vs, cs', k1, k2, k3, k4, k5, k6⟩ := bsGo_sound ht (k := 0) (cs := cs0) (A := []) (M := cs0.toList) (C := []) h (by simp) (by simp) (by rw [hcsz, Array.length_toList, hlen]) hb
          have hll : l.length = len := by rw [k4, Array.length_toList, hlen]
          have hrun : (execOp a.eval o).run P w = .ok (.value (.slice (some ⟨w.heap.size, 0, none⟩) len len)) (w.alloc (.cells cs' e')) := by
            simp only [execOp, ho, Sem.run_bind]
            by_cases hz0 : len * i.size = 0
            · have hl0 : len = 0 := by
                rcases Nat.mul_eq_zero.1 hz0 with h | h
                · exact h
                · omega
              subst hl0
              have hp0 : parts = #[] := Array.eq_empty_of_size_eq_zero hlen
              subst hp0
              simp only [List.map_nil, Instr.fill, Option.some.injEq] at k1
              subst k1
              simp [Instr.buildSlice, run_underlying hu, Go.sizeOf, typeInfo, hi, newRow, Instr.fill, hcs0, Array.range_zero']
            · rw [run_buildSlice w e e' len _ cs' i _ hu hi hz (by have := hbq.2; rw [his]; omega) hz0 (by rw [← hcs0]; simpa [his] using k1)]
              simp
          unfold Oper.wp
          rw [hrun]
          have hcs : cs'.toList = vs := by simpa using k2
          refine hK _ X F' (w.heap.size :: S) _ (fun _ h => h) (k5.alloc _) ⟨[_], rfl, ?_⟩ k6 ⟨fun _ => Old.alloc _ _, h.kept (Old.alloc _ _)⟩
          unfold rdF
          have hvl : vs.length = len * t2.size := by rw [rows_len (fun _ _ _ h => rd_len h) k3, hll]
          refine ⟨_, vs, [w.heap.size], S, rfl, rfl, ⟨⟨by rw [hvl, hll], .inr ⟨w.heap.size, len, cs', by rw [hll], h.below.sizeB, hnew _ _, by rw [hll]; exact Nat.le_refl _, ?_, ?_, ?_⟩⟩, rfl⟩, ?_⟩
          · have := hbq.2
            have h2 : len ≤ len * t2.size := Nat.le_mul_of_pos_right _ hpos
            simp only [maxLen]; omega
          · rw [← Array.length_toList, hcs, hvl]
          · rw [hcs, hll, ← hvl, List.take_length]
          · exact rows_mono k3 fun x v T _ hT hr => rd_mono (fun _ h => h) (fun b hb => hold w _ b (h.xlt b hb)) hr fun b hb => hold w _ b (k5.hown b (by simp [hT b hb])).2.1
        · cases hr
      · cases hr
    · cases hr
  · cases hr

/-! an array -/
def buildArrRes (τ : Tab) (s : St) (tg : Tags) (e : TypeId) (parts : Array (Nat × Operand)) : Option Res :=
  match τ e with
  | some (.arr n t) => match parts.toList with
    | [] => some ⟨.val (.arr n t) (.u true) (List.replicate n (zero t)), s, false, none⟩
    | p :: ps => match Nat.beq (p :: ps).length n, bsGo tg t 0 (p :: ps) s false with
      | true, some (l, s', mv) => some ⟨.val (.arr n t) (.u true) l, s', mv, none⟩
      | _, _ => none
  | _ => none
theorem buildArrRes_sound (h : R n W0 w X F H s a) (ht : tg.ok a) (hτ : τ.ok P) {e : TypeId} {parts : Array (Nat × Operand)} (ho : o.op = .build e parts) {r : Res} (hr : buildArrRes τ s tg e parts = some r) : Sound P n W0 w X H s a o r := by
  unfold buildArrRes at hr
  split at hr
  · rename_i m t hT
    obtain ⟨hpos, et, hu, hsz⟩ := (hτ _ _ hT).arr
    obtain ⟨i, hi, his, _, hz⟩ := (hτ _ _ hT).size
    obtain ⟨j, hj, hjs, _⟩ := sizeB_spec hsz
    have hzc : (pack (.arr m t) (zcells (.arr m t))).cells = (zcells (.arr m t)).toArray := rfl
    split at hr
    · rename_i hps
      simp only [Option.some.injEq] at hr
      subst hr
      intro _ K Q hK
      have hrun : (execOp a.eval o).run P w = .ok (.value (.agg (zcells (.arr m t)).toArray)) w := by
        simp only [execOp, ho, Sem.run_bind, Instr.build, zeroValue, typeInfo, Sem.run_pure, run_underlying hu, Result.andThen_ok]
        simp [hi, hz, Go.sizeOf, typeInfo, hj, hps, Instr.fill, hzc]
      unfold Oper.wp
      rw [hrun]
      refine hK _ X F [] w (fun _ h => h) (by simpa using h) ⟨zcells (.arr m t), rfl, ?_⟩ (fun _ => rfl) ⟨fun _ => Old.refl w, h.kept (Old.refl w)⟩
      unfold rdF
      exact zero_rd (hτ _ _ hT).plain
    · rename_i p ps hps
      split at hr
      · rename_i l s' mv hlen hb
        simp only [Option.some.injEq] at hr
        subst hr
        have hlen := Nat.eq_of_beq_eq_true hlen
        intro _ K Q hK
        have hzl : (zcells (.arr m t)).length = m * t.size := zcells_len (hτ _ _ hT).plain
        obtain ⟨F', S, vs, cs', k1, k2, k3, k4, k5, k6⟩ := bsGo_sound ht (k := 0) (cs := (zcells (.arr m t)).toArray) (A := []) (M := zcells (.arr m t)) (C := []) h (by simp) (by simp) (by rw [hzl, hlen]) hb
        have hrun : (execOp a.eval o).run P w = .ok (.value (.agg cs')) w := by
          simp only [execOp, ho, Sem.run_bind, Instr.build, zeroValue, typeInfo, Sem.run_pure, run_underlying hu, Result.andThen_ok]
          rw [← hjs] at k1
          simp only [List.map_cons] at k1
          simp [hi, hz, Go.sizeOf, typeInfo, hj, hps, hzc, k1]
        unfold Oper.wp
        rw [hrun]
        have hcs : cs'.toList = vs := by simpa using k2
        refine hK _ X F' S w (fun _ h => h) k5 ⟨cs'.toList, by simp [pack], ?_⟩ k6 ⟨fun _ => Old.refl w, h.kept (Old.refl w)⟩
        unfold rdF
        rw [hcs]
        exact ⟨by rw [k4, hlen], k3⟩
      · cases hr
  · cases hr

/-! make -/
theorem flatten_replicate_get (z : List Value) : ∀ (m j : Nat), j < m * z.length → (List.replicate m z).flatten[j]? = z[j % z.length]?
  | 0, j, h => by simp at h
  | m + 1, j, h => by
    rw [List.replicate_succ, List.flatten_cons]
    by_cases hj : j < z.length
    · rw [List.getElem?_append_left hj, Nat.mod_eq_of_lt hj]
    · rw [List.getElem?_append_right (by omega), flatten_replicate_get z m (j - z.length) (by rw [Nat.add_mul] at h; omega)]
      congr 1
      rw [← Nat.mod_eq_sub_mod (by omega)]

theorem madeCells_take (z : Array Value) {l c : Nat} (hlc : l ≤ c) : (madeCells z (c * z.size)).toList.take (l * z.size) = (List.replicate l z.toList).flatten := by
  apply List.ext_getElem?
  intro j
  have hl : (List.replicate l z.toList).flatten.length = l * z.size := by simp
  by_cases hj : j < l * z.size
  · have hjc : j < c * z.size := Nat.lt_of_lt_of_le hj (Nat.mul_le_mul_right _ hlc)
    have hz : 0 < z.size := Nat.pos_of_ne_zero fun e => by rw [e] at hj; simp at hj
    rw [List.getElem?_take, if_pos hj, flatten_replicate_get _ _ _ (by simpa using hj)]
    have hm : j % z.size < z.size := Nat.mod_lt _ hz
    simp [madeCells, hjc, hm]
  · rw [List.getElem?_eq_none (by rw [List.length_take]; omega), List.getElem?_eq_none (by omega)]

def makeRes (τ : Tab) (s : St) (tg : Tags) (e : TypeId) (x y : Operand) : Option Res :=
  match τ e with
  | some (.slice e' t) => match τ e', readInt s (op1 s tg x), readInt s (op1 s tg y) with
    | some t2, some (_, l), some (_, c) => match decide (t2 = t) with
      | true => some ⟨.val (.slice e' t) (.u true) (List.replicate l.toNat (zero t)), s, false, some (0 ≤ l ∧ l ≤ c ∧ c ≤ capN)⟩
      | false => none
    | _, _, _ => none
  | _ => none

theorem makeRes_sound (h : R n W0 w X F H s a) (ht : tg.ok a) (hτ : τ.ok P) {e : TypeId} {x y : Operand} (ho : o.op = .makeSlice e x y) {r : Res} (hr : makeRes τ s tg e x y = some r) : Sound P n W0 w X H s a o r := by
  unfold makeRes at hr
  split at hr
  · rename_i e' t hT
    split at hr
    · rename_i t2 k1 l k2 c hT2 hl hc
      split at hr
      · rename_i hd
        simp only [Option.some.injEq] at hr
        subst hr
        have := of_decide_eq_true hd
        subst this
        obtain ⟨hu, hpos⟩ := (hτ _ _ hT).slice
        obtain ⟨i, hi, his, hby, hz⟩ := (hτ _ _ hT2).size
        intro hp K Q hK
        obtain ⟨p1, p2, p3⟩ : 0 ≤ l ∧ l ≤ c ∧ c ≤ capN := hp
        have p3' : c ≤ 17179869184 := p3
        have e1 := readInt_sound h ht hl
        have e2 := readInt_sound h ht hc
        have hb : (i.bytes : Int) * c ≤ 281474976710656 := by
          have : (i.bytes : Int) * c ≤ 8192 * 17179869184 := Int.mul_le_mul (by omega) p3' (by omega) (by omega)
          omega
        have hrun : (execOp a.eval o).run P w = .ok (.value (.slice (some ⟨w.heap.size, 0, none⟩) l.toNat c.toNat)) (w.alloc (.cells (madeCells (zcells t2).toArray (c.toNat * i.size)) e')) := by
          simp only [execOp, ho, e1, e2, Sem.run_bind, run_make w e e' i _ hu hi hz k1 k2 l c p1 p2 hb (by omega), Result.andThen_ok, Sem.run_pure, pack_zero (hτ _ _ hT2).plain]
        unfold Oper.wp
        rw [hrun]
        refine hK _ X F [w.heap.size] _ (fun _ h => h) (h.alloc _) ⟨[_], rfl, ?_⟩ (fun _ => rfl) ⟨fun _ => Old.alloc _ _, h.kept (Old.alloc _ _)⟩
        unfold rdF
        have hzs : (zcells t2).toArray.size = t2.size := by simp [zcells_len (hτ _ _ hT2).plain]
        refine ⟨_, (List.replicate l.toNat (zcells t2)).flatten, [w.heap.size], [], rfl, rfl, ⟨⟨by simp [zcells_len (hτ _ _ hT2).plain], .inr ⟨w.heap.size, c.toNat, _, by simp, h.below.sizeB, hnew _ _, by simp; omega, by simp only [maxLen]; omega, ?_, ?_⟩⟩, rfl⟩, rows_replicate (zero_rd (hτ _ _ hT2).plain) _⟩
        · rw [size_madeCells, his]
        · have := madeCells_take (zcells t2).toArray (l := l.toNat) (c := c.toNat) (by omega)
          rw [hzs] at this
          rw [his, List.length_replicate]
          simpa using this
      · cases hr
    · cases hr
  · cases hr

/-! append -/
def appendRes (τ : Tab) (s : St) (tg : Tags) (e : TypeId) (x y : Operand) : Option Res :=
  match τ e with
  | some (.slice e' t) => match τ e' with
    | some t2 => match decide (t2 = t), takeT s (op1 s tg x) (.slice e' t) with
      | true, some ⟨.slice e1 t1, .u true, l, s1, _⟩ => match decide (e1 = e' ∧ t1 = t) with
        | true => match t.flat, readSl s1 (op1 s1 tg y) with
          | true, some ⟨_, t3, _, l3⟩ => match castTo (.slice e' t1) (.slice e' t3) l3 with
            | some l4 => some ⟨.val (.slice e' t1) (.u true) (l ++ l4), s1, true, some (l.length + l4.length ≤ capN)⟩
            | none => none
          | false, _ => match takeT s1 (op1 s1 tg y) (.slice e' t) with
            | some ⟨.slice e3 t3, .u true, l3, s2, _⟩ => match castTo (.slice e' t1) (.slice e3 t3) l3 with
              | some l4 => some ⟨.val (.slice e' t1) (.u true) (l ++ l4), s2, true, some (l.length + l4.length ≤ capN)⟩
              | none => none
            | _ => none
          | _, _ => none
        | false => none
      | _, _ => none
    | none => none
  | _ => none

theorem append_run {e e' : TypeId} {t : Ty} (hT : TOK P e (.slice e' t)) (hT2 : TOK P e' t) {v vy : Value} {xs ys : List Value} {l l4 : List t.den}
    (hown : w.ownsRow B e' t.size v l.length xs) (hy : ∃ ad cap, vy = .slice ad l4.length cap ∧ l4.length ≤ cap ∧ ((ad = none ∧ l4.length = 0 ∧ cap = 0) ∨ ∃ a0, ad = some a0 ∧ ∀ j u, ys[j]? = some u → w.cell? (a0.add j) = some u)) (hyl : ys.length = l4.length * t.size)
    (h1 : ∀ u ∈ ys, u.oneCell' = true) (hp : l.length + l4.length ≤ capN) (hB : B ≤ w.heap.size) :
    ∃ v' w', (Builtin.append_ #[e, e] e #[v, vy]).run P w = .ok v' w' ∧ w'.ownsRow B e' t.size v' (l.length + l4.length) (xs ++ ys) ∧ w.grownBy w' v.ownBlock ∧ (v'.ownBlock = v.ownBlock ∨ ∀ b, v'.ownBlock = some b → w.heap.size ≤ b) := by
  obtain ⟨hu, hpos⟩ := hT.slice
  obtain ⟨i, hi, his, hby, hz⟩ := hT2.size
  have hzs : (pack t (zcells t)).cells.size = t.size := by rw [pack_zero hT2.plain]; simp [zcells_len hT2.plain]
  have hp' : l.length + l4.length ≤ 17179869184 := hp
  obtain ⟨ad, cap, rfl, hle, hc⟩ := hy
  rcases hc with ⟨rfl, hl0, rfl⟩ | ⟨a0, rfl, hc⟩
  · have hys : ys = [] := List.eq_nil_of_length_eq_zero (by rw [hyl, hl0, Nat.zero_mul])
    subst hys
    have hrow := hown.2
    rcases hrow with ⟨rfl, hn⟩ | ⟨g, cap, cur, rfl, hb, hg, hnc, hcm, hcs, htk⟩
    · refine ⟨.slice none 0 0, w, ?_, by rw [hl0]; simpa using hown, ⟨rfl, rfl, rfl, Nat.le_refl _, fun _ _ _ => rfl⟩, .inl rfl⟩
      rw [hl0]
      simp [Builtin.append_, run_underlying hu, Go.sizeOf, typeInfo, hi, Builtin.lenOf, Builtin.firstCells]
    · refine ⟨.slice (some ⟨g, 0, none⟩) l.length cap, w, ?_, by rw [hl0]; simpa using hown, ⟨rfl, rfl, rfl, Nat.le_refl _, fun _ _ _ => rfl⟩, .inl rfl⟩
      rw [hl0]
      simp [Builtin.append_, run_underlying hu, Go.sizeOf, typeInfo, hi, Builtin.lenOf, Builtin.firstCells, hnc, storeCells]
  · have hbt : (l.length + l4.length) * i.bytes ≤ 140737488355328 := by
      have : (l.length + l4.length) * i.bytes ≤ 17179869184 * 8192 := Nat.mul_le_mul hp' hby
      omega
    have h63 : l.length + l4.length ≤ maxLen := by simp only [maxLen]; omega
    obtain ⟨v', w', g1, g2, g3, _⟩ := run_append_own (P := P) w B e e e' i _ t.size i.bytes hu hi hz his rfl hzs hpos v l.length xs hown a0 l4.length cap ys hyl hc h1 h63 hbt hB
    refine ⟨v', w', g1, g2, g3, ?_⟩
    rcases hown.2 with ⟨rfl, hn⟩ | ⟨g, cap', cur, rfl, hb, hg, hnc, hcm, hcs, htk⟩
    · have hown' : w.ownsRow w.heap.size e' t.size (.slice none 0 0) l.length xs := ⟨hown.1, .inl ⟨rfl, hn⟩⟩
      obtain ⟨v2, w2, k1, k2, _⟩ := run_append_own (P := P) w w.heap.size e e e' i _ t.size i.bytes hu hi hz his rfl hzs hpos _ l.length xs hown' a0 l4.length cap ys hyl hc h1 h63 hbt (Nat.le_refl _)
      rw [g1] at k1
      simp only [Result.ok.injEq] at k1
      obtain ⟨rfl, rfl⟩ := k1
      exact .inr fun b hb => (k2.lt b hb).1
    · by_cases hroom : l.length + l4.length ≤ cap'
      · have hfit : l.length * i.size + ys.length ≤ cur.size := by rw [hyl, hcs, his, ← Nat.add_mul]; exact Nat.mul_le_mul_right _ hroom
        have hr := run_append_room (P := P) w e e e' i hu hi g l.length cap' cur hg a0 l4.length cap ys (by rw [hyl, his]) hc h1 hroom hfit
        rw [g1] at hr
        simp only [Result.ok.injEq] at hr
        exact .inl (by rw [hr.1]; rfl)
      · have holds : ∀ j u, xs[j]? = some u → w.cell? ((⟨g, 0, none⟩ : Addr).add j) = some u := hown.cells (g := g) rfl
        have hr := run_append_grow (P := P) w e e e' i _ hu hi hz ⟨g, 0, none⟩ l.length cap' xs (by rw [hown.1, his]) holds a0 l4.length cap ys (by rw [hyl, his]) hc (by omega) (by simp only [maxLen] at h63; omega) (growslice_fits (by omega) hbt)
        rw [g1] at hr
        simp only [Result.ok.injEq] at hr
        exact .inr fun b hb => by rw [hr.1] at hb; simp [Value.ownBlock] at hb; omega

theorem ownsRow_mono {B' : Nat} {e : TypeId} {sz nn : Nat} {v : Value} {xs : List Value} (h : w.ownsRow B e sz v nn xs) (hB : B' ≤ B) : w.ownsRow B' e sz v nn xs :=
  ⟨h.1, h.2.imp id fun ⟨g, cap, cur, h1, h2, h3⟩ => ⟨g, cap, cur, h1, Nat.le_trans hB h2, h3⟩⟩

theorem append_world {S1 S2 S4 : List Nat} (h : R n W0 w X F (S1 ++ (S2 ++ (S4 ++ H))) s a) {e' : TypeId} {t : Ty} {v v' : Value} {xs ys : List Value} {l l4 : List t.den}
    (h1 : hdr w X W0.B true e' t.size l.length v xs S1) (h2 : rows (rd w X W0.B true t) l xs S2) (h4 : rows (rd w X W0.B true t) l4 ys S4)
    (g2 : w'.ownsRow W0.B e' t.size v' (l.length + l4.length) (xs ++ ys)) (g3 : w.grownBy w' v.ownBlock) (g4 : v'.ownBlock = v.ownBlock ∨ ∀ b, v'.ownBlock = some b → w.heap.size ≤ b) :
    ∃ S, R n W0 w' X F (S ++ H) s a ∧ rd w' X W0.B true (.slice e' t) (l ++ l4) [v'] S ∧ (∀ b, X b → w'.heap[b]? = w.heap[b]?) ∧ ∀ k b, b ∈ F k → w'.heap[b]? = w.heap[b]? := by
  have hS1 : S1 = v.ownBlock.toList := h1.2
  have same : ∀ b, b < w.heap.size → b ∉ S1 → w'.heap[b]? = w.heap[b]? := fun b hb hn => g3.block b hb (fun e => hn (by rw [hS1, ← e]; simp))
  have hnd := h.hnodup
  have hX : ∀ b, X b → w'.heap[b]? = w.heap[b]? := fun b hb => same b (h.xlt b hb) fun hm => (h.hown b (by simp [hm])).2.2 hb
  have hF : ∀ k b, b ∈ F k → w'.heap[b]? = w.heap[b]? := fun k b hb => same b (h.own k b hb).2.1 fun hm => h.hdisj k b hb (by simp [hm])
  have hn24 : ∀ b, b ∈ S2 ++ (S4 ++ H) → b ∉ S1 := fun b hb hm => (List.nodup_append.1 hnd).2.2 b hm b hb rfl
  have hH : ∀ b, b ∈ S2 ++ (S4 ++ H) → w'.heap[b]? = w.heap[b]? := fun b hb => same b (h.hown b (by simp only [List.mem_append] at hb ⊢; grind)).2.1 (hn24 b hb)
  have hbl : W0.below w' := ⟨g3.os.trans h.below.os, g3.tape.trans h.below.tape, g3.output.trans h.below.output, Nat.le_trans h.below.size g3.size, fun k hk =>
    (same k (Nat.lt_of_lt_of_le (W0.yW k hk) h.below.size) fun hm => W0.sep hk (h.hown k (by simp [hm])).1 rfl).trans (h.below.block k hk)⟩
  have hR := (h.drop).world hbl g3.size hX hF
  have hlt := g2.lt
  have hR2 : R n W0 w' X F (v'.ownBlock.toList ++ (S2 ++ (S4 ++ H))) s a := by
    rcases g4 with g4 | g4
    · rw [g4, ← hS1]
      refine hR.hand (fun b hb => ?_) (List.nodup_append.1 hnd).1 (fun k b hb hm => h.hdisj k b hb (by simp [hm])) (fun b hb hm => hn24 b hm hb)
      obtain ⟨q1, q2, q3⟩ := h.hown b (by simp [hb])
      exact ⟨q1, Nat.lt_of_lt_of_le q2 g3.size, q3⟩
    · refine hR.hand (fun b hb => ?_) (by cases v'.ownBlock <;> simp) (fun k b hb hm => ?_) (fun b hb hm => ?_)
      · have hb : v'.ownBlock = some b := by simpa using hb
        exact ⟨.inl (Nat.le_trans h.below.size (g4 b hb)), (hlt b hb).2, fun hx => by have := h.xlt b hx; have := g4 b hb; omega⟩
      · have hm : v'.ownBlock = some b := by simpa using hm
        have := (h.own k b hb).2.1; have := g4 b hm; omega
      · have hb : v'.ownBlock = some b := by simpa using hb
        have := (h.hown b (by simp only [List.mem_append] at hm ⊢; grind)).2.1; have := g4 b hb; omega
  have mono : ∀ {l : List t.den} {xs : List Value} {S : List Nat}, rows (rd w X W0.B true t) l xs S → (∀ b ∈ S, b ∈ S2 ++ (S4 ++ H)) → rows (rd w' X W0.B true t) l xs S := fun hr hS =>
    rows_mono hr fun x v T _ hT hrd => rd_mono (fun _ h => h) hX hrd fun b hb => hH b (hS b (hT b hb))
  refine ⟨v'.ownBlock.toList ++ (S2 ++ S4), by simpa [List.append_assoc] using hR2, ⟨v', xs ++ ys, v'.ownBlock.toList, S2 ++ S4, rfl, rfl, ⟨by simpa using g2, rfl⟩, ?_⟩, hX, hF⟩
  exact rows_append (mono h2 fun b hb => by simp [hb]) (mono h4 fun b hb => by simp [hb])

theorem appendRes_sound (h : R n W0 w X F H s a) (ht : tg.ok a) (hτ : τ.ok P) {e : TypeId} {x y : Operand} (ho : o.op = .call { callee := .builtin .append, args := #[x, y], argTypes := #[e, e] }) {r : Res} (hr : appendRes τ s tg e x y = some r) : Sound P n W0 w X H s a o r := by
  unfold appendRes at hr
  split at hr
  · rename_i e' t hT
    split at hr
    · rename_i t2 hT2
      split at hr
      · rename_i e1 t1 l s1 m1 hd hx
        have := of_decide_eq_true hd
        subst this
        obtain ⟨_, F1, S, vs, q1, q2, q3, _, _⟩ := takeT_sound h ht hx
        split at hr
        · rename_i hd2
          obtain ⟨rfl, rfl⟩ := of_decide_eq_true hd2
          simp only at q1 q2 q3
          unfold rdF at q2
          obtain ⟨v, xs, S1, S2, rfl, rfl, k1, k2⟩ := q2
          have fin : ∀ {s2 F2 S4 ys l4} {vy : Value} {r : Res}, R n W0 w X F2 (S4 ++ ((S1 ++ S2) ++ H)) s2 a → (∀ r, s.isBox r → s2.isBox r) → a.eval y = vy →
              (∃ ad cap, vy = .slice ad l4.length cap ∧ l4.length ≤ cap ∧ ((ad = none ∧ l4.length = 0 ∧ cap = 0) ∨ ∃ a0, ad = some a0 ∧ ∀ j u, ys[j]? = some u → w.cell? (a0.add j) = some u)) →
              rows (rd w X W0.B true t1) l4 ys S4 → r = ⟨.val (.slice e1 t1) (.u true) (l ++ l4), s2, true, some (l.length + l4.length ≤ capN)⟩ → Sound P n W0 w X H s a o r := by
            intro s2 F2 S4 ys l4 vy r hR hbx hy hc hrows hre
            subst hre
            intro hp K Q hK
            obtain ⟨v', w', g1, g2, g3, g4⟩ := append_run (P := P) (hτ _ _ hT) (hτ _ _ hT2) k1.1 hc (rows_len (fun _ _ _ h => rd_len h) hrows) (rows_one (fun _ _ _ h => rd_one h) hrows) hp h.below.sizeB
            have hR' : R n W0 w X F2 (S1 ++ (S2 ++ (S4 ++ H))) s2 a := hR.sub (fun b hb => by simp only [List.mem_append] at hb ⊢; grind) (by
              have := hR.hnodup
              simp only [List.nodup_append, List.mem_append] at this ⊢
              grind)
            obtain ⟨S', z1, z2, z3, z4⟩ := append_world hR' k1 k2 hrows g2 g3 g4
            have hx0 : a.eval x = v := q1
            have hrun : (execOp a.eval o).run P w = .ok (.value v') w' := by
              simp only [execOp, ho]
              have g1' : (Builtin.append_ #[e, e] o.type #[v, vy]).run P w = .ok v' w' := g1
              simp [resolve, invoke, builtin, hx0, hy, g1']
            have kept : Kept X s a none w w' := by
              intro b hb
              rcases hb with hb | ⟨r, h1, _, h2⟩
              · exact z3 b hb
              · obtain ⟨S, h3⟩ := hR.boxIn (hbx r h1) h2
                exact z4 (.m r) b (by rw [h3]; simp)
            unfold Oper.wp
            rw [hrun]
            exact hK _ X F2 S' w' (fun _ h => h) z1 ⟨[v'], rfl, by unfold rdF; exact z2⟩ (by simp) ⟨fun hp => (by rw [ho] at hp; cases hp), kept⟩
          split at hr
          · rename_i e3 t3 b3 l3 hfl hy
            split at hr
            · rename_i l4 hl4
              simp only [Option.some.injEq] at hr
              have := castTo_eq hl4
              cases this
              obtain ⟨vy, ys, T1, T2, g1, g2, g3, g4⟩ := readSl_sound q3 ht hy
              have g5 := rows_flat (r' := rd w X W0.B true t1) (fun x v S h => rd_flat hfl h) g3
              refine fin (S4 := []) (by simpa using q3) (fun r hb => takeT_box hx hb) g1 ?_ g5.2 hr.symm
              obtain ⟨ad, cap, z1, z2, _, z3⟩ := hdr_cells g2
              exact ⟨ad, cap, z1, z2, z3.imp id fun ⟨a0, u1, _, u2⟩ => ⟨a0, u1, u2⟩⟩
            · cases hr
          · rename_i hfl
            split at hr
            · rename_i e3 t3 l3 s2 m2 hy
              split at hr
              · rename_i l4 hl4
                simp only [Option.some.injEq] at hr
                have := castTo_eq hl4
                cases this
                obtain ⟨_, F2, S4, vs4, u1, u2, u3, _, _⟩ := takeT_sound q3 ht hy
                simp only at u1 u2 u3
                unfold rdF at u2
                obtain ⟨vy, ys, T1, T2, rfl, rfl, g2, g3⟩ := u2
                have u3' : R n W0 w X F2 (T2 ++ ((S1 ++ S2) ++ H)) s2 a := by
                  rw [List.append_assoc] at u3
                  exact u3.drop
                refine fin u3' (fun r hb => takeT_box hy (takeT_box hx hb)) u1 ?_ g3 hr.symm
                obtain ⟨ad, cap, z1, z2, _, z3⟩ := hdr_cells g2
                exact ⟨ad, cap, z1, z2, z3.imp id fun ⟨a0, u1, _, u2⟩ => ⟨a0, u1, u2⟩⟩
              · cases hr
            · cases hr
          · cases hr
        · cases hr
      · cases hr
    · cases hr
  · cases hr
end
end Go.Am

namespace Go.Am
open Go.RowKit

@[reducible] def dens : List Ty → Type
  | [] => Unit
  | t :: ts => t.den × dens ts

def rdArgs (w : World) (X : Nat → Prop) (B : Nat) : (ts : List Ty) → dens ts → List Value → Prop
  | [], _, vs => vs = []
  | t :: ts, x, vs => ∃ cs us, vs = pack t cs :: us ∧ rd w X B false t x.1 cs [] ∧ rdArgs w X B ts x.2 us
def rdRes (w : World) (B : Nat) : (ts : List Ty) → dens ts → List Value → List Nat → Prop
  | [], _, vs, S => vs = [] ∧ S = []
  | t :: ts, x, vs, S => ∃ cs us S1 S2, vs = pack t cs :: us ∧ S = S1 ++ S2 ∧ rd w (fun _ => False) B true t x.1 cs S1 ∧ rdRes w B ts x.2 us S2
def packRes (vs : List Value) : Value :=
  match vs with
  | [v] => v
  | vs => .tuple vs.toArray

/-- What is known of a function: on arguments of these types, that meet the condition, it gives these results, in memory of their own. -/
structure FnE where
  f : FuncId
  args : List Ty
  res : List Ty
  F : dens args → Option (dens res)

structure FnOK (P : Program) (g : Glob) (e : FnE) : Prop where
  enters : ∀ args w, (callFunc e.f args).run P w = .ok (.enter e.f args) w
  calls : ∀ (w : World) (xs : dens e.args) (r : dens e.res) (vals : List Value), g.G w → rdArgs w (· < w.heap.size) 0 e.args xs vals → e.F xs = some r →
    Calls P e.f vals.toArray w fun en w' => ∃ rs S, en = .returned (packRes rs) ∧ rdRes w' w.heap.size e.res r rs S ∧ S.Nodup ∧ Below w.heap.size w w'

abbrev Env := List FnE
def Env.find (Γ : Env) (f : FuncId) : Option FnE :=
  match Γ with
  | [] => none
  | e :: r => match Nat.beq e.f f with | true => some e | false => Env.find r f
def Env.ok (Γ : Env) (P : Program) (g : Glob) : Prop := ∀ e ∈ Γ, FnOK P g e
theorem Env.find_ok {Γ : Env} {P : Program} {g : Glob} (h : Γ.ok P g) {f : FuncId} {e : FnE} (he : Γ.find f = some e) : e.f = f ∧ FnOK P g e := by
  induction Γ with
  | nil => cases he
  | cons x r ih =>
    simp only [Env.find] at he
    split at he
    · rename_i hb
      simp only [Option.some.injEq] at he
      subst he
      exact ⟨Nat.eq_of_beq_eq_true hb, h _ (by simp)⟩
    · exact ih (fun e he => h e (by simp [he])) he

section
variable {P : Program} {g : Glob} {W0 : Base g} {w w' : World} {X X' : Nat → Prop} {B B' n : Nat} {own : Bool} {s : St} {F : Key → List Nat} {a : Act} {H H' : List Nat} {o : Oper} {tg : Tags} {τ : Tab}

theorem rd_base (hB : B' ≤ B) (hX : ∀ b, X b → X' b) : ∀ {T : Ty} {x : T.den} {vs : List Value} {S : List Nat}, rd w X B own T x vs S → rd w X' B' own T x vs S
  | .unit, _, _, _, h | .int _, _, _, _, h | .bool, _, _, _, h | .fnc _, _, _, _, h | .str, _, _, _, h => h
  | .slice _ _, _, _, _, ⟨v, xs, S1, S2, e, e2, h1, h2⟩ => by
    refine ⟨v, xs, S1, S2, e, e2, ?_, rows_mono h2 fun _ _ _ _ _ h => rd_base hB hX h⟩
    cases own
    · obtain ⟨g1, g2, a, cap, g3, g4, g5, g6⟩ := h1
      exact ⟨g1, g2, a, cap, g3, g4, g5, g6.imp id fun ⟨ad, k1, k2, k3⟩ => ⟨ad, k1, k2.imp id (hX _), k3⟩⟩
    · exact ⟨ownsRow_mono h1.1 hB, h1.2⟩
  | .pair a b, _, _, _, ⟨v1, v2, S1, S2, e, e2, h1, h2⟩ => ⟨v1, v2, S1, S2, e, e2, rd_base hB hX h1, rd_base hB hX h2⟩
  | .arr n t, _, _, _, ⟨h, h'⟩ => ⟨h, rows_mono h' fun _ _ _ _ _ h => rd_base hB hX h⟩
  | .err, _, _, _, h => h
  | .hid _, _, _, _, ⟨e, y, h⟩ => ⟨e, y, rd_base hB hX h⟩
  | .sptr .., _, _, _, ⟨e, o, b, c, h1, h2, h3, h4⟩ => ⟨e, o, b, c, h1, hX b h2, h3, rd_base hB hX h4⟩
  | .clo .., _, _, _, ⟨e, cs, h1, h2⟩ => ⟨e, cs, h1, rd_base hB hX h2⟩

/-! calls -/
def readArgs (s : St) (tg : Tags) : (ts : List Ty) → List Operand → Option (dens ts)
  | [], [] => some ()
  | t :: ts, x :: xs => match readT s (op1 s tg x) t, readArgs s tg ts xs with
    | some u, some us => some (u, us)
    | _, _ => none
  | _, _ => none
theorem readArgs_sound (h : R n W0 w X F H s a) (ht : tg.ok a) : ∀ {ts : List Ty} {xs : List Operand} {us : dens ts}, readArgs s tg ts xs = some us → rdArgs w (· < w.heap.size) 0 ts us (xs.map a.eval)
  | [], [], us, _ => rfl
  | t :: ts, x :: xs, us, hr => by
    simp only [readArgs] at hr
    split at hr
    · rename_i u us' hu hus
      simp only [Option.some.injEq] at hr
      subst hr
      obtain ⟨cs, h1, h2⟩ := readT_sound h ht hu
      exact ⟨cs, _, by simp [h1], rd_base (Nat.zero_le _) (fun _ h => h) h2, readArgs_sound h ht hus⟩
    · cases hr
  | [], _ :: _, _, hr => by simp [readArgs] at hr
  | _ :: _, [], _, hr => by simp [readArgs] at hr

/-- the components of a call's results -/
def compsOf (d : Nat) : (ts : List Ty) → dens ts → Nat → List (Key × Tm) → List (Key × Tm)
  | [], _, _, r => r
  | t :: ts, x, i, r => compsOf d ts x.2 (i + 1) ((.c d i, .val t (.u true) x.1) :: r)

def putRes (d : Nat) (s : St) : (ts : List Ty) → dens ts → St
  | [t], r => putT s d (.val t (.u true) r.1)
  | [], r => { env := compsOf d [] r 0 (putT s d .tup).env, dirty := (putT s d .tup).dirty, lent := s.lent }
  | t :: u :: ts, r => { env := compsOf d (t :: u :: ts) r 0 (putT s d .tup).env, dirty := (putT s d .tup).dirty, lent := s.lent }

def callK {ρ : Type} (Γ : Env) (n : Nat) (s : St) (tg : Tags) (dst : Option Nat) (f : FuncId) (xs : List Operand) (k : St → Option ρ) : Option ρ :=
  match Γ.find f with
  | none => none
  | some e => match readArgs s tg e.args xs with
    | none => none
    | some us => match dst with
      | none => (e.F us).bind fun _ => k s
      | some d => match dstOK s d && Nat.blt d n with
        | false => none
        | true => (e.F us).bind fun r => k (putRes d s e.res r)

theorem R.below' (h : R n W0 w X F H s a) (hb : Below w.heap.size w w') : R n W0 w' X F H s a :=
  h.world (h.below.step hb) hb.size (fun b hb' => hb.block b (h.xlt b hb')) (fun k b hb' => hb.block b (h.own k b hb').2.1)

theorem rdRes_len : ∀ {ts : List Ty} {x : dens ts} {rs : List Value} {S : List Nat}, rdRes w B ts x rs S → rs.length = ts.length
  | [], _, _, _, h => by simp [h.1]
  | t :: ts, _, _, _, ⟨_, _, _, _, e, _, _, h⟩ => by simp [e, rdRes_len h]
theorem packRes_ne {rs : List Value} (h : rs.length ≠ 1) : packRes rs = .tuple rs.toArray := by
  unfold packRes
  split
  · simp at h
  · rfl

/-- (U2) A SLOT IS WRITTEN WITH A TUPLE. -/
theorem R.putTup {d : Nat} {vs : List Value} {ts : List Ty} {x : dens ts} {S : List Nat} (h : R n W0 w X F (S ++ H) s a) (hd : dstOK s d = true) (hn : d < n) (hx : rdRes w W0.B ts x vs S) :
    ∃ F', R n W0 w X F' H { env := compsOf d ts x 0 (putT s d .tup).env, dirty := (putT s d .tup).dirty, lent := s.lent } (a.put (some d) (.tuple vs.toArray)) := by
  have h0 : R n W0 w X (setK F (.m d) []) (S ++ H) (putT s d .tup) (a.put (some d) (.tuple vs.toArray)) := (by simpa using h : R n W0 w X F ([] ++ (S ++ H)) s a).put hd hn rfl
  have hval : (a.put (some d) (.tuple vs.toArray)).tmps.getD d undef = .tuple vs.toArray := slotV_put_same (a := a) (by rw [h.size]; exact hn)
  have hno : ∀ i, (putT s d .tup).get (.c d i) = .junk := fun i => by
    rw [putT_get]
    simp only [reduceCtorEq, if_false]
    exact Classical.byContradiction fun hc => by have := (h.comps d i hc).1; simp [dstOK, this] at hd
  -- one component after the other
  suffices hs : ∀ (ts : List Ty) (x : dens ts) (us : List Value) (i : Nat) (S : List Nat) (F : Key → List Nat) (r : List (Key × Tm)) (pre : List Value), vs = pre ++ us → pre.length = i → rdRes w W0.B ts x us S →
      R n W0 w X F (S ++ H) { env := r, dirty := (putT s d .tup).dirty, lent := s.lent } (a.put (some d) (.tuple vs.toArray)) → getE r (.m d) = .tup → (∀ j, i ≤ j → getE r (.c d j) = .junk) →
      ∃ F', R n W0 w X F' H { env := compsOf d ts x i r, dirty := (putT s d .tup).dirty, lent := s.lent } (a.put (some d) (.tuple vs.toArray)) by
    obtain ⟨F', hF'⟩ := hs ts x vs 0 S _ (putT s d .tup).env [] rfl rfl hx h0 (putT_get_self _ _ _) (fun j _ => hno j)
    exact ⟨F', hF'⟩
  intro ts
  induction ts with
  | nil =>
    intro x us i S F r pre _ _ hx hR _ _
    obtain ⟨rfl, rfl⟩ := hx
    exact ⟨F, hR⟩
  | cons t ts ih =>
    intro x us i S F r pre hvs hpre hx hR htup hjunk
    obtain ⟨cs, us', S1, S2, rfl, rfl, hx1, hx2⟩ := hx
    -- the state with this one component
    have hcomp : slotV (a.put (some d) (.tuple vs.toArray)) (.c d i) = pack t cs := by
      simp only [slotV, hval]
      rw [hvs, ← hpre]
      simp [Array.getD_eq_getD_getElem?]
    have hone : R n W0 w X (setK F (.c d i) S1) (S2 ++ H) { env := (.c d i, .val t (.u true) x.1) :: r, dirty := (putT s d .tup).dirty, lent := s.lent } (a.put (some d) (.tuple vs.toArray)) := by
      have hFi : F (.c d i) = [] := by
        have := hR.slots (.c d i)
        simp only [St.get, hjunk i (Nat.le_refl _)] at this
        exact this
      have hnd := hR.hnodup
      rw [List.append_assoc] at hnd
      exact
      { size := hR.size
        defers := hR.defers
        below := hR.below
        glob := hR.glob
        gx := hR.gx
        xs := hR.xs
        fix := hR.fix
        xlt := hR.xlt
        xin := hR.xin
        x0 := hR.x0
        own := fun k b hb => by
          simp only [setK] at hb
          split at hb
          · exact hR.hown b (by simp [hb])
          · exact hR.own k b hb
        nodup := fun k => by
          simp only [setK]
          split
          · exact (List.nodup_append.1 hnd).1
          · exact hR.nodup k
        disj := fun k k' b hb hb' => by
          simp only [setK] at hb hb'
          split at hb <;> split at hb'
          · rename_i e1 e2; rw [e1, e2]
          · exact absurd (by simp [hb]) (hR.hdisj k' b hb')
          · exact absurd (by simp [hb']) (hR.hdisj k b hb)
          · exact hR.disj k k' b hb hb'
        hown := fun b hb => hR.hown b (by simp only [List.mem_append] at hb ⊢; grind)
        hnodup := (List.nodup_append.1 hnd).2.1
        hdisj := fun k b hb hh => by
          simp only [setK] at hb
          split at hb
          · exact (List.nodup_append.1 hnd).2.2 b hb b hh rfl
          · exact hR.hdisj k b hb (by simp only [List.mem_append] at hh ⊢; grind)
        comps := fun d' j hc => by
          simp only [St.get, getE_cons] at hc ⊢
          simp only [reduceCtorEq, if_false]
          split at hc
          · rename_i e
            simp only [Key.c.injEq] at e
            obtain ⟨rfl, rfl⟩ := e
            refine ⟨htup, vs.toArray, hval, ?_⟩
            rw [hvs, ← hpre]; simp
          · exact hR.comps d' j hc
        slots := fun k => by
          by_cases hk : k = .c d i
          · subst hk
            simp only [St.get, getE_cons, if_true, setK]
            exact ⟨cs, hcomp, by unfold rdF; exact rd_base (Nat.le_refl _) (fun _ h => h.elim) hx1⟩
          · have e1 : St.get { env := (Key.c d i, Tm.val t (.u true) x.1) :: r, dirty := (putT s d .tup).dirty, lent := s.lent } k = St.get { env := r, dirty := (putT s d .tup).dirty, lent := s.lent } k := by simp [St.get, getE_cons, Ne.symm hk]
            have e2 : setK F (.c d i) S1 k = F k := by simp [setK, hk]
            rw [e1, e2]
            exact vt_comp (s := { env := r, dirty := (putT s d .tup).dirty, lent := s.lent }) (hR.slots k) }
    obtain ⟨F', hF'⟩ := ih x.2 us' (i + 1) S2 _ _ (pre ++ [pack t cs]) (by rw [hvs]; simp) (by simp [hpre]) hx2 hone (by rw [getE_cons]; simpa using htup) (fun j hj => by
      rw [getE_cons, if_neg (by simp; omega)]; exact hjunk j (by omega))
    exact ⟨F', hF'⟩

theorem R.putRes {d : Nat} {rs : List Value} : ∀ {ts : List Ty} {x : dens ts} {S : List Nat}, R n W0 w X F (S ++ H) s a → dstOK s d = true → d < n → rdRes w W0.B ts x rs S →
    ∃ F', R n W0 w X F' H (putRes d s ts x) (a.put (some d) (packRes rs))
  | [], x, S, h, hd, hn, hx => by
    rw [packRes_ne (by rw [rdRes_len hx]; simp)]
    exact h.putTup hd hn hx
  | [t], x, S, h, hd, hn, hx => by
    obtain ⟨cs, us', S1, S2, rfl, rfl, g1, rfl, rfl⟩ := hx
    exact ⟨_, h.put hd hn ⟨cs, rfl, by unfold rdF; exact rd_base (Nat.le_refl _) (fun _ (h : False) => h.elim) (by simpa using g1)⟩⟩
  | t :: u :: ts, x, S, h, hd, hn, hx => by
    rw [packRes_ne (by rw [rdRes_len hx]; simp)]
    exact h.putTup hd hn hx

/-- the function that is called, if it is known -/
def fnOf (s : St) (tg : Tags) (x : Operand) : Option FuncId :=
  match look s (op1 s tg x) with
  | some ⟨.fnc f, _, _⟩ => some f
  | _ => none
theorem fnOf_sound (h : R n W0 w X F H s a) (ht : tg.ok a) {x : Operand} {f : FuncId} (hf : fnOf s tg x = some f) : a.eval x = .func (.func f) #[] #[] := by
  unfold fnOf at hf
  split at hf
  · rename_i g fl y hl
    simp only [Option.some.injEq] at hf
    subst hf
    obtain ⟨hlive, vs, S, h1, h2, _⟩ := look_sound h ht hl
    have h3 := rdF_freeze (X' := fun b => X b ∨ b ∈ S) (fun _ h => .inl h) hlive h2 (fun _ h => .inr h)
    rw [h1, h3.1]
    rfl
  · cases hf
theorem call_sound {Γ : Env} (hΓ : Γ.ok P g) (h : R n W0 w X F H s a) (ht : tg.ok a) {f : FuncId} {fo : Operand} (hfo : a.eval fo = .func (.func f) #[] #[]) {xs : Array Operand} {ats : Array TypeId} (ho : o.op = .call { callee := .value fo, args := xs, argTypes := ats }) {e : FnE} (he : Γ.find f = some e)
    {us : dens e.args} (hus : readArgs s tg e.args xs.toList = some us) {rv : dens e.res} (hpre : e.F us = some rv) {K : Act → World → Prop} {Q : Exit → Act → World → Prop}
    (hK : ∀ rs S w', R n W0 w' X F (S ++ H) s a → rdRes w' W0.B e.res rv rs S → Old w w' → K (a.put o.dst (packRes rs)) w') : o.wp P a w K Q := by
  obtain ⟨hf, hok⟩ := Env.find_ok hΓ he
  subst hf
  have hc := hok.calls w us rv (xs.toList.map a.eval) h.glob (readArgs_sound h ht hus) hpre
  have hrun : (execOp a.eval o).run P w = .ok (.enter e.f (xs.toList.map a.eval).toArray) w := by
    have : execOp a.eval o = callFunc e.f (xs.map a.eval) := by
      simp only [execOp, ho, resolve, hfo, Deferred.ofValue]
      simp [invoke]
    rw [this, hok.enters]
    congr 2
    apply Array.toList_inj.mp
    simp
  unfold Oper.wp
  rw [hrun, Oper.upon_enter]
  refine hc.mono fun en w' ⟨rs, S, hen, hres, hnd, hbl⟩ => ?_
  subst hen
  show K (a.put o.dst (packRes rs)) w'
  have hlow : ∀ {ts : List Ty} {x : dens ts} {rs : List Value} {S : List Nat}, rdRes w' w.heap.size ts x rs S → (∀ b ∈ S, w.heap.size ≤ b ∧ b < w'.heap.size) ∧ rdRes w' W0.B ts x rs S := by
    intro ts
    induction ts with
    | nil => intro x rs S h; exact ⟨by simp [h.2], h⟩
    | cons t ts ih =>
      intro x rs S ⟨cs, us, S1, S2, e1, e2, g1, g2⟩
      obtain ⟨k1, k2⟩ := ih g2
      refine ⟨fun b hb => ?_, cs, us, S1, S2, e1, e2, rd_base h.below.sizeB (fun _ h => h) g1, k2⟩
      rw [e2] at hb
      rcases List.mem_append.1 hb with hb | hb
      · exact rd_own g1 b hb
      · exact k1 b hb
  obtain ⟨hfresh, hres'⟩ := hlow hres
  exact hK rs S w' ((h.below' hbl).hand (fun b hb => ⟨.inl (Nat.le_trans h.below.size (hfresh b hb).1), (hfresh b hb).2, fun hx => by have := h.xlt b hx; have := (hfresh b hb).1; omega⟩) hnd
    (fun k b hb hm => by have := (h.own k b hb).2.1; have := (hfresh b hm).1; omega) (fun b hb hm => by have := (h.hown b hm).2.1; have := (hfresh b hb).1; omega)) hres' (fun k hk => hbl.block k hk)

theorem callK_sound {ρ : Type} {Γ : Env} (hΓ : Γ.ok P g) (h : R n W0 w X F H s a) (ht : tg.ok a) {f : FuncId} {fo : Operand} (hfo : a.eval fo = .func (.func f) #[] #[]) {xs : Array Operand} {ats : Array TypeId} (ho : o.op = .call { callee := .value fo, args := xs, argTypes := ats }) {k : St → Option ρ} {r : ρ} (hr : callK Γ n s tg o.dst f xs.toList k = some r)
    {K : Act → World → Prop} {Q : Exit → Act → World → Prop} (hK : ∀ v w' F' s', k s' = some r → R n W0 w' X F' H s' (a.put o.dst v) → Old w w' → K (a.put o.dst v) w') : o.wp P a w K Q := by
  unfold callK at hr
  split at hr
  · cases hr
  · rename_i e he
    split at hr
    · cases hr
    · rename_i us hus
      cases hd : o.dst with
      | none =>
        rw [hd] at hr
        simp only [Option.bind_eq_some_iff] at hr
        obtain ⟨rv, hrv, hk⟩ := hr
        refine call_sound hΓ h ht hfo ho he hus hrv fun rs S w' hR hres' hold => ?_
        have hK' := hK (packRes rs) w' F s hk
        rw [hd] at hK' ⊢
        exact hK' hR.drop hold
      | some d =>
        rw [hd] at hr
        simp only at hr
        split at hr
        · cases hr
        · rename_i hdn
          simp only [Bool.and_eq_true, Nat.blt_eq] at hdn
          simp only [Option.bind_eq_some_iff] at hr
          obtain ⟨rv, hrv, hk⟩ := hr
          refine call_sound hΓ h ht hfo ho he hus hrv fun rs S w' hR hres' hold => ?_
          obtain ⟨F', hF'⟩ := hR.putRes hdn.1 hdn.2 hres'
          have hK' := hK (packRes rs) w' F' _ hk
          rw [hd] at hK' ⊢
          exact hK' hF' hold
end
end Go.Am

namespace Go.Am
open Go.RowKit

/-! ### a tuple that is moved -/
def renE (k d : Nat) : List (Key × Tm) → List (Key × Tm)
  | [] => []
  | (.c t i, x) :: r => match Nat.beq t k with
    | true => (.c d i, x) :: renE k d r
    | false => match Nat.beq t d with
      | true => renE k d r
      | false => (.c t i, x) :: renE k d r
  | (.m t, x) :: r => (.m t, x) :: renE k d r
theorem renE_m (k d t : Nat) : ∀ l, getE (renE k d l) (.m t) = getE l (.m t)
  | [] => rfl
  | (.c a i, x) :: r => by
    simp only [renE]
    split
    · simp only [getE_cons, reduceCtorEq, if_false, renE_m k d t r]
    · split
      · simp only [getE_cons, reduceCtorEq, if_false, renE_m k d t r]
      · simp only [getE_cons, reduceCtorEq, if_false, renE_m k d t r]
  | (.m a, x) :: r => by simp only [renE, getE_cons, renE_m k d t r]
theorem renE_c {k d : Nat} (hkd : k ≠ d) (t i : Nat) : ∀ l, getE (renE k d l) (.c t i) = if t = d then getE l (.c k i) else if t = k then .junk else getE l (.c t i)
  | [] => by simp [renE, getE]
  | (.c a j, x) :: r => by
    have ih := renE_c hkd t i r
    simp only [renE]
    split
    · rename_i h
      have h := Nat.eq_of_beq_eq_true h
      subst h
      simp only [getE_cons, ih, Key.c.injEq]
      by_cases h1 : t = d
      · subst h1; simp
      · simp only [h1, if_false, Ne.symm h1, false_and]
        by_cases h2 : t = a
        · simp [h2]
        · simp [h2, Ne.symm h2]
    · rename_i h
      have hak : a ≠ k := fun e => by subst e; rw [Nat.beq_refl] at h; cases h
      split
      · rename_i h'
        have h' := Nat.eq_of_beq_eq_true h'
        subst h'
        simp only [getE_cons, ih, Key.c.injEq]
        by_cases h1 : t = a
        · simp [h1, hak]
        · simp [h1, Ne.symm h1]
      · rename_i h'
        have had : a ≠ d := fun e => by subst e; rw [Nat.beq_refl] at h'; cases h'
        simp only [getE_cons, ih, Key.c.injEq]
        by_cases h1 : t = d
        · subst h1; simp [had, hak]
        · by_cases h2 : t = k
          · subst h2; simp [h1, hak]
          · simp [h1, h2]
  | (.m a, x) :: r => by simp only [renE, getE_cons, reduceCtorEq, if_false, renE_c hkd t i r]
def tupTo (s : St) (k d : Nat) : St := { env := renE k d ((.m d, .tup) :: s.env), dirty := (putT s d .tup).dirty, lent := s.lent }

section
variable {g : Glob} {W0 : Base g} {w : World} {X : Nat → Prop} {B n : Nat} {s s1 s2 : St} {F F1 F2 : Key → List Nat} {a : Act}

theorem vt_m (hg : ∀ t, s2.get (.m t) = s1.get (.m t)) (hd : s2.dirty = s1.dirty) (hF : ∀ t, F2 (.m t) = F1 (.m t)) {v : Value} {S : List Nat} : ∀ {u : Tm}, vt w X B s1 F1 a v S u → vt w X B s2 F2 a v S u := by
  have hf : ∀ r, s2.foul r = s1.foul r := fun r => by unfold St.foul; rw [hd]
  have hv : ∀ {r p v U}, valAt w s1 F1 a r p v U → valAt w s2 F2 a r p v U := by
    intro r p v U h
    unfold valAt at h ⊢
    rw [hg r, hF r]
    exact h
  intro u h
  induction u with
  | junk => exact h
  | tup => exact h
  | val => exact h
  | box => exact h
  | shp => exact h
  | ptr r p =>
    obtain ⟨h0, e, T, f, x, b, S', h1, h2, h3⟩ := h
    exact ⟨h0, e, T, f, x, b, S', by rw [hg]; exact h1, by rw [hF]; exact h2, h3⟩
  | aep r p i =>
    obtain ⟨h0, e, T, f, x, b, S', n, t', y, h1, h2, h3⟩ := h
    exact ⟨h0, e, T, f, x, b, S', n, t', y, by rw [hg]; exact h1, by rw [hF]; exact h2, h3⟩
  | bor r p => exact ⟨h.1, fun hc => let ⟨U, hU⟩ := h.2 (by rw [← hf]; exact hc); ⟨U, hv hU⟩⟩
  | elp r p i q => exact ⟨h.1, fun hc => let ⟨e, t, ad, m, cap, h1, h2⟩ := h.2 (by rw [← hf]; exact hc); ⟨e, t, ad, m, cap, hv h1, h2⟩⟩
  | pls hh l =>
    refine ⟨h.1, plsV_mono (fun _ h => h) (fun _ _ => rfl) (fun r p v ha => ?_) h.2⟩
    obtain ⟨e, T, f, x, b, S', h1, h2, h3⟩ := ha
    exact ⟨e, T, f, x, b, S', by rw [hg]; exact h1, by rw [hF]; exact h2, h3⟩
  | gd g want u ih =>
    intro hc
    obtain ⟨h0, h1, h2⟩ := h (by rw [← hf]; exact hc)
    exact ⟨by rw [hg]; exact h0, fun hb => ih (h1 hb), h2⟩

def srcK (k d : Nat) : Key → Option Key
  | .m t => if t = d then none else some (.m t)
  | .c t i => if t = d then some (.c k i) else if t = k then none else some (.c t i)
theorem srcK_inj {k d : Nat} {x y j : Key} (hx : srcK k d x = some j) (hy : srcK k d y = some j) : x = y := by
  cases x with
  | m t =>
    simp only [srcK] at hx
    split at hx
    · cases hx
    · cases hx
      cases y with
      | m u =>
        simp only [srcK] at hy
        split at hy
        · cases hy
        · simp only [Option.some.injEq] at hy; exact hy.symm
      | c u i =>
        simp only [srcK] at hy
        split at hy
        · cases hy
        · split at hy <;> cases hy
  | c t i =>
    cases y with
    | m u =>
      simp only [srcK] at hy
      split at hy
      · cases hy
      · cases hy
        simp only [srcK] at hx
        split at hx
        · cases hx
        · split at hx <;> cases hx
    | c u i' =>
      simp only [srcK] at hx hy
      split at hx <;> split at hy
      · rename_i h1 h2; cases hx; cases hy; rw [h1, h2]
      · split at hy
        · cases hy
        · rename_i h1 h2 h3; cases hx; cases hy; exact absurd rfl h3
      · split at hx
        · cases hx
        · rename_i h1 h2 h3; cases hy; cases hx; exact absurd rfl h3
      · split at hx
        · cases hx
        · split at hy
          · cases hy
          · cases hx; cases hy; rfl

theorem R.tupTo {k d : Nat} (h : R n W0 w X F [] s a) (hk : s.get (.m k) = .tup) (hd : dstOK s d = true) (hn : d < n) :
    ∃ F', R n W0 w X F' [] (tupTo s k d) (a.put (some d) (slotV a (.m k))) := by
  have hkd : k ≠ d := fun e => by subst e; simp [dstOK, hk] at hd
  let F' : Key → List Nat := fun x => match srcK k d x with | some j => F j | none => []
  have gm : ∀ t, (Go.Am.tupTo s k d).get (.m t) = if d = t then .tup else s.get (.m t) := fun t => by
    unfold Go.Am.tupTo St.get
    rw [renE_m, getE_cons]
    simp
  have gc : ∀ t i, (Go.Am.tupTo s k d).get (.c t i) = if t = d then s.get (.c k i) else if t = k then .junk else s.get (.c t i) := fun t i => by
    unfold Go.Am.tupTo St.get
    rw [renE_c hkd]
    simp only [getE_cons, reduceCtorEq, if_false]
  have src : ∀ {x b}, b ∈ F' x → ∃ j, srcK k d x = some j ∧ b ∈ F j := by
    intro x b hb
    simp only [F'] at hb
    split at hb
    · rename_i j hj; exact ⟨j, hj, hb⟩
    · cases hb
  have keep : ∀ {v S u}, vt w X W0.B s F a v S u → vt w X W0.B (Go.Am.tupTo s k d) F' (a.put (some d) (slotV a (.m k))) v S u := by
    intro v S u hv
    refine vt_m (s1 := putT s d .tup) (s2 := Go.Am.tupTo s k d) (F1 := setK F (.m d) []) (F2 := F') (fun t => ?_) rfl (fun t => ?_) (vt_put (t := .tup) (v0 := slotV a (.m k)) (S0 := []) hd hv)
    · rw [gm, putT_get]; simp
    · simp only [F', srcK, setK, Key.m.injEq]
      by_cases e : t = d <;> simp [e]
  have hval : (a.put (some d) (slotV a (.m k))).tmps.getD d undef = slotV a (.m k) := slotV_put_same (a := a) (by rw [h.size]; exact hn)
  have hcomp : ∀ i, slotV (a.put (some d) (slotV a (.m k))) (.c d i) = slotV a (.c k i) := fun i => by
    simp only [slotV] at hval ⊢
    rw [hval]
  refine ⟨F', ?_⟩
  exact
    { size := by simp [Act.put, h.size]
      defers := by simp [Act.put, h.defers]
      below := h.below
      glob := h.glob
      gx := h.gx
      xs := h.xs
      fix := fun p hp => ⟨(h.fix p hp).1, by
        have := dstOK_free hd
        have hne : p.1 ≠ d := fun e => this (e ▸ (h.fix p hp).1)
        rw [slotV_put_ne (by simpa [Key.t] using hne)]
        exact (h.fix p hp).2⟩
      xlt := h.xlt
      xin := h.xin
      x0 := h.x0
      own := fun x b hb => let ⟨j, _, hj⟩ := src hb; h.own j b hj
      nodup := fun x => by
        simp only [F']
        split
        · exact h.nodup _
        · simp
      disj := fun x y b hb hb' => by
        obtain ⟨j, h1, h2⟩ := src hb
        obtain ⟨j', h3, h4⟩ := src hb'
        have := h.disj j j' b h2 h4
        subst this
        exact srcK_inj h1 h3
      hown := by simp
      hnodup := by simp
      hdisj := by simp
      comps := fun d' i hne => by
        rw [gc] at hne
        rw [gm]
        by_cases e : d' = d
        · subst e
          simp only [if_true] at hne ⊢
          obtain ⟨_, vs, h1, h2⟩ := h.comps k i hne
          exact ⟨trivial, vs, by rw [hval]; exact h1, h2⟩
        · by_cases e2 : d' = k
          · simp [e2, hkd] at hne
          · simp only [e, e2, if_false] at hne
            obtain ⟨h0, vs, h1, h2⟩ := h.comps d' i hne
            refine ⟨by simp [Ne.symm e, h0], vs, ?_, h2⟩
            have := slotV_put_ne (a := a) (v := slotV a (.m k)) (k := .m d') (d := d) (by simpa [Key.t] using e)
            simp only [slotV] at this ⊢
            rw [this]; exact h1
      slots := fun x => by
        cases x with
        | m t =>
          rw [gm]
          by_cases e : d = t
          · subst e; simp only [if_true, F', srcK]; rfl
          · have : F' (.m t) = F (.m t) := by simp [F', srcK, Ne.symm e]
            rw [this, slotV_put_ne (by simpa [Key.t] using Ne.symm e)]
            simp only [e, if_false]
            exact keep (h.slots (.m t))
        | c t i =>
          rw [gc]
          by_cases e : t = d
          · subst e
            have : F' (.c t i) = F (.c k i) := by simp [F', srcK]
            rw [this, hcomp]
            simp only [if_true]
            exact keep (h.slots (.c k i))
          · by_cases e2 : t = k
            · subst e2
              have : F' (.c t i) = [] := by simp [F', srcK, e]
              rw [this]
              simp only [e, if_false, if_true]
              rfl
            · have : F' (.c t i) = F (.c t i) := by simp [F', srcK, e, e2]
              rw [this, slotV_put_ne (by simpa [Key.t] using e)]
              simp only [e, e2, if_false]
              exact keep (h.slots (.c t i)) }
end
end Go.Am

namespace Go.Am
open Go.RowKit

/-! ### a slice that is lent to a function, which writes into it -/
structure FnL where
  f : FuncId
  e : TypeId
  t : Ty
  args : List Ty
  res : List Ty
  F : List t.den → dens args → Option (dens res × List t.den)
structure FnLOK (P : Program) (g : Glob) (e : FnL) : Prop where
  flat : e.t.flat = true
  enters : ∀ args w, (callFunc e.f args).run P w = .ok (.enter e.f args) w
  calls : ∀ (w : World) (X : Nat → Prop) (L : List Nat) (l l' : List e.t.den) (xs : dens e.args) (r : dens e.res) (v : Value) (vals : List Value), g.G w → (∀ b, g.GB b → X b) → (∀ b, X b → b < w.heap.size) → (∀ b ∈ L, ¬ X b) → L.Nodup →
    rd w X 0 true (.slice e.e e.t) l [v] L → rdArgs w X 0 e.args xs vals → e.F l xs = some (r, l') →
    Calls P e.f (v :: vals).toArray w fun en w' => ∃ rs S, en = .returned (packRes rs) ∧ rdRes w' w.heap.size e.res r rs S ∧ S.Nodup ∧ (∃ X', rd w' X' 0 true (.slice e.e e.t) l' [v] L) ∧
      w'.os = w.os ∧ w'.tape = w.tape ∧ w'.output = w.output ∧ w.heap.size ≤ w'.heap.size ∧ ∀ b, b < w.heap.size → b ∉ L → w'.heap[b]? = w.heap[b]?
abbrev EnvL := List FnL
def EnvL.find (Γ : EnvL) (f : FuncId) : Option FnL :=
  match Γ with
  | [] => none
  | e :: r => match Nat.beq e.f f with | true => some e | false => EnvL.find r f
def EnvL.ok (Γ : EnvL) (P : Program) (g : Glob) : Prop := ∀ e ∈ Γ, FnLOK P g e
theorem EnvL.find_ok {Γ : EnvL} {P : Program} {g : Glob} (h : Γ.ok P g) {f : FuncId} {e : FnL} (he : Γ.find f = some e) : e.f = f ∧ FnLOK P g e := by
  induction Γ with
  | nil => cases he
  | cons x r ih =>
    simp only [EnvL.find] at he
    split at he
    · rename_i hb
      simp only [Option.some.injEq] at he
      subst he
      exact ⟨Nat.eq_of_beq_eq_true hb, h _ (by simp)⟩
    · exact ih (fun e he => h e (by simp [he])) he

/-- the slot in which the slice lies -/
def rootOf (s : St) : Op1 → Option Nat
  | .tm k (.val _ _ _) => some k
  | .tm _ (.bor r []) => match s.foul r with | false => some r | true => none
  | _ => none
def flats (ts : List Ty) : Bool := ts.all Ty.flat
noncomputable def lentK {ρ : Type} (Γ : EnvL) (n : Nat) (s : St) (dst : Option Nat) (f : FuncId) (xs : List Operand) (k : St → Option ρ) : Option ρ :=
  match Γ.find f, xs with
  | some e, x0 :: rest => match rootOf s (op1 s [] x0) with
    | some q => match s.get (.m q) with
      | .val T (.u true) y => match castTo (.slice e.e e.t) T y, readArgs s [] e.args rest, flats e.args with
        | some l, some us, true => match dst with
          | none => (e.F l us).bind fun z => k (updE s q (.val (.slice e.e e.t) (.u true) z.2))
          | some d => match dstOK (updE s q (.val (.slice e.e e.t) (.u true) l)) d && Nat.blt d n with
            | true => (e.F l us).bind fun z => k (putRes d (updE s q (.val (.slice e.e e.t) (.u true) z.2)) e.res z.1)
            | false => none
        | _, _, _ => none
      | _ => none
    | none => none
  | _, _ => none

section
variable {P : Program} {g : Glob} {W0 : Base g} {w w' : World} {X X' : Nat → Prop} {B B' n : Nat} {own : Bool} {s : St} {F : Key → List Nat} {a : Act} {H H' : List Nat} {o : Oper} {tg : Tags} {τ : Tab}

theorem rdArgs_flat : ∀ {ts : List Ty} {xs : dens ts} {vs : List Value}, flats ts = true → rdArgs w X B ts xs vs → rdArgs w X' B ts xs vs
  | [], _, _, _, h => h
  | t :: ts, xs, vs, hf, ⟨cs, us, h1, h2, h3⟩ => by
    simp only [flats, List.all_cons, Bool.and_eq_true] at hf
    exact ⟨cs, us, h1, (rd_flat hf.1 h2).2, rdArgs_flat hf.2 h3⟩
theorem rd_flatB {own' : Bool} {w w' : World} {X X' : Nat → Prop} {B B' : Nat} {own : Bool} : ∀ {T : Ty} {x : T.den} {vs : List Value} {S : List Nat}, T.flat = true →
    rd w X B own T x vs S → S = [] ∧ rd w' X' B' own' T x vs []
  | .unit, _, _, _, _, h | .int _, _, _, _, _, h | .bool, _, _, _, _, h | .fnc _, _, _, _, _, h | .str, _, _, _, _, h => ⟨h.2, h.1, rfl⟩
  | .slice _ _, _, _, _, hf, _ => by simp [Ty.flat] at hf
  | .pair a b, _, _, _, hf, ⟨v1, v2, S1, S2, e, e2, h1, h2⟩ => by
    simp only [Ty.flat, Bool.and_eq_true] at hf
    obtain ⟨rfl, k1⟩ := rd_flatB hf.1 h1
    obtain ⟨rfl, k2⟩ := rd_flatB hf.2 h2
    exact ⟨by simp [e2], v1, v2, [], [], e, rfl, k1, k2⟩
  | .arr n t, _, _, _, hf, ⟨h, h'⟩ => by
    obtain ⟨e, k⟩ := rows_flat (r' := rd w' X' B' own' t) (fun x v S h => rd_flatB (by simpa [Ty.flat] using hf) h) h'
    exact ⟨e, h, k⟩
  | .err, _, _, _, _, h => ⟨h.2, h.1, rfl⟩
  | .hid _, _, _, _, hf, ⟨l, y, h⟩ => let ⟨e, k⟩ := rd_flatB (by simpa [Ty.flat] using hf) h; ⟨e, l, y, k⟩
  | .sptr .., _, _, _, hf, _ => by simp [Ty.flat] at hf
  | .clo .., _, _, _, hf, _ => by simp [Ty.flat] at hf
theorem ownsRow_base {w w' : World} {B : Nat} {e : TypeId} {sz nn nn' : Nat} {v : Value} {xs xs' : List Value} (h : w.ownsRow B e sz v nn xs) (h' : w'.ownsRow 0 e sz v nn' xs') : w'.ownsRow B e sz v nn' xs' := by
  refine ⟨h'.1, h'.2.imp id fun ⟨b, cap, cur, h1, h2, h3⟩ => ⟨b, cap, cur, h1, ?_, h3⟩⟩
  rcases h.2 with ⟨h4, _⟩ | ⟨b', cap', cur', h4, h5, _⟩
  · rw [h1] at h4; cases h4
  · rw [h1] at h4
    simp only [Value.slice.injEq, Option.some.injEq, Addr.mk.injEq] at h4
    rw [h4.1.1]; exact h5
theorem rd_lent {w w' : World} {X X' X'' : Nat → Prop} {B : Nat} {e : TypeId} {t : Ty} {l l' : List t.den} {v : Value} {L L' : List Nat} (hf : t.flat = true) (h : rd w X B true (.slice e t) l [v] L) (h' : rd w' X' 0 true (.slice e t) l' [v] L') : rd w' X'' B true (.slice e t) l' [v] L' := by
  obtain ⟨v1, xs1, S1, S2, e1, e2, h1, h2⟩ := h
  obtain ⟨v2, xs2, S3, S4, e3, e4, h3, h4⟩ := h'
  simp only [List.cons.injEq, and_true] at e1 e3
  subst e1; subst e3
  obtain ⟨e5, h5⟩ := rows_flat (r' := rd w' X'' B true t) (fun x v S h => rd_flatB hf h) h4
  exact ⟨_, xs2, S3, S4, rfl, e4, ⟨ownsRow_base h1.1 h3.1, h3.2⟩, by rw [e5]; exact h5⟩

theorem rootOf_sound (h : R n W0 w X F H s a) {x : Operand} {q : Nat} (hq : rootOf s (op1 s [] x) = some q) {T : Ty} {f : Fl} {y : T.den} (hg : s.get (.m q) = .val T f y) : a.eval x = slotV a (.m q) := by
  unfold rootOf at hq
  split at hq
  · rename_i k T' f' y' hx
    simp only [Option.some.injEq] at hq
    subst hq
    obtain ⟨rfl, _⟩ := op1_vt h (tg := []) (fun p hp => by cases hp) hx (by simp)
    rfl
  · rename_i k r hx
    obtain ⟨rfl, _, h2⟩ := op1_vt h (tg := []) (fun p hp => by cases hp) hx (by simp)
    split at hq
    · rename_i hfoul
      simp only [Option.some.injEq] at hq
      subst hq
      obtain ⟨U, hU⟩ := h2 hfoul
      unfold valAt at hU
      rw [hg] at hU
      exact hU.2.2
    · cases hq
  · cases hq

theorem lentK_sound {ρ : Type} {Γ : EnvL} (hΓ : Γ.ok P g) (h : R n W0 w X F [] s a) {f : FuncId} {fo : Operand} (hfo : a.eval fo = .func (.func f) #[] #[]) {xs : Array Operand} {ats : Array TypeId} (ho : o.op = .call { callee := .value fo, args := xs, argTypes := ats }) {k : St → Option ρ} {r : ρ} (hr : lentK Γ n s o.dst f xs.toList k = some r)
    {K : Act → World → Prop} {Q : Exit → Act → World → Prop} (hK : ∀ v w' X' F' s', k s' = some r → R n W0 w' X' F' [] s' (a.put o.dst v) → K (a.put o.dst v) w') : o.wp P a w K Q := by
  unfold lentK at hr
  split at hr
  · rename_i e x0 rest he hxs
    obtain ⟨rfl, hok⟩ := EnvL.find_ok hΓ he
    split at hr
    · rename_i q hq
      split at hr
      · rename_i T y hg
        split at hr
        · rename_i l us hl hus hfl
          have hT : T = .slice e.e e.t ∧ HEq y l := by
            unfold castTo at hl
            split at hl
            · rename_i eq
              subst eq
              simp only [Option.some.injEq] at hl
              exact ⟨rfl, heq_of_eq hl⟩
            · cases hl
          obtain ⟨rfl, hy⟩ := hT
          have hy := eq_of_heq hy
          subst hy
          have hev := rootOf_sound h hq hg
          have hs := h.slots (.m q)
          rw [hg] at hs
          obtain ⟨vs, hv, hrd⟩ := hs
          unfold rdF at hrd
          obtain ⟨v, rfl⟩ : ∃ v, vs = [v] := List.length_eq_one_iff.1 (rd_len hrd)
          have hv : slotV a (.m q) = v := hv
          have hlt : ∀ b ∈ F (.m q), b < w.heap.size := fun b hb => (h.own _ _ hb).2.1
          -- the call
          have call : ∀ {z}, e.F y us = some z → ∀ {K' : Act → World → Prop}, (∀ rs S w', R n W0 w' X F (S ++ []) (updE s q (.val (.slice e.e e.t) (.u true) z.2)) a → rdRes w' W0.B e.res z.1 rs S → K' (a.put o.dst (packRes rs)) w') → o.wp P a w K' Q := by
            intro z hz K' hK'
            have hrest : xs.toList.map a.eval = v :: rest.map a.eval := by rw [hxs, List.map_cons, hev, hv]
            have hc := hok.calls w (fun b => b < w.heap.size ∧ b ∉ F (.m q)) (F (.m q)) y z.2 us z.1 v (rest.map a.eval) h.glob (fun b hb => ⟨h.xlt b (h.gx b hb), fun hm => (h.own _ _ hm).2.2 (h.gx b hb)⟩) (fun b hb => hb.1) (fun b hb hx => hx.2 hb) (h.nodup _)
              (by
                obtain ⟨v1, xs1, S1, S2, e1, e2, h1, h2⟩ := hrd
                obtain ⟨e5, h5⟩ := rows_flat (r' := rd w (fun b => b < w.heap.size ∧ b ∉ F (.m q)) 0 true e.t) (fun x v S h => rd_flatB hok.flat h) h2
                exact ⟨v1, xs1, S1, S2, e1, e2, ⟨ownsRow_mono h1.1 (Nat.zero_le _), h1.2⟩, by rw [e5]; exact h5⟩)
              (rdArgs_flat hfl (readArgs_sound h (tg := []) (fun p hp => by cases hp) hus)) hz
            have hrun : (execOp a.eval o).run P w = .ok (.enter e.f (v :: rest.map a.eval).toArray) w := by
              have : execOp a.eval o = callFunc e.f (xs.map a.eval) := by
                simp only [execOp, ho, resolve, hfo, Deferred.ofValue]
                simp [invoke]
              rw [this, hok.enters]
              congr 2
              apply Array.toList_inj.mp
              rw [← hrest]; simp
            unfold Oper.wp
            rw [hrun, Oper.upon_enter]
            refine hc.mono fun en w' ⟨rs, S, hen, hres, hnd, ⟨X2, hrd'⟩, h1, h2, h3, h4, h5⟩ => ?_
            subst hen
            show K' (a.put o.dst (packRes rs)) w'
            have hlow : ∀ {ts : List Ty} {x : dens ts} {rs : List Value} {S : List Nat}, rdRes w' w.heap.size ts x rs S → (∀ b ∈ S, w.heap.size ≤ b ∧ b < w'.heap.size) ∧ rdRes w' W0.B ts x rs S := by
              intro ts
              induction ts with
              | nil => intro x rs S h; exact ⟨by simp [h.2], h⟩
              | cons t ts ih =>
                intro x rs S ⟨cs, us, S1, S2, e1, e2, g1, g2⟩
                obtain ⟨k1, k2⟩ := ih g2
                refine ⟨fun b hb => ?_, cs, us, S1, S2, e1, e2, rd_base h.below.sizeB (fun _ h => h) g1, k2⟩
                rw [e2] at hb
                rcases List.mem_append.1 hb with hb | hb
                · exact rd_own g1 b hb
                · exact k1 b hb
            obtain ⟨hfresh, hres'⟩ := hlow hres
            have hrd2 : rd w' X W0.B true (.slice e.e e.t) z.2 [v] (F (.m q)) := rd_lent hok.flat hrd hrd'
            have hbl : W0.below w' := ⟨h1.trans h.below.os, h2.trans h.below.tape, h3.trans h.below.output, Nat.le_trans h.below.size h4, fun b hb =>
              (h5 b (Nat.lt_of_lt_of_le (W0.yW b hb) h.below.size) fun hm => W0.sep hb (h.own _ _ hm).1 rfl).trans (h.below.block b hb)⟩
            have hFk : setK F (.m q) (F (.m q)) = F := by funext j; by_cases hj : j = .m q <;> simp [setK, hj]
            have hTn : Turns w w' s (updE s q (.val (.slice e.e e.t) (.u true) z.2)) F (setK F (.m q) (F (.m q))) a q (.val (.slice e.e e.t) (.u true) z.2) := turns_updE ⟨by rw [updE_get]; simp, fun p v U hv => by
              unfold valAt at hv ⊢
              rw [hg] at hv
              rw [updE_get]
              simpa using hv⟩
            have hR := h.turn' (w' := w') hTn hbl h4 (fun b hb => h5 b (h.xlt b hb) fun hm => (h.own _ _ hm).2.2 hb)
              (fun k b hk hb => h5 b (h.own k b hb).2.1 fun hm => hk (h.disj _ _ b hb hm)) (H' := []) (fun b hb => by simpa using hb) (by simpa using h.nodup (.m q)) (by rw [hg]; simp) (fun e T f x b S hb => by rw [hg] at hb; cases hb)
              ⟨[v], by rw [hv]; rfl, by unfold rdF; exact hrd2⟩
            rw [hFk] at hR
            exact hK' rs S w' (hR.hand (fun b hb => ⟨.inl (Nat.le_trans h.below.size (hfresh b hb).1), (hfresh b hb).2, fun hx => by have := h.xlt b hx; have := (hfresh b hb).1; omega⟩) hnd
              (fun k b hb hm => by have := (h.own k b hb).2.1; have := (hfresh b hm).1; omega) (fun b hb hm => by cases hm)) hres'
          split at hr
          · rename_i hd
            simp only [Option.bind_eq_some_iff] at hr
            obtain ⟨z, hz, hk⟩ := hr
            refine call hz fun rs S w' hR hres => ?_
            have hK' := hK (packRes rs) w' X F _ hk
            rw [hd] at hK' ⊢
            exact hK' hR.drop
          · rename_i d hd
            split at hr
            · rename_i hdn
              simp only [Bool.and_eq_true, Nat.blt_eq] at hdn
              simp only [Option.bind_eq_some_iff] at hr
              obtain ⟨z, hz, hk⟩ := hr
              refine call hz fun rs S w' hR hres => ?_
              have hdz : dstOK (updE s q (.val (.slice e.e e.t) (.u true) z.2)) d = true := by
                have := hdn.1
                unfold dstOK at this ⊢
                rw [updE_get] at this ⊢
                by_cases hqd : Key.m q = Key.m d
                · rw [if_pos hqd] at this ⊢; exact this
                · rw [if_neg hqd] at this ⊢; exact this
              obtain ⟨F', hF'⟩ := hR.putRes hdz hdn.2 hres
              have hK' := hK (packRes rs) w' X F' _ hk
              rw [hd] at hK' ⊢
              exact hK' hF'
            · cases hr
        · cases hr
      · cases hr
    · cases hr
  · cases hr
end
end Go.Am

namespace Go.Am
open Go.RowKit

/-! ### variables that are lent to a function by their pointers -/
inductive AK where
  | sh (T : Ty)
  | bx (e : TypeId) (T : Ty) (o : Bool)
@[reducible] def densA : List AK → Type
  | [] => Unit
  | .sh T :: r => T.den × densA r
  | .bx _ T _ :: r => T.den × densA r
@[reducible] def densO : List AK → Type
  | [] => Unit
  | .sh _ :: r => densO r
  | .bx _ T _ :: r => T.den × densO r
inductive RS where
  | vals (ts : List Ty)
  | newb (e : TypeId) (T : Ty)
@[reducible] def densS : RS → Type
  | .vals ts => dens ts
  | .newb _ T => T.den

/-- the arguments; L: the blocks that are lent -/
def rdA (w : World) (X : Nat → Prop) : (as : List AK) → densA as → List Value → List Nat → Prop
  | [], _, vs, L => vs = [] ∧ L = []
  | .sh t :: r, x, vs, L => ∃ cs us, vs = pack t cs :: us ∧ rd w X 0 false t x.1 cs [] ∧ rdA w X r x.2 us L
  | .bx e t o :: r, x, vs, L => ∃ b c S us L', vs = .pointer (some ⟨b, 0, none⟩) :: us ∧ L = b :: (S ++ L') ∧ w.heap[b]? = some (.cells c e (0, 0)) ∧ rd w X 0 o t x.1 c.toList S ∧ rdA w X r x.2 us L'
/-- what is lent, behind the call: BL its blocks, C what they own -/
def rdO (w : World) (X : Nat → Prop) : (as : List AK) → densO as → List Value → List Nat → List Nat → Prop
  | [], _, vs, BL, C => vs = [] ∧ BL = [] ∧ C = []
  | .sh _ :: r, x, vs, BL, C => ∃ v us, vs = v :: us ∧ rdO w X r x us BL C
  | .bx e t o :: r, x, vs, BL, C => ∃ b c S us BL' C', vs = .pointer (some ⟨b, 0, none⟩) :: us ∧ BL = b :: BL' ∧ C = S ++ C' ∧ w.heap[b]? = some (.cells c e (0, 0)) ∧ rd w X 0 o t x.1 c.toList S ∧ rdO w X r x.2 us BL' C'
def rdS (w : World) (X : Nat → Prop) : (r : RS) → densS r → List Value → List Nat → Prop
  | .vals ts, x, vs, S => rdRes w 0 ts x vs S
  | .newb e T, x, vs, S => ∃ b c, vs = [.pointer (some ⟨b, 0, none⟩)] ∧ S = [b] ∧ w.heap[b]? = some (.cells c e (0, 0)) ∧ rd w X 0 false T x c.toList []

structure FnB where
  f : FuncId
  args : List AK
  res : RS
  F : densA args → Option (densS res × densO args)

/-- what a call that L is lent to leaves; N: what it gives back, and what was lent -/
structure After (w w' : World) (X X' : Nat → Prop) (L N : List Nat) : Prop where
  os : w'.os = w.os
  tape : w'.tape = w.tape
  output : w'.output = w.output
  size : w.heap.size ≤ w'.heap.size
  xx : ∀ b, X b → X' b
  xlt : ∀ b, X' b → b < w'.heap.size
  xin : ∀ b, X' b → X b ∨ w.heap.size ≤ b ∨ b ∈ L
  nd : N.Nodup
  nin : ∀ b, b ∈ N → (w.heap.size ≤ b ∨ b ∈ L) ∧ b < w'.heap.size ∧ ¬ X' b
  block : ∀ b, b < w.heap.size → b ∉ L → w'.heap[b]? = w.heap[b]?

structure FnBOK (P : Program) (g : Glob) (e : FnB) : Prop where
  enters : ∀ args w, (callFunc e.f args).run P w = .ok (.enter e.f args) w
  calls : ∀ (w : World) (X : Nat → Prop) (L : List Nat) (xs : densA e.args) (r : densS e.res × densO e.args) (vals : List Value), g.G w → (∀ b, g.GB b → X b) → (∀ b, X b → b < w.heap.size) → (∀ b, b ∈ L → ¬ X b ∧ b < w.heap.size) → L.Nodup →
    rdA w X e.args xs vals L → e.F xs = some r →
    Calls P e.f vals.toArray w fun en w' => ∃ rs S BL C X', en = .returned (packRes rs) ∧ After w w' X X' L (S ++ (BL ++ C)) ∧ rdS w' X' e.res r.1 rs S ∧ rdO w' X' e.args r.2 vals BL C
abbrev EnvB := List FnB
def EnvB.find (Γ : EnvB) (f : FuncId) : Option FnB :=
  match Γ with
  | [] => none
  | e :: r => match Nat.beq e.f f with | true => some e | false => EnvB.find r f
def EnvB.ok (Γ : EnvB) (P : Program) (g : Glob) : Prop := ∀ e ∈ Γ, FnBOK P g e
theorem EnvB.find_ok {Γ : EnvB} {P : Program} {g : Glob} (h : Γ.ok P g) {f : FuncId} {e : FnB} (he : Γ.find f = some e) : e.f = f ∧ FnBOK P g e := by
  induction Γ with
  | nil => cases he
  | cons x r ih =>
    simp only [EnvB.find] at he
    split at he
    · rename_i hb
      simp only [Option.some.injEq] at he
      subst he
      exact ⟨Nat.eq_of_beq_eq_true hb, h _ (by simp)⟩
    · exact ih (fun e he => h e (by simp [he])) he

/-- may content of these flags be lent so? -/
def okFl (o : Bool) (f : Fl) (T : Ty) : Bool := match o with
  | true => match f with | .u true => true | _ => T.flat && noOwn f T
  | false => noOwn f T

/-- the variable that a pointer points to -/
def rootB : Op1 → Option Nat
  | .tm k (.box _ _ _ _) => some k
  | .tm _ (.ptr r []) => some r
  | _ => none
/-- a value that may be shared: nothing of it is a slot's own -/
def readSh (s : St) (o : Op1) (T : Ty) : Option T.den :=
  match o with
  | .cst v => ofConst T v
  | o => match look s o with
    | some ⟨U, f, x⟩ => match noOwn f U with
      | true => castTo T U x
      | false => none
    | none => none
def readB (s : St) : (as : List AK) → List Operand → Option (densA as × List Nat)
  | [], [] => some ((), [])
  | .sh t :: as, x :: xs => match readSh s (op1 s [] x) t, readB s as xs with
    | some u, some (us, rs) => some ((u, us), rs)
    | _, _ => none
  | .bx e t o :: as, x :: xs => match rootB (op1 s [] x) with
    | some q => match s.get (.m q) with
      | .box e' U f y => match Nat.beq e' e && okFl o f U, castTo t U y, readB s as xs with
        | true, some u, some (us, rs) => some ((u, us), q :: rs)
        | _, _, _ => none
      | _ => none
    | none => none
  | _, _ => none
def nodupB : List Nat → Bool
  | [] => true
  | x :: xs => !(xs.any (Nat.beq x)) && nodupB xs
/-- what a slot owns and is handed over is given to all -/
def frzArgs : List AK → List Operand → St → St
  | .sh t :: as, x :: xs, s => match t.flat with
    | true => frzArgs as xs s
    | false => match rootOf s (op1 s [] x) with
      | some q => match s.get (.m q) with
        | .val U f y => match noOwn f U, f.live with
          | false, true => frzArgs as xs (updE s q (.val U (.u false) y))
          | _, _ => frzArgs as xs s
        | _ => frzArgs as xs s
      | none => frzArgs as xs s
  | .bx _ _ _ :: as, _ :: xs, s => frzArgs as xs s
  | _, _, s => s
/-- the lent variables' content is out of hand -/
def wreck : List Nat → St → St
  | [], s => s
  | q :: rs, s => match s.get (.m q) with
    | .box e T _ y => wreck rs (updR s q (.box e T .d y))
    | _ => wreck rs s
def putO : (as : List AK) → densO as → List Nat → St → St
  | [], _, _, s => s
  | .sh _ :: r, x, rs, s => putO r x rs s
  | .bx e T o :: r, x, q :: rs, s => putO r x.2 rs (updR s q (.box e T (.u o) x.1))
  | .bx _ _ _ :: _, _, [], s => s
def putS (d : Nat) (s : St) : (r : RS) → densS r → St
  | .vals ts, x => putRes d s ts x
  | .newb e T, x => putT s d (.box e T (.u false) x)
noncomputable def callB {ρ : Type} (Γ : EnvB) (n : Nat) (s : St) (dst : Option Nat) (f : FuncId) (xs : List Operand) (k : St → Option ρ) : Option ρ :=
  match Γ.find f with
  | none => none
  | some e => match readB (frzArgs e.args xs s) e.args xs with
    | none => none
    | some (us, rs) => match nodupB rs with
      | false => none
      | true => match dst with
        | none => (e.F us).bind fun z => k (putO e.args z.2 rs (wreck rs (frzArgs e.args xs s)))
        | some d => match dstOK (wreck rs (frzArgs e.args xs s)) d && Nat.blt d n && !(rs.any (Nat.beq d)) with
          | false => none
          | true => (e.F us).bind fun z => k (putS d (putO e.args z.2 rs (wreck rs (frzArgs e.args xs s))) e.res z.1)

section
variable {P : Program} {g : Glob} {W0 : Base g} {w w' : World} {X X' : Nat → Prop} {B B' n : Nat} {own : Bool} {s : St} {F : Key → List Nat} {a : Act} {H H' : List Nat} {o : Oper} {tg : Tags} {τ : Tab}

theorem not_any {x : Nat} {l : List Nat} (h : (l.any (Nat.beq x)) = false) : x ∉ l := fun hx => by
  have : l.any (Nat.beq x) = true := List.any_eq_true.2 ⟨x, hx, Nat.beq_refl x⟩
  rw [h] at this; cases this
theorem nodupB_spec : ∀ {l : List Nat}, nodupB l = true → l.Nodup
  | [], _ => List.nodup_nil
  | x :: xs, h => by
    simp only [nodupB, Bool.and_eq_true, Bool.not_eq_true'] at h
    exact List.nodup_cons.2 ⟨not_any h.1, nodupB_spec h.2⟩

theorem rd_raiseB : ∀ {T : Ty} {x : T.den} {vs : List Value} {S : List Nat}, rd w X B own T x vs S → (∀ b, b ∈ S → B' ≤ b) → rd w X B' own T x vs S
  | .unit, _, _, _, h, _ | .int _, _, _, _, h, _ | .bool, _, _, _, h, _ | .fnc _, _, _, _, h, _ | .str, _, _, _, h, _ => h
  | .slice _ _, _, _, _, ⟨v, xs, S1, S2, e, e2, h1, h2⟩, hS => by
    refine ⟨v, xs, S1, S2, e, e2, ?_, rows_mono h2 fun _ _ _ _ hT h => rd_raiseB h fun b hb => hS b (by rw [e2]; simp [hT b hb])⟩
    cases own
    · exact h1
    · obtain ⟨h3, h4⟩ := h1
      refine ⟨⟨h3.1, h3.2.imp id fun ⟨b, cap, cur, h5, h6, h7⟩ => ⟨b, cap, cur, h5, hS b ?_, h7⟩⟩, h4⟩
      rw [e2, h4, h5]; simp [Value.ownBlock]
  | .pair a b, _, _, _, ⟨v1, v2, S1, S2, e, e2, h1, h2⟩, hS =>
    ⟨v1, v2, S1, S2, e, e2, rd_raiseB h1 fun b hb => hS b (by rw [e2]; simp [hb]), rd_raiseB h2 fun b hb => hS b (by rw [e2]; simp [hb])⟩
  | .arr n t, _, _, _, ⟨h, h'⟩, hS => ⟨h, rows_mono h' fun _ _ _ _ hT h => rd_raiseB h fun b hb => hS b (hT b hb)⟩
  | .err, _, _, _, h, _ => h
  | .hid _, _, _, _, ⟨e, y, h⟩, hS => ⟨e, y, rd_raiseB h hS⟩
  | .sptr .., _, _, _, ⟨e, o, b, c, h1, h2, h3, h4⟩, _ => ⟨e, o, b, c, h1, h2, h3, rd_raiseB h4 (by simp)⟩
  | .clo .., _, _, _, ⟨e, cs, h1, h2⟩, _ => ⟨e, cs, h1, rd_raiseB h2 (by simp)⟩
theorem rdRes_raiseB : ∀ {ts : List Ty} {x : dens ts} {vs : List Value} {S : List Nat}, rdRes w B ts x vs S → (∀ b, b ∈ S → B' ≤ b) → rdRes w B' ts x vs S
  | [], _, _, _, h, _ => h
  | t :: ts, x, vs, S, ⟨cs, us, S1, S2, h1, h2, h3, h4⟩, hS =>
    ⟨cs, us, S1, S2, h1, h2, rd_raiseB h3 fun b hb => hS b (by rw [h2]; simp [hb]), rdRes_raiseB h4 fun b hb => hS b (by rw [h2]; simp [hb])⟩

theorem okFl_rd {o : Bool} {f : Fl} {T : Ty} {x : T.den} {vs : List Value} {S : List Nat} (h : okFl o f T = true) (hr : rdF w X B T f x vs S) : rd w X B o T x vs S := by
  unfold okFl at h
  have shared : noOwn f T = true → S = [] ∧ rd w X B false T x vs [] := fun hn => by
    have e := rdF_noOwn hn hr
    subst e
    refine ⟨rfl, rdF_freeze (fun _ h => h) ?_ hr (by simp)⟩
    have : ∀ {f : Fl} {T : Ty}, noOwn f T = true → f.live = true := by
      intro f
      induction f with
      | u b => intro T _; rfl
      | d => intro T h; simp [noOwn] at h
      | p f1 f2 ih1 ih2 =>
        intro T h
        cases T <;> simp [noOwn] at h
        simp [Fl.live, ih1 h.1, ih2 h.2]
    exact this hn
  split at h
  · split at h
    · unfold rdF at hr; exact hr
    · simp only [Bool.and_eq_true] at h
      obtain ⟨rfl, h2⟩ := shared h.2
      exact (rd_flat h.1 h2).2
  · obtain ⟨rfl, h2⟩ := shared h
    exact h2

theorem readSh_sound (h : R n W0 w X F H s a) {x : Operand} {T : Ty} {y : T.den} (hr : readSh s (op1 s [] x) T = some y) :
    ∃ vs, a.eval x = pack T vs ∧ rd w X 0 false T y vs [] := by
  unfold readSh at hr
  split at hr
  · rename_i v hv
    cases x <;> simp only [op1] at hv <;> cases hv
    obtain ⟨vs, h1, h2⟩ := ofConst_rd (w := w) (X := X) (B := 0) (own := false) hr
    exact ⟨vs, h1, h2⟩
  · split at hr
    · rename_i U f y' hl
      obtain ⟨hf, vs, S, h1, h2, h3⟩ := look_sound h (tg := []) (fun p hp => by cases hp) hl
      split at hr
      · rename_i hn
        cases castTo_eq hr
        have e := rdF_noOwn hn h2
        subst e
        exact ⟨vs, h1, rd_base (Nat.zero_le _) (fun _ h => h) (rdF_freeze (fun _ h => h) hf h2 (by simp))⟩
      · cases hr
    · cases hr

/-- the roots of what is lent -/
def mchA (F : Key → List Nat) (s : St) : List AK → List Nat → List Value → Prop
  | [], rs, vs => rs = [] ∧ vs = []
  | .sh _ :: as, rs, vs => ∃ v us, vs = v :: us ∧ mchA F s as rs us
  | .bx e T _ :: as, rs, vs => ∃ q rs' b S us f y, rs = q :: rs' ∧ vs = .pointer (some ⟨b, 0, none⟩) :: us ∧ F (.m q) = b :: S ∧ s.get (.m q) = .box e T f y ∧ mchA F s as rs' us

theorem rootB_sound (h : R n W0 w X F H s a) {x : Operand} {q : Nat} (hq : rootB (op1 s [] x) = some q) {e : TypeId} {T : Ty} {f : Fl} {y : T.den} (hg : s.get (.m q) = .box e T f y) : a.eval x = slotV a (.m q) := by
  unfold rootB at hq
  split at hq
  · rename_i k e' T' f' y' hx
    simp only [Option.some.injEq] at hq
    subst hq
    obtain ⟨rfl, _⟩ := op1_vt h (tg := []) (fun p hp => by cases hp) hx (by simp)
    rfl
  · rename_i k r hx
    simp only [Option.some.injEq] at hq
    subst hq
    obtain ⟨rfl, _, e', T', f', y', b, S, h1, h2, h3⟩ := op1_vt h (tg := []) (fun p hp => by cases hp) hx (by simp)
    have hs := h.slots (.m r)
    rw [hg] at hs
    obtain ⟨b', c, S', k1, k2, _⟩ := hs
    rw [h2] at k2
    obtain ⟨rfl, _⟩ := List.cons.inj k2
    have h3 : slotV a (.m k) = _ := h3
    show slotV a (.m k) = _
    rw [h3, k1]
    have : offP T' [] = 0 := by cases T' <;> rfl
    rw [this]
  · cases hq

theorem readB_sound (h : R n W0 w X F H s a) : ∀ {as : List AK} {xs : List Operand} {us : densA as} {rs : List Nat}, readB s as xs = some (us, rs) → nodupB rs = true →
    ∃ L, rdA w X as us (xs.map a.eval) L ∧ mchA F s as rs (xs.map a.eval) ∧ L.Nodup ∧ (∀ b, b ∈ L ↔ ∃ q, q ∈ rs ∧ b ∈ F (.m q))
  | [], [], us, rs, hr, hn => by
    simp only [readB, Option.some.injEq, Prod.mk.injEq] at hr
    obtain ⟨_, rfl⟩ := hr
    exact ⟨[], ⟨rfl, rfl⟩, ⟨rfl, rfl⟩, List.nodup_nil, by simp⟩
  | .sh t :: as, x :: xs, us, rs, hr, hn => by
    simp only [readB] at hr
    split at hr
    · rename_i u us' rs' hu hus
      simp only [Option.some.injEq, Prod.mk.injEq] at hr
      obtain ⟨rfl, rfl⟩ := hr
      obtain ⟨cs, h1, h2⟩ := readSh_sound h hu
      obtain ⟨L, k1, k2, k3, k4⟩ := readB_sound h hus hn
      exact ⟨L, ⟨cs, _, by simp [h1], h2, k1⟩, ⟨_, _, rfl, k2⟩, k3, k4⟩
    · cases hr
  | .bx e t o :: as, x :: xs, us, rs, hr, hn => by
    simp only [readB] at hr
    split at hr
    · rename_i q hq
      split at hr
      · rename_i e' U f y hg
        split at hr
        · rename_i u us' rs' hok hu hus
          simp only [Option.some.injEq, Prod.mk.injEq] at hr
          obtain ⟨rfl, rfl⟩ := hr
          simp only [Bool.and_eq_true] at hok
          have he := Nat.eq_of_beq_eq_true hok.1
          subst he
          cases castTo_eq hu
          simp only [nodupB, Bool.and_eq_true, Bool.not_eq_true'] at hn
          obtain ⟨L, k1, k2, k3, k4⟩ := readB_sound h hus hn.2
          have hev := rootB_sound h hq hg
          have hs := h.slots (.m q)
          rw [hg] at hs
          obtain ⟨b, c, S, g1, g2, g3, g4⟩ := hs
          have hqn : q ∉ rs' := not_any hn.1
          refine ⟨b :: (S ++ L), ⟨b, c, S, _, L, by simp [hev, g1], rfl, g3, ?_, k1⟩, ⟨q, rs', b, S, _, f, _, rfl, by simp [hev, g1], g2, hg, k2⟩, ?_, ?_⟩
          · exact rd_base (Nat.zero_le _) (fun _ h => h) (okFl_rd hok.2 g4)
          · have hnd := h.nodup (.m q)
            rw [g2] at hnd
            have : (b :: S ++ L).Nodup := List.nodup_append.2 ⟨hnd, k3, fun x hx y hy e => by
              subst e
              obtain ⟨q', hq', hb'⟩ := (k4 x).1 hy
              have := h.disj (.m q) (.m q') x (by rw [g2]; exact hx) hb'
              simp only [Key.m.injEq] at this
              subst this
              exact hqn hq'⟩
            simpa using this
          · intro b'
            constructor
            · intro hb
              have hb : b' ∈ b :: S ∨ b' ∈ L := by simpa [or_assoc] using hb
              rcases hb with hb | hb
              · exact ⟨q, by simp, by rw [g2]; exact hb⟩
              · obtain ⟨q', hq', hb'⟩ := (k4 b').1 hb
                exact ⟨q', by simp [hq'], hb'⟩
            · rintro ⟨q', hq', hb'⟩
              rcases List.mem_cons.1 hq' with rfl | hq'
              · rw [g2] at hb'
                rcases List.mem_cons.1 hb' with hb' | hb'
                · simp [hb']
                · simp [hb']
              · have := (k4 b').2 ⟨q', hq', hb'⟩
                simp [this]
        · cases hr
      · cases hr
    · cases hr
  | [], _ :: _, _, _, hr, _ => by simp [readB] at hr
  | .sh _ :: _, [], _, _, hr, _ | .bx .. :: _, [], _, _, hr, _ => by simp [readB] at hr

/-- (Z) A VALUE IS GIVEN OVER TO ALL where it lies. -/
theorem R.frz (hs0 : g.soft = false) (h : R n W0 w X F H s a) {k : Nat} {T : Ty} {f : Fl} {x : T.den} (hg : s.get (.m k) = .val T f x) (hf : f.live = true) :
    R n W0 w (fun b => X b ∨ b ∈ F (.m k)) (setK F (.m k) []) H (updE s k (.val T (.u false) x)) a := by
  have hT : Turns w w s (updE s k (.val T (.u false) x)) F (setK F (.m k) []) a k (.val T (.u false) x) := turns_updE ⟨by rw [updE_get]; simp, fun p v U hv => by
    unfold valAt at hv ⊢
    rw [hg] at hv
    rw [updE_get]
    simpa using hv⟩
  exact
  { size := h.size
    defers := h.defers
    below := h.below
    glob := h.glob
    gx := fun b hb => .inl (h.gx b hb)
    xs := fun e => by rw [hs0] at e; cases e
    fix := h.fix
    xlt := fun b hb => hb.elim (h.xlt b) fun hb => (h.own _ b hb).2.1
    xin := fun b hb => hb.elim (h.xin b) fun hb => .inr (h.own _ b hb).1
    x0 := fun b hb => .inl (h.x0 b hb)
    own := fun j b hb => by
      simp only [setK] at hb
      split at hb
      · cases hb
      · rename_i hj
        obtain ⟨h1, h2, h3⟩ := h.own j b hb
        exact ⟨h1, h2, fun hx => hx.elim h3 fun hk => hj (h.disj j (.m k) b hb hk)⟩
    nodup := fun j => by
      simp only [setK]
      split
      · simp
      · exact h.nodup j
    disj := fun j j' b hb hb' => by
      simp only [setK] at hb hb'
      split at hb
      · cases hb
      · split at hb'
        · cases hb'
        · exact h.disj j j' b hb hb'
    hown := fun b hb => let ⟨h1, h2, h3⟩ := h.hown b hb; ⟨h1, h2, fun hx => hx.elim h3 fun hk => h.hdisj _ b hk hb⟩
    hnodup := h.hnodup
    hdisj := fun j b hb => by
      simp only [setK] at hb
      split at hb
      · cases hb
      · exact h.hdisj j b hb
    comps := fun d i hc => by
      rw [updE_get] at hc ⊢
      simp only [reduceCtorEq, if_false] at hc
      obtain ⟨h1, h2⟩ := h.comps d i hc
      by_cases e : k = d
      · subst e; rw [hg] at h1; cases h1
      · exact ⟨by simpa [e] using h1, h2⟩
    slots := fun j => by
      by_cases hj : j = .m k
      · subst hj
        have hs := h.slots (.m k)
        rw [hg] at hs
        obtain ⟨vs, h1, h2⟩ := hs
        rw [updE_get]
        simp only [if_true, setK]
        exact ⟨vs, h1, by unfold rdF; exact rdF_freeze (fun b hb => .inl hb) hf h2 fun b hb => .inr hb⟩
      · have e : setK F (.m k) [] j = F j := by simp [setK, hj]
        rw [updE_get, e]
        simp only [Ne.symm hj, if_false]
        exact vt_turn hT (fun _ h => .inl h) (fun _ _ => rfl) (fun _ _ _ _ => rfl) (fun _ _ => rfl) (fun e T' f' x' b S hb => by rw [hg] at hb; cases hb) (h.slots j) }


theorem frzArgs_sound (hs0 : g.soft = false) : ∀ {as : List AK} {xs : List Operand} {s : St} {X : Nat → Prop} {F : Key → List Nat}, R n W0 w X F H s a → ∃ X' F', R n W0 w X' F' H (frzArgs as xs s) a ∧ (∀ b, X b → X' b) ∧ ∀ q, s.isBox q → (frzArgs as xs s).isBox q
  | [], _, s, X, F, h => ⟨X, F, h, fun _ h => h, fun _ h => h⟩
  | .sh t :: as, [], s, X, F, h => ⟨X, F, h, fun _ h => h, fun _ h => h⟩
  | .bx _ _ _ :: as, [], s, X, F, h => ⟨X, F, h, fun _ h => h, fun _ h => h⟩
  | .bx _ _ _ :: as, _ :: xs, s, X, F, h => frzArgs_sound hs0 (as := as) (xs := xs) h
  | .sh t :: as, x :: xs, s, X, F, h => by
    simp only [frzArgs]
    split
    · exact frzArgs_sound hs0 h
    · split
      · split
        · rename_i U f y hg
          split
          · rename_i hl
            obtain ⟨X', F', h1, h2, h3⟩ := frzArgs_sound hs0 (as := as) (xs := xs) (R.frz hs0 h hg hl)
            refine ⟨X', F', h1, fun b hb => h2 b (.inl hb), fun q hq => h3 q ?_⟩
            obtain ⟨e, T, f', y', hq⟩ := hq
            refine ⟨e, T, f', y', ?_⟩
            rw [updE_get, if_neg]
            · exact hq
            · intro e; simp only [Key.m.injEq] at e; subst e; rw [hg] at hq; cases hq
          · exact frzArgs_sound hs0 h
        · exact frzArgs_sound hs0 h
      · exact frzArgs_sound hs0 h

/-- (X) what is shared grows -/
theorem R.xup (hs0 : g.soft = false) (h : R n W0 w X F H s a) (hX : ∀ b, X b → X' b) (hlt : ∀ b, X' b → b < w.heap.size) (hin : ∀ b, X' b → W0.X0 b ∨ W0.mine b) (hF : ∀ k b, b ∈ F k → ¬ X' b) (hH : ∀ b, b ∈ H → ¬ X' b) : R n W0 w X' F H s a :=
  { h with
    gx := fun b hb => hX b (h.gx b hb)
    xs := fun e => by rw [hs0] at e; cases e
    xlt := hlt
    xin := hin
    x0 := fun b hb => hX b (h.x0 b hb)
    own := fun k b hb => let ⟨h1, h2, _⟩ := h.own k b hb; ⟨h1, h2, hF k b hb⟩
    hown := fun b hb => let ⟨h1, h2, _⟩ := h.hown b hb; ⟨h1, h2, hH b hb⟩
    slots := fun k => vt_world hX (fun _ _ => rfl) (fun _ _ _ => rfl) (fun _ _ => rfl) (h.slots k) }

theorem wreck_get : ∀ {rs : List Nat} {s : St} {k : Key}, (∀ q, q ∈ rs → k ≠ .m q) → (wreck rs s).get k = s.get k
  | [], s, k, _ => rfl
  | q :: rs, s, k, h => by
    simp only [wreck]
    split
    · rw [wreck_get fun q hq => h q (by simp [hq]), updR_get, if_neg (Ne.symm (h q (by simp)))]
    · exact wreck_get fun q hq => h q (by simp [hq])
theorem wreck_foul : ∀ {rs : List Nat} {s : St} {r : Nat}, s.foul r = true → (wreck rs s).foul r = true
  | [], s, r, h => h
  | q :: rs, s, r, h => by
    simp only [wreck]
    split
    · refine wreck_foul ?_
      rename_i e T f y _
      cases hc : (updR s q (.box e T .d y)).foul r
      · have := (updR_foul hc).1; rw [h] at this; cases this
      · rfl
    · exact wreck_foul h
theorem updR_foul_self (s : St) (q : Nat) (t : Tm) : (updR s q t).foul q = true := by
  cases hc : (updR s q t).foul q
  · exact absurd rfl (updR_foul hc).2
  · rfl

/-- the content of lent variables goes out of hand -/
theorem R.wreck : ∀ {rs : List Nat} {s : St} {F : Key → List Nat}, R n W0 w X F H s a → rs.Nodup → (∀ q, q ∈ rs → s.isBox q) →
    ∃ F', R n W0 w X F' H (Go.Am.wreck rs s) a ∧ (∀ k, (∀ q, q ∈ rs → k ≠ .m q) → F' k = F k) ∧
      ∀ q, q ∈ rs → ∃ e T f y b S, s.get (.m q) = .box e T f y ∧ F (.m q) = b :: S ∧ (Go.Am.wreck rs s).get (.m q) = .box e T .d y ∧ F' (.m q) = [b] ∧ (Go.Am.wreck rs s).foul q = true
  | [], s, F, h, _, _ => ⟨F, h, fun _ _ => rfl, by simp⟩
  | q :: rs, s, F, h, hn, hb => by
    obtain ⟨e, T, f, y, hg⟩ := hb q (by simp)
    have hs := h.slots (.m q)
    rw [hg] at hs
    obtain ⟨b, c, S, g1, g2, g3, g4⟩ := hs
    have hnq := List.nodup_cons.1 hn
    have h2 : R n W0 w X (setK F (.m q) [b]) H (updR s q (.box e T .d y)) a := by
      refine h.turn h.below (Nat.le_refl _) (fun _ _ => rfl) (fun _ _ _ _ => rfl) ?_ ?_ (by rw [hg]; simp) ?_ ?_
      · intro b' hb'
        rw [g2]
        simp only [List.mem_append, List.mem_cons, List.not_mem_nil, or_false] at hb' ⊢
        exact hb'.imp .inl id
      · refine List.nodup_append.2 ⟨by simp, h.hnodup, fun x hx y hy e => ?_⟩
        simp only [List.mem_singleton] at hx
        subst hx; subst e
        exact h.hdisj (.m q) x (by rw [g2]; simp) hy
      · intro e' T' f' x' b2 S2 hb2 hF2
        rw [hg] at hb2
        cases hb2
        rw [g2] at hF2
        obtain ⟨rfl, _⟩ := List.cons.inj hF2
        exact ⟨.d, _, [], rfl, rfl⟩
      · exact ⟨b, c, [], g1, rfl, g3, by unfold rdF; exact ⟨rdF_len g4, rdF_one g4, rfl⟩⟩
    have hget : ∀ q', q' ∈ rs → (updR s q (.box e T .d y)).get (.m q') = s.get (.m q') := fun q' hq' => by
      rw [updR_get, if_neg]
      intro e; simp only [Key.m.injEq] at e; subst e; exact hnq.1 hq'
    obtain ⟨F', k1, k2, k3⟩ := R.wreck h2 hnq.2 (fun q' hq' => by
      obtain ⟨e', T', f', y', hg'⟩ := hb q' (by simp [hq'])
      exact ⟨e', T', f', y', by rw [hget q' hq']; exact hg'⟩)
    have hw : Go.Am.wreck (q :: rs) s = Go.Am.wreck rs (updR s q (.box e T .d y)) := by simp only [Go.Am.wreck, hg]
    have hqk : ∀ q', q' ∈ rs → Key.m q ≠ .m q' := fun q' hq' e => by simp only [Key.m.injEq] at e; subst e; exact hnq.1 hq'
    refine ⟨F', by rw [hw]; exact k1, fun k hk => ?_, fun q' hq' => ?_⟩
    · rw [k2 k fun q' hq' => hk q' (by simp [hq'])]
      simp [setK, hk q (by simp)]
    · rw [hw]
      rcases List.mem_cons.1 hq' with rfl | hq'
      · refine ⟨e, T, f, y, b, S, hg, g2, ?_, ?_, wreck_foul (updR_foul_self _ _ _)⟩
        · rw [wreck_get hqk, updR_get]; simp
        · rw [k2 _ hqk]; simp [setK]
      · obtain ⟨e', T', f', y', b', S', m1, m2, m3⟩ := k3 q' hq'
        refine ⟨e', T', f', y', b', S', by rw [← hget q' hq']; exact m1, ?_, m3⟩
        have : setK F (.m q) [b] (.m q') = F (.m q') := by simp only [setK]; rw [if_neg (Ne.symm (hqk q' hq'))]
        rw [← this]; exact m2

/-- the world moves on, and variables that are out of hand turn -/
theorem R.worldD {rs : List Nat} (h : R n W0 w X F H s a) (hb : W0.below w') (hs : w.heap.size ≤ w'.heap.size) (hX : ∀ b, X b → w'.heap[b]? = w.heap[b]?)
    (hr : ∀ q, q ∈ rs → s.foul q = true ∧ ∃ e T y b c, s.get (.m q) = .box e T .d y ∧ F (.m q) = [b] ∧ w'.heap[b]? = some (.cells c e (0, 0)) ∧ c.toList.length = T.size ∧ ∀ u ∈ c.toList, u.oneCell' = true)
    (hF : ∀ k, (∀ q, q ∈ rs → k ≠ .m q) → ∀ b ∈ F k, w'.heap[b]? = w.heap[b]?) : R n W0 w' X F H s a :=
  { h with
    below := hb
    glob := g.stays _ _ h.glob fun b hb => hX b (h.gx b hb)
    xlt := fun b hb' => Nat.lt_of_lt_of_le (h.xlt b hb') hs
    own := fun k b hb' => let ⟨h1, h2, h3⟩ := h.own k b hb'; ⟨h1, Nat.lt_of_lt_of_le h2 hs, h3⟩
    hown := fun b hb' => let ⟨h1, h2, h3⟩ := h.hown b hb'; ⟨h1, Nat.lt_of_lt_of_le h2 hs, h3⟩
    slots := fun k => by
      by_cases hk : ∃ q, q ∈ rs ∧ k = .m q
      · obtain ⟨q, hq, rfl⟩ := hk
        obtain ⟨_, e, T, y, b, c, h1, h2, h3, h4, h5⟩ := hr q hq
        have hv := h.slots (.m q)
        rw [h1] at hv ⊢
        obtain ⟨b', c', S', g1, g2, _⟩ := hv
        rw [h2] at g2
        obtain ⟨rfl, rfl⟩ := List.cons.inj g2
        exact ⟨b, c, [], g1, h2, h3, by unfold rdF; exact ⟨h4, h5, rfl⟩⟩
      · have hk : ∀ q, q ∈ rs → k ≠ .m q := fun q hq e => hk ⟨q, hq, e⟩
        have hS := hF k hk
        have vA : ∀ {r : Nat} {p : List Nat} {v : Value} {U : Ty}, s.foul r = false → valAt w s F a r p v U → valAt w' s F a r p v U := fun {r p v U} hc hv =>
          valAt_world hv (hF (.m r) fun q hq e => by
            simp only [Key.m.injEq] at e
            subst e
            rw [(hr r hq).1] at hc; cases hc)
        have hu := h.slots k
        generalize s.get k = u at hu
        generalize slotV a k = v at hu ⊢
        generalize F k = S at hu hS ⊢
        induction u with
        | junk => exact hu
        | tup => exact hu
        | val T f x => exact vt_world (s := s) (F := fun _ => []) (a := a) (v := v) (t := .val T f x) (fun _ h => h) hX (by simp) hS (show vt w X W0.B s (fun _ => []) a v S (.val T f x) from hu)
        | box e T f x => exact vt_world (s := s) (F := fun _ => []) (a := a) (v := v) (t := .box e T f x) (fun _ h => h) hX (by simp) hS (show vt w X W0.B s (fun _ => []) a v S (.box e T f x) from hu)
        | shp T x => exact vt_world (s := s) (F := fun _ => []) (a := a) (v := v) (t := .shp T x) (fun _ h => h) hX (by simp) hS (show vt w X W0.B s (fun _ => []) a v S (.shp T x) from hu)
        | ptr r p => exact hu
        | aep r p i => exact hu
        | pls hh l => exact ⟨hu.1, plsV_mono (fun _ h => h) hX (fun _ _ _ h => h) hu.2⟩
        | bor r p => exact ⟨hu.1, fun hc => let ⟨U, h⟩ := hu.2 hc; ⟨U, vA hc h⟩⟩
        | elp r p i q => exact ⟨hu.1, fun hc => let ⟨e, t', ad, n, cap, h, h'⟩ := hu.2 hc; ⟨e, t', ad, n, cap, vA hc h, h'⟩⟩
        | gd g want u ih => exact fun hc => let ⟨h0, h1, h2⟩ := hu hc; ⟨h0, fun hb => ih (h1 hb), h2⟩ }

/-- where the lent variables lie -/
def mchO (F : Key → List Nat) (s : St) : List AK → List Nat → List Nat → Prop
  | [], rs, BL => rs = [] ∧ BL = []
  | .sh _ :: as, rs, BL => mchO F s as rs BL
  | .bx e T _ :: as, rs, BL => ∃ q rs' b BL' y, rs = q :: rs' ∧ BL = b :: BL' ∧ F (.m q) = [b] ∧ s.get (.m q) = .box e T .d y ∧ mchO F s as rs' BL'
theorem mchO_upd {t : Tm} {q : Nat} {b : Nat} : ∀ {as : List AK} {rs BL : List Nat}, q ∉ rs → mchO F s as rs BL → ∀ {S : List Nat}, mchO (setK F (.m q) S) (updR s q t) as rs BL
  | [], _, _, _, h, _ => h
  | .sh _ :: as, rs, BL, hq, h, _ => mchO_upd (b := b) (as := as) hq h
  | .bx e T _ :: as, rs, BL, hq, ⟨q', rs', b', BL', y, h1, h2, h3, h4, h5⟩, S => by
    subst h1
    have hne : q' ≠ q := fun e => hq (by simp [e])
    exact ⟨q', rs', b', BL', y, rfl, h2, by simp [setK, hne, h3], by rw [updR_get, if_neg (by simpa using Ne.symm hne)]; exact h4, mchO_upd (b := b) (fun hm => hq (by simp [hm])) h5⟩

theorem putO_sound : ∀ {as : List AK} {x : densO as} {vals : List Value} {BL C rs : List Nat} {s : St} {F : Key → List Nat}, R n W0 w X F (C ++ H) s a → rdO w X as x vals BL C → mchO F s as rs BL → rs.Nodup → (∀ b, b ∈ C → W0.B ≤ b) →
    ∃ F', R n W0 w X F' H (putO as x rs s) a
  | [], x, vals, BL, C, rs, s, F, h, ⟨_, _, e⟩, _, _, _ => by subst e; exact ⟨F, h⟩
  | .sh _ :: as, x, vals, BL, C, rs, s, F, h, ⟨v, us, _, ho⟩, hm, hn, hB => putO_sound (as := as) h ho hm hn hB
  | .bx e T o :: as, x, vals, BL, C, rs, s, F, h, ⟨b, c, S, us, BL', C', h1, h2, h3, h4, h5, h6⟩, ⟨q, rs', b2, BL2, y, m1, m2, m3, m4, m5⟩, hn, hB => by
    subst m1; subst h3
    rw [h2] at m2
    obtain ⟨rfl, rfl⟩ := List.cons.inj m2
    have hnq := List.nodup_cons.1 hn
    have hs := h.slots (.m q)
    rw [m4] at hs
    obtain ⟨b', c', S', g1, g2, g3, _⟩ := hs
    rw [m3] at g2
    obtain ⟨rfl, rfl⟩ := List.cons.inj g2
    rw [h4] at g3
    have hnd := h.hnodup
    rw [List.append_assoc] at hnd
    have hbn : b ∉ (S ++ C') ++ H := h.hdisj (.m q) b (by rw [m3]; simp)
    have h2' : R n W0 w X (setK F (.m q) (b :: S)) (C' ++ H) (updR s q (.box e T (.u o) x.1)) a := by
      refine h.turn h.below (Nat.le_refl _) (fun _ _ => rfl) (fun _ _ _ _ => rfl) ?_ ?_ (by rw [m4]; simp) ?_ ?_
      · intro b' hb'
        rw [m3]
        simp only [List.mem_append, List.mem_cons, List.not_mem_nil, or_false] at hb' ⊢
        grind
      · have : (b :: (S ++ (C' ++ H))).Nodup := List.nodup_cons.2 ⟨by simpa using hbn, hnd⟩
        simpa using this
      · intro e' T' f' x' b2 S2 hb2 hF2
        rw [m4] at hb2
        cases hb2
        rw [m3] at hF2
        obtain ⟨rfl, _⟩ := List.cons.inj hF2
        exact ⟨.u o, _, S, rfl, rfl⟩
      · refine ⟨b, c, S, g1, rfl, h4, ?_⟩
        unfold rdF
        exact rd_raiseB h5 fun b' hb' => hB b' (by simp [hb'])
    show ∃ F', R n W0 w X F' H (putO as x.2 rs' (updR s q (.box e T (.u o) x.1))) a
    exact putO_sound (as := as) h2' h6 (mchO_upd (b := b) hnq.1 m5) hnq.2 fun b' hb' => hB b' (by simp [hb'])

theorem mchA_facts : ∀ {as : List AK} {rs : List Nat} {vals : List Value} {x : densO as} {BL C : List Nat}, mchA F s as rs vals → rdO w' X' as x vals BL C → ∀ q, q ∈ rs →
    ∃ e T f y b S c, s.get (.m q) = .box e T f y ∧ F (.m q) = b :: S ∧ b ∈ BL ∧ w'.heap[b]? = some (.cells c e (0, 0)) ∧ c.toList.length = T.size ∧ ∀ u ∈ c.toList, u.oneCell' = true
  | [], _, _, _, _, _, ⟨h, _⟩, _, q, hq => by subst h; cases hq
  | .sh _ :: as, rs, vals, x, BL, C, ⟨v, us, h1, h2⟩, ⟨v', us', k1, k2⟩, q, hq => by
    rw [h1] at k1
    obtain ⟨rfl, rfl⟩ := List.cons.inj k1
    exact mchA_facts (as := as) h2 k2 q hq
  | .bx e T o :: as, rs, vals, x, BL, C, ⟨q', rs', b, S, us, f, y, h1, h2, h3, h4, h5⟩, ⟨b2, c, S2, us2, BL2, C2, k1, k2, k3, k4, k5, k6⟩, q, hq => by
    rw [h2] at k1
    obtain ⟨e1, rfl⟩ := List.cons.inj k1
    simp only [Value.pointer.injEq, Option.some.injEq, Addr.mk.injEq, and_true] at e1
    subst e1
    subst h1
    rcases List.mem_cons.1 hq with rfl | hq
    · exact ⟨e, T, f, y, b, S, c, h4, h3, by rw [k2]; simp, k4, rd_len k5, rd_one k5⟩
    · obtain ⟨e', T', f', y', b', S', c', m1, m2, m3, m4⟩ := mchA_facts h5 k6 q hq
      exact ⟨e', T', f', y', b', S', c', m1, m2, by rw [k2]; simp [m3], m4⟩
theorem mchA_O {s2 : St} {F2 : Key → List Nat} : ∀ {as : List AK} {rs : List Nat} {vals : List Value} {x : densO as} {BL C : List Nat}, mchA F s as rs vals → rdO w' X' as x vals BL C →
    (∀ q, q ∈ rs → ∀ e T f y b S, s.get (.m q) = .box e T f y → F (.m q) = b :: S → s2.get (.m q) = .box e T .d y ∧ F2 (.m q) = [b]) → mchO F2 s2 as rs BL
  | [], _, _, _, _, _, ⟨h, _⟩, ⟨_, h2, _⟩, _ => ⟨h, h2⟩
  | .sh _ :: as, rs, vals, x, BL, C, ⟨v, us, h1, h2⟩, ⟨v', us', k1, k2⟩, hk => by
    rw [h1] at k1
    obtain ⟨rfl, rfl⟩ := List.cons.inj k1
    exact mchA_O (as := as) h2 k2 hk
  | .bx e T o :: as, rs, vals, x, BL, C, ⟨q', rs', b, S, us, f, y, h1, h2, h3, h4, h5⟩, ⟨b2, c, S2, us2, BL2, C2, k1, k2, k3, k4, k5, k6⟩, hk => by
    rw [h2] at k1
    obtain ⟨e1, rfl⟩ := List.cons.inj k1
    simp only [Value.pointer.injEq, Option.some.injEq, Addr.mk.injEq, and_true] at e1
    subst e1
    subst h1
    obtain ⟨m1, m2⟩ := hk q' (by simp) _ _ _ _ _ _ h4 h3
    exact ⟨q', rs', b, BL2, y, rfl, k2, m2, m1, mchA_O h5 k6 fun q hq => hk q (by simp [hq])⟩
theorem mchA_box : ∀ {as : List AK} {rs : List Nat} {vals : List Value}, mchA F s as rs vals → ∀ q, q ∈ rs → s.isBox q
  | [], _, _, ⟨h, _⟩, q, hq => by subst h; cases hq
  | .sh _ :: as, rs, vals, ⟨v, us, h1, h2⟩, q, hq => mchA_box h2 q hq
  | .bx e T o :: as, rs, vals, ⟨q', rs', b, S, us, f, y, h1, h2, h3, h4, h5⟩, q, hq => by
    subst h1
    rcases List.mem_cons.1 hq with rfl | hq
    · exact ⟨e, T, f, y, h4⟩
    · exact mchA_box h5 q hq

theorem dstOK_upd {q d : Nat} {t : Tm} (h : dstOK s d = true) (hq : q ≠ d) : dstOK (updR s q t) d = true := by
  unfold dstOK at *
  rw [updR_get, if_neg (by simpa using hq)]
  exact h
theorem dstOK_putO {d : Nat} : ∀ {as : List AK} {x : densO as} {rs : List Nat} {s : St}, dstOK s d = true → d ∉ rs → dstOK (putO as x rs s) d = true
  | [], _, _, _, h, _ => h
  | .sh _ :: as, x, rs, s, h, hd => dstOK_putO (as := as) h hd
  | .bx e T o :: as, x, q :: rs, s, h, hd => dstOK_putO (as := as) (dstOK_upd h fun e => hd (by simp [e])) fun hm => hd (by simp [hm])
  | .bx .. :: _, x, [], s, h, _ => h

/-- what a call that variables are lent to leaves as it was -/
def KeptB (X : Nat → Prop) (s : St) (a : Act) (rs : List Nat) (w w' : World) : Prop :=
  ∀ b, (X b ∨ ∃ r, s.isBox r ∧ r ∉ rs ∧ slotV a (.m r) = .pointer (some ⟨b, 0, none⟩)) → w'.heap[b]? = w.heap[b]?
/-- the variables that are lent -/
def rootsB (Γ : EnvB) (s : St) (f : FuncId) (xs : List Operand) : List Nat :=
  match Γ.find f with
  | some e => match readB (frzArgs e.args xs s) e.args xs with
    | some (_, rs) => rs
    | none => []
  | none => []
theorem callB_sound {ρ : Type} {Γ : EnvB} (hs0 : g.soft = false) (hΓ : Γ.ok P g) (h : R n W0 w X F [] s a) {f : FuncId} {fo : Operand} (hfo : a.eval fo = .func (.func f) #[] #[]) {xs : Array Operand} {ats : Array TypeId} (ho : o.op = .call { callee := .value fo, args := xs, argTypes := ats }) {k : St → Option ρ} {r : ρ} (hr : callB Γ n s o.dst f xs.toList k = some r)
    {K : Act → World → Prop} {Q : Exit → Act → World → Prop} (hK : ∀ v w' X' F' s', k s' = some r → R n W0 w' X' F' [] s' (a.put o.dst v) → (∀ b, X b → X' b) → KeptB X s a (rootsB Γ s f xs.toList) w w' → K (a.put o.dst v) w') : o.wp P a w K Q := by
  have hroots : ∀ e us rs, Γ.find f = some e → readB (frzArgs e.args xs.toList s) e.args xs.toList = some (us, rs) → rootsB Γ s f xs.toList = rs := fun e us rs h1 h2 => by
    unfold rootsB; rw [h1]; simp only; rw [h2]
  unfold callB at hr
  split at hr
  · cases hr
  · rename_i e he
    obtain ⟨rfl, hok⟩ := EnvB.find_ok hΓ he
    obtain ⟨X1, F1, h1, hX1, hbx1⟩ := frzArgs_sound hs0 (as := e.args) (xs := xs.toList) h
    have hroots := fun us rs => hroots e us rs he
    generalize frzArgs e.args xs.toList s = s1 at hr h1 hbx1 hroots
    split at hr
    · cases hr
    · rename_i us rs hrd
      split at hr
      · cases hr
      · rename_i hn
        rw [hroots us rs hrd] at hK
        obtain ⟨L, a1, a2, a3, a4⟩ := readB_sound h1 hrd hn
        have hnd := nodupB_spec hn
        have hL : ∀ b, b ∈ L → W0.mine b ∧ b < w.heap.size ∧ ¬ X1 b := fun b hb => by
          obtain ⟨q, _, hq⟩ := (a4 b).1 hb
          exact h1.own _ b hq
        -- the call
        have call : ∀ {z}, e.F us = some z → ∀ {K' : Act → World → Prop}, (∀ rv S X' F' w', R n W0 w' X' F' (S ++ []) (putO e.args z.2 rs (wreck rs s1)) a → rdS w' X' e.res z.1 rv S → (∀ b, b ∈ S → W0.B ≤ b) → (∀ b, X b → X' b) → KeptB X s a rs w w' → K' (a.put o.dst (packRes rv)) w') → o.wp P a w K' Q := by
          intro z hz K' hK'
          have hc := hok.calls w X1 L us z (xs.toList.map a.eval) h1.glob h1.gx h1.xlt (fun b hb => ⟨(hL b hb).2.2, (hL b hb).2.1⟩) a3 a1 hz
          have hrun : (execOp a.eval o).run P w = .ok (.enter e.f (xs.toList.map a.eval).toArray) w := by
            have : execOp a.eval o = callFunc e.f (xs.map a.eval) := by
              simp only [execOp, ho, resolve, hfo, Deferred.ofValue]
              simp [invoke]
            rw [this, hok.enters]
            congr 2
            apply Array.toList_inj.mp
            simp
          unfold Oper.wp
          rw [hrun, Oper.upon_enter]
          refine hc.mono fun en w' ⟨rv, S, BL, C, X', hen, hA, hS, hO⟩ => ?_
          subst hen
          show K' (a.put o.dst (packRes rv)) w'
          obtain ⟨F2, h2, h2a, h2b⟩ := R.wreck h1 hnd (mchA_box a2)
          have hfac := mchA_facts a2 hO
          have hbl : W0.below w' := ⟨hA.os.trans h1.below.os, hA.tape.trans h1.below.tape, hA.output.trans h1.below.output, Nat.le_trans h1.below.size hA.size, fun b hb =>
            (hA.block b (Nat.lt_of_lt_of_le (W0.yW b hb) h1.below.size) fun hm => W0.sep hb (hL b hm).1 rfl).trans (h1.below.block b hb)⟩
          have hroot : ∀ q, q ∈ rs → ∃ b, F2 (.m q) = [b] ∧ b ∈ BL := fun q hq => by
            obtain ⟨e1, T1, f1, y1, b1, S1, m1, m2, m3, m4, m5⟩ := h2b q hq
            obtain ⟨e2, T2, f2, y2, b2, S2, c2, p1, p2, p3, _⟩ := hfac q hq
            rw [m2] at p2
            obtain ⟨rfl, _⟩ := List.cons.inj p2
            exact ⟨b1, m4, p3⟩
          have hother : ∀ k, (∀ q, q ∈ rs → k ≠ .m q) → ∀ b, b ∈ F2 k → b < w.heap.size ∧ b ∉ L ∧ ¬ X1 b := fun k hk b hb => by
            rw [h2a k hk] at hb
            obtain ⟨_, g2, g3⟩ := h1.own k b hb
            refine ⟨g2, fun hm => ?_, g3⟩
            obtain ⟨q, hq, hb'⟩ := (a4 b).1 hm
            exact hk q hq (h1.disj _ _ b hb hb')
          have hand : ∀ b, b ∈ S ++ (BL ++ C) → W0.mine b ∧ b < w'.heap.size ∧ ¬ X' b := fun b hb => by
            obtain ⟨g1, g2, g3⟩ := hA.nin b hb
            exact ⟨g1.elim (fun g => .inl (Nat.le_trans h1.below.size g)) fun g => (hL b g).1, g2, g3⟩
          have hlow : ∀ b, b ∈ S ++ C → W0.B ≤ b := fun b hb => by
            have hb' : b ∈ S ++ (BL ++ C) := by simp only [List.mem_append] at hb ⊢; grind
            rcases (hA.nin b hb').1 with g | g
            · exact Nat.le_trans h1.below.sizeB g
            · obtain ⟨q, hq, hbq⟩ := (a4 b).1 g
              obtain ⟨e2, T2, f2, y2, b2, S2, c2, p1, p2, p3, _⟩ := hfac q hq
              rw [p2] at hbq
              rcases List.mem_cons.1 hbq with rfl | hbq
              · exfalso
                have hnd := hA.nd
                rw [List.nodup_append] at hnd
                rcases List.mem_append.1 hb with hb | hb
                · exact hnd.2.2 b hb b (by simp [p3]) rfl
                · exact (List.nodup_append.1 hnd.2.1).2.2 b p3 b hb rfl
              · have hs := h1.slots (.m q)
                rw [p1] at hs
                obtain ⟨b3, c3, S3, g1, g2, g3, g4⟩ := hs
                rw [p2] at g2
                obtain ⟨rfl, rfl⟩ := List.cons.inj g2
                exact (rdF_own g4 b hbq).1
          have h3 : R n W0 w' X1 F2 [] (wreck rs s1) a := h2.worldD (rs := rs) hbl hA.size (fun b hb => hA.block b (h1.xlt b hb) fun hm => (hL b hm).2.2 hb)
            (fun q hq => by
              obtain ⟨e1, T1, f1, y1, b1, S1, m1, m2, m3, m4, m5⟩ := h2b q hq
              obtain ⟨e2, T2, f2, y2, b2, S2, c2, p1, p2, p3, p4, p5, p6⟩ := hfac q hq
              rw [m2] at p2
              obtain ⟨rfl, _⟩ := List.cons.inj p2
              rw [m1] at p1
              cases p1
              exact ⟨m5, e1, T1, y1, b1, c2, m3, m4, p4, p5, p6⟩)
            (fun k hk b hb => hA.block b (hother k hk b hb).1 (hother k hk b hb).2.1)
          have h4 : R n W0 w' X' F2 [] (wreck rs s1) a := R.xup hs0 h3 hA.xx hA.xlt
            (fun b hb => (hA.xin b hb).elim (h1.xin b) fun g => .inr (g.elim (fun g => .inl (Nat.le_trans h1.below.size g)) fun g => (hL b g).1))
            (fun k b hb hx => by
              by_cases hk : ∃ q, q ∈ rs ∧ k = .m q
              · obtain ⟨q, hq, rfl⟩ := hk
                obtain ⟨b1, g1, g2⟩ := hroot q hq
                rw [g1] at hb
                simp only [List.mem_singleton] at hb
                subst hb
                exact (hand b (by simp [g2])).2.2 hx
              · obtain ⟨g1, g2, g3⟩ := hother k (fun q hq e => hk ⟨q, hq, e⟩) b hb
                rcases hA.xin b hx with g | g | g
                · exact g3 g
                · omega
                · exact g2 g) (fun b hb => by cases hb)
          have hnd' := List.nodup_append.1 hA.nd
          have hnd2 := List.nodup_append.1 hnd'.2.1
          have h5 : R n W0 w' X' F2 (C ++ (S ++ [])) (wreck rs s1) a := by
            have := h4.hand (S := C ++ S) (fun b hb => hand b (by simp only [List.mem_append] at hb ⊢; grind))
              (List.nodup_append.2 ⟨hnd2.2.1, hnd'.1, fun x hx y hy e => hnd'.2.2 y hy x (by simp [hx]) e.symm⟩)
              (fun k b hb hm => by
                have hm' : b ∈ S ++ C := by simp only [List.mem_append] at hm ⊢; grind
                by_cases hk : ∃ q, q ∈ rs ∧ k = .m q
                · obtain ⟨q, hq, rfl⟩ := hk
                  obtain ⟨b1, g1, g2⟩ := hroot q hq
                  rw [g1] at hb
                  simp only [List.mem_singleton] at hb
                  subst hb
                  rcases List.mem_append.1 hm' with hm' | hm'
                  · exact hnd'.2.2 b hm' b (by simp [g2]) rfl
                  · exact hnd2.2.2 b g2 b hm' rfl
                · obtain ⟨g1, g2, g3⟩ := hother k (fun q hq e => hk ⟨q, hq, e⟩) b hb
                  have hm2 : b ∈ S ++ (BL ++ C) := by simp only [List.mem_append] at hm' ⊢; grind
                  rcases (hA.nin b hm2).1 with g | g
                  · omega
                  · exact g2 g) (fun b _ hm => by cases hm)
            simpa using this
          have hm : mchO F2 (wreck rs s1) e.args rs BL := mchA_O a2 hO fun q hq e1 T1 f1 y1 b1 S1 g1 g2 => by
            obtain ⟨e2, T2, f2, y2, b2, S2, m1, m2, m3, m4, m5⟩ := h2b q hq
            rw [m1] at g1
            cases g1
            rw [m2] at g2
            obtain ⟨rfl, _⟩ := List.cons.inj g2
            exact ⟨m3, m4⟩
          obtain ⟨F6, h6⟩ := putO_sound h5 hO hm hnd fun b hb => hlow b (by simp [hb])
          refine hK' rv S X' F6 w' h6 hS (fun b hb => hlow b (by simp [hb])) (fun b hb => hA.xx b (hX1 b hb)) fun b hb => ?_
          rcases hb with hb | ⟨q, hq, hqr, hv⟩
          · exact hA.block b (h1.xlt b (hX1 b hb)) fun hm => (hL b hm).2.2 (hX1 b hb)
          · obtain ⟨S1, hF1⟩ := h1.boxIn (hbx1 q hq) hv
            refine hA.block b (h1.own (.m q) b (by rw [hF1]; simp)).2.1 fun hm => ?_
            obtain ⟨q', hq', hb'⟩ := (a4 b).1 hm
            have := h1.disj (.m q) (.m q') b (by rw [hF1]; simp) hb'
            simp only [Key.m.injEq] at this
            subst this
            exact hqr hq'
        split at hr
        · rename_i hd
          simp only [Option.bind_eq_some_iff] at hr
          obtain ⟨z, hz, hk⟩ := hr
          refine call hz fun rv S X' F' w' hR _ _ hxx hkp => ?_
          have hK' := hK (packRes rv) w' X' F' _ hk
          rw [hd] at hK' ⊢
          exact hK' hR.drop hxx hkp
        · rename_i d hd
          split at hr
          · cases hr
          · rename_i hdn
            simp only [Bool.and_eq_true, Nat.blt_eq, Bool.not_eq_true'] at hdn
            simp only [Option.bind_eq_some_iff] at hr
            obtain ⟨z, hz, hk⟩ := hr
            refine call hz fun rv S X' F' w' hR hS hB hxx hkp => ?_
            have hdz := dstOK_putO (as := e.args) (x := z.2) hdn.1.1 (not_any hdn.2)
            have hput : ∃ F', R n W0 w' X' F' [] (putS d (putO e.args z.2 rs (wreck rs s1)) e.res z.1) (a.put (some d) (packRes rv)) := by
              generalize putO e.args z.2 rs (wreck rs s1) = s3 at hR hdz
              generalize z.1 = zz at hS
              revert zz
              generalize e.res = rk
              intro zz hS
              cases rk with
              | vals ts => exact hR.putRes hdz hdn.1.2 (rdRes_raiseB hS hB)
              | newb e2 T2 =>
                obtain ⟨b, c, rfl, rfl, g1, g2⟩ := hS
                exact ⟨_, hR.put hdz hdn.1.2 ⟨b, c, [], rfl, rfl, g1, by unfold rdF; exact rd_raiseB g2 (by simp)⟩⟩
            obtain ⟨F2, h2⟩ := hput
            have hK' := hK (packRes rv) w' X' F2 _ hk
            rw [hd] at hK' ⊢
            exact hK' h2 hxx hkp
end
end Go.Am

namespace Go.Am
open Go.RowKit

/-! ### functions with captured variables -/
def noP (d : Nat) : Tm → Bool
  | .ptr r _ => !(Nat.beq r d)
  | .aep r _ _ => !(Nat.beq r d)
  | .pls _ l => l.all fun q => !(Nat.beq q.1 d)
  | .gd _ _ t => noP d t
  | _ => true
def noPs (s : St) (d : Nat) : Bool := s.env.all fun p => noP d (s.get p.1)
theorem getE_mem : ∀ {l : List (Key × Tm)} {k : Key}, getE l k = .junk ∨ ∃ p ∈ l, p.1 = k
  | [], k => .inl rfl
  | (j, t) :: r, k => by
    rw [getE_cons]
    split
    · rename_i e; exact .inr ⟨(j, t), by simp, e⟩
    · rcases getE_mem (l := r) (k := k) with h | ⟨p, hp, e⟩
      · exact .inl h
      · exact .inr ⟨p, by simp [hp], e⟩
theorem noPs_get {s : St} {d : Nat} (h : noPs s d = true) (k : Key) : noP d (s.get k) = true := by
  unfold noPs at h
  rcases getE_mem (l := s.env) (k := k) with hk | ⟨p, hp, rfl⟩
  · unfold St.get; rw [hk]; rfl
  · exact List.all_eq_true.1 h p hp

/-- the captured variables, as data -/
def capK : St → List Operand → Option (TV × St)
  | s, [] => some (⟨.unit, ()⟩, s)
  | s, x :: xs => match rootB (op1 s [] x) with
    | some q => match s.get (.m q) with
      | .box e T f y => match f.live && noPs s q with
        | true => match capK (updR s q (.shp T y)) xs with
          | some (⟨U, u⟩, s') => some (⟨.pair (.sptr e T) U, (y, u)⟩, s')
          | none => none
        | false => none
      | _ => none
    | none => none
/-- what is captured comes behind the arguments -/
def capArgs : (ts : List Ty) → (T : Ty) → T.den → Option (dens ts)
  | [], .unit, _ => some ()
  | .sptr e t :: ts, .pair a b, x => match castTo (.sptr e t) a x.1, capArgs ts b x.2 with
    | some u, some us => some (u, us)
    | _, _ => none
  | _, _, _ => none
def readArgsC (s : St) (tg : Tags) : (ts : List Ty) → List Operand → (T : Ty) → T.den → Option (dens ts)
  | ts, [], T, y => capArgs ts T y
  | t :: ts, x :: xs, T, y => match readT s (op1 s tg x) t, readArgsC s tg ts xs T y with
    | some u, some us => some (u, us)
    | _, _ => none
  | [], _ :: _, _, _ => none
/-- the closure that is called, if it is known -/
def cloOf (s : St) (tg : Tags) (x : Operand) : Option (FuncId × TV) :=
  match look s (op1 s tg x) with
  | some ⟨.clo f T, _, y⟩ => some (f, ⟨T, y⟩)
  | _ => none
def callC {ρ : Type} (Γ : Env) (n : Nat) (s : St) (tg : Tags) (dst : Option Nat) (c : FuncId × TV) (xs : List Operand) (k : St → Option ρ) : Option ρ :=
  match Γ.find c.1 with
  | none => none
  | some e => match readArgsC s tg e.args xs c.2.1 c.2.2 with
    | none => none
    | some us => match dst with
      | none => (e.F us).bind fun _ => k s
      | some d => match dstOK s d && Nat.blt d n with
        | false => none
        | true => (e.F us).bind fun r => k (putRes d s e.res r)

section
variable {P : Program} {g : Glob} {W0 : Base g} {w w' : World} {X X' : Nat → Prop} {B B' n : Nat} {own : Bool} {s : St} {F : Key → List Nat} {a : Act} {H H' : List Nat} {o : Oper} {tg : Tags} {τ : Tab}

theorem vt_turnN {s2 : St} {d : Nat} {t : Tm} {S0 : List Nat} {v : Value} {S : List Nat} (ht : Turns w w' s s2 F (setK F (.m d) S0) a d t) (hX : ∀ b, X b → X' b) (hw : ∀ b, X b → w'.heap[b]? = w.heap[b]?)
    (hF : ∀ k b, k ≠ .m d → b ∈ F k → w'.heap[b]? = w.heap[b]?) (hS : ∀ b ∈ S, w'.heap[b]? = w.heap[b]?) : ∀ {u : Tm}, noP d u = true →
    vt w X B s F a v S u → vt w' X' B s2 (setK F (.m d) S0) a v S u := by
  intro u hno hu
  have vA : ∀ {r : Nat} {p : List Nat} {v : Value} {U : Ty}, (r = d → Keeps w w' s s2 F (setK F (.m d) S0) a d) → valAt w s F a r p v U → valAt w' s2 (setK F (.m d) S0) a r p v U := by
    intro r p v U hk hv
    by_cases hr : r = d
    · subst hr; exact (hk rfl).2 _ _ _ hv
    · exact valAt_turn ht hr (fun b => hF (.m r) b (by simpa using hr)) hv
  induction u with
  | junk => exact hu
  | tup => exact hu
  | val T f x => exact vt_world (s := s) (F := fun _ => []) (a := a) (v := v) (t := .val T f x) hX hw (by simp) hS (show vt w X B s (fun _ => []) a v S (.val T f x) from hu)
  | box e T f x => exact vt_world (s := s) (F := fun _ => []) (a := a) (v := v) (t := .box e T f x) hX hw (by simp) hS (show vt w X B s (fun _ => []) a v S (.box e T f x) from hu)
  | shp T x => exact vt_world (s := s) (F := fun _ => []) (a := a) (v := v) (t := .shp T x) hX hw (by simp) hS (show vt w X B s (fun _ => []) a v S (.shp T x) from hu)
  | ptr r p =>
    obtain ⟨h0, e, T, f, x, b, S', h1, h2, h3⟩ := hu
    have hr : d ≠ r := fun e => by subst e; simp [noP, Nat.beq_refl] at hno
    exact ⟨h0, e, T, f, x, b, S', by rw [ht.get]; simp [hr, h1], by simp [setK, Ne.symm hr, h2], h3⟩
  | aep r p i =>
    obtain ⟨h0, e, T, f, x, b, S', n, t', y, h1, h2, h3, h4⟩ := hu
    have hr : d ≠ r := fun e => by subst e; simp [noP, Nat.beq_refl] at hno
    exact ⟨h0, e, T, f, x, b, S', n, t', y, by rw [ht.get]; simp [hr, h1], by simp [setK, Ne.symm hr, h2], h3, h4⟩
  | bor r p =>
    obtain ⟨h0, h1⟩ := hu
    refine ⟨h0, fun hc => ?_⟩
    obtain ⟨hc, hj⟩ := ht.foul r hc
    obtain ⟨U, h⟩ := h1 hc
    exact ⟨U, vA hj h⟩
  | elp r p i q =>
    obtain ⟨h0, h1⟩ := hu
    refine ⟨h0, fun hc => ?_⟩
    obtain ⟨hc, hj⟩ := ht.foul r hc
    obtain ⟨e, t', ad, n, cap, h, h2, h3, h4⟩ := h1 hc
    exact ⟨e, t', ad, n, cap, vA hj h, h2, h3, h4⟩
  | pls hh l =>
    obtain ⟨h0, ad, us, h1, h2, h3, h4, h5⟩ := hu
    refine ⟨h0, ad, us, hX _ h1, fun j u hj => ?_, h3, fun j q hq => ?_, h5⟩
    · have hb : (ad.add j).block = ad.block := by unfold Addr.add; split <;> rfl
      rw [World.cell?_of_block (w := w) (by rw [hb]; exact hw _ h1)]; exact h2 j u hj
    · obtain ⟨u, hu, e, T, f, x, b, S', g1, g2, g3⟩ := h4 j q hq
      have hr : d ≠ q.1 := fun e => by
        have := List.all_eq_true.1 (show l.all (fun q => !(Nat.beq q.1 d)) = true from hno) q (List.mem_of_getElem? hq)
        simp [e] at this
      exact ⟨u, hu, e, T, f, x, b, S', by rw [ht.get]; simp [hr, g1], by simp [setK, Ne.symm hr, g2], g3⟩
  | gd g want u ih =>
    intro hc
    obtain ⟨hc, hj⟩ := ht.foul g hc
    obtain ⟨h0, h1, h2⟩ := hu hc
    refine ⟨?_, fun hb => ih hno (h1 hb), h2⟩
    by_cases hg : g = d
    · subst hg; exact (hj rfl).1
    · rw [ht.get]; simpa [Ne.symm hg] using h0

/-- (Z') A VARIABLE IS GIVEN OVER TO ALL where it lies. -/
theorem R.frzB (hs0 : g.soft = false) (h : R n W0 w X F H s a) {k : Nat} {e : TypeId} {T : Ty} {f : Fl} {x : T.den} (hg : s.get (.m k) = .box e T f x) (hf : f.live = true) (hp : noPs s k = true) :
    R n W0 w (fun b => X b ∨ b ∈ F (.m k)) (setK F (.m k) []) H (updR s k (.shp T x)) a ∧ ∃ b c, slotV a (.m k) = .pointer (some ⟨b, 0, none⟩) ∧ b ∈ F (.m k) ∧ w.heap[b]? = some (.cells c e (0, 0)) ∧ rd w (fun b => X b ∨ b ∈ F (.m k)) W0.B false T x c.toList [] := by
  have hs := h.slots (.m k)
  rw [hg] at hs
  obtain ⟨b, c, S', h1, h2, h3, h4⟩ := hs
  have h5 : rd w (fun b => X b ∨ b ∈ F (.m k)) W0.B false T x c.toList [] := rdF_freeze (fun b hb => .inl hb) hf h4 fun b hb => .inr (by rw [h2]; simp [hb])
  have hb : b ∈ F (.m k) := by rw [h2]; simp
  refine ⟨?_, b, c, h1, hb, h3, h5⟩
  exact
  { size := h.size
    defers := h.defers
    below := h.below
    glob := h.glob
    gx := fun b hb => .inl (h.gx b hb)
    xs := fun e => by rw [hs0] at e; cases e
    fix := h.fix
    xlt := fun b hb => hb.elim (h.xlt b) fun hb => (h.own _ b hb).2.1
    xin := fun b hb => hb.elim (h.xin b) fun hb => .inr (h.own _ b hb).1
    x0 := fun b hb => .inl (h.x0 b hb)
    own := fun j b hb => by
      simp only [setK] at hb
      split at hb
      · cases hb
      · rename_i hj
        obtain ⟨h1, h2, h3⟩ := h.own j b hb
        exact ⟨h1, h2, fun hx => hx.elim h3 fun hk => hj (h.disj j (.m k) b hb hk)⟩
    nodup := fun j => by
      simp only [setK]
      split
      · simp
      · exact h.nodup j
    disj := fun j j' b hb hb' => by
      simp only [setK] at hb hb'
      split at hb
      · cases hb
      · split at hb'
        · cases hb'
        · exact h.disj j j' b hb hb'
    hown := fun b hb => let ⟨h1, h2, h3⟩ := h.hown b hb; ⟨h1, h2, fun hx => hx.elim h3 fun hk => h.hdisj _ b hk hb⟩
    hnodup := h.hnodup
    hdisj := fun j b hb => by
      simp only [setK] at hb
      split at hb
      · cases hb
      · exact h.hdisj j b hb
    comps := fun d i hc => by
      rw [updR_get] at hc ⊢
      simp only [reduceCtorEq, if_false] at hc
      obtain ⟨h1, h2⟩ := h.comps d i hc
      by_cases e : k = d
      · subst e; rw [hg] at h1; cases h1
      · exact ⟨by simpa [e] using h1, h2⟩
    slots := fun j => by
      by_cases hj : j = .m k
      · subst hj
        rw [updR_get]
        simp only [if_true, setK]
        refine ⟨rfl, ⟨b, 0, none⟩, c.toList, h1, .inr hb, fun j u hj => ?_, rd_raiseB h5 (by simp)⟩
        rw [cell_plain w h3, ← Array.getElem?_toList, Nat.zero_add]; exact hj
      · have e : setK F (.m k) [] j = F j := by simp [setK, hj]
        rw [updR_get, e]
        simp only [Ne.symm hj, if_false]
        exact vt_turnN turns_upd (fun _ h => .inl h) (fun _ _ => rfl) (fun _ _ _ _ => rfl) (fun _ _ => rfl) (noPs_get hp j) (h.slots j) }

theorem capK_sound (hs0 : g.soft = false) : ∀ {xs : List Operand} {s s' : St} {X : Nat → Prop} {F : Key → List Nat} {U : TV}, R n W0 w X F H s a → capK s xs = some (U, s') →
    ∃ X' F', R n W0 w X' F' H s' a ∧ (∀ b, X b → X' b) ∧ rd w X' W0.B false U.1 U.2 (xs.map a.eval) []
  | [], s, s', X, F, U, h, hc => by
    simp only [capK, Option.some.injEq, Prod.mk.injEq] at hc
    obtain ⟨rfl, rfl⟩ := hc
    exact ⟨X, F, h, fun _ h => h, rfl, rfl⟩
  | x :: xs, s, s', X, F, U, h, hc => by
    simp only [capK] at hc
    split at hc
    · rename_i q hq
      split at hc
      · rename_i e T f y hg
        split at hc
        · rename_i hl
          simp only [Bool.and_eq_true] at hl
          split at hc
          · rename_i U' u' s1 hk
            simp only [Option.some.injEq, Prod.mk.injEq] at hc
            obtain ⟨rfl, rfl⟩ := hc
            obtain ⟨h1, b, c, k1, k2, k3, k4⟩ := R.frzB hs0 h hg hl.1 hl.2
            obtain ⟨X', F', g1, g2, g3⟩ := capK_sound hs0 h1 hk
            refine ⟨X', F', g1, fun b hb => g2 b (.inl hb), ?_⟩
            have hev := rootB_sound h hq hg
            exact ⟨[_], _, [], [], rfl, rfl, ⟨rfl, rfl, b, c, by rw [hev, k1], g2 b (.inr k2), k3, rd_mono g2 (fun _ _ => rfl) k4 (by simp)⟩, g3⟩
          · cases hc
        · cases hc
      · cases hc
    · cases hc

theorem capArgs_sound {X : Nat → Prop} (hX : ∀ b, X b → b < w.heap.size) {ts : List Ty} : ∀ {T : Ty} {y : T.den} {us : dens ts} {cs : List Value}, capArgs ts T y = some us → rd w X B false T y cs [] → rdArgs w (· < w.heap.size) 0 ts us cs := by
  induction ts with
  | nil =>
    intro T y us cs hc hr
    cases T <;> first
      | exact hr.1
      | (simp [capArgs] at hc; done)
  | cons t ts ih =>
    intro T y us cs hc hr
    cases t <;> first
      | (simp [capArgs] at hc; done)
      | skip
    cases T <;> first
      | (simp [capArgs] at hc; done)
      | skip
    rename_i e t a b
    obtain ⟨v1, v2, S1, S2, e1, e2, h1, h2⟩ := hr
    simp only [capArgs] at hc
    split at hc
    · rename_i u us' hu hus
      simp only [Option.some.injEq] at hc
      subst hc
      have := castTo_eq hu
      obtain ⟨y1, y2⟩ := y
      cases this
      have e3 : S1 = [] ∧ S2 = [] := by simpa using e2.symm
      obtain ⟨rfl, rfl⟩ := e3
      obtain ⟨_, o, b', c', k1, k2, k3, k4⟩ := h1
      refine ⟨v1, v2, by rw [e1, k1]; rfl, ?_, ih hus h2⟩
      exact rd_raiseB (rd_base (Nat.zero_le _) hX ⟨rfl, o, b', c', k1, k2, k3, k4⟩) (by simp)
    · cases hc

theorem readArgsC_sound {Y : Nat → Prop} (hY : ∀ b, Y b → b < w.heap.size) (h : R n W0 w X F H s a) (ht : tg.ok a) : ∀ {ts : List Ty} {xs : List Operand} {T : Ty} {y : T.den} {us : dens ts} {cs : List Value}, readArgsC s tg ts xs T y = some us → rd w Y B false T y cs [] → rdArgs w (· < w.heap.size) 0 ts us (xs.map a.eval ++ cs)
  | ts, [], T, y, us, cs, hr, hc => capArgs_sound hY (by simpa [readArgsC] using hr) hc
  | t :: ts, x :: xs, T, y, us, cs, hr, hc => by
    simp only [readArgsC] at hr
    split at hr
    · rename_i u us' hu hus
      simp only [Option.some.injEq] at hr
      subst hr
      obtain ⟨cs', h1, h2⟩ := readT_sound h ht hu
      exact ⟨cs', _, by simp [h1], rd_base (Nat.zero_le _) (fun _ h => h) h2, readArgsC_sound hY h ht hus hc⟩
    · cases hr
  | [], _ :: _, _, _, _, _, hr, _ => by simp [readArgsC] at hr

theorem cloOf_sound (h : R n W0 w X F H s a) (ht : tg.ok a) {x : Operand} {f : FuncId} {U : TV} (hf : cloOf s tg x = some (f, U)) : ∃ cs : List Value, a.eval x = .func (.func f) #[] cs.toArray ∧ ∃ S : List Nat, rd w (fun b => X b ∨ b ∈ S) W0.B false U.1 U.2 cs [] ∧ ∀ b ∈ S, b < w.heap.size := by
  unfold cloOf at hf
  split at hf
  · rename_i f' T fl y hl
    simp only [Option.some.injEq, Prod.mk.injEq] at hf
    obtain ⟨rfl, rfl⟩ := hf
    obtain ⟨hlive, vs, S, h1, h2, h3⟩ := look_sound h ht hl
    obtain ⟨_, cs, h4, h5⟩ := rdF_freeze (X' := fun b => X b ∨ b ∈ S) (fun _ h => .inl h) hlive h2 (fun _ h => .inr h)
    exact ⟨cs, by rw [h1, h4]; rfl, S, h5, fun b hb => let ⟨k, hk⟩ := h3 b hb; (h.own k b hk).2.1⟩
  · cases hf

theorem call_soundC {Γ : Env} (hΓ : Γ.ok P g) (h : R n W0 w X F H s a) (ht : tg.ok a) {f : FuncId} {U : TV} {fo : Operand} (hfo : cloOf s tg fo = some (f, U)) {xs : Array Operand} {ats : Array TypeId} (ho : o.op = .call { callee := .value fo, args := xs, argTypes := ats }) {e : FnE} (he : Γ.find f = some e)
    {us : dens e.args} (hus : readArgsC s tg e.args xs.toList U.1 U.2 = some us) {rv : dens e.res} (hpre : e.F us = some rv) {K : Act → World → Prop} {Q : Exit → Act → World → Prop}
    (hK : ∀ rs S w', R n W0 w' X F (S ++ H) s a → rdRes w' W0.B e.res rv rs S → Old w w' → K (a.put o.dst (packRes rs)) w') : o.wp P a w K Q := by
  obtain ⟨hf, hok⟩ := Env.find_ok hΓ he
  subst hf
  obtain ⟨cs, hfo, S0, hcs, hS0⟩ := cloOf_sound h ht hfo
  have hc := hok.calls w us rv (xs.toList.map a.eval ++ cs) h.glob (readArgsC_sound (fun b hb => hb.elim (h.xlt b) (hS0 b)) h ht hus hcs) hpre
  have hrun : (execOp a.eval o).run P w = .ok (.enter e.f (xs.toList.map a.eval ++ cs).toArray) w := by
    have : execOp a.eval o = callFunc e.f (xs.map a.eval ++ cs.toArray) := by
      simp only [execOp, ho, resolve, hfo, Deferred.ofValue]
      simp [invoke]
    rw [this, hok.enters]
    congr 2
    apply Array.toList_inj.mp
    simp
  unfold Oper.wp
  rw [hrun, Oper.upon_enter]
  refine hc.mono fun en w' ⟨rs, S, hen, hres, hnd, hbl⟩ => ?_
  subst hen
  show K (a.put o.dst (packRes rs)) w'
  have hlow : ∀ {ts : List Ty} {x : dens ts} {rs : List Value} {S : List Nat}, rdRes w' w.heap.size ts x rs S → (∀ b ∈ S, w.heap.size ≤ b ∧ b < w'.heap.size) ∧ rdRes w' W0.B ts x rs S := by
    intro ts
    induction ts with
    | nil => intro x rs S h; exact ⟨by simp [h.2], h⟩
    | cons t ts ih =>
      intro x rs S ⟨cs, us, S1, S2, e1, e2, g1, g2⟩
      obtain ⟨k1, k2⟩ := ih g2
      refine ⟨fun b hb => ?_, cs, us, S1, S2, e1, e2, rd_base h.below.sizeB (fun _ h => h) g1, k2⟩
      rw [e2] at hb
      rcases List.mem_append.1 hb with hb | hb
      · exact rd_own g1 b hb
      · exact k1 b hb
  obtain ⟨hfresh, hres'⟩ := hlow hres
  exact hK rs S w' ((h.below' hbl).hand (fun b hb => ⟨.inl (Nat.le_trans h.below.size (hfresh b hb).1), (hfresh b hb).2, fun hx => by have := h.xlt b hx; have := (hfresh b hb).1; omega⟩) hnd
    (fun k b hb hm => by have := (h.own k b hb).2.1; have := (hfresh b hm).1; omega) (fun b hb hm => by have := (h.hown b hm).2.1; have := (hfresh b hb).1; omega)) hres' (fun k hk => hbl.block k hk)

theorem callC_sound {ρ : Type} {Γ : Env} (hΓ : Γ.ok P g) (h : R n W0 w X F H s a) (ht : tg.ok a) {c : FuncId × TV} {fo : Operand} (hfo : cloOf s tg fo = some c) {xs : Array Operand} {ats : Array TypeId} (ho : o.op = .call { callee := .value fo, args := xs, argTypes := ats }) {k : St → Option ρ} {r : ρ} (hr : callC Γ n s tg o.dst c xs.toList k = some r)
    {K : Act → World → Prop} {Q : Exit → Act → World → Prop} (hK : ∀ v w' F' s', k s' = some r → R n W0 w' X F' H s' (a.put o.dst v) → Old w w' → K (a.put o.dst v) w') : o.wp P a w K Q := by
  unfold callC at hr
  split at hr
  · cases hr
  · rename_i e he
    split at hr
    · cases hr
    · rename_i us hus
      cases hd : o.dst with
      | none =>
        rw [hd] at hr
        simp only [Option.bind_eq_some_iff] at hr
        obtain ⟨rv, hrv, hk⟩ := hr
        refine call_soundC hΓ h ht hfo ho he hus hrv fun rs S w' hR hres' hold => ?_
        have hK' := hK (packRes rs) w' F s hk
        rw [hd] at hK' ⊢
        exact hK' hR.drop hold
      | some d =>
        rw [hd] at hr
        simp only at hr
        split at hr
        · cases hr
        · rename_i hdn
          simp only [Bool.and_eq_true, Nat.blt_eq] at hdn
          simp only [Option.bind_eq_some_iff] at hr
          obtain ⟨rv, hrv, hk⟩ := hr
          refine call_soundC hΓ h ht hfo ho he hus hrv fun rs S w' hR hres' hold => ?_
          obtain ⟨F', hF'⟩ := hR.putRes hdn.1 hdn.2 hres'
          have hK' := hK (packRes rs) w' F' _ hk
          rw [hd] at hK' ⊢
          exact hK' hF' hold
end
end Go.Am

namespace Go.Am
open Go.RowKit

/-! ### functions that write numbers and texts into what they are given -/
def scalarB : Ty → Bool
  | .int _ => true
  | .bool => true
  | .str => true
  | _ => false
/-- what may lie in memory that others write into -/
def looseS : Ty → Bool
  | .unit => true
  | .hid t => scalarB t
  | .slice _ t => looseS t
  | .pair a b => looseS a && looseS b
  | .arr _ t => looseS t
  | _ => false
def looseV : Ty → Bool
  | .unit | .int _ | .bool | .str | .fnc _ | .err => true
  | .hid t => scalarB t
  | .slice _ t => looseS t
  | .pair a b => looseV a && looseV b
  | .arr _ t => looseV t
  | .sptr .. => false
  | .clo .. => false
def looseT : Tm → Bool
  | .val T (.u false) _ => looseV T
  | .val T f _ => match f with
    | .d => true
    | .u _ => T.flat
    | .p _ _ => false
  | .box _ T (.u false) _ => looseV T
  | .box _ T f _ => match f with
    | .d => true
    | .u _ => T.flat
    | .p _ _ => false
  | .shp T _ => looseS T
  | .pls _ _ => false
  | .gd _ _ t => looseT t
  | _ => true
def looseSt (s : St) : Bool := s.env.all fun p => looseT p.2

def softL : List Value → List Value → Prop
  | [], vs => vs = []
  | u :: us, vs => ∃ v r, vs = v :: r ∧ softV u v ∧ softL us r
theorem softL_app : ∀ {a b c : List Value}, softL (a ++ b) c → ∃ c1 c2, c = c1 ++ c2 ∧ softL a c1 ∧ softL b c2
  | [], b, c, h => ⟨[], c, rfl, rfl, h⟩
  | u :: a, b, c, ⟨v, r, e, h1, h2⟩ => by
    obtain ⟨c1, c2, rfl, k1, k2⟩ := softL_app h2
    exact ⟨v :: c1, c2, e, ⟨v, c1, rfl, h1, k1⟩, k2⟩
theorem softL_len : ∀ {a c : List Value}, softL a c → c.length = a.length
  | [], c, h => by rw [show c = [] from h]
  | u :: a, c, ⟨v, r, e, _, h2⟩ => by rw [e]; simp [softL_len h2]

/-- shape of the data: what is hidden -/
def hideT : Ty → Ty
  | .int k => .hid (.int k)
  | .bool => .hid .bool
  | .str => .hid .str
  | .slice e t => .slice e (hideT t)
  | .pair a b => .pair (hideT a) (hideT b)
  | .arr n t => .arr n (hideT t)
  | T => T
def hideV : (T : Ty) → T.den → (hideT T).den
  | .int _, _ => ()
  | .bool, _ => ()
  | .str, _ => ()
  | .slice _ t, x => List.map (hideV t) x
  | .pair a b, x => (hideV a x.1, hideV b x.2)
  | .arr _ t, x => List.map (hideV t) x
  | .unit, _ => ()
  | .fnc _, _ => ()
  | .err, x => x
  | .hid _, _ => ()
  | .sptr _ _, x => x
  | .clo _ _, x => x
def hideOK : Ty → Bool
  | .unit | .int _ | .bool | .str => true
  | .slice _ t => hideOK t
  | .pair a b => hideOK a && hideOK b
  | .arr _ t => hideOK t
  | _ => false
theorem hideT_size : ∀ T : Ty, (hideT T).size = T.size
  | .pair a b => by simp [hideT, Ty.size, hideT_size a, hideT_size b]
  | .arr n t => by simp [hideT, Ty.size, hideT_size t]
  | .int _ | .bool | .str | .slice .. | .unit | .fnc _ | .err | .hid _ | .sptr .. | .clo .. => rfl

structure FnW where
  f : FuncId
  args : List Ty
  res : List Ty
  F : dens args → Option (dens res)
def rdArgsX (w : World) (X : Nat → Prop) (ts : List Ty) (x : dens ts) (vs : List Value) : Prop := rdArgs w X 0 ts x vs
structure FnWOK (P : Program) (e : FnW) : Prop where
  enters : ∀ args w, (callFunc e.f args).run P w = .ok (.enter e.f args) w
  calls : ∀ (w : World) (L : Nat → Prop) (xs : dens e.args) (r : dens e.res) (vals : List Value), (∀ b, L b → plainB w b) → rdArgs w L 0 e.args xs vals → e.F xs = some r →
    Calls P e.f vals.toArray w fun en w' => ∃ rs S, en = .returned (packRes rs) ∧ rdRes w' w.heap.size e.res r rs S ∧ S.Nodup ∧
      w'.os = w.os ∧ w'.tape = w.tape ∧ w'.output = w.output ∧ w.heap.size ≤ w'.heap.size ∧ (∀ b, b < w.heap.size → ¬ L b → w'.heap[b]? = w.heap[b]?) ∧ softOn L w w' ∧ ∀ b, L b → plainB w' b
abbrev EnvW := List FnW
def EnvW.find (Γ : EnvW) (f : FuncId) : Option FnW :=
  match Γ with
  | [] => none
  | e :: r => match Nat.beq e.f f with | true => some e | false => EnvW.find r f
def EnvW.ok (Γ : EnvW) (P : Program) : Prop := ∀ e ∈ Γ, FnWOK P e
theorem EnvW.find_ok {Γ : EnvW} {P : Program} (h : Γ.ok P) {f : FuncId} {e : FnW} (he : Γ.find f = some e) : e.f = f ∧ FnWOK P e := by
  induction Γ with
  | nil => cases he
  | cons x r ih =>
    simp only [EnvW.find] at he
    split at he
    · rename_i hb
      simp only [Option.some.injEq] at he
      subst he
      exact ⟨Nat.eq_of_beq_eq_true hb, h _ (by simp)⟩
    · exact ih (fun e he => h e (by simp [he])) he

section
variable {P : Program} {g : Glob} {W0 : Base g} {w w' : World} {X X' : Nat → Prop} {B B' n : Nat} {own : Bool} {s : St} {F : Key → List Nat} {a : Act} {H H' : List Nat} {o : Oper} {tg : Tags} {τ : Tab}

theorem add_block (ad : Addr) (j : Nat) : (ad.add j).block = ad.block := by unfold Addr.add; split <;> rfl
theorem add_add (ad : Addr) (i j : Nat) : (ad.add i).add j = if j = 0 then ad.add i else ad.add (i + j) := by
  unfold Addr.add
  by_cases h1 : i = 0 <;> by_cases h2 : j = 0 <;> simp [h1, h2, Nat.add_assoc]

theorem cells_soft (hso : softOn X w w') {ad : Addr} (hX : X ad.block) : ∀ {xs : List Value} {i : Nat}, (∀ j u, xs[j]? = some u → w.cell? (ad.add (i + j)) = some u) →
    ∃ xs', softL xs xs' ∧ ∀ j u, xs'[j]? = some u → w'.cell? (ad.add (i + j)) = some u
  | [], i, _ => ⟨[], rfl, by simp⟩
  | x :: xs, i, h => by
    obtain ⟨v, h1, h2⟩ := hso (ad.add i) x (by rw [add_block]; exact hX) (h 0 x rfl)
    obtain ⟨xs', k1, k2⟩ := cells_soft hso hX (xs := xs) (i := i + 1) fun j u hj => by
      have := h (j + 1) u (by simpa using hj)
      rw [show i + 1 + j = i + (j + 1) by omega]; exact this
    refine ⟨v :: xs', ⟨v, xs', rfl, h2, k1⟩, fun j u hj => ?_⟩
    cases j with
    | zero => simp only [List.getElem?_cons_zero, Option.some.injEq] at hj; subst hj; exact h1
    | succ j =>
      have := k2 j u (by simpa using hj)
      rw [show i + (j + 1) = i + 1 + j by omega]; exact this

theorem hdr_soft (hso : softOn X w w') {e : TypeId} {sz n : Nat} {v : Value} {xs : List Value} {S : List Nat} (h : hdr w X B false e sz n v xs S) : ∃ xs', softL xs xs' ∧ hdr w' X B false e sz n v xs' S := by
  obtain ⟨h1, h2, ad, cap, h3, h4, h5, h6⟩ := h
  rcases h6 with ⟨rfl, rfl, rfl⟩ | ⟨a0, rfl, h7, h8⟩
  · have : xs = [] := List.eq_nil_of_length_eq_zero (by simpa using h2)
    subst this
    exact ⟨[], rfl, h1, h2, none, 0, h3, h4, h5, .inl ⟨rfl, rfl, rfl⟩⟩
  · rcases h7 with rfl | h7
    · have : xs = [] := List.eq_nil_of_length_eq_zero (by simpa using h2)
      subst this
      exact ⟨[], rfl, h1, h2, some a0, cap, h3, h4, h5, .inr ⟨a0, rfl, .inl rfl, by simp⟩⟩
    · obtain ⟨xs', k1, k2⟩ := cells_soft hso h7 (xs := xs) (i := 0) (fun j u hj => by rw [Nat.zero_add]; exact h8 j u hj)
      exact ⟨xs', k1, h1, by rw [softL_len k1, h2], some a0, cap, h3, h4, h5, .inr ⟨a0, rfl, .inr h7, fun j u hj => by have := k2 j u hj; rwa [Nat.zero_add] at this⟩⟩

theorem rows_soft {α : Type} {r r' : α → List Value → List Nat → Prop} (hr : ∀ x v v' T, r x v T → softL v v' → r' x v' T) : ∀ {xs : List α} {vs vs' : List Value} {S : List Nat}, rows r xs vs S → softL vs vs' → rows r' xs vs' S
  | [], vs, vs', S, h, hs => by
    obtain ⟨rfl, rfl⟩ := h
    exact ⟨hs, rfl⟩
  | x :: xs, vs, vs', S, ⟨v1, v2, S1, S2, e1, e2, h1, h2⟩, hs => by
    rw [e1] at hs
    obtain ⟨c1, c2, rfl, k1, k2⟩ := softL_app hs
    exact ⟨c1, c2, S1, S2, rfl, e2, hr _ _ _ _ h1 k1, rows_soft hr h2 k2⟩

theorem scalar_soft {t : Ty} (ht : scalarB t = true) {y : t.den} {vs vs' : List Value} {S : List Nat} (h : rd w X B false t y vs S) (hs : softL vs vs') : ∃ y', rd w' X' B false t y' vs' S := by
  cases t <;> simp [scalarB] at ht
  case int k =>
    obtain ⟨rfl, rfl⟩ := h
    obtain ⟨v, r, rfl, h1, h2⟩ := hs
    obtain rfl : r = [] := h2
    rcases h1 with rfl | ⟨k', a, b, e, rfl⟩ | ⟨a, b, e, rfl⟩ | ⟨a, b, e, rfl⟩
    · exact ⟨y, rfl, rfl⟩
    · simp only [Value.int.injEq] at e; obtain ⟨rfl, rfl⟩ := e; exact ⟨b, rfl, rfl⟩
    · cases e
    · cases e
  case bool =>
    obtain ⟨rfl, rfl⟩ := h
    obtain ⟨v, r, rfl, h1, h2⟩ := hs
    obtain rfl : r = [] := h2
    rcases h1 with rfl | ⟨k', a, b, e, rfl⟩ | ⟨a, b, e, rfl⟩ | ⟨a, b, e, rfl⟩
    · exact ⟨y, rfl, rfl⟩
    · cases e
    · exact ⟨b, rfl, rfl⟩
    · cases e
  case str =>
    obtain ⟨rfl, rfl⟩ := h
    obtain ⟨v, r, rfl, h1, h2⟩ := hs
    obtain rfl : r = [] := h2
    rcases h1 with rfl | ⟨k', a, b, e, rfl⟩ | ⟨a, b, e, rfl⟩ | ⟨a, b, e, rfl⟩
    · exact ⟨y, rfl, rfl⟩
    · cases e
    · cases e
    · exact ⟨b.data.toList, rfl, rfl⟩

theorem rd_softS (hso : softOn X w w') : ∀ {T : Ty} {x : T.den} {vs vs' : List Value} {S : List Nat}, looseS T = true → rd w X B false T x vs S → softL vs vs' → rd w' X B false T x vs' S
  | .unit, _, _, _, _, _, ⟨h1, h2⟩, hs => by subst h1; exact ⟨hs, h2⟩
  | .hid t, _, vs, vs', _, hl, ⟨e, y, h⟩, hs => let ⟨y', h'⟩ := scalar_soft hl h hs; ⟨(softL_len hs).trans e, y', h'⟩
  | .slice _ t, _, _, _, _, hl, ⟨v, xs, S1, S2, e, e2, h1, h2⟩, hs => by
    subst e
    obtain ⟨v', r, rfl, k1, k2⟩ := hs
    obtain rfl : r = [] := k2
    obtain ⟨ad, cap, hv, _⟩ := hdr_cells h1
    have : v' = v := by
      rcases k1 with rfl | ⟨_, _, _, e, _⟩ | ⟨_, _, e, _⟩ | ⟨_, _, e, _⟩
      · rfl
      · rw [hv] at e; cases e
      · rw [hv] at e; cases e
      · rw [hv] at e; cases e
    subst this
    obtain ⟨xs', g1, g2⟩ := hdr_soft hso h1
    exact ⟨v', xs', S1, S2, rfl, e2, g2, rows_soft (r := rd w X B false t) (r' := rd w' X B false t) (fun x v v' T h hs => rd_softS (T := t) hso hl h hs) h2 g1⟩
  | .pair a b, _, _, _, _, hl, ⟨v1, v2, S1, S2, e, e2, h1, h2⟩, hs => by
    simp only [looseS, Bool.and_eq_true] at hl
    rw [e] at hs
    obtain ⟨c1, c2, rfl, k1, k2⟩ := softL_app hs
    exact ⟨c1, c2, S1, S2, rfl, e2, rd_softS hso hl.1 h1 k1, rd_softS hso hl.2 h2 k2⟩
  | .arr n t, _, _, _, _, hl, ⟨h, h'⟩, hs => ⟨h, rows_soft (r := rd w X B false t) (r' := rd w' X B false t) (fun x v v' T h hs => rd_softS (T := t) hso hl h hs) h' hs⟩
  | .int _, _, _, _, _, hl, _, _ | .bool, _, _, _, _, hl, _, _ | .str, _, _, _, _, hl, _, _ | .fnc _, _, _, _, _, hl, _, _ | .err, _, _, _, _, hl, _, _ | .sptr .., _, _, _, _, hl, _, _ | .clo .., _, _, _, _, hl, _, _ => by simp [looseS] at hl

theorem rd_softV (hso : softOn X w w') : ∀ {T : Ty} {x : T.den} {vs : List Value} {S : List Nat}, looseV T = true → rd w X B false T x vs S → rd w' X B false T x vs S
  | .unit, _, _, _, _, h | .int _, _, _, _, _, h | .bool, _, _, _, _, h | .str, _, _, _, _, h | .fnc _, _, _, _, _, h | .err, _, _, _, _, h => h
  | .hid t, _, _, _, hl, ⟨e, y, h⟩ => by
    refine ⟨e, y, ?_⟩
    cases t <;> simp [looseV, scalarB] at hl <;> exact h
  | .slice _ t, _, _, _, hl, ⟨v, xs, S1, S2, e, e2, h1, h2⟩ => by
    obtain ⟨xs', g1, g2⟩ := hdr_soft hso h1
    exact ⟨v, xs', S1, S2, e, e2, g2, rows_soft (r := rd w X B false t) (r' := rd w' X B false t) (fun x v v' T h hs => rd_softS (T := t) hso hl h hs) h2 g1⟩
  | .pair a b, _, _, _, hl, ⟨v1, v2, S1, S2, e, e2, h1, h2⟩ => by
    simp only [looseV, Bool.and_eq_true] at hl
    exact ⟨v1, v2, S1, S2, e, e2, rd_softV hso hl.1 h1, rd_softV hso hl.2 h2⟩
  | .arr n t, _, _, _, hl, ⟨h, h'⟩ => ⟨h, rows_mono h' fun _ _ _ _ _ h => rd_softV (T := t) hso hl h⟩
  | .sptr .., _, _, _, hl, _ | .clo .., _, _, _, hl, _ => by simp [looseV] at hl

theorem rdF_softV (hso : softOn X w w') {T : Ty} {f : Fl} {x : T.den} {vs : List Value} {S : List Nat} (hl : (match f with | .u false => looseV T | .d => true | .u true => T.flat | .p _ _ => false) = true) (h : rdF w X B T f x vs S) : rdF w' X B T f x vs S := by
  cases f with
  | d => unfold rdF at *; exact h
  | p _ _ => simp at hl
  | u b =>
    cases b
    · unfold rdF at *; exact rd_softV hso hl h
    · unfold rdF at *
      obtain ⟨rfl, k⟩ := rd_flatB (w' := w') (X' := X) (B' := B) (own' := true) hl h
      exact k

theorem vt_soft (hso : softOn X w w') (hF : ∀ k b, b ∈ F k → w'.heap[b]? = w.heap[b]?) {v : Value} {S : List Nat} (hS : ∀ b ∈ S, w'.heap[b]? = w.heap[b]?) : ∀ {t : Tm}, looseT t = true →
    vt w X B s F a v S t → vt w' X B s F a v S t
  | .junk, _, h | .tup, _, h => h
  | .val T f x, hl, ⟨vs, h1, h2⟩ => ⟨vs, h1, rdF_softV hso (by
      cases f with
      | u b => cases b <;> simpa [looseT] using hl
      | d => rfl
      | p _ _ => simp [looseT] at hl) h2⟩
  | .box e T f x, hl, ⟨b, c, S', h1, h2, h3, h4⟩ => ⟨b, c, S', h1, h2, by rw [hS b (by rw [h2]; simp)]; exact h3, rdF_softV hso (by
      cases f with
      | u b => cases b <;> simpa [looseT] using hl
      | d => rfl
      | p _ _ => simp [looseT] at hl) h4⟩
  | .ptr r p, _, h => h
  | .aep r p i, _, h => h
  | .pls hh l, hl, _ => by simp [looseT] at hl
  | .shp T x, hl, ⟨h0, ad, vs, h1, h2, h3, h4⟩ => by
    obtain ⟨vs', k1, k2⟩ := cells_soft hso h2 (xs := vs) (i := 0) (fun j u hj => by rw [Nat.zero_add]; exact h3 j u hj)
    exact ⟨h0, ad, vs', h1, h2, fun j u hj => by have := k2 j u hj; rwa [Nat.zero_add] at this, rd_softS hso hl h4 k1⟩
  | .bor r p, _, ⟨h0, h1⟩ => ⟨h0, fun hc => let ⟨U, h⟩ := h1 hc; ⟨U, valAt_world h (hF (.m r))⟩⟩
  | .elp r p i q, _, ⟨h0, h1⟩ => ⟨h0, fun hc => let ⟨e, t, ad, n, cap, h, h'⟩ := h1 hc; ⟨e, t, ad, n, cap, valAt_world h (hF (.m r)), h'⟩⟩
  | .gd g want t, hl, h => fun hc => let ⟨h0, h1, h2⟩ := h hc; ⟨h0, fun hg => vt_soft hso hF hS (by simpa [looseT] using hl) (h1 hg), h2⟩

theorem looseSt_get {s : St} (h : looseSt s = true) (k : Key) : looseT (s.get k) = true := by
  unfold looseSt at h
  unfold St.get
  rw [List.all_eq_true] at h
  generalize s.env = l at h
  induction l with
  | nil => rfl
  | cons p r ih =>
    obtain ⟨j, t⟩ := p
    rw [getE_cons]
    split
    · exact h (j, t) (by simp)
    · exact ih fun p hp => h p (by simp [hp])

/-- (S) WHAT IS SHARED IS WRITTEN INTO, as it may. -/
theorem R.soft (h : R n W0 w X F H s a) (hl : looseSt s = true) (hG : g.G w') (hbl : W0.below w') (hsz : w.heap.size ≤ w'.heap.size) (hout : ∀ b, b < w.heap.size → ¬ X b → w'.heap[b]? = w.heap[b]?) (hso : softOn X w w') : R n W0 w' X F H s a :=
  { h with
    below := hbl
    glob := hG
    xlt := fun b hb' => Nat.lt_of_lt_of_le (h.xlt b hb') hsz
    own := fun k b hb' => let ⟨h1, h2, h3⟩ := h.own k b hb'; ⟨h1, Nat.lt_of_lt_of_le h2 hsz, h3⟩
    hown := fun b hb' => let ⟨h1, h2, h3⟩ := h.hown b hb'; ⟨h1, Nat.lt_of_lt_of_le h2 hsz, h3⟩
    slots := fun k => vt_soft hso (fun k b hb => hout b (h.own k b hb).2.1 (h.own k b hb).2.2) (fun b hb => hout b (h.own k b hb).2.1 (h.own k b hb).2.2) (looseSt_get hl k) (h.slots k) }

end
end Go.Am

namespace Go.Am
open Go.RowKit

/-- a number or a text is written into what is shared -/
def softStore (τ : Tab) (s : St) (e : TypeId) (x v : Operand) : Option St :=
  match τ e with
  | none => none
  | some T => match op1 s [] x with
    | .tm _ (.shp (.hid t) _) => match decide (t = T) && scalarB T && looseSt s, readT s (op1 s [] v) T with
      | true, some _ => some s
      | _, _ => none
    | _ => none
/-- what is lent, and the rest -/
def readW (s : St) (T : Ty) (y : T.den) (rest : List Operand) : (ts : List Ty) → Option (dens ts)
  | [] => none
  | t :: ts => match castTo t (hideT T) (hideV T y), readArgs s [] ts rest, flats ts with
    | some u, some us, true => some (u, us)
    | _, _, _ => none
/-- a value that is whole, and what is left of it when it was lent -/
def goneOf : Tm → Option (TV × Tm)
  | .val T (.u true) y => some (⟨T, y⟩, .val T .d y)
  | .box e T (.u true) y => some (⟨T, y⟩, .box e T .d y)
  | _ => none
noncomputable def wrK {ρ : Type} (Γ : EnvW) (n : Nat) (s : St) (dst : Option Nat) (f : FuncId) (xs : List Operand) (k : St → Option ρ) : Option ρ :=
  match Γ.find f, xs with
  | some e, x0 :: rest => match rootOf s (op1 s [] x0) with
    | some q => match goneOf (s.get (.m q)) with
      | some (⟨T, y⟩, t) => match hideOK T, readW s T y rest e.args, dst with
        | true, some us, some d => match dstOK (updR s q t) d && Nat.blt d n with
          | true => (e.F us).bind fun z => k (putRes d (updR s q t) e.res z)
          | false => none
        | _, _, _ => none
      | none => none
    | none => none
  | _, _ => none
def readShs (s : St) : (ts : List Ty) → List Operand → Option (dens ts)
  | [], [] => some ()
  | t :: ts, x :: xs => match readSh s (op1 s [] x) t, readShs s ts xs with
    | some u, some us => some (u, us)
    | _, _ => none
  | _, _ => none
noncomputable def wsK {ρ : Type} (Γ : EnvW) (n : Nat) (s : St) (dst : Option Nat) (f : FuncId) (xs : List Operand) (k : St → Option ρ) : Option ρ :=
  match Γ.find f, dst with
  | some e, some d => match readShs s e.args xs, dstOK s d && Nat.blt d n && looseSt s with
    | some us, true => (e.F us).bind fun z => k (putRes d s e.res z)
    | _, _ => none
  | _, _ => none

section
variable {P : Program} {g : Glob} {W0 : Base g} {w w' : World} {X X' : Nat → Prop} {B B' n : Nat} {own : Bool} {s : St} {F : Key → List Nat} {a : Act} {H H' : List Nat} {o : Oper} {tg : Tags} {τ : Tab}

theorem rows_map {α β : Type} {r : α → List Value → List Nat → Prop} {r' : β → List Value → List Nat → Prop} {m : α → β} (hr : ∀ x v S, r x v S → r' (m x) v S) : ∀ {xs : List α} {vs : List Value} {S : List Nat}, rows r xs vs S → rows r' (xs.map m) vs S
  | [], _, _, h => h
  | _ :: _, _, _, ⟨v1, v2, S1, S2, e1, e2, h1, h2⟩ => ⟨v1, v2, S1, S2, e1, e2, hr _ _ _ h1, rows_map hr h2⟩
theorem rd_hide : ∀ {T : Ty} {x : T.den} {vs : List Value} {S : List Nat}, hideOK T = true → rd w X B false T x vs S → rd w X B false (hideT T) (hideV T x) vs S
  | .unit, _, _, _, _, h => h
  | .int _, x, _, _, _, ⟨h1, h2⟩ => ⟨by rw [h1]; rfl, x, h1, h2⟩
  | .bool, x, _, _, _, ⟨h1, h2⟩ => ⟨by rw [h1]; rfl, x, h1, h2⟩
  | .str, x, _, _, _, ⟨h1, h2⟩ => ⟨by rw [h1]; rfl, x, h1, h2⟩
  | .slice _ t, x, _, _, hk, ⟨v, xs, S1, S2, e, e2, h1, h2⟩ => by
    refine ⟨v, xs, S1, S2, e, e2, ?_, rows_map (r := rd w X B false t) (r' := rd w X B false (hideT t)) (fun _ _ _ h => rd_hide (T := t) hk h) h2⟩
    rw [hideT_size]
    simpa [hideV] using h1
  | .pair a b, _, _, _, hk, ⟨v1, v2, S1, S2, e, e2, h1, h2⟩ => by
    simp only [hideOK, Bool.and_eq_true] at hk
    exact ⟨v1, v2, S1, S2, e, e2, rd_hide hk.1 h1, rd_hide hk.2 h2⟩
  | .arr n t, x, _, _, hk, ⟨h, h'⟩ => ⟨by simpa [hideV] using h, rows_map (r := rd w X B false t) (r' := rd w X B false (hideT t)) (fun _ _ _ h => rd_hide (T := t) hk h) h'⟩
  | .fnc _, _, _, _, hk, _ | .err, _, _, _, hk, _ | .hid _, _, _, _, hk, _ | .sptr .., _, _, _, hk, _ | .clo .., _, _, _, hk, _ => by simp [hideOK] at hk
theorem pack_hide {T : Ty} (vs : List Value) : pack (hideT T) vs = pack T vs := by cases T <;> rfl
/-- the blocks that a value owns lie open -/
theorem rd_plain : ∀ {T : Ty} {x : T.den} {vs : List Value} {S : List Nat}, hideOK T = true → rd w X B true T x vs S → ∀ b ∈ S, plainB w b
  | .unit, _, _, _, _, h | .int _, _, _, _, _, h | .bool, _, _, _, _, h | .str, _, _, _, _, h => by simp [h.2]
  | .slice _ t, x, _, _, hk, ⟨v, xs, S1, S2, e, e2, h1, h2⟩ => by
    intro b hb
    rw [e2] at hb
    rcases List.mem_append.1 hb with hb | hb
    · obtain ⟨h3, h4⟩ := h1
      rw [h4] at hb
      rcases h3.2 with ⟨rfl, _⟩ | ⟨g, cap, cur, rfl, _, hg, _⟩
      · simp [Value.ownBlock] at hb
      · simp only [Value.ownBlock, Option.toList_some, List.mem_singleton] at hb
        subst hb
        exact ⟨cur, _, hg⟩
    · exact rows_own (r := rd w X B true t) (fun _ _ _ h => rd_plain (T := t) hk h) h2 b hb
  | .pair a b, _, _, _, hk, ⟨v1, v2, S1, S2, e, e2, h1, h2⟩ => by
    simp only [hideOK, Bool.and_eq_true] at hk
    intro b hb
    rw [e2] at hb
    exact (List.mem_append.1 hb).elim (rd_plain hk.1 h1 b) (rd_plain hk.2 h2 b)
  | .arr n t, x, _, _, hk, ⟨h, h'⟩ => rows_own (r := rd w X B true t) (fun _ _ _ h => rd_plain (T := t) hk h) h'
  | .fnc _, _, _, _, hk, _ | .err, _, _, _, hk, _ | .hid _, _, _, _, hk, _ | .sptr .., _, _, _, hk, _ | .clo .., _, _, _, hk, _ => by simp [hideOK] at hk

theorem rdRes_up {w' : World} {B' : Nat} (hB : B' ≤ B) : ∀ {ts : List Ty} {x : dens ts} {rs : List Value} {S : List Nat}, rdRes w' B ts x rs S → (∀ b ∈ S, B ≤ b ∧ b < w'.heap.size) ∧ rdRes w' B' ts x rs S := by
  intro ts
  induction ts with
  | nil => intro x rs S h; exact ⟨by simp [h.2], h⟩
  | cons t ts ih =>
    intro x rs S ⟨cs, us, S1, S2, e1, e2, g1, g2⟩
    obtain ⟨k1, k2⟩ := ih g2
    refine ⟨fun b hb => ?_, cs, us, S1, S2, e1, e2, rd_base hB (fun _ h => h) g1, k2⟩
    rw [e2] at hb
    rcases List.mem_append.1 hb with hb | hb
    · exact rd_own g1 b hb
    · exact k1 b hb

theorem rd_ownX : ∀ {T : Ty} {x : T.den} {vs : List Value} {S : List Nat}, rd w X B true T x vs S → rd w X' B true T x vs S
  | .unit, _, _, _, h | .int _, _, _, _, h | .bool, _, _, _, h | .fnc _, _, _, _, h | .str, _, _, _, h | .err, _, _, _, h => h
  | .slice _ t, _, _, _, ⟨v, xs, S1, S2, e, e2, h1, h2⟩ => ⟨v, xs, S1, S2, e, e2, h1, rows_mono h2 fun _ _ _ _ _ h => rd_ownX (T := t) h⟩
  | .pair a b, _, _, _, ⟨v1, v2, S1, S2, e, e2, h1, h2⟩ => ⟨v1, v2, S1, S2, e, e2, rd_ownX h1, rd_ownX h2⟩
  | .arr n t, _, _, _, ⟨h, h'⟩ => ⟨h, rows_mono h' fun _ _ _ _ _ h => rd_ownX (T := t) h⟩
  | .hid _, _, _, _, ⟨e, y, h⟩ => ⟨e, y, rd_ownX h⟩
  | .sptr .., _, _, _, ⟨_, o, _⟩ => by simp at o
  | .clo .., _, _, _, ⟨e, cs, h1, h2⟩ => ⟨e, cs, h1, rd_ownX h2⟩
theorem readW_sound (h : R n W0 w X F H s a) {T : Ty} {y : T.den} {vs : List Value} {S : List Nat} {rest : List Operand} (hk : hideOK T = true) (hrd : rd w X W0.B true T y vs S) : ∀ {ts : List Ty} {us : dens ts}, readW s T y rest ts = some us →
    rdArgs w (· ∈ S) 0 ts us (pack T vs :: rest.map a.eval)
  | [], _, hr => by simp [readW] at hr
  | t :: ts, us, hr => by
    simp only [readW] at hr
    split at hr
    · rename_i u us' hu hus hf
      simp only [Option.some.injEq] at hr
      subst hr
      unfold castTo at hu
      split at hu
      · rename_i e
        subst e
        simp only [Option.some.injEq] at hu
        subst hu
        refine ⟨vs, _, by rw [pack_hide], ?_, rdArgs_flat hf (readArgs_sound h (tg := []) (fun p hp => by cases hp) hus)⟩
        have hS : rd w (fun _ => False) W0.B true T y vs S := rd_ownX hrd
        exact rd_hide hk (rd_raiseB (rd_freeze (X' := (· ∈ S)) (fun b hb => hb.elim) hS (fun b hb => hb)) (by simp))
      · cases hu
    · cases hr
theorem gone_sound (h : R n W0 w X F [] s a) {x : Operand} {q : Nat} (hq : rootOf s (op1 s [] x) = some q) {T : Ty} {y : T.den} {t : Tm} (hg : goneOf (s.get (.m q)) = some (⟨T, y⟩, t)) :
    ∃ vs S S2, a.eval x = pack T vs ∧ rd w X W0.B true T y vs S ∧ (∀ b ∈ S ++ S2, b ∈ F (.m q)) ∧ (S ++ S2).Nodup ∧ R n W0 w X (setK F (.m q) S2) [] (updR s q t) a := by
  cases hs : s.get (.m q) with
  | val U f z =>
    rw [hs] at hg
    cases f with
    | u b =>
      cases b
      · cases hg
      · simp only [goneOf, Option.some.injEq, Prod.mk.injEq] at hg
        obtain ⟨h1, rfl⟩ := hg
        cases h1
        have hev := rootOf_sound h hq hs
        have hsl := h.slots (.m q)
        rw [hs] at hsl
        obtain ⟨vs, hv, hrd⟩ := hsl
        unfold rdF at hrd
        refine ⟨vs, F (.m q), [], by rw [hev]; exact hv, hrd, by simp, by simpa using h.nodup _, ?_⟩
        exact h.turn (S' := []) (H' := []) h.below (Nat.le_refl _) (fun _ _ => rfl) (fun _ _ _ _ => rfl) (by simp) (by simp) (by rw [hs]; simp) (fun e T f x b S hb => by rw [hs] at hb; cases hb)
          ⟨vs, hv, by unfold rdF; exact ⟨rd_len hrd, rd_one hrd, rfl⟩⟩
    | p _ _ => cases hg
    | d => cases hg
  | box e U f z =>
    rw [hs] at hg
    cases f with
    | u b =>
      cases b
      · cases hg
      · simp only [goneOf, Option.some.injEq, Prod.mk.injEq] at hg
        obtain ⟨h1, rfl⟩ := hg
        cases h1
        have hsl := h.slots (.m q)
        rw [hs] at hsl
        obtain ⟨b, c, S, g1, g2, g3, g4⟩ := hsl
        unfold rdF at g4
        have hnd := h.nodup (.m q)
        rw [g2] at hnd
        have hev : a.eval x = pack T c.toList := by
          unfold rootOf at hq
          split at hq
          · rename_i k U2 f2 z2 hx
            simp only [Option.some.injEq] at hq
            subst hq
            cases x <;> simp only [op1] at hx <;> first | cases hx | skip
            simp only [Op1.tm.injEq] at hx
            obtain ⟨rfl, hx⟩ := hx
            rw [hs] at hx
            cases hx
          · rename_i k r hx
            split at hq
            · rename_i hfl
              simp only [Option.some.injEq] at hq
              subst hq
              obtain ⟨_, _, hv⟩ := op1_vt h (tg := []) (fun p hp => by cases hp) hx (by simp)
              obtain ⟨U, hv⟩ := hv hfl
              unfold valAt at hv
              rw [hs] at hv
              obtain ⟨b', c', S', y', k1, k2, k3, rfl, k5⟩ := hv
              rw [g2] at k1
              obtain ⟨rfl, _⟩ := List.cons.inj k1
              rw [g3] at k2
              simp only [Option.some.injEq, Obj.cells.injEq] at k2
              obtain ⟨rfl, _⟩ := k2
              simp only [fldP, Option.some.injEq] at k3
              subst k3
              rw [k5]
              have e0 : offP T [] = 0 := by cases T <;> rfl
              have hl := rd_len g4
              simp only [e0, List.drop_zero]
              rw [List.take_of_length_le (by omega)]
            · cases hq
          · cases hq
        refine ⟨c.toList, S, [b], hev, g4, fun b' hb => by rw [g2]; rcases List.mem_append.1 hb with hb | hb <;> simp at hb ⊢ <;> simp [hb], ?_, ?_⟩
        · refine List.nodup_append.2 ⟨(List.nodup_cons.1 hnd).2, by simp, fun x hx y hy e => ?_⟩
          simp only [List.mem_singleton] at hy
          subst hy; subst e
          exact (List.nodup_cons.1 hnd).1 hx
        · exact h.turn (S' := [b]) (H' := []) h.below (Nat.le_refl _) (fun _ _ => rfl) (fun _ _ _ _ => rfl) (by rw [g2]; simp) (by simp) (by rw [hs]; simp) (fun e' T' f' x' b' S' hb hF => by
            rw [hs] at hb; cases hb; rw [g2] at hF; obtain ⟨rfl, _⟩ := List.cons.inj hF; exact ⟨_, _, [], rfl, rfl⟩)
            ⟨b, c, [], g1, rfl, g3, by unfold rdF; exact ⟨rd_len g4, rd_one g4, rfl⟩⟩
    | p _ _ => cases hg
    | d => cases hg
  | _ => rw [hs] at hg; cases hg

/-- a call that what a slot owns is lent to, and turned by -/
theorem wrK_sound {ρ : Type} {Γ : EnvW} (hΓ : Γ.ok P) (h : R n W0 w X F [] s a) {f : FuncId} {fo : Operand} (hfo : a.eval fo = .func (.func f) #[] #[]) {xs : Array Operand} {ats : Array TypeId} (ho : o.op = .call { callee := .value fo, args := xs, argTypes := ats }) {k : St → Option ρ} {r : ρ} (hr : wrK Γ n s o.dst f xs.toList k = some r)
    {K : Act → World → Prop} {Q : Exit → Act → World → Prop} (hK : ∀ v w' X' F' s', k s' = some r → R n W0 w' X' F' [] s' (a.put o.dst v) → K (a.put o.dst v) w') : o.wp P a w K Q := by
  unfold wrK at hr
  split at hr
  · rename_i e x0 rest he hxs
    obtain ⟨rfl, hok⟩ := EnvW.find_ok hΓ he
    split at hr
    · rename_i q hq
      split at hr
      · rename_i T y t hg
        split at hr
        · rename_i us d hk hus hd
          split at hr
          · rename_i hdn
            simp only [Bool.and_eq_true, Nat.blt_eq] at hdn
            simp only [Option.bind_eq_some_iff] at hr
            obtain ⟨z, hz, hk2⟩ := hr
            obtain ⟨vs, S0, S2, hev, hrd, hsub, hnd2, hR0⟩ := gone_sound h hq hg
            have hlt : ∀ b ∈ S0, b < w.heap.size := fun b hb => (h.own _ _ (hsub b (by simp [hb]))).2.1
            have hargs := readW_sound h hk hrd hus
            have hrest : xs.toList.map a.eval = pack T vs :: rest.map a.eval := by rw [hxs, List.map_cons, hev]
            rw [← hrest] at hargs
            have hc := hok.calls w (· ∈ S0) us z (xs.toList.map a.eval) (fun b hb => rd_plain hk hrd b hb) hargs hz
            have hrun : (execOp a.eval o).run P w = .ok (.enter e.f (xs.toList.map a.eval).toArray) w := by
              have : execOp a.eval o = callFunc e.f (xs.map a.eval) := by
                simp only [execOp, ho, resolve, hfo, Deferred.ofValue]
                simp [invoke]
              rw [this, hok.enters]
              congr 2
              apply Array.toList_inj.mp
              simp
            unfold Oper.wp
            rw [hrun, Oper.upon_enter]
            refine hc.mono fun en w' ⟨rs, S, hen, hres, hnd, h1, h2, h3, h4, h5, _, _⟩ => ?_
            subst hen
            show K (a.put o.dst (packRes rs)) w'
            obtain ⟨hfresh, hres'⟩ := rdRes_up h.below.sizeB hres
            have hbl : W0.below w' := ⟨h1.trans h.below.os, h2.trans h.below.tape, h3.trans h.below.output, Nat.le_trans h.below.size h4, fun b hb =>
              (h5 b (Nat.lt_of_lt_of_le (W0.yW b hb) h.below.size) fun hm => W0.sep hb (h.own _ _ (hsub b (by simp [hm]))).1 rfl).trans (h.below.block b hb)⟩
            have hR1 : R n W0 w' X (setK F (.m q) S2) [] (updR s q t) a := hR0.world hbl h4 (fun b hb => h5 b (h.xlt b hb) fun hm => (h.own _ _ (hsub b (by simp [hm]))).2.2 hb) (fun k b hb => by
              have hb2 := hR0.own k b hb
              refine h5 b hb2.2.1 fun hm => ?_
              simp only [setK] at hb
              split at hb
              · exact (List.nodup_append.1 hnd2).2.2 b hm b hb rfl
              · rename_i hne
                exact hne (h.disj _ _ b hb (hsub b (by simp [hm]))))
            have hR2 : R n W0 w' X (setK F (.m q) S2) (S ++ []) (updR s q t) a := hR1.hand (fun b hb => ⟨.inl (Nat.le_trans h.below.size (hfresh b hb).1), (hfresh b hb).2, fun hx => by have := h.xlt b hx; have := (hfresh b hb).1; omega⟩) hnd
              (fun k b hb hm => by have := (hR0.own k b hb).2.1; have := (hfresh b hm).1; omega) (fun b hb hm => by cases hm)
            obtain ⟨F', hF'⟩ := hR2.putRes hdn.1 hdn.2 hres'
            have hK' := hK (packRes rs) w' X F' _ hk2
            rw [hd] at hK' ⊢
            exact hK' hF'
          · cases hr
        · cases hr
      · cases hr
    · cases hr
  · cases hr

theorem readShs_sound (h : R n W0 w X F H s a) : ∀ {ts : List Ty} {xs : List Operand} {us : dens ts}, readShs s ts xs = some us → rdArgs w X 0 ts us (xs.map a.eval)
  | [], [], us, _ => rfl
  | t :: ts, x :: xs, us, hr => by
    simp only [readShs] at hr
    split at hr
    · rename_i u us' hu hus
      simp only [Option.some.injEq] at hr
      subst hr
      obtain ⟨cs, h1, h2⟩ := readSh_sound h hu
      exact ⟨cs, _, by simp [h1], h2, readShs_sound h hus⟩
    · cases hr
  | [], _ :: _, _, hr => by simp [readShs] at hr
  | _ :: _, [], _, hr => by simp [readShs] at hr

theorem soft_G {w0 : World} {L : Nat → Prop} (hg : g = softGlob w0 L) (h : R n W0 w X F H s a) : (∀ b, X b ↔ L b) ∧ g.soft = true := by
  subst hg
  exact ⟨fun b => ⟨h.xs rfl b, h.gx b⟩, rfl⟩
theorem soft_next {w0 : World} {L : Nat → Prop} (hg : g = softGlob w0 L) (h : R n W0 w X F H s a) (hso : softOn X w w') (hpl : ∀ b, X b → plainB w' b) : g.G w' := by
  obtain ⟨hX, _⟩ := soft_G hg h
  have hXL : X = L := funext fun b => propext (hX b)
  subst hg
  subst hXL
  exact ⟨h.glob.1.trans hso, hpl⟩
theorem soft_below {w0 : World} {L : Nat → Prop} (hg : g = softGlob w0 L) (h : R n W0 w X F H s a) (hos : w'.os = w.os) (htape : w'.tape = w.tape) (hout : w'.output = w.output) (hsz : w.heap.size ≤ w'.heap.size) (hb : ∀ b, b < w.heap.size → ¬ X b → w'.heap[b]? = w.heap[b]?) : W0.below w' := by
  obtain ⟨hX, hs⟩ := soft_G hg h
  refine ⟨hos.trans h.below.os, htape.trans h.below.tape, hout.trans h.below.output, Nat.le_trans h.below.size hsz, fun k hk => (hb k (Nat.lt_of_lt_of_le (W0.yW k hk) h.below.size) fun hx => W0.fr hs k (h.xs hs k hx) hk).trans (h.below.block k hk)⟩

/-- a call, by a function that writes into what is shared, of another such one -/
theorem wsK_sound {ρ : Type} {Γ : EnvW} (hΓ : Γ.ok P) {w0 : World} {L : Nat → Prop} (hg : g = softGlob w0 L) (h : R n W0 w X F [] s a) {f : FuncId} {fo : Operand} (hfo : a.eval fo = .func (.func f) #[] #[]) {xs : Array Operand} {ats : Array TypeId} (ho : o.op = .call { callee := .value fo, args := xs, argTypes := ats }) {k : St → Option ρ} {r : ρ} (hr : wsK Γ n s o.dst f xs.toList k = some r)
    {K : Act → World → Prop} {Q : Exit → Act → World → Prop} (hK : ∀ v w' X' F' s', k s' = some r → R n W0 w' X' F' [] s' (a.put o.dst v) → K (a.put o.dst v) w') : o.wp P a w K Q := by
  unfold wsK at hr
  split at hr
  · rename_i e d he hd
    obtain ⟨rfl, hok⟩ := EnvW.find_ok hΓ he
    split at hr
    · rename_i us hus hdn
      simp only [Bool.and_eq_true, Nat.blt_eq] at hdn
      simp only [Option.bind_eq_some_iff] at hr
      obtain ⟨z, hz, hk2⟩ := hr
      obtain ⟨hX, hsf⟩ := soft_G hg h
      have hpl : ∀ b, X b → plainB w b := fun b hb => by
        have := h.glob
        have hb' := (hX b).1 hb
        subst hg
        exact this.2 b hb'
      have hc := hok.calls w X us z (xs.toList.map a.eval) hpl (readShs_sound h hus) hz
      have hrun : (execOp a.eval o).run P w = .ok (.enter e.f (xs.toList.map a.eval).toArray) w := by
        have : execOp a.eval o = callFunc e.f (xs.map a.eval) := by
          simp only [execOp, ho, resolve, hfo, Deferred.ofValue]
          simp [invoke]
        rw [this, hok.enters]
        congr 2
        apply Array.toList_inj.mp
        simp
      unfold Oper.wp
      rw [hrun, Oper.upon_enter]
      refine hc.mono fun en w' ⟨rs, S, hen, hres, hnd, h1, h2, h3, h4, h5, h6, h7⟩ => ?_
      subst hen
      show K (a.put o.dst (packRes rs)) w'
      obtain ⟨hfresh, hres'⟩ := rdRes_up h.below.sizeB hres
      have hR1 : R n W0 w' X F [] s a := h.soft hdn.2 (soft_next hg h h6 h7) (soft_below hg h h1 h2 h3 h4 h5) h4 h5 h6
      have hR2 : R n W0 w' X F (S ++ []) s a := hR1.hand (fun b hb => ⟨.inl (Nat.le_trans h.below.size (hfresh b hb).1), (hfresh b hb).2, fun hx => by have := h.xlt b hx; have := (hfresh b hb).1; omega⟩) hnd
        (fun k b hb hm => by have := (h.own k b hb).2.1; have := (hfresh b hm).1; omega) (fun b hb hm => by cases hm)
      obtain ⟨F', hF'⟩ := hR2.putRes hdn.1.1 hdn.1.2 hres'
      have hK' := hK (packRes rs) w' X F' _ hk2
      rw [hd] at hK' ⊢
      exact hK' hF'
    · cases hr
  · cases hr

theorem scalar_one {T : Ty} (hT : scalarB T = true) {x : T.den} {vs : List Value} {S : List Nat} (h : rd w X B own T x vs S) : ∃ u, vs = [u] ∧ pack T vs = u := by
  cases T <;> simp [scalarB] at hT <;> exact ⟨_, h.1, by rw [h.1]; rfl⟩
theorem scalar_same {T : Ty} (hT : scalarB T = true) {x y : T.den} {u v : Value} {S S' : List Nat} (h : rd w X B own T x [u] S) (h' : rd w X' B' own T y [v] S') : softV u v := by
  cases T <;> simp [scalarB] at hT
  · have e1 := (List.cons.inj h.1).1; have e2 := (List.cons.inj h'.1).1; subst e1; subst e2; exact .inr (.inl ⟨_, _, _, rfl, rfl⟩)
  · have e1 := (List.cons.inj h.1).1; have e2 := (List.cons.inj h'.1).1; subst e1; subst e2; exact .inr (.inr (.inl ⟨_, _, rfl, rfl⟩))
  · have e1 := (List.cons.inj h.1).1; have e2 := (List.cons.inj h'.1).1; subst e1; subst e2; exact .inr (.inr (.inr ⟨_, _, rfl, rfl⟩))

theorem softStore_sound (hτ : τ.ok P) {w0 : World} {L : Nat → Prop} (hg : g = softGlob w0 L) (h : R n W0 w X F H s a) {e : TypeId} {x v : Operand} (ho : o.op = .store e x v) (hd : o.dst = none) {s' : St} (hr : softStore τ s e x v = some s')
    {K : Act → World → Prop} {Q : Exit → Act → World → Prop} (hK : ∀ w', R n W0 w' X F H s' a → K a w') : o.wp P a w K Q := by
  unfold softStore at hr
  split at hr
  · cases hr
  · rename_i T hT
    split at hr
    · rename_i kk t y hx
      split at hr
      · rename_i u hc hu
        simp only [Option.some.injEq] at hr
        subst hr
        simp only [Bool.and_eq_true, decide_eq_true_eq] at hc
        obtain ⟨⟨rfl, hsc⟩, hl⟩ := hc
        obtain ⟨vs, h1, h2⟩ := readT_sound h (tg := []) (fun p hp => by cases hp) hu
        obtain ⟨u1, rfl, h3⟩ := scalar_one hsc h2
        obtain ⟨_, _, ad, cs, k1, k2, k3, ⟨k4, y', k5⟩⟩ := op1_vt h (tg := []) (fun p hp => by cases hp) hx (by simp)
        obtain ⟨u0, rfl⟩ := List.length_eq_one_iff.1 k4
        have hcell := k3 0 u0 rfl
        have had : ad.add 0 = ad := rfl
        rw [had] at hcell
        obtain ⟨hX, hsf⟩ := soft_G hg h
        have hpl : plainB w ad.block := by
          have := h.glob
          have hb' := (hX _).1 k2
          subst hg
          exact this.2 _ hb'
        obtain ⟨c, e0, hh⟩ := hpl
        obtain ⟨b, off, spot⟩ := ad
        simp only at hh k2
        unfold World.cell? at hcell
        simp only [hh] at hcell
        cases spot with
        | some sp => simp at hcell
        | none =>
          simp only [Option.isSome_none, Bool.false_eq_true, if_false] at hcell
          have hlt : off < c.size := (Array.getElem?_eq_some_iff.1 hcell).1
          have hst := run_storeCells_at P b off e0 [u1] 0 c w hh (by simp; omega) (rd_one h2)
          generalize hcc : (c.toList.take (off + 0) ++ [u1] ++ c.toList.drop (off + 0 + [u1].length)).toArray = cc at hst
          have hhc := setRow_heap w b c cc e0 _ hh
          have hother : ∀ k, k ≠ b → (w.setRow b cc).heap[k]? = w.heap[k]? := fun k hk => by
            simp only [World.setRow]
            rw [Array.getElem?_modify]
            simp [Ne.symm hk]
          have hso : softOn X w (w.setRow b cc) := fun ad' u' hL hu' => by
            obtain ⟨b', off', spot'⟩ := ad'
            by_cases hb : b' = b
            · subst hb
              unfold World.cell? at hu' ⊢
              simp only [hh, hhc] at hu' ⊢
              cases spot' with
              | some sp => simp at hu'
              | none =>
                simp only [Option.isSome_none, Bool.false_eq_true, if_false] at hu' ⊢
                have hl' : off' < c.size := (Array.getElem?_eq_some_iff.1 hu').1
                by_cases ho' : off' = off
                · subst ho'
                  rw [hcell] at hu'
                  simp only [Option.some.injEq] at hu'
                  subst hu'
                  refine ⟨u1, ?_, scalar_same hsc k5 h2⟩
                  rw [← hcc, ← Array.getElem?_toList]
                  simp only [Nat.add_zero, List.append_assoc]
                  rw [List.getElem?_append_right (by simp; omega)]
                  simp [Nat.min_eq_left (Nat.le_of_lt hlt)]
                · refine ⟨u', ?_, softV.refl _⟩
                  rw [← hcc, ← Array.getElem?_toList]
                  simp only [Nat.add_zero, List.append_assoc]
                  rw [← Array.getElem?_toList] at hu'
                  rcases Nat.lt_or_ge off' off with hlo | hlo
                  · rw [List.getElem?_append_left (by simp; omega), List.getElem?_take]
                    simp [hlo, hu']
                  · rw [List.getElem?_append_right (by simp; omega)]
                    have e1 : (List.take off c.toList).length = off := by simp; omega
                    rw [e1]
                    obtain ⟨m, hm⟩ : ∃ m, off' - off = m + 1 := ⟨off' - off - 1, by omega⟩
                    rw [hm]
                    simp only [List.cons_append, List.nil_append, List.getElem?_cons_succ, List.length_cons, List.length_nil, Nat.zero_add, List.getElem?_drop]
                    rw [show off + 1 + m = off' by omega]
                    exact hu'
            · exact ⟨u', by rw [World.cell?_of_block (w := w) (hother b' hb)]; exact hu', softV.refl _⟩
          have hpl' : ∀ k, X k → plainB (w.setRow b cc) k := fun k hk => by
            by_cases hb : k = b
            · subst hb; exact ⟨_, _, hhc⟩
            · have hp : plainB w k := by
                have := h.glob
                have hb' := (hX _).1 hk
                subst hg
                exact this.2 _ hb'
              obtain ⟨c', e', hc'⟩ := hp
              exact ⟨c', e', by rw [hother k hb]; exact hc'⟩
          have hsz : (w.setRow b cc).heap.size = w.heap.size := by simp [World.setRow]
          have hout : ∀ k, k < w.heap.size → ¬ X k → (w.setRow b cc).heap[k]? = w.heap[k]? := fun k _ hk => hother k fun e => hk (by rw [e]; exact k2)
          have hR := h.soft hl (soft_next hg h hso hpl') (soft_below hg h rfl rfl rfl (by omega) hout) (by omega) hout hso
          have hcells := pack_arr (rd_one h2) (rd_len h2)
          have hrun : (execOp a.eval o).run P w = .ok .skip (w.setRow b cc) := by
            simp only [execOp, ho, k1, h1, Instr.storeAt, Instr.sureAddr, storeVar, hcells, Sem.run_bind, Sem.run_pure, Result.andThen_ok, (hτ _ _ hT).sizeOf w]
            have := rd_len h2
            simp only [List.length_cons, List.length_nil] at this
            simp [← this, hst]
          unfold Oper.wp
          rw [hrun]
          show K (a.put o.dst _) _
          rw [hd]
          exact hK _ hR
      · cases hr
    · cases hr
end
end Go.Am

namespace Go.Am
open Go.RowKit

/-! ### slices of pointers to places of variables, and errors -/
/-- e is a slice type of pointers (of the type e2) -/
def ppB (P : Program) (e e2 : TypeId) : Bool :=
  match P.underlying e, P.info? e2, P.underlying e2 with
  | some (.slice e3), some i, some (.pointer e4) => Nat.beq e3 e2 && (Nat.beq i.size 1 && (Nat.ble i.bytes 8192 && (match i.zero with | some (.pointer none) => true | _ => false))) && (match P.info? e4 with | some i => Nat.blt 0 i.size | none => false)
  | _, _, _ => false
/-- e is an interface type -/
def erB (P : Program) (e : TypeId) : Bool := match P.underlying e with | some (.interface _) => true | _ => false
structure PTab where
  pp : List (TypeId × TypeId) := []
  er : List TypeId := []
def PTab.elem (t : PTab) (e : TypeId) : Option TypeId := (t.pp.find? fun p => Nat.beq p.1 e).map (·.2)
def PTab.isPtr (t : PTab) (e : TypeId) : Bool := t.pp.any fun p => Nat.beq p.2 e
def PTab.isErr (t : PTab) (e : TypeId) : Bool := t.er.any (Nat.beq e)
structure PTab.ok (t : PTab) (P : Program) : Prop where
  pp : ∀ p ∈ t.pp, ppB P p.1 p.2 = true
  er : ∀ e ∈ t.er, erB P e = true

theorem ppB_spec {P : Program} {e e2 : TypeId} (h : ppB P e e2 = true) : P.underlying e = some (.slice e2) ∧ (∃ i, P.info? e2 = some i ∧ i.size = 1 ∧ i.bytes ≤ 8192 ∧ i.zero = some (.pointer none)) ∧ ∃ e4 i, P.underlying e2 = some (.pointer e4) ∧ P.info? e4 = some i ∧ 0 < i.size := by
  unfold ppB at h
  split at h
  · rename_i e3 i e4 h1 h2 h3
    simp only [Bool.and_eq_true] at h
    obtain ⟨⟨g1, g2, g3, g4⟩, g5⟩ := h
    have := Nat.eq_of_beq_eq_true g1
    subst this
    refine ⟨h1, ⟨i, h2, Nat.eq_of_beq_eq_true g2, by simpa using g3, ?_⟩, ?_⟩
    · split at g4
      · assumption
      · cases g4
    · split at g5
      · rename_i i4 h4; exact ⟨e4, i4, h3, h4, by simp [Nat.blt] at g5; omega⟩
      · cases g5
  · cases h
theorem PTab.elem_ok {t : PTab} {P : Program} (h : t.ok P) {e e2 : TypeId} (he : t.elem e = some e2) : ppB P e e2 = true := by
  unfold PTab.elem at he
  simp only [Option.map_eq_some_iff] at he
  obtain ⟨p, hp, rfl⟩ := he
  have h1 := List.find?_some hp
  have := h.pp p (List.mem_of_find?_eq_some hp)
  rwa [Nat.eq_of_beq_eq_true h1] at this
theorem PTab.isPtr_ok {t : PTab} {P : Program} (h : t.ok P) {e : TypeId} (he : t.isPtr e = true) : ∃ e4 i, P.underlying e = some (.pointer e4) ∧ P.info? e4 = some i ∧ 0 < i.size := by
  unfold PTab.isPtr at he
  rw [List.any_eq_true] at he
  obtain ⟨p, hp, hb⟩ := he
  have := (ppB_spec (h.pp p hp)).2.2
  rwa [Nat.eq_of_beq_eq_true hb] at this
theorem PTab.isErr_ok {t : PTab} {P : Program} (h : t.ok P) {e : TypeId} (he : t.isErr e = true) : ∃ ms, P.underlying e = some (.interface ms) := by
  unfold PTab.isErr at he
  rw [List.any_eq_true] at he
  obtain ⟨p, hp, hb⟩ := he
  have := h.er p hp
  rw [← Nat.eq_of_beq_eq_true hb] at this
  unfold erB at this
  split at this
  · rename_i ms hm; exact ⟨ms, hm⟩
  · cases this

section
variable {P : Program} {g : Glob} {W0 : Base g} {w w' : World} {X X' : Nat → Prop} {B B' n : Nat} {own : Bool} {s : St} {F : Key → List Nat} {a : Act} {H H' : List Nat} {o : Oper} {tg : Tags} {τ : Tab} {pt : PTab}

/-- the places that the operands point to -/
def plsGo (s : St) (tg : Tags) : Nat → List (Nat × Operand) → Option (List (Nat × List Nat))
  | _, [] => some []
  | k, (i, y) :: r => match Nat.beq i k, op1 s tg y with
    | true, .tm _ (.ptr q p) => match plsGo s tg (k + 1) r with
      | some l => some ((q, p) :: l)
      | none => none
    | _, _ => none
theorem plsGo_sound (h : R n W0 w X F H s a) (ht : tg.ok a) : ∀ {parts : List (Nat × Operand)} {k : Nat} {l : List (Nat × List Nat)} {cs : Array Value} {A M : List Value},
    plsGo s tg k parts = some l → cs.toList = A ++ M → A.length = k → M.length = parts.length →
    ∃ us cs', Instr.fill (fun i => some (i * 1, 1)) cs (parts.map fun p => (p.1, a.eval p.2)) = some cs' ∧ cs'.toList = A ++ us ∧ us.length = l.length ∧ l.length = parts.length ∧ ∀ (j : Nat) (q : Nat × List Nat), l[j]? = some q → ∃ u, us[j]? = some u ∧ atP s F q.1 q.2 u
  | [], k, l, cs, A, M, hl, hcs, hA, hM => by
    simp only [plsGo, Option.some.injEq] at hl
    subst hl
    have : M = [] := List.eq_nil_of_length_eq_zero hM
    subst this
    exact ⟨[], cs, rfl, by simpa using hcs, rfl, rfl, by simp⟩
  | (i, y) :: r, k, l, cs, A, M, hl, hcs, hA, hM => by
    simp only [plsGo] at hl
    split at hl
    · rename_i k' q p hik hy
      have hik := Nat.eq_of_beq_eq_true hik
      subst hik
      split at hl
      · rename_i l2 hl2
        simp only [Option.some.injEq] at hl
        subst hl
        obtain ⟨_, hv⟩ := op1_vt h ht hy (by simp)
        obtain ⟨_, e, T, f, x, b, S', h1, h2, h3⟩ := hv
        obtain ⟨m0, M', rfl⟩ : ∃ m0 M', M = m0 :: M' := by
          cases M with
          | nil => simp at hM
          | cons m0 M' => exact ⟨m0, M', rfl⟩
        have hc : (a.eval y).cells = #[a.eval y] := by rw [h3]; rfl
        obtain ⟨cs1, g1, g2⟩ := fill_step (place := fun i => some (i * 1, 1)) (i := i) (rest := r.map fun p => (p.1, a.eval p.2)) (v := a.eval y) rfl (pre := A) (mid := [m0]) (post := M') (by rw [hcs]; simp) (by omega) rfl (by rw [hc]; rfl)
        rw [hc] at g1
        obtain ⟨us, cs', k1, k2, k3, k4, k5⟩ := plsGo_sound h ht (k := i + 1) (cs := cs1) (A := A ++ [a.eval y]) (M := M') hl2 (by rw [g1]; simp) (by simp [hA]) (by simpa using hM)
        refine ⟨a.eval y :: us, cs', by rw [List.map_cons]; rw [g2]; exact k1, by rw [k2]; simp, by simp [k3], by simp [k4], fun j q' hj => ?_⟩
        cases j with
        | zero =>
          simp only [List.getElem?_cons_zero, Option.some.injEq] at hj
          subst hj
          exact ⟨_, rfl, e, T, f, x, b, S', h1, h2, h3⟩
        | succ j => exact k5 j q' (by simpa using hj)
      · cases hl
    · cases hl

def plsRes (pt : PTab) (s : St) (tg : Tags) (e : TypeId) (len : Nat) (parts : Array (Nat × Operand)) : Option Res :=
  match pt.elem e with
  | some _ => match Nat.beq parts.size len && (Nat.blt 0 len && Nat.ble len 16777216), plsGo s tg 0 parts.toList with
    | true, some l => some ⟨.pls true l, s, true, none⟩
    | _, _ => none
  | none => none
theorem plsRes_sound (hs : g.soft = false) (h : R n W0 w X F H s a) (ht : tg.ok a) (hp : pt.ok P) {e : TypeId} {len : Nat} {parts : Array (Nat × Operand)} (ho : o.op = .buildSlice e len parts) {r : Res} (hr : plsRes pt s tg e len parts = some r) : Sound P n W0 w X H s a o r := by
  unfold plsRes at hr
  split at hr
  · rename_i e2 he
    split at hr
    · rename_i l hb hl
      simp only [Option.some.injEq] at hr
      subst hr
      simp only [Bool.and_eq_true, Nat.ble_eq] at hb
      obtain ⟨hlen, hpos, hmax⟩ := hb
      have hlen := Nat.eq_of_beq_eq_true hlen
      have hpos : 0 < len := by simp [Nat.blt] at hpos; omega
      obtain ⟨hu, ⟨i, hi, his, _, hz⟩, _⟩ := ppB_spec (PTab.elem_ok hp he)
      intro _ K Q hK
      obtain ⟨cs0, hcs0⟩ : ∃ cs0 : Array Value, cs0 = (Array.range (len * i.size)).map ((Value.pointer none).cells[· % (Value.pointer none).cells.size]!) := ⟨_, rfl⟩
      obtain ⟨us, cs', k1, k2, k3, k4, k5⟩ := plsGo_sound h ht (cs := cs0) (A := []) (M := cs0.toList) hl rfl rfl (by rw [hcs0]; simp [his, hlen])
      have hll : l.length = len := by rw [k4, Array.length_toList, hlen]
      have hrun : (execOp a.eval o).run P w = .ok (.value (.slice (some ⟨w.heap.size, 0, none⟩) len len)) (w.alloc (.cells cs' e2)) := by
        simp only [execOp, ho, Sem.run_bind]
        rw [run_buildSlice w e e2 len _ cs' i _ hu hi hz (by rw [his]; omega) (by rw [his]; omega) (by rw [← hcs0]; simpa [his] using k1)]
        simp
      unfold Oper.wp
      rw [hrun]
      have hcs : cs'.toList = us := by simpa using k2
      have hR := R.give (S := [w.heap.size]) (H := H) hs (h.alloc (.cells cs' e2))
      refine hK _ _ F [] _ (fun b hb => .inl hb) hR ⟨rfl, ⟨w.heap.size, 0, none⟩, us, .inr (by simp), fun j u hj => ?_, k3, fun j q hq => k5 j q hq, ⟨by rw [hll], by rw [hll]; unfold maxLen; omega⟩⟩ (fun hm => by cases hm) ⟨fun _ => Old.alloc _ _, h.kept (Old.alloc _ _)⟩
      rw [cell_plain (c := cs') (e := e2) _ (hnew _ _), ← Array.getElem?_toList, hcs, Nat.zero_add]
      exact hj
    · cases hr
  · cases hr

def lenPls (pt : PTab) (s : St) (tg : Tags) (e : TypeId) (x : Operand) : Option Res :=
  match pt.elem e, op1 s tg x with
  | some _, .tm _ (.pls true l) => some ⟨.val (.int .i64) (.u false) (l.length : Int), s, false, none⟩
  | _, _ => none
theorem lenPls_sound (h : R n W0 w X F H s a) (ht : tg.ok a) (hp : pt.ok P) {e : TypeId} {x : Operand} (ho : o.op = .call { callee := .builtin .len, args := #[x], argTypes := #[e] }) {r : Res} (hr : lenPls pt s tg e x = some r) : SoundP P τ W0 w X F s a o r := by
  unfold lenPls at hr
  split at hr
  · rename_i e2 k l he hx
    simp only [Option.some.injEq] at hr
    subst hr
    obtain ⟨_, hv⟩ := op1_vt h ht hx (by simp)
    obtain ⟨_, ad, us, _, _, _, _, hv, _⟩ := hv
    refine soundP rfl fun _ => ⟨_, fun w' _ => ?_, vt_int _ _⟩
    simp only [execOp, ho]
    simp [resolve, invoke, builtin, hv, Builtin.len_, run_underlying (ppB_spec (PTab.elem_ok hp he)).1, goInt]
  · cases hr

def idxPls (pt : PTab) (s : St) (tg : Tags) (e : TypeId) (x i : Operand) : Option Res :=
  match pt.elem e, op1 s tg x, readInt s (op1 s tg i) with
  | some _, .tm _ (.pls true l), some (_, j) => match decide (0 ≤ j), l.drop j.toNat with
    | true, q :: r => some ⟨.pls false (q :: r), s, false, none⟩
    | _, _ => none
  | _, _, _ => none
theorem idxPls_sound (h : R n W0 w X F H s a) (ht : tg.ok a) (hp : pt.ok P) {e : TypeId} {x i : Operand} (ho : o.op = .indexAddr e x i) {r : Res} (hr : idxPls pt s tg e x i = some r) : SoundP P τ W0 w X F s a o r := by
  unfold idxPls at hr
  split at hr
  · rename_i e2 k l k2 j he hx hj
    split at hr
    · rename_i q l2 h0 hl
      simp only [Option.some.injEq] at hr
      subst hr
      have h0 : 0 ≤ j := of_decide_eq_true h0
      have e3 := readInt_sound h ht hj
      obtain ⟨_, hv⟩ := op1_vt h ht hx (by simp)
      obtain ⟨_, ad, us, h1, h2, h3, h4, hv, hm⟩ := hv
      obtain ⟨hu, ⟨i', hi, his, hby, _⟩, _⟩ := ppB_spec (PTab.elem_ok hp he)
      have hlt : j.toNat < l.length := by
        apply Nat.lt_of_not_le
        intro hle
        rw [List.drop_eq_nil_of_le hle] at hl; cases hl
      have hsz : ∀ w, (sizeOf e2).run P w = .ok 1 w := fun w => by simp [sizeOf, typeInfo, hi, his]
      refine soundP rfl fun _ => ⟨.pointer (some (ad.add j.toNat)), fun w' _ => ?_, rfl, ad.add j.toNat, us.drop j.toNat, ?_, fun m u hm => ?_, by rw [List.length_drop, h3, ← hl, List.length_drop], fun m q' hq => ?_, rfl⟩
      · have hrun : (Instr.indexAt e (.slice (some ad) l.length l.length) (.int k2 j)).run P w' = .ok (.pointer (some (ad.add j.toNat))) w' := by
          simp only [Instr.indexAt, Sem.run_bind, asIntOf, Sem.run_pure, Result.andThen_ok, run_underlying hu]
          have : j < l.length := by omega
          simp [h0, this, hsz w']
        simp only [execOp, ho, hv, e3, Sem.run_bind, hrun, Result.andThen_ok, Sem.run_pure]
      · have : (ad.add j.toNat).block = ad.block := by unfold Addr.add; split <;> rfl
        rw [this]; exact h1
      · rw [Addr.add_add']; apply h2; rw [← hm, List.getElem?_drop]
      · rw [← hl, List.getElem?_drop] at hq
        obtain ⟨u, hu', ha⟩ := h4 _ _ hq
        exact ⟨u, by rw [List.getElem?_drop]; exact hu', ha⟩
    · cases hr
  · cases hr

def loadPls (pt : PTab) (s : St) (tg : Tags) (e : TypeId) (x : Operand) : Option Res :=
  match pt.isPtr e, op1 s tg x with
  | true, .tm _ (.pls false (q :: _)) => some ⟨.ptr q.1 q.2, s, false, none⟩
  | _, _ => none
theorem loadPls_sound (h : R n W0 w X F H s a) (ht : tg.ok a) (hp : pt.ok P) {e : TypeId} {x : Operand} (ho : o.op = .load e x) {r : Res} (hr : loadPls pt s tg e x = some r) : SoundP P τ W0 w X F s a o r := by
  unfold loadPls at hr
  split at hr
  · rename_i k q l he hx
    simp only [Option.some.injEq] at hr
    subst hr
    obtain ⟨rfl, hv⟩ := op1_vt h ht hx (by simp)
    obtain ⟨_, ad, us, h1, h2, h3, h4, hv⟩ := hv
    obtain ⟨u, hu, hat⟩ := h4 0 q rfl
    obtain ⟨e4, i4, hu4, hi4, _⟩ := PTab.isPtr_ok hp he
    have hc : w.cell? ad = some u := by have := h2 0 u hu; rwa [show ad.add 0 = ad by unfold Addr.add; split <;> simp_all] at this
    refine soundP rfl fun _ => ⟨u, fun w' hd => ?_, rfl, hat⟩
    have hc' : w'.cell? ad = some u := by
      have hd := hd (by rw [ho]; rfl)
      rw [ho, depRoot_op1 hx (by simp)] at hd
      have hd : ∀ b, b < w.heap.size → X b → w'.heap[b]? = w.heap[b]? := hd
      rw [World.cell?_of_block (w := w) (hd _ (h.xlt _ h1) h1)]
      exact hc
    have hagg : (isAgg e).run P w' = .ok false w' := by simp [isAgg, run_underlying hu4]
    simp only [execOp, ho, hv, Sem.run_bind, Instr.loadAt, Instr.sureAddr, Sem.run_pure, Result.andThen_ok, loadVar, hagg]
    simp [run_load, hc']
  · cases hr

/-- two pointers to places of one variable -/
def ptrEqRes (pt : PTab) (s : St) (tg : Tags) (op : BinOp) (e : TypeId) (x y : Operand) : Option Res :=
  match pt.isPtr e, op1 s tg x, op1 s tg y with
  | true, .tm _ (.ptr q p), .tm _ (.ptr q2 p2) => match Nat.beq q q2, s.get (.m q) with
    | true, .box _ T _ _ => match op with
      | .eql => some ⟨.val .bool (.u false) (Nat.beq (offP T p) (offP T p2)), s, false, none⟩
      | .neq => some ⟨.val .bool (.u false) (!(Nat.beq (offP T p) (offP T p2))), s, false, none⟩
      | _ => none
    | _, _ => none
  | _, _, _ => none
theorem ptrEqRes_sound (h : R n W0 w X F H s a) (ht : tg.ok a) (hp : pt.ok P) {op : BinOp} {e e2 : TypeId} {x y : Operand} (ho : o.op = .binOp op e x y e2) {r : Res} (hr : ptrEqRes pt s tg op e x y = some r) : SoundP P τ W0 w X F s a o r := by
  unfold ptrEqRes at hr
  split at hr
  · rename_i k q p k2 q2 p2 he hx hy
    split at hr
    · rename_i e' T f z hq hg
      have := Nat.eq_of_beq_eq_true hq
      subst this
      obtain ⟨_, hv⟩ := op1_vt h ht hx (by simp)
      obtain ⟨_, e1, T1, f1, x1, b1, S1, g1, g2, g3⟩ := hv
      obtain ⟨_, hv2⟩ := op1_vt h ht hy (by simp)
      obtain ⟨_, e2', T2, f2, x2, b2, S2, l1, l2, l3⟩ := hv2
      rw [hg] at g1 l1
      cases g1; cases l1
      rw [g2] at l2
      obtain ⟨rfl, rfl⟩ := List.cons.inj l2
      obtain ⟨e4, i4, hu4, hi4, hpos⟩ := PTab.isPtr_ok hp he
      have hcmp : ∀ w, (Op.equal e (.pointer (some ⟨b1, offP T p, none⟩)) (.pointer (some ⟨b1, offP T p2, none⟩))).run P w = .ok (Nat.beq (offP T p) (offP T p2)) w := fun w => by
        have h0 : i4.size ≠ 0 := by omega
        have hb : ((⟨b1, offP T p, none⟩ : Addr) == ⟨b1, offP T p2, none⟩) = Nat.beq (offP T p) (offP T p2) := by
          rw [Bool.eq_iff_iff]
          simp [Nat.beq_eq]
        obtain ⟨d, hd⟩ : ∃ d, Op.maxDepth = d + 1 := ⟨9999, rfl⟩
        unfold Op.equal
        rw [hd]
        simp only [Op.equalIn, Sem.run_bind, run_underlying hu4, Result.andThen_ok]
        simp [sizeOf, typeInfo, hi4, h0, sameAddr, hb]
      split at hr
      · simp only [Option.some.injEq] at hr
        subst hr
        refine soundP rfl fun _ => ⟨_, fun w' _ => ?_, vt_bool _⟩
        simp only [execOp, ho, g3, l3]
        simp [eqGuard, Go.binOp, hcmp w']
      · simp only [Option.some.injEq] at hr
        subst hr
        refine soundP rfl fun _ => ⟨_, fun w' _ => ?_, vt_bool _⟩
        simp only [execOp, ho, g3, l3]
        simp [eqGuard, Go.binOp, hcmp w']
      · cases hr
    · cases hr
  · cases hr

/-- is an error nil? -/
def errRes (pt : PTab) (s : St) (tg : Tags) (op : BinOp) (e : TypeId) (x y : Operand) : Option Res :=
  match pt.isErr e, readT s (op1 s tg x) .err, y with
  | true, some z, .const .nilIface => match op with
    | .eql => some ⟨.val .bool (.u false) z, s, false, none⟩
    | .neq => some ⟨.val .bool (.u false) (!z), s, false, none⟩
    | _ => none
  | _, _, _ => none
theorem errRes_sound (h : R n W0 w X F H s a) (ht : tg.ok a) (hp : pt.ok P) {op : BinOp} {e e2 : TypeId} {x y : Operand} (ho : o.op = .binOp op e x y e2) {r : Res} (hr : errRes pt s tg op e x y = some r) : SoundP P τ W0 w X F s a o r := by
  unfold errRes at hr
  split at hr
  · rename_i z he hl
    obtain ⟨ms, hu⟩ := PTab.isErr_ok hp he
    have hx : ∃ v, a.eval x = v ∧ ((z = true ∧ v = .nilIface) ∨ (z = false ∧ ∃ t u, v = .iface t u)) := by
      obtain ⟨vs, h1, h2⟩ := readT_sound h ht hl
      obtain ⟨⟨v, rfl, _, h3⟩, _⟩ : (∃ v, vs = [v] ∧ v.oneCell' = true ∧ ((z = true ∧ v = .nilIface) ∨ (z = false ∧ ∃ t u, v = .iface t u))) ∧ _ := h2
      exact ⟨v, h1, h3⟩
    obtain ⟨v, hv, hk⟩ := hx
    have hrun : ∀ w, (Op.equal e v .nilIface).run P w = .ok z w := fun w => by
      obtain ⟨d, hd⟩ : ∃ d, Op.maxDepth = d + 1 := ⟨9999, rfl⟩
      unfold Op.equal
      rw [hd]
      rcases hk with ⟨rfl, rfl⟩ | ⟨rfl, t, u, rfl⟩
      · simp only [Op.equalIn, Sem.run_bind, run_underlying hu, Result.andThen_ok]
        simp
      · simp only [Op.equalIn, Sem.run_bind, run_underlying hu, Result.andThen_ok]
        simp
    have hgd : ∀ op w, (eqGuard op e x (.const .nilIface) v .nilIface).run P w = .ok () w := fun op w => by
      unfold eqGuard
      rcases hk with ⟨rfl, rfl⟩ | ⟨rfl, t, u, rfl⟩ <;> cases op <;> simp
    split at hr
    · simp only [Option.some.injEq] at hr
      subst hr
      refine soundP rfl fun _ => ⟨.bool z, fun w' _ => ?_, vt_bool _⟩
      have hb : (Go.binOp .eql e v .nilIface).run P w' = .ok (.bool z) w' := by
        rcases hk with ⟨rfl, rfl⟩ | ⟨rfl, t, u, rfl⟩ <;> simp [Go.binOp, hrun w']
      have he0 : a.eval (.const .nilIface) = .nilIface := rfl
      simp only [execOp, ho, hv, he0, Sem.run_bind, hgd, Result.andThen_ok, hb, Sem.run_pure]
    · simp only [Option.some.injEq] at hr
      subst hr
      refine soundP rfl fun _ => ⟨.bool (!z), fun w' _ => ?_, vt_bool _⟩
      have hb : (Go.binOp .neq e v .nilIface).run P w' = .ok (.bool (!z)) w' := by
        rcases hk with ⟨rfl, rfl⟩ | ⟨rfl, t, u, rfl⟩ <;> simp [Go.binOp, hrun w']
      have he0 : a.eval (.const .nilIface) = .nilIface := rfl
      simp only [execOp, ho, hv, he0, Sem.run_bind, hgd, Result.andThen_ok, hb, Sem.run_pure]
    · cases hr
  · cases hr
end
end Go.Am
namespace Go.Am
theorem PTab.ok_none {P : Program} : ({} : PTab).ok P := ⟨by simp, by simp⟩
theorem PTab.ok_of {P : Program} {t : PTab} (h1 : (t.pp.all fun p => ppB P p.1 p.2) = true) (h2 : (t.er.all fun e => erB P e) = true) : t.ok P := ⟨fun p hp => List.all_eq_true.1 h1 p hp, fun e he => List.all_eq_true.1 h2 e he⟩
end Go.Am

