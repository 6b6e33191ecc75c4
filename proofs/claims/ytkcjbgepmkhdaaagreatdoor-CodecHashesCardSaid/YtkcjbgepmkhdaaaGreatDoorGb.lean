/- The ghost semantics is sound for heaps, code and calls; no condition. -/
import Derived.Test.YtkcjbgepmkhdaaaGreatDoorGa
import Derived.RangeFuncIn
set_option linter.unusedSimpArgs false
set_option linter.unusedVariables false
/- All operations of the class 'alloc'. -/
namespace Gh
open Go
section
variable {P : Program} {m : Mp}

theorem lt_flat {i n s : Nat} (h : i < n * s) : 0 < s := by
  rcases Nat.eq_zero_or_pos s with h0 | h0
  · rw [h0] at h; simp at h
  · exact h0

/-- A new object stands for a ghost object, wherever it is laid. -/
def NewObj (P : Program) (ρ : Operand → Value) (o : Oper) (m : Mp) (id : Nat) (g : GVal) (obj : GObj) : Prop :=
  ∀ w : World, ∃ (O : Obj) (u : Value) (d : Nat) (sz : Nat), OpRuns P ρ o w u { w with heap := w.heap.push O, drawn := d } ∧
    ∀ m' : Mp, MLe m m' → m' id = some ⟨w.heap.size, 0, sz⟩ → VR m' g u ∧ ORel m' ⟨w.heap.size, 0, sz⟩ obj O

theorem ORel_cells {m : Mp} {b : Nat} {cs : List GVal} {vs : List Value} {e : TypeId} (h : VRs m cs vs) : ORel m ⟨b, 0, cs.length⟩ (.cells cs .rw) (.cells vs.toArray e) := by
  refine ⟨vs.toArray, e, (0, 0), rfl, by simpa using h.length, by simpa using Nat.le_of_eq h.length.symm, fun i g hg => ?_, rfl⟩
  obtain ⟨v, h1, h2⟩ := h.get hg
  exact ⟨v, by simpa using h1, h2⟩

theorem zeros_VRs {m : Mp} {z : List GVal} {zv : List Value} (h : VRs m z zv) (n : Nat) : VRs m (zeros n z) ((List.replicate n zv).flatten) := by
  have gen : VRs m ((List.replicate n z).flatten) ((List.replicate n zv).flatten) := by
    induction n with
    | zero => rfl
    | succ n ih => simp only [List.replicate_succ, List.flatten_cons]; exact VRs_append h ih
  unfold zeros
  split
  · rename_i v
    have : (List.replicate n [v]).flatten = List.replicate n v := by
      clear gen h
      induction n with
      | zero => rfl
      | succ n ih => simp [List.replicate_succ, ih]
    rw [← this]; exact gen
  · exact gen

theorem flat_get {α : Type} (z : List α) (hz : 0 < z.length) : ∀ (n i : Nat), i < n * z.length → (List.replicate n z).flatten[i]? = z[i % z.length]? := by
  intro n
  induction n with
  | zero => intro i hi; simp at hi
  | succ n ih =>
    intro i hi
    simp only [List.replicate_succ, List.flatten_cons]
    by_cases hlt : i < z.length
    · rw [List.getElem?_append_left hlt, Nat.mod_eq_of_lt hlt]
    · rw [List.getElem?_append_right (Nat.le_of_not_lt hlt), ih (i - z.length) (by rw [Nat.succ_mul] at hi; omega)]
      congr 1
      rw [← Nat.mod_eq_sub_mod (by omega)]
theorem rangeMap_eq (n : Nat) (z : Array Value) (s : Nat) (hs : z.size = s) : ((Array.range (n * s)).map (z[· % z.size]!)).toList = (List.replicate n z.toList).flatten := by
  subst hs
  apply List.ext_getElem?
  intro i
  by_cases hi : i < n * z.size
  · have hz : 0 < z.size := lt_flat hi
    rw [flat_get z.toList (by simpa using hz) n i (by simpa using hi)]
    have hm : i % z.size < z.size := Nat.mod_lt _ hz
    simp [hi, hm]
  · have h1 : (List.replicate n z.toList).flatten.length = n * z.size := by simp
    rw [List.getElem?_eq_none (by simp; omega), List.getElem?_eq_none (by omega)]

theorem newRow_run {P : Program} {w : World} (e : TypeId) (cs : Array Value) : (newRow e cs).run P w = .ok ⟨w.heap.size, 0, none⟩ { w with heap := w.heap.push (.cells cs e) } := by
  simp [newRow]

theorem box_new {ρ : Operand → Value} {o : Oper} {v : Value} {g : GVal} {id : Nat} {e : TypeId} (hv : VR m g v) (hg : g.told = true)
    (he : ∀ w, (execOp ρ o).run P w = .ok (.value (.pointer (some ⟨w.heap.size, 0, none⟩))) { w with heap := w.heap.push (.cells v.cells e) }) :
    NewObj P ρ o m id (.ptr (some (id, 0))) (.cells g.cells .rw) := by
  intro w
  refine ⟨.cells v.cells e, .pointer (some ⟨w.heap.size, 0, none⟩), w.drawn, g.cells.length, .inl (he w), fun m' hm hid => ?_⟩
  refine ⟨⟨_, hid, rfl⟩, ?_⟩
  have := ORel_cells (b := w.heap.size) (e := e) ((hv.mono hm).cells hg)
  simpa using this

theorem buildSlice_run {t e : TypeId} {len s : Nat} {parts : Array (Nat × Value)} {zv : Value} {ds : Array Value} {w : World} (hu : P.underlying t = some (.slice e)) (hs : tsize P e = some s)
    (hl : ¬ len * s > 2 ^ 24) (hz : (zeroValue e).run P w = .ok zv w) (hzs : zv.cells.size = s)
    (hf : Instr.fill (fun i => some (i * s, s)) (List.replicate len zv.cells.toList).flatten.toArray parts.toList = some ds) :
    (Instr.buildSlice t len parts).run P w = .ok (.slice (some ⟨w.heap.size, 0, none⟩) len len) { w with heap := w.heap.push (.cells ds e) } := by
  have hcells : (Array.range (len * s)).map ((if len * s = 0 then #[] else zv.cells)[· % (if len * s = 0 then #[] else zv.cells).size]!) = (List.replicate len zv.cells.toList).flatten.toArray := by
    by_cases h0 : len * s = 0
    · have : (List.replicate len zv.cells.toList).flatten = [] := by
        apply List.eq_nil_of_length_eq_zero; simp [hzs, h0]
      rw [this, h0]; simp
    · rw [if_neg h0]
      apply Array.ext'
      rw [rangeMap_eq len zv.cells s hzs]
  unfold Instr.buildSlice
  simp only [Sem.run_bind, run_underlying hu, Result.andThen_ok, run_sizeOf hs]
  rw [if_neg hl]
  by_cases h0 : len * s = 0
  · rw [if_pos h0] at hcells ⊢
    simp only [Sem.run_bind, Sem.run_pure, Result.andThen_ok]
    rw [hcells, hf]
    simp only [Sem.run_bind, newRow_run, Result.andThen_ok, Sem.run_pure]
  · rw [if_neg h0] at hcells ⊢
    simp only [Sem.run_bind, hz, Sem.run_pure, Result.andThen_ok]
    rw [hcells, hf]
    simp only [Sem.run_bind, newRow_run, Result.andThen_ok, Sem.run_pure]

theorem execOp_buildSlice (ρ : Operand → Value) (dst : Option Tmp) (t : TypeId) (len : Nat) (parts : Array (Nat × Operand)) (ty : TypeId) (pos : String) (aft : Array Edge) (gd : Option (Nat × Bool)) :
    execOp ρ ⟨dst, .buildSlice t len parts, ty, pos, aft, gd⟩ = (do pure (Next.value (← Instr.buildSlice t len (parts.map fun (i, x) => (i, ρ x)))) : Sem Next) := rfl

theorem execOp_makeSlice (ρ : Operand → Value) (dst : Option Tmp) (t : TypeId) (l c : Operand) (ty : TypeId) (pos : String) (aft : Array Edge) (gd : Option (Nat × Bool)) :
    execOp ρ ⟨dst, .makeSlice t l c, ty, pos, aft, gd⟩ = (do pure (Next.value (← Instr.makeSlice t (ρ l) (ρ c))) : Sem Next) := rfl
theorem wrap_id {n : Int} (h0 : 0 ≤ n) (h1 : n ≤ 9223372036854775807) : IntKind.i64.wrap n = n := by
  have e1 : (2 ^ IntKind.i64.bits : Int) = 18446744073709551616 := by decide
  have e2 : (2 ^ (IntKind.i64.bits - 1) : Int) = 9223372036854775808 := by decide
  unfold IntKind.wrap
  rw [e1, e2]
  have h2 : n % 18446744073709551616 = n := Int.emod_eq_of_lt h0 (by omega)
  rw [h2, if_neg]
  simp only [IntKind.signed, Bool.true_and, decide_eq_true_eq, ge_iff_le]
  omega
theorem makeSlice_run {t e : TypeId} {s bytes : Nat} {zv : Value} {w : World} {kl kc : IntKind} {l c : Int} (hu : P.underlying t = some (.slice e)) (hs : tsize P e = some s) (hb : tbytes P e = some bytes)
    (hz : (zeroValue e).run P w = .ok zv w) (hzs : zv.cells.size = s) (h0 : 0 ≤ l) (h1 : l ≤ c) (h2 : c ≤ 9223372036854775807) (h3 : (bytes : Int) * c ≤ 70368744177664) :
    (Instr.makeSlice t (.int kl l) (.int kc c)).run P w = .ok (.slice (some ⟨w.heap.size, 0, none⟩) l.toNat c.toNat) { w with heap := w.heap.push (.cells (List.replicate c.toNat zv.cells.toList).flatten.toArray e) } := by
  obtain ⟨i, hi, rfl⟩ := run_bytes hb
  have hw1 := wrap_id (n := l) h0 (by omega)
  have hw2 := wrap_id (n := c) (by omega) h2
  have h5 : ¬ ((i.bytes : Int) * c > 2 ^ 48) := by
    have : (2 : Int) ^ 48 = 281474976710656 := by decide
    rw [this]; omega
  have ht : (decide (c < 0) || decide ((i.bytes : Int) * c > 2 ^ 48)) = false := by
    rw [Bool.or_eq_false_iff]; exact ⟨by simp; omega, by simpa using h5⟩
  unfold Instr.makeSlice
  simp only [asInt, asIntOf, Sem.run_bind, run_underlying hu, Result.andThen_ok, Sem.run_pure, run_typeInfo hi, hw1, hw2, ht, Bool.false_or]
  rw [if_neg (by simp; omega)]
  simp only [Sem.run_bind, run_askRoom, Result.andThen_ok, run_sizeOf hs]
  by_cases hn : c.toNat * s = 0
  · rw [if_pos hn]
    simp only [Sem.run_bind, Sem.run_pure, Result.andThen_ok, newRow_run]
    have : (List.replicate c.toNat zv.cells.toList).flatten = [] := by
      apply List.eq_nil_of_length_eq_zero; simp [hzs, hn]
    have h7 : (Array.range (c.toNat * s)).size = 0 := by simp [hn]
    have h8 : Array.range (c.toNat * s) = #[] := Array.eq_empty_of_size_eq_zero h7
    rw [this, h8, Array.map_empty]
  · rw [if_neg hn]
    simp only [Sem.run_bind, hz, Sem.run_pure, Result.andThen_ok, newRow_run]
    have : (Array.range (c.toNat * s)).map (zv.cells[· % zv.cells.size]!) = (List.replicate c.toNat zv.cells.toList).flatten.toArray := by
      apply Array.ext'
      rw [rangeMap_eq c.toNat zv.cells s hzs]
    rw [this]

theorem toBytes_run {w : World} {src dst e : TypeId} {ds : TypeDesc} (h1 : P.underlying src = some ds) (h2 : P.underlying dst = some (.slice e)) (h3 : P.underlying e = some (.int .u8)) (s : List UInt8) :
    ∃ cap, s.length ≤ cap ∧ (convert src dst (.string ⟨s.toArray⟩)).run P w =
      .ok (.slice (some ⟨w.heap.size, 0, none⟩) s.length cap)
        { w with heap := w.heap.push (.cells ((s.map fun b => Value.int .u8 b.toNat).toArray ++ Array.replicate (cap - s.length) (.int .u8 0)) e (cap, cap + 1)), drawn := w.drawn + 1 } := by
  refine ⟨(Question.appendCap s.length 0 e).cut (w.tape w.drawn (.appendCap s.length 0 e)), ?_, ?_⟩
  · simp only [Question.cut]; omega
  · have hsz : (ByteArray.mk s.toArray).size = s.length := by simp [ByteArray.size]
    have hc : (convert src dst (.string ⟨s.toArray⟩)).run P w = (Conv.stringToBytes e ⟨s.toArray⟩).run P w := by
      simp only [convert, Sem.run_bind, run_underlying h1, run_underlying h2, Result.andThen_ok]
      cases ds <;> simp only [Sem.run_bind, run_underlying h3, Result.andThen_ok]
    rw [hc]
    generalize hcap : (Question.appendCap s.length 0 e).cut (w.tape w.drawn (.appendCap s.length 0 e)) = cap
    have hle : s.length ≤ cap := by rw [← hcap]; simp only [Question.cut]; omega
    simp only [Conv.stringToBytes, Sem.run_bind, run_choose, hsz, hcap]
    rw [if_neg (by simp [Question.forced])]
    simp only [Result.andThen_ok, newRow_run, markStringish, Sem.run_bind, run_shape, World.shape?, Array.getElem?_push_size, run_freeze, World.freeze, Sem.run_pure]
    rw [if_neg (by omega)]
    have hz : ((s.toArray.map fun b => Value.int .u8 b.toNat) ++ Array.replicate (cap - s.length) (Value.int .u8 0)).size = cap := by simp; omega
    congr 1
    simp only [World.mk.injEq, and_true, true_and]
    apply Array.ext
    · simp
    · intro i hi1 hi2
      simp only [Array.getElem_modify, Array.getElem_push]
      split
      · rename_i he
        subst he
        simp
        omega
      · rename_i he
        have : i < w.heap.size := by simp at hi1; omega
        simp [this]

theorem alloc_sound {ρ : Operand → Value} {ev : Operand → GVal} (hev : EvR m ev ρ) {o : Oper} {h h' : GHeap} {g : GVal} (hc : opClass P o = .alloc) (hg : (gop P ev o h).opt = some (g, h')) :
    ∃ obj, h' = h ++ [obj] ∧ obj.wr = true ∧ NewObj P ρ o m h.length g obj := by
  obtain ⟨dst, op, ty, pos, aft, gd⟩ := o
  cases op with
  | alloc e =>
    simp only [gop] at hg
    split at hg
    · rename_i z hz
      cases hg
      obtain ⟨hzt, _, zv, hzrun, hzr⟩ := run_zero hz
      refine ⟨_, rfl, rfl, box_new (e := e) (hzr m) hzt fun w => ?_⟩
      simp only [execOp, Instr.alloc, Sem.run_bind, hzrun w, Result.andThen_ok, newVar, newRow_run, Sem.run_pure]
    · cases hg
  | box e x =>
    simp only [gop] at hg
    split at hg
    · rename_i ht
      cases hg
      refine ⟨_, rfl, rfl, box_new (e := e) (hev x) ht fun w => ?_⟩
      simp only [execOp, Instr.box, Sem.run_bind, Result.andThen_ok, newVar, newRow_run, Sem.run_pure]
    · cases hg
  | buildSlice t len parts =>
    simp only [gop] at hg
    split at hg
    · rename_i ht
      split at hg
      · rename_i e hu
        split at hg
        · rename_i s z hs hz
          split at hg
          · rename_i hl
            split at hg
            · rename_i cs hf
              cases hg
              obtain ⟨hzt, _, zv, hzrun, hzr⟩ := run_zero hz
              have h1 : (parts.toList.map fun (i, x) => (i, ev x)).map (·.1) = (parts.toList.map fun (i, x) => (i, ρ x)).map (·.1) := by simp
              have h2 : VRs m ((parts.toList.map fun (i, x) => (i, ev x)).map (·.2)) ((parts.toList.map fun (i, x) => (i, ρ x)).map (·.2)) := by
                have := args_of hev (parts.toList.map (·.2))
                rw [List.map_map, List.map_map] at this
                rw [List.map_map, List.map_map]
                exact this
              have hzc := (hzr m).cells hzt
              have hzs : zv.cells.size = s := by have := hzc.length; simp at this; omega
              obtain ⟨ds', hf', hds⟩ := gfill_sound (fun i => some (i * s, s)) (fun i => some (i * s, s)) _ (parts.toList.map fun (i, x) => (i, ρ x)) (zeros len z.cells) cs
                (List.replicate len zv.cells.toList).flatten.toArray ht h1 h2 (by simpa using zeros_VRs hzc len) (fun i x hx => hx) hf
              refine ⟨.cells cs .rw, rfl, rfl, ?_⟩
              intro w
              refine ⟨.cells ds' e, .slice (some ⟨w.heap.size, 0, none⟩) len len, w.drawn, cs.length, ?_, ?_⟩
              · refine runs_v (execOp_buildSlice ..) ?_
                refine buildSlice_run hu hs (by omega) (hzrun w) hzs ?_
                rw [Array.toList_map]
                exact hf'
              · intro m' hm hid
                refine ⟨⟨_, len, 0, hid, rfl, fun _ => rfl, rfl⟩, ?_⟩
                have := ORel_cells (b := w.heap.size) (e := e) (VRs.mono hm _ _ hds)
                simpa using this
            · cases hg
          · cases hg
        · cases hg
      · cases hg
    · cases hg
  | makeMap t r =>
    cases r with
    | none =>
      cases hg
      refine ⟨_, rfl, rfl, fun w => ⟨.map #[] 0, .map (some w.heap.size), w.drawn, 0, .inl ?_, fun m' hm hid => ⟨⟨_, hid, rfl⟩, ⟨#[], 0, rfl, rfl⟩⟩⟩⟩
      simp [execOp, Instr.makeMap]
    | some x =>
      simp only [gop] at hg
      split at hg
      · rename_i k e k' n hu hx
        cases hg
        have hx' := hev x
        rw [hx] at hx'
        refine ⟨_, rfl, rfl, fun w => ⟨.map #[] 0, .map (some w.heap.size), w.drawn, 0, .inl ?_, fun m' hm hid => ⟨⟨_, hid, rfl⟩, ⟨#[], 0, rfl, rfl⟩⟩⟩⟩
        simp only [VR] at hx'
        simp [execOp, Instr.makeMap, run_underlying hu, hx', asInt, asIntOf]
      · cases hg
  | makeSlice t l c =>
    simp only [gop] at hg
    split at hg
    · rename_i e kl li kc ci hu hl hcc
      split at hg
      · rename_i s bytes z hs hby hz
        split at hg
        · rename_i hzl
          obtain ⟨⟨h0, h1, h2, h3⟩, hg2⟩ := req_opt hg
          cases hg2
          obtain ⟨hzt, _, zv, hzrun, hzr⟩ := run_zero hz
          have hl' := hev l; rw [hl] at hl'; simp only [VR] at hl'
          have hc' := hev c; rw [hcc] at hc'; simp only [VR] at hc'
          have hzc := (hzr m).cells hzt
          have hzs : zv.cells.size = s := by have := hzc.length; simp at this; omega
          refine ⟨.cells (zeros ci.toNat z.cells) .rw, rfl, rfl, ?_⟩
          intro w
          refine ⟨.cells (List.replicate ci.toNat zv.cells.toList).flatten.toArray e, .slice (some ⟨w.heap.size, 0, none⟩) li.toNat ci.toNat, w.drawn, (zeros ci.toNat z.cells).length, ?_, ?_⟩
          · refine runs_v (execOp_makeSlice ..) ?_
            rw [hl', hc']
            exact makeSlice_run hu hs hby (hzrun w) hzs h0 h1 h2 h3
          · intro m' hm hid
            refine ⟨⟨_, ci.toNat, 0, hid, rfl, fun _ => rfl, rfl⟩, ?_⟩
            exact ORel_cells (b := w.heap.size) (e := e) (VRs.mono hm _ _ (zeros_VRs hzc ci.toNat))
        · cases hg
      · cases hg
    · cases hg
  | range t x =>
    simp only [gop] at hg
    split at hg
    · rename_i s hu hx
      cases hg
      have hx' := hev x
      rw [hx] at hx'
      simp only [VR] at hx'
      refine ⟨_, rfl, rfl, fun w => ⟨.stringIter ⟨s.toArray⟩ 0, .pointer (some ⟨w.heap.size, 0, none⟩), w.drawn, 0, .inl ?_, fun m' hm hid => ⟨⟨_, hid, rfl⟩, rfl, rfl⟩⟩⟩
      simp [execOp, Instr.range, run_underlying hu, hx']
    · cases hg
  | convert s d x =>
    simp only [gop, gconvert] at hg
    split at hg
    · rename_i e0 h1
      simp [opClass, h1] at hc
    · rename_i ds hns h1
      have nal : (∀ e, P.underlying d ≠ some (.slice e)) → False := by
        intro hno
        simp only [opClass, h1] at hc
        repeat' split at hc
        all_goals first
          | (cases hc; done)
          | (rename_i e he; exact hno e he)
          | (rename_i e he _; exact hno e he)
      split at hg
      · rename_i k k' n h2 hx
        exact (nal fun e he => by rw [h2] at he; cases he).elim
      · rename_i k' n h2 hx
        exact (nal fun e he => by rw [h2] at he; cases he).elim
      · rename_i s' h2 hx
        exact (nal fun e he => by rw [h2] at he; cases he).elim
      · rename_i e s' h2 hx
        split at hg
        · rename_i hu
          cases hg
          have hx' := hev x; rw [hx] at hx'; simp only [VR] at hx'
          refine ⟨_, rfl, rfl, ?_⟩
          intro w
          obtain ⟨cap, hcap, hrun⟩ := toBytes_run (P := P) (w := w) (src := s) (dst := d) h1 h2 hu s'
          refine ⟨_, _, _, cap, runs_v (s := convert s d (ρ x)) rfl (by rw [hx']; exact hrun), ?_⟩
          intro m' hm hid
          refine ⟨⟨_, cap, 0, hid, rfl, fun _ => rfl, hcap, ?_⟩, ?_⟩
          · show 0 + cap * 1 ≤ cap; omega
          · refine ⟨_, e, _, rfl, ?_, ?_, ?_, ?_⟩
            · simp; omega
            · simp
            · intro i g hg
              simp only [List.getElem?_map, Option.map_eq_some_iff] at hg
              obtain ⟨b, hb, rfl⟩ := hg
              refine ⟨.int .u8 b.toNat, ?_, rfl⟩
              have hi : i < s'.length := (List.getElem?_eq_some_iff.1 hb).1
              rw [Array.getElem?_append_left (by simpa using hi)]
              simp [hb]
            · right; simp; omega
        · cases hg
      · cases hg
    · cases hg
  | binOp op t x y t2 => cases op <;> simp only [opClass] at hc <;> first | (cases hc; done) | (split at hc <;> cases hc)
  | call c =>
    obtain ⟨callee, args, ats⟩ := c
    cases callee with
    | builtin b =>
      cases b <;> simp only [opClass, reduceCtorEq] at hc
      split at hc <;> cases hc
    | _ => simp [opClass] at hc
  | _ => simp [opClass] at hc
end
end Gh

/- How heaps go on: a new object, a changed one. -/
namespace Gh
open Go
section
variable {gl : Nat → Option Nat} {m : Mp} {h : GHeap} {w : World}

theorem Rep.dom' (R : Rep gl m h w) {id : Nat} {L : Loc} (hm : m id = some L) : ∃ o, h[id]? = some o :=
  ⟨h[id]'(R.dom id L hm), List.getElem?_eq_getElem (R.dom id L hm)⟩

/-- Only the tape has moved. -/
theorem Rep.drawn (R : Rep gl m h w) (d : Nat) : Rep gl m h { w with drawn := d } := ⟨R.dom, R.here, R.rel, R.inj, R.glob⟩
theorem Ext.drawn {m' : Mp} {h' : GHeap} {w' : World} (E : Ext m h w m' h' w') (d : Nat) : Ext m h w m' h' { w' with drawn := d } :=
  ⟨E.size, E.os, E.out, E.len, E.mext, E.new, E.keep, E.stay, E.virt⟩

def Mp.set (m : Mp) (id : Nat) (L : Loc) : Mp := fun i => if i = id then some L else m i
theorem Mp.set_self (m : Mp) (id : Nat) (L : Loc) : m.set id L id = some L := by simp [Mp.set]
theorem Mp.set_le {m : Mp} {id : Nat} {L : Loc} (h : m id = none) : MLe m (m.set id L) := by
  intro i K hi
  unfold Mp.set
  split
  · rename_i e; subst e; rw [h] at hi; cases hi
  · exact hi

/-- The heap is longer by blocks that nothing stands for. -/
theorem Rep.junk (R : Rep gl m h w) {w' : World} (hs : ∀ b : Nat, b < w.heap.size → w'.heap[b]? = w.heap[b]?) (hsz : w.heap.size ≤ w'.heap.size) : Rep gl m h w' :=
  ⟨R.dom, fun id L hL => Nat.lt_of_lt_of_le (R.here id L hL) hsz, fun id L o hL ho => by
    obtain ⟨o', h1, h2⟩ := R.rel id L o hL ho
    exact ⟨o', by rw [hs _ (R.here id L hL)]; exact h1, h2⟩, R.inj, R.glob⟩

theorem push_old {w : World} {O : Obj} {b : Nat} (hb : b < w.heap.size) : (w.heap.push O)[b]? = w.heap[b]? := by
  rw [Array.getElem?_push_lt hb, Array.getElem?_eq_getElem hb]

/-- A new object for a number that is in the heap and has no place yet. -/
theorem Rep.realize (R : Rep gl m h w) {id sz d : Nat} {obj : GObj} {O : Obj} (hid : h[id]? = some obj) (hn : m id = none) (hw : obj.wr = true)
    (ho : ORel (m.set id ⟨w.heap.size, 0, sz⟩) ⟨w.heap.size, 0, sz⟩ obj O) :
    Rep gl (m.set id ⟨w.heap.size, 0, sz⟩) h { w with heap := w.heap.push O, drawn := d } := by
  have hle : MLe m (m.set id ⟨w.heap.size, 0, sz⟩) := Mp.set_le hn
  have hidl : id < h.length := (List.getElem?_eq_some_iff.1 hid).1
  have inv : ∀ i L, (m.set id ⟨w.heap.size, 0, sz⟩) i = some L → (i = id ∧ L = ⟨w.heap.size, 0, sz⟩) ∨ (i ≠ id ∧ m i = some L) := by
    intro i L hL
    unfold Mp.set at hL
    split at hL
    · rename_i e; cases hL; exact .inl ⟨e, rfl⟩
    · rename_i e; exact .inr ⟨e, hL⟩
  refine ⟨?_, ?_, ?_, ?_, ?_⟩
  · intro i L hL
    rcases inv i L hL with ⟨rfl, _⟩ | ⟨_, h1⟩
    · exact hidl
    · exact R.dom i L h1
  · intro i L hL
    rcases inv i L hL with ⟨rfl, rfl⟩ | ⟨_, h1⟩
    · simp
    · have := R.here i L h1; simp; omega
  · intro i L o hL hi
    rcases inv i L hL with ⟨rfl, rfl⟩ | ⟨_, h1⟩
    · rw [hid] at hi; cases hi
      exact ⟨O, by simp, ho⟩
    · obtain ⟨o', g1, g2⟩ := R.rel i L o h1 hi
      exact ⟨o', by simp only []; rw [push_old (R.here i L h1)]; exact g1, g2.mono hle⟩
  · intro i j L L' a b hi hj ha hb hwa hlb hbl
    rcases inv i L hi with ⟨rfl, rfl⟩ | ⟨_, h1⟩
    · rcases inv j L' hj with ⟨rfl, _⟩ | ⟨_, h2⟩
      · rfl
      · have := R.here j L' h2; simp at hbl; omega
    · rcases inv j L' hj with ⟨rfl, rfl⟩ | ⟨_, h2⟩
      · have := R.here i L h1; simp at hbl; omega
      · exact R.inj i j L L' a b h1 h2 ha hb hwa hlb hbl
  · intro g i hg
    obtain ⟨L, h1, h2⟩ := R.glob g i hg
    exact ⟨L, hle _ _ h1, h2⟩

theorem Rep.none_of_ge (R : Rep gl m h w) {id : Nat} (hi : h.length ≤ id) : m id = none := by
  cases hm : m id with
  | none => rfl
  | some L => have := R.dom id L hm; omega

theorem Rep.grow (R : Rep gl m h w) (obj : GObj) : Rep gl m (h ++ [obj]) w := by
  refine ⟨fun id L hL => by have := R.dom id L hL; simp; omega, R.here, ?_, ?_, R.glob⟩
  · intro id L o hL ho
    rw [List.getElem?_append_left (R.dom id L hL)] at ho
    exact R.rel id L o hL ho
  · intro i j L L' a b hi hj ha hb
    rw [List.getElem?_append_left (R.dom i L hi)] at ha
    rw [List.getElem?_append_left (R.dom j L' hj)] at hb
    exact R.inj i j L L' a b hi hj ha hb

theorem Rep.push (R : Rep gl m h w) {sz d : Nat} {obj : GObj} {O : Obj} (hw : obj.wr = true)
    (ho : ORel (m.set h.length ⟨w.heap.size, 0, sz⟩) ⟨w.heap.size, 0, sz⟩ obj O) :
    Rep gl (m.set h.length ⟨w.heap.size, 0, sz⟩) (h ++ [obj]) { w with heap := w.heap.push O, drawn := d } :=
  (R.grow obj).realize (by simp) (R.none_of_ge (Nat.le_refl _)) hw ho

theorem Ext.push (R : Rep gl m h w) {sz d : Nat} {obj : GObj} {O : Obj} :
    Ext m h w (m.set h.length ⟨w.heap.size, 0, sz⟩) (h ++ [obj]) { w with heap := w.heap.push O, drawn := d } where
  size := by simp
  os := rfl
  out := rfl
  len := by simp
  mext := fun id hid => by unfold Mp.set; rw [if_neg (by omega)]
  new := fun id L hL => by
    unfold Mp.set at hL
    split at hL
    · cases hL; exact .inr (.inl (Nat.le_refl _))
    · exact .inl (R.dom id L hL)
  keep := fun b hb _ => push_old hb
  stay := fun id o ho _ => by rw [List.getElem?_append_left (List.getElem?_eq_some_iff.1 ho).1]; exact ho
  virt := fun id hid _ => List.getElem?_append_left hid

/-- One object changes, and its block. -/
theorem Rep.change (R : Rep gl m h w) {id : Nat} {L : Loc} {old obj : GObj} {O : Obj} {w' : World} (hm : m id = some L) (ho : h[id]? = some old) (hwr : old.wr = true)
    (hsz : w'.heap.size = w.heap.size) (hO : obj.live = true → w'.heap[L.block]? = some O ∧ ORel m L obj O) (hrest : ∀ b : Nat, b ≠ L.block → w'.heap[b]? = w.heap[b]?) :
    Rep gl m (h.set id obj) w' := by
  have hidl := (List.getElem?_eq_some_iff.1 ho).1
  have get : ∀ (i : Nat) (o : GObj), (h.set id obj)[i]? = some o → (i = id ∧ o = obj) ∨ (i ≠ id ∧ h[i]? = some o) := by
    intro i o hi
    by_cases e : i = id
    · subst e
      rw [List.getElem?_set_self hidl] at hi; cases hi; exact .inl ⟨rfl, rfl⟩
    · rw [List.getElem?_set_ne (fun e' => e e'.symm)] at hi
      exact .inr ⟨e, hi⟩
  refine ⟨fun i K hK => by rw [List.length_set]; exact R.dom i K hK, fun i K hK => by rw [hsz]; exact R.here i K hK, ?_, ?_, R.glob⟩
  · intro i K o hK hi
    rcases get i o hi with ⟨rfl, rfl⟩ | ⟨hne, hi'⟩
    · rw [hm] at hK; cases hK
      cases hl : o.live with
      | true => obtain ⟨g1, g2⟩ := hO hl; exact ⟨O, g1, g2⟩
      | false =>
        cases o <;> simp [GObj.live] at hl
        have hb : L.block < w'.heap.size := by rw [hsz]; exact R.here _ L hm
        exact ⟨w'.heap[L.block], Array.getElem?_eq_getElem hb, trivial⟩
    · obtain ⟨o', g1, g2⟩ := R.rel i K o hK hi'
      cases hl : o.live with
      | true =>
        have hb : K.block ≠ L.block := by
          intro e
          exact hne (R.inj id i L K old o hm hK ho hi' hwr hl e.symm).symm
        exact ⟨o', by rw [hrest _ hb]; exact g1, g2⟩
      | false =>
        cases o <;> simp [GObj.live] at hl
        have hb : K.block < w'.heap.size := by rw [hsz]; exact R.here _ K hK
        exact ⟨w'.heap[K.block], Array.getElem?_eq_getElem hb, trivial⟩
  · intro i j K K' a b hi hj ha hb hwa hlb hbl
    rcases get i a ha with ⟨rfl, rfl⟩ | ⟨hne, ha'⟩
    · rcases get j b hb with ⟨rfl, _⟩ | ⟨hne', hb'⟩
      · rfl
      · exact R.inj _ _ K K' old b hi hj ho hb' hwr hlb hbl
    · rcases get j b hb with ⟨rfl, rfl⟩ | ⟨hne', hb'⟩
      · exact R.inj _ _ K K' a old hi hj ha' ho hwa (GObj.live_of_wr hwr) hbl
      · exact R.inj _ _ K K' a b hi hj ha' hb' hwa hlb hbl

theorem Ext.change (R : Rep gl m h w) {id : Nat} {L : Loc} {old obj : GObj} {w' : World} (hm : m id = some L) (ho : h[id]? = some old) (hwr : old.wr = true)
    (hsz : w'.heap.size = w.heap.size) (hos : w'.os = w.os) (hout : w'.output = w.output) (hrest : ∀ b : Nat, b ≠ L.block → w'.heap[b]? = w.heap[b]?) :
    Ext m h w m (h.set id obj) w' where
  size := Nat.le_of_eq hsz.symm
  os := hos
  out := hout
  len := by simp
  mext := fun _ _ => rfl
  new := fun i K hK => .inl (R.dom i K hK)
  keep := fun b _ hno => hrest b fun e => hno id L old hm ho hwr e.symm
  stay := fun i o hi hf => by
    have hne : i ≠ id := by rintro rfl; rw [ho] at hi; cases hi; rw [hwr] at hf; cases hf
    rw [List.getElem?_set_ne (fun e => hne e.symm)]; exact hi
  virt := fun i _ hn => by
    have hne : i ≠ id := by rintro rfl; rw [hm] at hn; cases hn
    exact List.getElem?_set_ne (fun e => hne e.symm)
end
end Gh

/- Stores, append, copy, maps: the operations that write. -/
namespace Gh
open Go
section
variable {P : Program} {gl : Nat → Option Nat} {m : Mp} {h : GHeap} {w : World}

/-- Ghost cells against the cells of a block from a base on. -/
def PR (m : Mp) (base : Nat) (cs : List GVal) (c : Array Value) : Prop := ∀ (i : Nat) (g : GVal), cs[i]? = some g → ∃ v, c[base + i]? = some v ∧ VR m g v

theorem PR.set {base : Nat} {cs : List GVal} {c : Array Value} (hp : PR m base cs c) {off : Nat} {g : GVal} {v : Value} (hg : VR m g v) (hoff : base + off < c.size) :
    PR m base (cs.set off g) (c.setIfInBounds (base + off) v) := by
  intro i g' hi
  by_cases e : i = off
  · subst e
    have hl : i < cs.length := by
      have := (List.getElem?_eq_some_iff.1 hi).1; simpa using this
    rw [List.getElem?_set_self hl] at hi; cases hi
    exact ⟨v, by simp [hoff], hg⟩
  · rw [List.getElem?_set_ne (fun e' => e e'.symm)] at hi
    obtain ⟨v', h1, h2⟩ := hp i g' hi
    refine ⟨v', ?_, h2⟩
    rw [Array.getElem?_setIfInBounds_ne (by omega)]; exact h1

def unfrozen (fr : Nat × Nat) (n : Nat) : Prop := fr.2 ≤ fr.1 ∨ n ≤ fr.1

theorem frozen_no {b off : Nat} {c : Array Value} {e : TypeId} {fr : Nat × Nat} (hb : w.heap[b]? = some (.cells c e fr)) (hf : unfrozen fr c.size) (ho : off < c.size) :
    w.frozen? ⟨b, off, none⟩ = false := by
  obtain ⟨lo, hi⟩ := fr
  simp only [World.frozen?, hb]
  simp only [unfrozen] at hf
  by_cases h1 : lo ≤ off
  · have : ¬ off < hi := by omega
    simp [this]
  · simp [h1]

theorem setCell_heap {b off : Nat} {c : Array Value} {e : TypeId} {fr : Nat × Nat} {v : Value} (hb : w.heap[b]? = some (.cells c e fr)) :
    (w.setCell ⟨b, off, none⟩ v).heap[b]? = some (.cells (c.setIfInBounds off v) e fr) := by
  have hlt : b < w.heap.size := by
    rcases Nat.lt_or_ge b w.heap.size with h | h
    · exact h
    · rw [Array.getElem?_eq_none h] at hb; cases hb
  simp [World.setCell, Array.getElem?_modify, hb]

theorem setCell_other {b b' off : Nat} {v : Value} (hne : b' ≠ b) : (w.setCell ⟨b, off, none⟩ v).heap[b']? = w.heap[b']? := by
  simp only [World.setCell, Array.getElem?_modify]
  rw [if_neg (fun e => hne e.symm)]

theorem storeCells_run {P : Program} {b o : Nat} {e : TypeId} {fr : Nat × Nat} {base : Nat} {off : Nat} (ho : o = base + off) : ∀ (gs : List GVal) (vs : List Value) (i : Nat) (c : Array Value) (cs : List GVal) (w : World),
    VRs m gs vs → allCell gs = true → w.heap[b]? = some (.cells c e fr) → unfrozen fr c.size → o + i + vs.length ≤ c.size → PR m base cs c →
    ∃ w' c', (storeCells ⟨b, o, none⟩ vs i).run P w = .ok () w' ∧ w'.heap[b]? = some (.cells c' e fr) ∧ c'.size = c.size ∧ PR m base (setMany cs (off + i) gs) c' ∧
      (∀ b' : Nat, b' ≠ b → w'.heap[b']? = w.heap[b']?) ∧ w'.heap.size = w.heap.size ∧ w'.os = w.os ∧ w'.output = w.output := by
  intro gs
  induction gs with
  | nil =>
    intro vs i c cs w hv _ hb _ _ hp
    cases hv
    exact ⟨w, c, rfl, hb, rfl, hp, fun _ _ => rfl, rfl, rfl, rfl⟩
  | cons g gs ih =>
    intro vs i c cs w hv hc hb hf hle hp
    obtain ⟨v, vs, rfl, h1, h2⟩ := hv
    simp only [allCell, Bool.and_eq_true] at hc
    simp only [List.length_cons] at hle
    have hone := h1.oneCell hc.1
    have hcell : w.cell? ⟨b, o + i, none⟩ = some c[o + i] := by
      simp [World.cell?, hb, Array.getElem?_eq_getElem (show o + i < c.size by omega)]
    have hfz : w.frozen? ⟨b, o + i, none⟩ = false := frozen_no hb hf (by omega)
    have hst : (store ⟨b, o + i, none⟩ v).run P w = .ok () (w.setCell ⟨b, o + i, none⟩ v) := by
      rw [run_store _ _ _ _ _ hone, hcell]
      simp [hfz]
    have hb1 := setCell_heap (w := w) (off := o + i) (v := v) hb
    obtain ⟨w', c', g1, g2, g3, g4, g5, g6, g7, g8⟩ := ih vs (i + 1) (c.setIfInBounds (o + i) v) (cs.set (off + i) g) (w.setCell ⟨b, o + i, none⟩ v) h2 hc.2 hb1 (by simpa using hf) (by simp; omega)
      (by subst ho; rw [Nat.add_assoc]; exact hp.set h1 (by omega))
    refine ⟨w', c', ?_, g2, by rw [g3]; simp, ?_, fun b' hne => by rw [g5 b' hne, setCell_other hne], by rw [g6]; simp [World.setCell], by rw [g7]; rfl, by rw [g8]; rfl⟩
    · simp only [storeCells, Sem.run_bind, Addr.add_none, hst, Result.andThen_ok]; exact g1
    · simp only [setMany]; rw [Nat.add_assoc]; exact g4

theorem modeOk.unfrozen {mode : CM} {fr : Nat × Nat} {n : Nat} (h : modeOk mode fr n) (hm : mode ≠ .ro) : unfrozen fr n := by
  cases mode with
  | rw => exact .inl (Nat.le_of_eq (Eq.symm h))
  | sb => exact h.elim (fun h => .inl (Nat.le_of_eq h.symm)) .inr
  | ro => exact absurd rfl hm

/-- Storing cells into an object. -/
theorem gstore_sound (R : Rep gl m h w) {id off : Nat} {L : Loc} {gs : List GVal} {vs : List Value} {h' : GHeap} (hm : m id = some L) (hv : VRs m gs vs) (hg : gstore h id off gs = some h') :
    ∃ w', (storeCells ⟨L.block, L.base + off, none⟩ vs).run P w = .ok () w' ∧ Rep gl m h' w' ∧ Ext m h w m h' w' := by
  unfold gstore at hg
  split at hg
  · rename_i cs mode ho
    split at hg
    · rename_i hc
      obtain ⟨hmode, hle, hall⟩ := hc
      cases hg
      obtain ⟨c, e, fr, h1, h2, h3, h4, h5⟩ := R.cells hm ho
      have hlen := hv.length
      obtain ⟨w', c', g1, g2, g3, g4, g5, g6, g7, g8⟩ := storeCells_run (P := P) (o := L.base + off) rfl gs vs 0 c cs w hv hall h1 (h5.unfrozen hmode) (by omega) h4
      have hwr : (GObj.cells cs mode).wr = true := by simp [GObj.wr, hmode]
      refine ⟨w', g1, R.change hm ho hwr g6 (fun _ => ⟨g2, c', e, fr, rfl, by rw [g3, h2], ?_, g4, by rw [g3]; exact h5⟩) g5, Ext.change R hm ho hwr g6 g7 g8 g5⟩
      rw [setMany_length, g3]; exact h3
    · cases hg
  · cases hg

theorem gsrc_sound (R : Rep gl m h w) {size n : Nat} {x : GVal} {u : Value} {gs : List GVal} (hx : VR m x u) (hg : gsrc h size n x = some gs) :
    ∃ vs, (∀ w' : World, w'.heap = w.heap → (Builtin.firstCells size n u).run P w' = .ok vs.toArray w') ∧ VRs m gs vs ∧ vs.length = n * size := by
  unfold gsrc at hg
  split at hg
  · rename_i id off len cap op
    obtain ⟨L, c, o, hL, rfl, ho, hc⟩ := hx
    split at hg
    · rename_i h0
      cases hg
      exact ⟨[], fun w' _ => by simp [Builtin.firstCells, h0, loadCells, loadCellsFrom], rfl, by simp [h0]⟩
    · split at hg
      · rename_i hpos
        have := ho hpos
        subst this
        obtain ⟨vs, g1, g2, g3⟩ := gloads_cells (P := P) R hL hg
        exact ⟨vs, fun w' hw' => by simpa [Builtin.firstCells] using g1 w' hw', g2, g3⟩
      · cases hg
  · obtain ⟨rfl, _⟩ := hx
    split at hg
    · rename_i h0
      cases hg
      exact ⟨[], fun w' _ => by simp [Builtin.firstCells], rfl, by simp [h0]⟩
    · cases hg
  · rename_i s
    cases hx
    split at hg
    · rename_i h0
      cases hg
      refine ⟨(s.take n).map fun b => .int .u8 b.toNat, fun w' _ => ?_, ?_, ?_⟩
      · simp only [Builtin.firstCells, Sem.run_pure]
        congr 1
        apply Array.ext'
        simp [ByteArray.data_extract, List.extract_eq_take_drop]
      · generalize s.take n = l
        induction l with
        | nil => rfl
        | cons b l ih => exact ⟨_, _, rfl, rfl, ih⟩
      · simp [h0.1]; omega
    · cases hg
  · cases hg

theorem rangeMap_eq' (n : Nat) (z : Array Value) (s : Nat) (hs : z.size = s) : ((Array.range (n * s)).map fun i => z[i % s]!).toList = (List.replicate n z.toList).flatten := by
  have := rangeMap_eq n z s hs
  rw [hs] at this; exact this

theorem lenOf_sound {x : GVal} {u : Value} {n : Nat} (hx : VR m x u) (hg : glenOf x = some n) (w : World) : (Builtin.lenOf u).run P w = .ok n w := by
  unfold glenOf at hg
  split at hg
  · rename_i a n' c o
    cases hg
    cases a with
    | none => obtain ⟨rfl, _⟩ := hx; rfl
    | some p => obtain ⟨L, c, o, _, rfl, _⟩ := hx; rfl
  · cases hg; cases hx
    simp [Builtin.lenOf, ByteArray.size]
  · cases hg

theorem growBy_le (newLen : Nat) : ∀ (r c : Nat), Builtin.growBy newLen r c ≤ max c (2 * newLen + 192) := by
  intro r
  induction r with
  | zero => intro c; simp [Builtin.growBy]; omega
  | succ r ih =>
    intro c
    unfold Builtin.growBy
    split
    · omega
    · have := ih (c + (c + 768) / 4); omega
theorem nextslicecap_le {need c : Nat} (h : c < need) : Builtin.nextslicecap need c ≤ 3 * need := by
  unfold Builtin.nextslicecap
  split
  · omega
  · split
    · omega
    · have := growBy_le need 4 c; omega

/-- append, run where there is room. -/
theorem append_room {ats : Array TypeId} {ty t u e : TypeId} {du : TypeDesc} {size : Nat} {w w' : World} {base : Option Addr} {sLen c n : Nat} {x : Value} {vs : List Value}
    (h1 : ats[0]? = some t) (h2 : P.underlying t = some (.slice e)) (h3 : ats[1]? = some u) (h4 : P.underlying u = some du) (h5 : ∀ k, du ≠ .int k) (hs : tsize P e = some size)
    (hl : (Builtin.lenOf x).run P w = .ok n w) (hr : sLen + n ≤ c) (hx : (Builtin.firstCells size n x).run P w = .ok vs.toArray w)
    (hst : (match base with | some a => storeCells (a.add (sLen * size)) vs | none => pure ()).run P w = .ok () w') :
    (Builtin.append_ ats ty #[.slice base sLen c, x]).run P w = .ok (.slice base (sLen + n) c) w' := by
  unfold Builtin.append_
  simp only [h1, h3, List.getElem?_toArray, List.getElem?_cons_zero, List.getElem?_cons_succ, Sem.run_bind, run_underlying h2, run_underlying h4, run_sizeOf hs, Result.andThen_ok]
  simp only [Sem.run_pure, Result.andThen_ok, Bool.false_eq_true, if_false, Sem.run_bind, hl, Bool.not_false, if_true]
  rw [if_pos hr]
  simp only [Sem.run_bind, hx, Result.andThen_ok]
  cases base with
  | none =>
    simp only [Sem.run_pure, Result.ok.injEq, true_and] at hst
    subst hst
    simp
  | some a =>
    simp only [] at hst
    simp only [Sem.run_bind, Result.andThen_ok, hst, Sem.run_pure]

/-- append, run where a new array is made. -/
theorem append_grow {ats : Array TypeId} {ty t u e : TypeId} {du : TypeDesc} {size bytes : Nat} {w : World} {base : Option Addr} {sLen c n : Nat} {x zv : Value} {os vs : List Value}
    (h1 : ats[0]? = some t) (h2 : P.underlying t = some (.slice e)) (h3 : ats[1]? = some u) (h4 : P.underlying u = some du) (h5 : ∀ k, du ≠ .int k) (hs : tsize P e = some size) (hb : tbytes P e = some bytes)
    (hz : ∀ w, (zeroValue e).run P w = .ok zv w) (hzs : zv.cells.size = size)
    (hl : (Builtin.lenOf x).run P w = .ok n w) (hr : ¬ sLen + n ≤ c) (hroom : (sLen + n) * (bytes + 1) ≤ 70368744177664)
    (ho : ∀ d, (Builtin.firstCells size sLen (.slice base sLen c)).run P { w with drawn := d } = .ok os.toArray { w with drawn := d })
    (hx : ∀ d, (Builtin.firstCells size n x).run P { w with drawn := d } = .ok vs.toArray { w with drawn := d }) :
    ∃ cap d, sLen + n ≤ cap ∧ (Builtin.append_ ats ty #[.slice base sLen c, x]).run P w =
      .ok (.slice (some ⟨w.heap.size, 0, none⟩) (sLen + n) cap) { w with heap := w.heap.push (.cells (os ++ vs ++ (List.replicate (cap - (sLen + n)) zv.cells.toList).flatten).toArray e), drawn := d } := by
  obtain ⟨i, hi, rfl⟩ := run_bytes hb
  refine ⟨(Question.appendCap (sLen + n) c e).cut (w.tape w.drawn (.appendCap (sLen + n) c e)), w.drawn + 1, ?_, ?_⟩
  · simp only [Question.cut]; omega
  · unfold Builtin.append_
    simp only [h1, h3, List.getElem?_toArray, List.getElem?_cons_zero, List.getElem?_cons_succ, Sem.run_bind, run_underlying h2, run_underlying h4, run_sizeOf hs, Result.andThen_ok]
    simp only [Sem.run_pure, Result.andThen_ok, Bool.false_eq_true, if_false, Sem.run_bind, hl, Bool.not_false, if_true]
    rw [if_neg hr]
    simp only [Sem.run_bind, run_typeInfo hi, Result.andThen_ok]
    have hmax : IntKind.i64.max = 9223372036854775807 := by decide
    have hn : ¬ (((sLen + n : Nat) : Int) > IntKind.i64.max ∧ (False ∨ i.bytes = 0)) := by
      rw [hmax]
      rintro ⟨ha, _⟩
      have : sLen + n ≤ (sLen + n) * (i.bytes + 1) := Nat.le_mul_of_pos_right _ (by omega)
      omega
    rw [if_neg hn]
    have hcap : ¬ Builtin.nextslicecap (sLen + n) c * i.bytes > 2 ^ 48 := by
      have h6 := nextslicecap_le (need := sLen + n) (c := c) (by omega)
      have h7 : Builtin.nextslicecap (sLen + n) c * i.bytes ≤ 3 * (sLen + n) * i.bytes := Nat.mul_le_mul_right _ h6
      have h8 : 3 * (sLen + n) * i.bytes = 3 * ((sLen + n) * i.bytes) := Nat.mul_assoc _ _ _
      have h9 : (sLen + n) * (i.bytes + 1) = (sLen + n) * i.bytes + (sLen + n) := Nat.mul_succ _ _
      have : (2 : Nat) ^ 48 = 281474976710656 := by decide
      omega
    simp only [Sem.run_bind, run_typeInfo hi, Result.andThen_ok]
    rw [if_neg hcap]
    simp only [Sem.run_bind, run_choose]
    rw [if_neg (by simp [Question.forced])]
    generalize (Question.appendCap (sLen + n) c e).cut (w.tape w.drawn (Question.appendCap (sLen + n) c e)) = cap
    have hzc : Builtin.zeroCells zv.cells (cap - (sLen + n)) = (List.replicate (cap - (sLen + n)) zv.cells.toList).flatten.toArray := by
      unfold Builtin.zeroCells
      apply Array.ext'
      rw [hzs, rangeMap_eq' _ zv.cells size hzs]
    simp only [Result.andThen_ok, run_typeInfo hi, run_askRoom, ho, hx, hz, newRow_run, Sem.run_pure, hzc]
    congr 1
    simp

/-! A place that was another's. -/
theorem Rep.adopt (R : Rep gl m h w) {id : Nat} {L K : Loc} {obj : GObj} {O : Obj} (hm : m id = some L) (_hd : h[id]? = some .dead) (hK : K.block = L.block)
    (halone : ∀ (j : Nat) (L' : Loc) (b : GObj), m j = some L' → h[j]? = some b → b.live = true → L'.block ≠ L.block)
    (hb : w.heap[L.block]? = some O) (ho : ORel (m.set h.length K) K obj O) : Rep gl (m.set h.length K) (h ++ [obj]) w := by
  have hn : m h.length = none := R.none_of_ge (Nat.le_refl _)
  have hle : MLe m (m.set h.length K) := Mp.set_le hn
  have inv : ∀ i J, (m.set h.length K) i = some J → (i = h.length ∧ J = K) ∨ (i ≠ h.length ∧ m i = some J) := by
    intro i J hJ
    unfold Mp.set at hJ
    split at hJ
    · rename_i e; cases hJ; exact .inl ⟨e, rfl⟩
    · rename_i e; exact .inr ⟨e, hJ⟩
  refine ⟨?_, ?_, ?_, ?_, ?_⟩
  · intro i J hJ
    rcases inv i J hJ with ⟨rfl, _⟩ | ⟨_, h1⟩
    · simp
    · have := R.dom i J h1; simp; omega
  · intro i J hJ
    rcases inv i J hJ with ⟨rfl, rfl⟩ | ⟨_, h1⟩
    · rw [hK]; exact R.here id L hm
    · exact R.here i J h1
  · intro i J o hJ hi
    rcases inv i J hJ with ⟨rfl, rfl⟩ | ⟨_, h1⟩
    · simp at hi; subst hi
      exact ⟨O, by rw [hK]; exact hb, ho⟩
    · rw [List.getElem?_append_left (R.dom i J h1)] at hi
      obtain ⟨o', g1, g2⟩ := R.rel i J o h1 hi
      exact ⟨o', g1, g2.mono hle⟩
  · intro i j J J' a b hi hj ha hb' hwa hlb hbl
    rcases inv i J hi with ⟨rfl, rfl⟩ | ⟨_, h1⟩
    · rcases inv j J' hj with ⟨rfl, _⟩ | ⟨_, h2⟩
      · rfl
      · rw [List.getElem?_append_left (R.dom j J' h2)] at hb'
        exact absurd (hbl.symm.trans hK) (halone j J' b h2 hb' hlb)
    · rw [List.getElem?_append_left (R.dom i J h1)] at ha
      rcases inv j J' hj with ⟨rfl, rfl⟩ | ⟨_, h2⟩
      · exact absurd (hbl.trans hK) (halone i J a h1 ha (GObj.live_of_wr hwa))
      · rw [List.getElem?_append_left (R.dom j J' h2)] at hb'
        exact R.inj i j J J' a b h1 h2 ha hb' hwa hlb hbl
  · intro g i hg
    obtain ⟨J, h1, h2⟩ := R.glob g i hg
    exact ⟨J, hle _ _ h1, h2⟩

theorem setMany_append : ∀ (gs a b : List GVal), b.length = gs.length → setMany (a ++ b) a.length gs = a ++ gs := by
  intro gs
  induction gs with
  | nil => intro a b hb; have : b = [] := by simpa using hb
           subst this; rfl
  | cons g gs ih =>
    intro a b hb
    cases b with
    | nil => simp at hb
    | cons x b =>
      simp only [setMany]
      have : (a ++ x :: b).set a.length g = (a ++ [g]) ++ b := by simp
      rw [this]
      have := ih (a ++ [g]) b (by simpa using hb)
      simp only [List.length_append, List.length_cons, List.length_nil, Nat.zero_add] at this
      rw [this]; simp

theorem grown_new (R : Rep gl m h w) {mode : CM} (hmode : mode ≠ .ro) {e : TypeId} {sz sLen n cap d : Nat} {old new : List GVal} {os vs : List Value} {zv : Value} (k2 : VRs m old os) (f2 : VRs m new vs)
    (k3 : os.length = sLen * sz) (f3 : vs.length = n * sz) (hzs : zv.cells.size = sz) (hc : sLen + n ≤ cap) :
    VR (m.set h.length ⟨w.heap.size, 0, cap * sz⟩) (.slice (some (h.length, 0)) (sLen + n) (sLen + n) (some sz)) (.slice (some ⟨w.heap.size, 0, none⟩) (sLen + n) cap) ∧
    Rep gl (m.set h.length ⟨w.heap.size, 0, cap * sz⟩) (h ++ [.cells (old ++ new) mode])
      { w with heap := w.heap.push (.cells (os ++ vs ++ (List.replicate (cap - (sLen + n)) zv.cells.toList).flatten).toArray e), drawn := d } := by
  have hle : MLe m (m.set h.length ⟨w.heap.size, 0, cap * sz⟩) := Mp.set_le (R.none_of_ge (Nat.le_refl _))
  have hv := VRs_append k2 f2
  have hlen := hv.length
  have hsz : (os ++ vs ++ (List.replicate (cap - (sLen + n)) zv.cells.toList).flatten).length = cap * sz := by
    simp only [List.length_append, k3, f3, List.length_flatten, List.map_replicate, List.sum_replicate_nat, Array.length_toList, hzs]
    rw [← Nat.add_mul, ← Nat.add_mul]; congr 1; omega
  refine ⟨⟨_, cap, 0, Mp.set_self _ _ _, rfl, fun _ => rfl, hc, by simp⟩, R.push (by simp [GObj.wr, hmode]) ⟨_, e, (0, 0), rfl, by simpa using hsz, ?_, ?_, by cases mode with | rw => exact rfl | sb => exact .inl (rfl) | ro => trivial⟩⟩
  · simp only [List.size_toArray, hsz]
    simp only [List.length_append, k3, f3] at hlen
    rw [List.length_append, ← hlen, ← Nat.add_mul]
    simp only [Nat.zero_add]
    exact Nat.mul_le_mul_right _ hc
  · intro i g hi
    obtain ⟨v, g1, g2⟩ := hv.get hi
    refine ⟨v, ?_, VR.mono hle _ _ g2⟩
    have hil : i < (os ++ vs).length := (List.getElem?_eq_some_iff.1 g1).1
    rw [Nat.zero_add, List.getElem?_toArray, List.getElem?_append_left hil]
    exact g1

/-- append where there may be room behind, and there is. -/
theorem grown_here (R : Rep gl m h w) {id off o c : Nat} {L : Loc} {cs : List GVal} {mode : CM} {sz sLen sCap n : Nat} {old new : List GVal} {vs : List Value}
    (hL : m id = some L) (hid : h[id]? = some (.cells cs mode)) (hmode : mode ≠ .ro) (hall : allCell new = true) (ho : 0 < sCap → o = L.base + off) (hcs : o + c * sz ≤ L.size) (hroom : sLen + n ≤ c) (hold : gsrc h sz sLen (.slice (some (id, off)) sLen sCap (some sz)) = some old) (f2 : VRs m new vs) (f3 : vs.length = n * sz) :
    ∃ w', (storeCells ⟨L.block, o + sLen * sz, none⟩ vs).run P w = .ok () w' ∧ VR (m.set h.length ⟨L.block, o, L.size⟩) (.slice (some (h.length, 0)) (sLen + n) (sLen + n) (some sz)) (.slice (some ⟨L.block, o, none⟩) (sLen + n) c) ∧
      Rep gl (m.set h.length ⟨L.block, o, L.size⟩) (h.set id .dead ++ [.cells (old ++ new) mode]) w' ∧ Ext m h w (m.set h.length ⟨L.block, o, L.size⟩) (h.set id .dead ++ [.cells (old ++ new) mode]) w' := by
  have hwr : (GObj.cells cs mode).wr = true := by simp [GObj.wr, hmode]
  obtain ⟨c0, e0, fr, b1, b2, b3, b4, b5⟩ := R.cells hL hid
  have holdlen : old.length = sLen * sz ∧ PR m o old c0 := by
    unfold gsrc at hold
    simp only [] at hold
    split at hold
    · rename_i h0; cases hold; exact ⟨by simp [h0], fun i g hi => by simp at hi⟩
    · rename_i h0
      split at hold
      · rename_i hpos
        have := ho hpos
        subst this
        unfold gloads at hold
        rw [hid] at hold
        simp only [] at hold
        split at hold
        · rename_i hle
          cases hold
          refine ⟨by simp; omega, fun i g hi => ?_⟩
          have hi2 : i < sLen * sz := by
            have := (List.getElem?_eq_some_iff.1 hi).1; simp at this; omega
          rw [List.getElem?_take_of_lt hi2, List.getElem?_drop] at hi
          rw [Nat.add_assoc]; exact b4 _ _ hi
        · cases hold
      · cases hold
  obtain ⟨hol, hop⟩ := holdlen
  have hnl : new.length = n * sz := by have := f2.length; omega
  have hmul : sLen * sz + n * sz ≤ c * sz := by rw [← Nat.add_mul]; exact Nat.mul_le_mul_right _ hroom
  have hcs2 : PR m o (old ++ List.replicate (n * sz) .undef) c0 := by
    intro i g hi
    by_cases hlt : i < old.length
    · rw [List.getElem?_append_left hlt] at hi; exact hop i g hi
    · have hil := (List.getElem?_eq_some_iff.1 hi).1
      rw [List.getElem?_append_right (Nat.le_of_not_lt hlt)] at hi
      have hg : g = .undef := by
        have := List.mem_of_getElem? hi
        exact List.eq_of_mem_replicate this
      simp at hil
      refine ⟨c0[o + i]'(by omega), Array.getElem?_eq_getElem _, ?_⟩
      rw [hg]; trivial
  obtain ⟨w', c', g1, g2, g3, g4, g5, g6, g7, g8⟩ := storeCells_run (P := P) (o := o + sLen * sz) (base := o) (off := sLen * sz) rfl new vs 0 c0 _ w f2 hall b1 (b5.unfrozen hmode) (by omega) hcs2
  rw [Nat.add_zero, ← hol, setMany_append _ _ _ (by simp [hnl])] at g4
  have R1 : Rep gl m (h.set id .dead) w' := R.change (O := default) hL hid hwr g6 (fun hl => by simp [GObj.live] at hl) g5
  have hidl := (List.getElem?_eq_some_iff.1 hid).1
  have hll : (h.set id GObj.dead).length = h.length := by simp
  have hle : MLe m (m.set h.length ⟨L.block, o, L.size⟩) := Mp.set_le (R.none_of_ge (Nat.le_refl _))
  refine ⟨w', g1, ⟨_, c, o, Mp.set_self _ _ _, rfl, fun _ => rfl, hroom, hcs⟩, ?_, ?_⟩
  · have := R1.adopt (id := id) (L := L) (K := ⟨L.block, o, L.size⟩) (obj := .cells (old ++ new) mode) (O := .cells c' e0 fr) hL (by simp [hidl]) rfl ?_ g2 ?_
    · rw [hll] at this; exact this
    · intro j L' b hj hb hlb
      have hne : j ≠ id := by rintro rfl; simp [hidl] at hb; subst hb; simp [GObj.live] at hlb
      rw [List.getElem?_set_ne (fun e => hne e.symm)] at hb
      exact fun e => hne (R.inj id j L L' _ b hL hj hid hb hwr hlb e.symm).symm
    · rw [hll]
      refine ⟨c', e0, fr, rfl, by rw [g3]; exact b2, ?_, fun i g hi => ?_, by rw [g3]; exact b5⟩
      · simp only [List.length_append, hol, hnl, g3]; omega
      · obtain ⟨v, q1, q2⟩ := g4 i g hi
        exact ⟨v, q1, VR.mono hle _ _ q2⟩
  · refine ⟨Nat.le_of_eq g6.symm, g7, g8, by simp, fun i hi => by unfold Mp.set; rw [if_neg (by omega)], ?_, ?_, ?_, ?_⟩
    · intro i J hJ
      unfold Mp.set at hJ
      split at hJ
      · cases hJ; exact .inr (.inr ⟨id, L, _, hL, hid, hwr, rfl⟩)
      · exact .inl (R.dom i J hJ)
    · intro b _ hno
      exact g5 b fun e => hno id L _ hL hid hwr e.symm
    · intro i q hi hf
      have hne : i ≠ id := by rintro rfl; rw [hid] at hi; cases hi; rw [hwr] at hf; cases hf
      have hil := (List.getElem?_eq_some_iff.1 hi).1
      rw [List.getElem?_append_left (by simpa using hil), List.getElem?_set_ne (fun e => hne e.symm)]; exact hi
    · intro i hi hn
      have hne : i ≠ id := by rintro rfl; rw [hL] at hn; cases hn
      rw [List.getElem?_append_left (by simpa using hi), List.getElem?_set_ne (fun e => hne e.symm)]

theorem gmakeApp_sound (R : Rep gl m h w) {ats : Array TypeId} {ty t u e : TypeId} {k0 : IntKind} {size bytes : Nat} {z s x g : GVal} {sv xv : Value} {h' : GHeap}
    (h1 : ats[0]? = some t) (h2 : P.underlying t = some (.slice e)) (h3 : ats[1]? = some u) (h4 : P.underlying u = some (.int k0)) (hs : tsize P e = some size) (hb : tbytes P e = some bytes)
    (hz : tzero P e = some z) (hzl : z.cells.length = size) (hsz0 : 0 < size) (hsv : VR m s sv) (hxv : VR m x xv) (hg : gmakeApp h size bytes z s x = some (g, h')) :
    ∃ v m' w', (Builtin.append_ ats ty #[sv, xv]).run P w = .ok v w' ∧ VR m' g v ∧ Rep gl m' h' w' ∧ Ext m h w m' h' w' := by
  obtain ⟨hzt, _, zv, hzrun, hzr⟩ := run_zero hz
  have hzs : zv.cells.size = size := by have := ((hzr m).cells hzt).length; simp at this; omega
  obtain ⟨i, hi, rfl⟩ := run_bytes hb
  unfold gmakeApp at hg
  split at hg
  · rename_i n
    obtain ⟨rfl, _⟩ := hsv
    cases hxv
    split at hg
    · rename_i hn
      obtain ⟨hn0, hroom⟩ := hn
      obtain ⟨j, rfl⟩ : ∃ j : Nat, n = j := ⟨n.toNat, by omega⟩
      simp only [Int.toNat_natCast] at hroom hg
      have hj : j ≤ j * (i.bytes + 1) := Nat.le_mul_of_pos_right _ (by omega)
      have hwrap : IntKind.i64.wrap (j : Int) = j := by
        have h1 : (j : Int) < 9223372036854775808 := by omega
        unfold IntKind.wrap
        have e1 : (2 : Int) ^ IntKind.i64.bits = 18446744073709551616 := by decide
        have e2 : (2 : Int) ^ (IntKind.i64.bits - 1) = 9223372036854775808 := by decide
        rw [e1, e2]
        have h2 : (j : Int) % 18446744073709551616 = j := by omega
        rw [h2]
        exact if_neg (fun hh => absurd (of_decide_eq_true (Bool.and_eq_true_iff.1 hh).2) (by omega))
      have hb2 : ¬ (j : Int) * (i.bytes : Int) > 2 ^ 48 := by
        have h9 : j * (i.bytes + 1) = j * i.bytes + j := Nat.mul_succ _ _
        have h10 : j * i.bytes ≤ 70368744177664 := by omega
        have h11 : ((j * i.bytes : Nat) : Int) ≤ 70368744177664 := Int.ofNat_le.2 h10
        rw [Int.natCast_mul] at h11
        have : (2 : Int) ^ 48 = 281474976710656 := by decide
        omega
      have hai : (asInt (.int .i64 (j : Int))).run P w = .ok (j : Int) w := rfl
      split at hg
      · cases hg
      · rename_i hj0
        cases hg
        have hj1 : 0 < j := by omega
        have hz' : ((List.replicate j zv.cells.toList).flatten).length = j * size := by
          simp only [List.length_flatten, List.map_replicate, List.sum_replicate_nat, Array.length_toList, hzs]
        have hv := zeros_VRs ((hzr m).cells hzt) j
        have hcapex : ∃ cap d, j ≤ cap ∧ (Builtin.append_ ats ty #[.slice none 0 0, .int .i64 j]).run P w =
            .ok (.slice (some ⟨w.heap.size, 0, none⟩) (0 + j) cap) { w with heap := w.heap.push (.cells ([] ++ (List.replicate j zv.cells.toList).flatten ++ (List.replicate (cap - (0 + j)) zv.cells.toList).flatten).toArray e), drawn := d } := by
          refine ⟨(Question.appendCap (0 + j) 0 e).cut (w.tape w.drawn (.appendCap (0 + j) 0 e)), w.drawn + 1, ?_, ?_⟩
          · simp only [Question.cut]; omega
          · unfold Builtin.append_
            simp only [h1, h3, List.getElem?_toArray, List.getElem?_cons_zero, List.getElem?_cons_succ, Sem.run_bind, run_underlying h2, run_underlying h4, run_sizeOf hs, Result.andThen_ok]
            simp only [Sem.run_pure, Result.andThen_ok, if_true, Sem.run_bind, hai, hwrap]
            rw [if_neg (by omega)]
            simp only [Sem.run_bind, run_typeInfo hi, Result.andThen_ok]
            rw [if_neg hb2]
            simp only [Sem.run_pure, Sem.run_bind, Result.andThen_ok, Int.toNat_natCast, Bool.not_true, Bool.false_eq_true, if_false]
            rw [if_neg (by omega)]
            have hne : ¬ j * size = 0 := by
              intro h0
              rcases Nat.mul_eq_zero.1 h0 with h0 | h0 <;> omega
            simp only [Sem.run_bind, run_typeInfo hi, Result.andThen_ok]
            have hmax : IntKind.i64.max = 9223372036854775807 := by decide
            rw [if_neg (by
              rw [hmax]
              rintro ⟨ha, _⟩
              omega)]
            have hcap : ¬ Builtin.nextslicecap (0 + j) 0 * i.bytes > 2 ^ 48 := by
              have h6 := nextslicecap_le (need := 0 + j) (c := 0) (by omega)
              have h7 : Builtin.nextslicecap (0 + j) 0 * i.bytes ≤ 3 * (0 + j) * i.bytes := Nat.mul_le_mul_right _ h6
              have h8 : 3 * (0 + j) * i.bytes = 3 * (j * i.bytes) := by rw [Nat.zero_add]; exact Nat.mul_assoc _ _ _
              have h9 : j * (i.bytes + 1) = j * i.bytes + j := Nat.mul_succ _ _
              have : (2 : Nat) ^ 48 = 281474976710656 := by decide
              omega
            simp only [Sem.run_bind, run_typeInfo hi, Result.andThen_ok]
            rw [if_neg hcap]
            simp only [Sem.run_bind, run_choose]
            rw [if_neg (by simp [Question.forced])]
            generalize (Question.appendCap (0 + j) 0 e).cut (w.tape w.drawn (Question.appendCap (0 + j) 0 e)) = cap
            have hzc : ∀ c, Builtin.zeroCells zv.cells c = (List.replicate c zv.cells.toList).flatten.toArray := by
              intro c
              unfold Builtin.zeroCells
              apply Array.ext'
              rw [hzs, rangeMap_eq' _ zv.cells size hzs]
            simp only [Result.andThen_ok, run_typeInfo hi, run_askRoom, Builtin.firstCells, Sem.run_pure, Sem.run_bind, hzrun, newRow_run, hzc]
            simp only [if_neg hne, Sem.run_bind, hzrun, Result.andThen_ok, hzc, Sem.run_pure, newRow_run]
            congr 1
            simp
        obtain ⟨cap, d, c1, c2⟩ := hcapex
        obtain ⟨q1, q2⟩ := grown_new (e := e) (d := d) (sLen := 0) (n := j) (old := []) (os := []) (cap := cap) R (mode := .rw) (by simp) rfl hv (by simp) hz' hzs (by omega)
        simp only [Nat.zero_add, List.nil_append] at q1 q2 c2
        refine ⟨_, _, _, c2, q1, ?_, ?_⟩
        · exact q2
        · exact Ext.push R
    · cases hg
  · cases hg

theorem gappend_sound (R : Rep gl m h w) {ats : Array TypeId} {ty t u e : TypeId} {du : TypeDesc} {size bytes : Nat} {z s x g : GVal} {sv xv : Value} {h' : GHeap}
    (h1 : ats[0]? = some t) (h2 : P.underlying t = some (.slice e)) (h3 : ats[1]? = some u) (h4 : P.underlying u = some du) (h5 : ∀ k, du ≠ .int k) (hs : tsize P e = some size) (hb : tbytes P e = some bytes)
    (hz : tzero P e = some z) (hzl : z.cells.length = size) (hsv : VR m s sv) (hxv : VR m x xv) (hg : gappend h size bytes s x = some (g, h')) :
    ∃ v m' w', (Builtin.append_ ats ty #[sv, xv]).run P w = .ok v w' ∧ VR m' g v ∧ Rep gl m' h' w' ∧ Ext m h w m' h' w' := by
  obtain ⟨hzt, _, zv, hzrun, hzr⟩ := run_zero hz
  have hzs : zv.cells.size = size := by have := ((hzr m).cells hzt).length; simp at this; omega
  unfold gappend at hg
  split at hg
  · rename_i a sLen sCap op n hn
    have hlen := lenOf_sound (P := P) hxv hn
    -- the concrete slice
    have hcon : ∃ a' c, sv = .slice a' sLen c ∧ sCap ≤ c := by
      cases a with
      | none => obtain ⟨rfl, _⟩ := hsv; exact ⟨_, _, rfl, Nat.le_refl _⟩
      | some p => obtain ⟨L, c, o, _, rfl, _, hc⟩ := hsv; exact ⟨_, _, rfl, hc.le⟩
    obtain ⟨a', c, rfl, hsc⟩ := hcon
    split at hg
    · rename_i h0
      obtain ⟨rfl, h0⟩ := h0
      cases hg
      -- nothing is appended
      have hx0 : (Builtin.firstCells size 0 xv).run P w = .ok ([] : List Value).toArray w := by
        unfold glenOf at hn
        split at hn
        · rename_i a2 n2 c2 o2
          cases a2 with
          | none => obtain ⟨rfl, _⟩ := hxv; rfl
          | some p => obtain ⟨L, c3, o3, _, rfl, _⟩ := hxv; simp [Builtin.firstCells, loadCells, loadCellsFrom]
        · cases hxv
          simp only [Builtin.firstCells, Sem.run_pure]
          congr 1
          apply Array.ext'
          simp [ByteArray.data_extract, List.extract_eq_take_drop]
        · cases hn
      refine ⟨.slice a' sLen c, m, w, append_room h1 h2 h3 h4 h5 hs (hlen w) (by omega) hx0 ?_, hsv, R, Ext.refl m h w R.dom⟩
      cases a' <;> rfl
    · rename_i hne
      split at hg
      · cases hg
      · rename_i new hnew
        obtain ⟨vs, f1, f2, f3⟩ := gsrc_sound (P := P) R hxv hnew
        split at hg
        · rename_i hle
          split at hg
          · rename_i id off
            simp only [Option.map_eq_some_iff, Prod.mk.injEq] at hg
            obtain ⟨h1', hst, rfl, rfl⟩ := hg
            obtain ⟨L, c', o, hL, e1, ho, hc⟩ := hsv
            cases e1
            have hpos : 0 < sCap := by
              rcases Nat.eq_zero_or_pos sCap with h | h
              · exact absurd ⟨by omega, by omega⟩ hne
              · exact h
            have := ho hpos
            subst this
            rw [show off + sLen * size = off + sLen * size from rfl] at hst
            obtain ⟨w', g1, g2, g3⟩ := gstore_sound (P := P) R hL f2 hst
            refine ⟨_, m, w', append_room h1 h2 h3 h4 h5 hs (hlen w) (by omega) (f1 w rfl) ?_, ⟨L, _, _, hL, rfl, fun _ => rfl, hc⟩, g2, g3⟩
            simp only [Addr.add_none, Nat.add_assoc]
            exact g1
          · cases hg
        · rename_i hnle
          split at hg
          · rename_i hroom
            obtain ⟨hroom, hsl⟩ := hroom
            split at hg
            · -- exact: a new array for certain
              rename_i a1 _ _ _ old hold
              cases hg
              have hcc : c = sCap := by
                cases a1 with
                | none => obtain ⟨e1, _⟩ := hsv; cases e1; rfl
                | some p => obtain ⟨L, c', o, _, e1, _, hc⟩ := hsv; cases e1; exact hc
              subst hcc
              obtain ⟨os, k1, k2, k3⟩ := gsrc_sound (P := P) R hsv hold
              obtain ⟨cap, d, c1, c2⟩ := append_grow (ty := ty) (w := w) h1 h2 h3 h4 h5 hs hb hzrun hzs (hlen w) hnle hroom (fun d => k1 _ rfl) (fun d => f1 _ rfl)
              obtain ⟨q1, q2⟩ := grown_new (e := e) (d := d) R (mode := .rw) (by simp) k2 f2 k3 f3 hzs c1
              exact ⟨_, _, _, c2, q1, q2, Ext.push R⟩
            · rename_i a1 _ _ _ old sz id off hold
              split at hg
              · rename_i hsz
                subst hsz
                split at hg
                · rename_i cs mode hid
                  split at hg
                  · rename_i hmode
                    cases hg
                    obtain ⟨L, c', o, hL, e1, ho, hc⟩ := hsv
                    cases e1
                    have hwr : (GObj.cells cs mode).wr = true := by simp [GObj.wr, hmode]
                    have hsv' : VR m (.slice (some (id, off)) sLen sCap (some sz)) (.slice (some ⟨L.block, o, none⟩) sLen c) := ⟨L, c, o, hL, rfl, ho, hc⟩
                    obtain ⟨os, k1, k2, k3⟩ := gsrc_sound (P := P) R hsv' hold
                    -- the elder object is given up
                    have Rd : Rep gl m (h.set id .dead) w := R.change (O := default) hL hid hwr rfl (fun hl => by simp [GObj.live] at hl) (fun _ _ => rfl)
                    by_cases hroom2 : sLen + n ≤ c
                    · obtain ⟨w', q1, q2, q3, q4⟩ := grown_here (P := P) R hL hid hmode.1 hmode.2 ho hc.2 hroom2 hold f2 f3
                      refine ⟨_, _, w', append_room h1 h2 h3 h4 h5 hs (hlen w) hroom2 (f1 w rfl) ?_, q2, q3, q4⟩
                      simp only [Addr.add_none]
                      exact q1
                    · obtain ⟨cap, d, c1, c2⟩ := append_grow (ty := ty) (w := w) h1 h2 h3 h4 h5 hs hb hzrun hzs (hlen w) hroom2 hroom (fun d => k1 _ rfl) (fun d => f1 _ rfl)
                      obtain ⟨q1, q2⟩ := grown_new (e := e) (d := d) Rd hmode.1 k2 f2 k3 f3 hzs c1
                      have E1 : Ext m h w m (h.set id .dead) w := Ext.change R hL hid hwr rfl rfl rfl (fun _ _ => rfl)
                      have hll : (h.set id GObj.dead).length = h.length := by simp
                      rw [hll] at q1 q2
                      refine ⟨_, _, _, c2, q1, q2, ?_⟩
                      rw [← hll]
                      exact E1.trans (Ext.push Rd)
                  · cases hg
                · cases hg
              · cases hg
            · cases hg
          · cases hg
  · cases hg
end
end Gh

/- copy, maps, clear, string iterators; every operation that calls nothing. -/
namespace Gh
open Go
section
variable {P : Program} {gl : Nat → Option Nat} {m : Mp} {h : GHeap} {w : World}

/-- What an operation with an effect comes to. -/
def Done (gl : Nat → Option Nat) (m : Mp) (h : GHeap) (w : World) (g : GVal) (h' : GHeap) (v : Value) (w' : World) : Prop :=
  ∃ m', VR m' g v ∧ Rep gl m' h' w' ∧ Ext m h w m' h' w'

theorem gcopy_sound (R : Rep gl m h w) {ats : Array TypeId} {ty t e : TypeId} {size : Nat} {d s g : GVal} {dv sv : Value} {h' : GHeap}
    (h1 : ats[0]? = some t) (h2 : P.underlying t = some (.slice e)) (hs : tsize P e = some size) (hd : VR m d dv) (hsv : VR m s sv) (hg : gcopy h size d s = some (g, h')) :
    ∃ v w', (Builtin.copy_ ats ty #[dv, sv]).run P w = .ok v w' ∧ Done gl m h w g h' v w' := by
  unfold gcopy at hg
  split at hg
  · rename_i a dLen dCap op n hn
    have hlen := lenOf_sound (P := P) hsv hn
    have hcon : ∃ a' c, dv = .slice a' dLen c := by
      cases a with
      | none => obtain ⟨rfl, _⟩ := hd; exact ⟨_, _, rfl⟩
      | some p => obtain ⟨L, c, o, _, rfl, _⟩ := hd; exact ⟨_, _, rfl⟩
    obtain ⟨a', c, rfl⟩ := hcon
    split at hg
    · cases hg
    · rename_i cells hc
      obtain ⟨vs, f1, f2, f3⟩ := gsrc_sound (P := P) R hsv hc
      have run : ∀ w', (match a' with | some a => storeCells a vs | none => pure ()).run P w = .ok () w' →
          (Builtin.copy_ ats ty #[.slice a' dLen c, sv]).run P w = .ok (.int .i64 (Nat.min n dLen : Nat)) w' := by
        intro w' hst
        unfold Builtin.copy_
        simp only [h1, List.getElem?_toArray, List.getElem?_cons_zero, List.getElem?_cons_succ, Sem.run_bind, run_underlying h2, Result.andThen_ok, hlen w, run_sizeOf hs, f1 w rfl]
        cases a' with
        | none =>
          simp only [Sem.run_pure, Result.ok.injEq, true_and] at hst
          subst hst
          simp [goInt]
        | some a =>
          simp only [] at hst
          simp only [Sem.run_bind, hst, Result.andThen_ok, Sem.run_pure, goInt]
      split at hg
      · rename_i id off
        obtain ⟨L, c', o, hL, e1, ho, hcc⟩ := hd
        cases e1
        split at hg
        · rename_i h0
          cases hg
          have : vs = [] := by apply List.eq_nil_of_length_eq_zero; rw [f2.length]; exact h0
          subst this
          exact ⟨_, w, run w rfl, m, rfl, R, Ext.refl m h w R.dom⟩
        · split at hg
          · rename_i hpos
            have := ho hpos
            subst this
            simp only [Option.map_eq_some_iff, Prod.mk.injEq] at hg
            obtain ⟨h1', hst, rfl, rfl⟩ := hg
            obtain ⟨w', g1, g2, g3⟩ := gstore_sound (P := P) R hL f2 hst
            exact ⟨_, w', run w' g1, m, rfl, g2, g3⟩
          · cases hg
      · cases hg
        obtain ⟨e1, _⟩ := hd
        cases e1
        exact ⟨_, w, run w rfl, m, rfl, R, Ext.refl m h w R.dom⟩
  · cases hg

theorem sameBits_ints {n : Nat} : ∀ (xs ys : List GVal) (us vs : List Value), keyEqs xs ys = some true → VRs m xs us → VRs m ys vs → us.length = vs.length ∧ (vs.zip us).all (fun (x, y) => Instr.sameBits n x y) = true := by
  intro xs
  induction xs with
  | nil =>
    intro ys us vs hq hu hv
    have := keyEqs_len _ _ _ hq
    cases ys with
    | nil => cases hu; cases hv; exact ⟨rfl, rfl⟩
    | cons y ys => simp at this
  | cons x xs ih =>
    intro ys us vs hq hu hv
    cases ys with
    | nil => have := keyEqs_len _ _ _ hq; simp at this
    | cons y ys =>
      obtain ⟨k, a, b, r', rfl, rfl, hq', hr⟩ := keyEqs_cons hq
      obtain ⟨u, us, rfl, hu1, hu2⟩ := hu
      obtain ⟨v, vs, rfl, hv1, hv2⟩ := hv
      cases hu1; cases hv1
      have hr2 := hr.symm
      simp only [Bool.and_eq_true, beq_iff_eq] at hr2
      obtain ⟨rfl, rfl⟩ := hr2
      obtain ⟨h1, h2⟩ := ih ys us vs hq' hu2 hv2
      refine ⟨by simp [h1], ?_⟩
      simp only [List.zip_cons_cons, List.all_cons, h2, Bool.and_true]
      simp [Instr.sameBits]
theorem sameBits_eq {k q : GVal} {u v : Value} (hq : keyEq k q = some true) (hu : VR m k u) (hv : VR m q v) : Instr.sameBits 10000 v u = true := by
  unfold keyEq at hq
  split at hq
  · rename_i xs ys
    obtain ⟨us, rfl, hu⟩ := hu
    obtain ⟨vs, rfl, hv⟩ := hv
    obtain ⟨h1, h2⟩ := sameBits_ints (n := 9999) _ _ _ _ hq hu hv
    show (vs.toArray.size == us.toArray.size && (vs.toArray.toList.zip us.toArray.toList).all fun (x, y) => Instr.sameBits 9999 x y) = true
    simp only [Bool.and_eq_true, List.size_toArray, beq_iff_eq]
    exact ⟨h1.symm, h2⟩
  · cases hu; cases hv
    split at hq
    · rename_i hkl
      simp at hq
      subst hkl; subst hq
      simp [Instr.sameBits]
    · cases hq
  · cases hu; cases hv
    simp at hq; subst hq
    simp only [Instr.sameBits]
    rw [beq_toListBytes]; simp
  · cases hu; cases hv
    simp at hq; subst hq
    simp [Instr.sameBits]
  · cases hq

theorem ERel.get {m : Mp} : {g : List (GVal × GVal)} → {v : List MapEntry} → ERel m g v → ∀ {i : Nat} {x : GVal × GVal}, g[i]? = some x → ∃ e, v[i]? = some e ∧ VR m x.1 e.key ∧ VR m x.2 e.val
  | [], _, _, i, x, hx => by simp at hx
  | (_, _) :: _, _, ⟨e, rest, h1, h2, h3, h4⟩, i, x, hx => by
    cases h1
    cases i with
    | zero => simp at hx; subst hx; exact ⟨e, rfl, h2, h3⟩
    | succ i => simp at hx ⊢; exact ERel.get h4 hx
theorem ERel.set {m : Mp} {k v : GVal} {e : MapEntry} (hk : VR m k e.key) (hv : VR m v e.val) : {g : List (GVal × GVal)} → {l : List MapEntry} → ERel m g l → (i : Nat) → ERel m (g.set i (k, v)) (l.set i e)
  | [], _, h, _ => by cases h; rfl
  | (_, _) :: _, _, ⟨e', rest, h1, h2, h3, h4⟩, i => by
    cases h1
    cases i with
    | zero => exact ⟨e, rest, rfl, hk, hv, h4⟩
    | succ i => exact ⟨e', _, rfl, h2, h3, ERel.set hk hv h4 i⟩
theorem ERel.append {m : Mp} {k v : GVal} {e : MapEntry} (hk : VR m k e.key) (hv : VR m v e.val) : {g : List (GVal × GVal)} → {l : List MapEntry} → ERel m g l → ERel m (g ++ [(k, v)]) (l ++ [e])
  | [], _, h => by cases h; exact ⟨e, [], rfl, hk, hv, rfl⟩
  | (_, _) :: _, _, ⟨e', rest, h1, h2, h3, h4⟩ => by
    cases h1
    exact ⟨e', _, rfl, h2, h3, ERel.append hk hv h4⟩
theorem ERel.erase {m : Mp} : {g : List (GVal × GVal)} → {l : List MapEntry} → ERel m g l → (i : Nat) → ERel m (g.eraseIdx i) (l.eraseIdx i)
  | [], _, h, _ => by cases h; rfl
  | (_, _) :: _, _, ⟨e', rest, h1, h2, h3, h4⟩, i => by
    cases h1
    cases i with
    | zero => exact h4
    | succ i => exact ⟨e', _, rfl, h2, h3, ERel.erase h4 i⟩

theorem gfind_at {k : GVal} : ∀ (es : List (GVal × GVal)) (i j : Nat) (v : GVal), gfind k es i = some (some (j, v)) → ∃ q, i ≤ j ∧ es[j - i]? = some (q, v) ∧ keyEq k q = some true := by
  intro es
  induction es with
  | nil => intro i j v h; simp [gfind] at h
  | cons e es ih =>
    obtain ⟨q, v0⟩ := e
    intro i j v h
    simp only [gfind] at h
    split at h
    · rename_i hq
      cases h
      exact ⟨q, Nat.le_refl _, by simp, hq⟩
    · obtain ⟨q', h1, h2, h3⟩ := ih _ _ _ h
      refine ⟨q', by omega, ?_, h3⟩
      rw [show j - i = (j - (i + 1)) + 1 from by omega]
      simpa using h2
    · cases h

theorem setObj_run {b : Nat} {es : Array MapEntry} {clock : Nat} {O : Obj} (hb : w.heap[b]? = some (.map es clock)) : (setObj b O).run P w = .ok () { w with heap := w.heap.setIfInBounds b O } := by
  simp [setObj, Sem.run, hb]

/-- One map changes. -/
theorem map_change (R : Rep gl m h w) {id : Nat} {L : Loc} {es es2 : List (GVal × GVal)} {es' : Array MapEntry} {clock : Nat} (hm : m id = some L) (ho : h[id]? = some (.map es false)) (he : ERel m es2 es'.toList) :
    Rep gl m (h.set id (.map es2 false)) { w with heap := w.heap.setIfInBounds L.block (.map es' clock) } ∧
    Ext m h w m (h.set id (.map es2 false)) { w with heap := w.heap.setIfInBounds L.block (.map es' clock) } := by
  have hlt := R.here id L hm
  have hrest : ∀ b : Nat, b ≠ L.block → (w.heap.setIfInBounds L.block (.map es' clock))[b]? = w.heap[b]? := fun b hb => Array.getElem?_setIfInBounds_ne (fun e => hb e.symm)
  have hself : (w.heap.setIfInBounds L.block (.map es' clock))[L.block]? = some (.map es' clock) := by simp [hlt]
  exact ⟨R.change hm ho rfl (by simp) (fun _ => ⟨hself, es', clock, rfl, he⟩) hrest, Ext.change R hm ho rfl (by simp) rfl rfl hrest⟩

theorem mapSet_sound (R : Rep gl m h w) {t : TypeId} {x k v : GVal} {xv kv vv : Value} {h' : GHeap} (hx : VR m x xv) (hk : VR m k kv) (hv : VR m v vv) (hg : gmapSet P h t x k v = some h') :
    ∃ w', (Instr.mapUpdate t xv kv vv).run P w = .ok () w' ∧ Rep gl m h' w' ∧ Ext m h w m h' w' := by
  unfold gmapSet at hg
  split at hg
  · rename_i key elem r hu
    obtain ⟨L, hL, rfl⟩ := hx
    split at hg
    · rename_i hkf
      simp only [Bool.and_eq_true] at hkf
      obtain ⟨hkf, _⟩ := hkf
      split at hg
      · rename_i es ho
        obtain ⟨es', cl, g1, g2⟩ := R.map hL ho
        split at hg
        · rename_i i v0 hf
          cases hg
          obtain ⟨r', k1, v', rfl, k3⟩ := findKey_sound R hkf hk g2 hf
          obtain ⟨q, _, hq, hqk⟩ := gfind_at es 0 i v0 hf
          simp only [Nat.sub_zero] at hq
          obtain ⟨e', he', hek, hev⟩ := g2.get hq
          have hsb := sameBits_eq hqk hk hek
          have he2 : es'[i]? = some e' := by simpa using he'
          obtain ⟨c1, c2⟩ := map_change R (es2 := es.set i (k, v)) (es' := es'.modify i fun e => { e with key := kv, val := vv }) (clock := cl) hL ho (by
            have := ERel.set (e := { e' with key := kv, val := vv }) hk hv g2 i
            rw [Array.toList_modify]
            rw [show es'.toList.modify i (fun e => { e with key := kv, val := vv }) = es'.toList.set i { e' with key := kv, val := vv } from by
              apply List.ext_getElem?
              intro j
              rw [List.getElem?_modify, List.getElem?_set]
              by_cases hij : i = j
              · subst hij
                rw [he']
                have : i < es'.toList.length := (List.getElem?_eq_some_iff.1 he').1
                simp at this
                simp [this]
              · simp [hij]]
            exact this)
          refine ⟨_, ?_, c1, c2⟩
          unfold Instr.mapUpdate
          simp only [Sem.run_bind, run_underlying hu, Result.andThen_ok, run_getMap g1, checkKey_ok hkf hk, k1]
          simp only [Instr.keyThatStays, he2, Option.map_some, Option.getD_some, hsb, if_true, Sem.run_pure, Result.andThen_ok, setObj_run g1]
        · rename_i hf
          cases hg
          obtain ⟨r', k1, rfl⟩ := findKey_sound R hkf hk g2 hf
          obtain ⟨c1, c2⟩ := map_change R (es2 := es ++ [(k, v)]) (es' := es'.push { key := kv, val := vv, born := cl }) (clock := cl + 1) hL ho (by
            have := ERel.append (e := { key := kv, val := vv, born := cl }) hk hv g2
            simpa using this)
          refine ⟨_, ?_, c1, c2⟩
          unfold Instr.mapUpdate
          simp only [Sem.run_bind, run_underlying hu, Result.andThen_ok, run_getMap g1, checkKey_ok hkf hk, k1, setObj_run g1]
        · cases hg
      · cases hg
    · cases hg
  · cases hg

theorem delete_sound (R : Rep gl m h w) {ats : Array TypeId} {ty t : TypeId} {x k : GVal} {xv kv : Value} {h' : GHeap} (ht : ats[0]? = some t) (hx : VR m x xv) (hk : VR m k kv) (hg : gdelete P h t x k = some h') :
    ∃ w', (Builtin.delete_ ats ty #[xv, kv]).run P w = .ok (.tuple #[]) w' ∧ Rep gl m h' w' ∧ Ext m h w m h' w' := by
  unfold gdelete at hg
  split at hg
  · rename_i key elem hu
    cases hx
    split at hg
    · rename_i hkf
      cases hg
      refine ⟨w, ?_, R, Ext.refl m h w R.dom⟩
      unfold Builtin.delete_
      simp only [ht, List.getElem?_toArray, List.getElem?_cons_zero, List.getElem?_cons_succ, Sem.run_bind, run_underlying hu, Result.andThen_ok, checkKey_ok hkf hk, Sem.run_pure]
    · cases hg
  · rename_i key elem r hu
    obtain ⟨L, hL, rfl⟩ := hx
    split at hg
    · rename_i hkf
      split at hg
      · rename_i es ho
        obtain ⟨es', cl, g1, g2⟩ := R.map hL ho
        split at hg
        · rename_i i v0 hf
          cases hg
          obtain ⟨r', k1, v', rfl, k3⟩ := findKey_sound R hkf hk g2 hf
          obtain ⟨c1, c2⟩ := map_change R (es2 := es.eraseIdx i) (es' := es'.eraseIdxIfInBounds i) (clock := cl) hL ho (by
            rw [Array.toList_eraseIdxIfInBounds]; exact g2.erase i)
          refine ⟨_, ?_, c1, c2⟩
          unfold Builtin.delete_
          simp only [ht, List.getElem?_toArray, List.getElem?_cons_zero, List.getElem?_cons_succ, Sem.run_bind, run_underlying hu, Result.andThen_ok, run_getMap g1, checkKey_ok hkf hk, k1, setObj_run g1, Sem.run_pure]
        · rename_i hf
          cases hg
          obtain ⟨r', k1, rfl⟩ := findKey_sound R hkf hk g2 hf
          obtain ⟨c1, c2⟩ := map_change R (es2 := es) (es' := es') (clock := cl) hL ho g2
          have hset : h.set r (.map es false) = h := by
            apply List.ext_getElem?
            intro j
            rw [List.getElem?_set]
            split
            · rename_i e; subst e; split
              · exact ho.symm
              · rename_i hn; rw [List.getElem?_eq_none (by omega)]
            · rfl
          rw [hset] at c1 c2
          refine ⟨_, ?_, c1, c2⟩
          unfold Builtin.delete_
          simp only [ht, List.getElem?_toArray, List.getElem?_cons_zero, List.getElem?_cons_succ, Sem.run_bind, run_underlying hu, Result.andThen_ok, run_getMap g1, checkKey_ok hkf hk, k1, setObj_run g1, Sem.run_pure]
        · cases hg
      · cases hg
    · cases hg
  · cases hg

theorem clear_sound (R : Rep gl m h w) {ats : Array TypeId} {ty t : TypeId} {x : GVal} {xv : Value} {h' : GHeap} (ht : ats[0]? = some t) (hx : VR m x xv) (hg : gclear P h t x = some h') (hu' : ∃ d, P.underlying t = some d) :
    ∃ w', (Builtin.clear_ ats ty #[xv]).run P w = .ok (.tuple #[]) w' ∧ Rep gl m h' w' ∧ Ext m h w m h' w' := by
  obtain ⟨d, hd⟩ := hu'
  unfold gclear at hg
  split at hg
  · cases hx; cases hg
    refine ⟨w, ?_, R, Ext.refl m h w R.dom⟩
    unfold Builtin.clear_
    simp only [ht, List.getElem?_toArray, List.getElem?_cons_zero, Sem.run_bind, run_underlying hd, Result.andThen_ok, Sem.run_pure]
  · obtain ⟨rfl, _⟩ := hx; cases hg
    refine ⟨w, ?_, R, Ext.refl m h w R.dom⟩
    unfold Builtin.clear_
    simp only [ht, List.getElem?_toArray, List.getElem?_cons_zero, Sem.run_bind, run_underlying hd, Result.andThen_ok, Sem.run_pure]
  · rename_i k e r hu
    obtain ⟨L, hL, rfl⟩ := hx
    split at hg
    · rename_i es ho
      cases hg
      obtain ⟨es', cl, g1, g2⟩ := R.map hL ho
      obtain ⟨c1, c2⟩ := map_change R (es2 := []) (es' := #[]) (clock := cl) hL ho rfl
      refine ⟨_, ?_, c1, c2⟩
      unfold Builtin.clear_
      simp only [ht, List.getElem?_toArray, List.getElem?_cons_zero, Sem.run_bind, run_underlying hd, Result.andThen_ok, run_getMap g1, setObj_run g1, Sem.run_pure]
    · cases hg
  · rename_i e id off n cap op hu
    obtain ⟨L, c, o, hL, rfl, ho, hc⟩ := hx
    split at hg
    · rename_i h0
      subst h0
      cases hg
      refine ⟨w, ?_, R, Ext.refl m h w R.dom⟩
      unfold Builtin.clear_
      simp only [ht, List.getElem?_toArray, List.getElem?_cons_zero, Sem.run_bind, run_underlying hd, Result.andThen_ok, Sem.run_pure]
    · rename_i h0
      split at hg
      · rename_i z hz
        split at hg
        · rename_i hpos
          have := ho hpos
          subst this
          obtain ⟨hzt, _, zv, hzrun, hzr⟩ := run_zero hz
          have hzc := (hzr m).cells hzt
          obtain ⟨w', g1, g2, g3⟩ := gstore_sound (P := P) R hL (zeros_VRs hzc n) hg
          refine ⟨w', ?_, g2, g3⟩
          have hzz : (Builtin.zeroCells zv.cells n).toList = (List.replicate n zv.cells.toList).flatten := by
            unfold Builtin.zeroCells
            rw [rangeMap_eq' _ zv.cells zv.cells.size rfl]
          unfold Builtin.clear_
          rw [hu] at hd; cases hd
          simp only [ht, List.getElem?_toArray, List.getElem?_cons_zero, Sem.run_bind, run_underlying hu, Result.andThen_ok]
          cases n with
          | zero => exact absurd rfl h0
          | succ n =>
            simp only [hzrun w, Result.andThen_ok, hzz, g1, Sem.run_pure]
        · cases hg
      · cases hg
  · cases hg
end
end Gh

/- Every operation that calls nothing. -/
namespace Gh
open Go
section
variable {P : Program} {gl : Nat → Option Nat} {m : Mp} {h : GHeap} {w : World}

theorem sto_opt {X : Type} {o : Option GHeap} {k : GHeap → GM X} {x : X} (h : (GM.sto o k).opt = some x) : ∃ v, o = some v ∧ (k v).opt = some x := by
  cases o with
  | none => simp [GM.opt] at h
  | some v => exact ⟨v, rfl, h⟩
theorem eff_opt {X : Type} {kd : Kd} {o : Option (GVal × GHeap)} {k : GVal → GHeap → GM X} {x : X} (h : (GM.eff kd o k).opt = some x) : ∃ v h', o = some (v, h') ∧ (k v h').opt = some x := by
  cases o with
  | none => simp [GM.opt] at h
  | some v =>
    obtain ⟨v, h'⟩ := v
    simp only [GM.opt] at h
    split at h
    · exact ⟨v, h', rfl, h⟩
    · cases h

theorem builtin_eff (R : Rep gl m h w) {ρ : Operand → Value} {ev : Operand → GVal} (hev : EvR m ev ρ) {h' : GHeap} {g : GVal} {b : Builtin} {args : Array Operand} {ats : Array TypeId} {ty : TypeId}
    (hb : b = .append ∨ b = .copy ∨ b = .delete ∨ b = .clear) (hg : (gbuiltin P h b ats (args.toList.map ev)).opt = some (g, h')) :
    ∃ v w', (∀ consts, (builtin b ats ty consts (args.map ρ)).run P w = .ok (.value v) w') ∧ Done gl m h w g h' v w' := by
  unfold gbuiltin at hg
  split at hg
  · rcases hb with hb | hb | hb | hb <;> cases hb
  · rcases hb with hb | hb | hb | hb <;> cases hb
  · -- append
    rename_i t s x _ ht hx
    obtain ⟨a, b, rfl, ha, hbb⟩ := args2 hx
    have hva := hev a; have hvb := hev b
    rw [ha] at hva; rw [hbb] at hvb
    split at hg
    · rename_i e u hu hu2
      split at hg
      · rename_i k0 hk0
        split at hg
        · rename_i size bytes z hs hby hz
          split at hg
          · rename_i hzl
            obtain ⟨v, h1, hq, hk⟩ := eff_opt hg
            cases hk
            obtain ⟨r, m', w', k1, k2, k3, k4⟩ := gmakeApp_sound (P := P) (ty := ty) R ht hu hu2 hk0 hs hby hz hzl.1 hzl.2 hva hvb hq
            exact ⟨r, w', fun consts => by simp [builtin, k1], m', k2, k3, k4⟩
          · cases hg
        · cases hg
      · rename_i du hno hdu
        split at hg
        · rename_i size bytes z hs hby hz
          split at hg
          · rename_i hzl
            obtain ⟨v, h1, hq, hk⟩ := eff_opt hg
            cases hk
            obtain ⟨r, m', w', k1, k2, k3, k4⟩ := gappend_sound (P := P) (ty := ty) R ht hu hu2 hdu (fun k hk => hno k (by rw [hk])) hs hby hz hzl hva hvb hq
            exact ⟨r, w', fun consts => by simp [builtin, k1], m', k2, k3, k4⟩
          · cases hg
        · cases hg
      · cases hg
    · cases hg
  · -- copy
    rename_i t d s _ ht hx
    obtain ⟨a, b, rfl, ha, hbb⟩ := args2 hx
    have hva := hev a; have hvb := hev b
    rw [ha] at hva; rw [hbb] at hvb
    split at hg
    · rename_i e hu
      split at hg
      · rename_i size hs
        obtain ⟨v, h1, hq, hk⟩ := eff_opt hg
        cases hk
        obtain ⟨r, w', k1, k2⟩ := gcopy_sound (P := P) (ty := ty) R ht hu hs hva hvb hq
        exact ⟨r, w', fun consts => by simp [builtin, k1], k2⟩
      · cases hg
    · cases hg
  · -- delete
    rename_i t x k _ ht hx
    obtain ⟨a, b, rfl, ha, hbb⟩ := args2 hx
    have hva := hev a; have hvb := hev b
    rw [ha] at hva; rw [hbb] at hvb
    obtain ⟨h1, hq, hk⟩ := sto_opt hg
    cases hk
    obtain ⟨w', k1, k2, k3⟩ := delete_sound (P := P) (ty := ty) R ht hva hvb hq
    exact ⟨.tuple #[], w', fun consts => by simp [builtin, k1], m, ⟨[], rfl, rfl⟩, k2, k3⟩
  · -- clear
    rename_i t x _ ht hx
    obtain ⟨a, rfl, ha⟩ := args1 hx
    have hva := hev a
    rw [ha] at hva
    split at hg
    · rename_i d hud
      obtain ⟨h1, hq, hk⟩ := sto_opt hg
      cases hk
      obtain ⟨w', k1, k2, k3⟩ := clear_sound (P := P) (ty := ty) R ht hva hq ⟨_, hud⟩
      exact ⟨.tuple #[], w', fun consts => by simp [builtin, k1], m, ⟨[], rfl, rfl⟩, k2, k3⟩
    · cases hg
  · rcases hb with hb | hb | hb | hb <;> cases hb
  · rcases hb with hb | hb | hb | hb <;> cases hb
  · rcases hb with hb | hb | hb | hb <;> cases hb
  · rcases hb with hb | hb | hb | hb <;> cases hb
  · cases hg

theorem toBytes_loop {P : Program} : ∀ (gs : List GVal) (vs : List Value) (l : List UInt8) (s : ByteArray) (w : World), toBytes gs = some l → VRs m gs vs →
    (forIn vs s (fun (c : Value) (s : ByteArray) => (match c with
      | .int .u8 n => pure (ForInStep.yield (s.push (UInt8.ofNat n.toNat)))
      | _ => do
        stuck "bytesToString: byte expected"
        pure (ForInStep.yield s) : Sem (ForInStep ByteArray)))).run P w = .ok ⟨s.data ++ l.toArray⟩ w := by
  intro gs
  induction gs with
  | nil => intro vs l s w hl hv; cases hv; simp [toBytes] at hl; subst hl; simp
  | cons g gs ih =>
    intro vs l s w hl hv
    obtain ⟨v, vs, rfl, h1, h2⟩ := hv
    unfold toBytes at hl
    split at hl
    · rename_i heq; cases heq
    · rename_i n xs heq
      cases heq
      simp only [Option.map_eq_some_iff] at hl
      obtain ⟨l', hl', rfl⟩ := hl
      cases h1
      simp only [List.forIn_cons, Sem.run_bind, Sem.run_pure, Result.andThen_ok]
      rw [ih vs l' _ w hl' h2]
      congr 1
      simp [ByteArray.push]
    · cases hl
theorem gbytes_sound (R : Rep gl m h w) {a : Option (Nat × Nat)} {len cap : Nat} {sp : Option Nat} {u : Value} {l : List UInt8} (hv : VR m (.slice a len cap sp) u) (hq : gbytes h a len cap = some l) :
    (Conv.bytesToString u).run P w = .ok (.string ⟨l.toArray⟩) w := by
  unfold gbytes at hq
  cases a with
  | none =>
    cases hq
    obtain ⟨rfl, _⟩ := hv
    simp [Conv.bytesToString]
    rfl
  | some p =>
    obtain ⟨id, off⟩ := p
    obtain ⟨L, c, o, hL, rfl, ho, hc⟩ := hv
    simp only at hq
    split at hq
    · rename_i h0
      cases hq
      subst h0
      simp only [Conv.bytesToString, Sem.run_bind, loadCells, loadCellsFrom, Sem.run_pure, Result.andThen_ok]
      simp
      rfl
    · split at hq
      · rename_i hpos
        have := ho hpos
        subst this
        simp only [Option.bind_eq_some_iff] at hq
        obtain ⟨gs, hl, htb⟩ := hq
        obtain ⟨vs, g1, g2, g3⟩ := gloads_cells (P := P) R hL hl
        simp only [Conv.bytesToString, Sem.run_bind, g1 w rfl, Result.andThen_ok]
        have := toBytes_loop (P := P) gs vs l ByteArray.empty w htb g2
        simp only [List.forIn_toArray]
        refine Eq.trans (congrArg (fun r => Result.andThen r _) this) ?_
        simp
      · cases hq
theorem mark_run {b o : Nat} {c : Array Value} {e : TypeId} {fr : Nat × Nat} (hb : w.heap[b]? = some (.cells c e fr)) (hf : fr.1 = fr.2 ∨ c.size ≤ fr.1) :
    ∃ (w' : World) (fr' : Nat × Nat), (markStringish ⟨b, o, none⟩).run P w = .ok () w' ∧ w'.heap[b]? = some (.cells c e fr') ∧ (fr'.1 = fr'.2 ∨ c.size ≤ fr'.1) ∧
      (∀ b' : Nat, b' ≠ b → w'.heap[b']? = w.heap[b']?) ∧ w'.heap.size = w.heap.size ∧ w'.os = w.os ∧ w'.output = w.output := by
  obtain ⟨lo, hi⟩ := fr
  refine ⟨w.freeze ⟨b, c.size, none⟩ 1, if lo == hi then (c.size, c.size + 1) else (min lo c.size, max hi (c.size + 1)), ?_, ?_, ?_, ?_, ?_, ?_, ?_⟩
  · simp only [markStringish, Sem.run_bind, run_shape, World.shape?, hb, Result.andThen_ok, run_freeze]
  · simp [World.freeze, Array.getElem?_modify, hb]
  · right
    by_cases h1 : lo = hi
    · simp [h1]
    · rcases hf with hf | hf
      · exact absurd hf h1
      · have : (lo == hi) = false := by simpa using h1
        simp only [this, Bool.false_eq_true, if_false]
        show c.size ≤ min lo c.size
        have : c.size ≤ lo := hf
        omega
  · intro b' hne
    simp only [World.freeze, Nat.one_ne_zero, if_false, Array.getElem?_modify]
    rw [if_neg (fun h1 => hne h1.symm)]
  · simp [World.freeze]
  · rfl
  · rfl

theorem gop_sound (R : Rep gl m h w) {ρ : Operand → Value} {ev : Operand → GVal} (hev : EvR m ev ρ) {o : Oper} {h' : GHeap} {g : GVal} (hg : (gop P ev o h).opt = some (g, h')) :
    ∃ v w', OpRuns P ρ o w v w' ∧ Done gl m h w g h' v w' := by
  cases hc : opClass P o with
  | pure =>
    obtain ⟨rfl, v, h1, h2⟩ := pure_sound hev hc hg
    exact ⟨v, w, h2 w, m, h1, R, Ext.refl m h' w R.dom⟩
  | read =>
    obtain ⟨rfl, v, h1, h2⟩ := read_sound R hev hc hg
    exact ⟨v, w, h2, m, h1, R, Ext.refl m h' w R.dom⟩
  | alloc =>
    obtain ⟨obj, rfl, hwr, hnew⟩ := alloc_sound hev hc hg
    obtain ⟨O, u, d, sz, h1, h2⟩ := hnew w
    obtain ⟨h3, h4⟩ := h2 (m.set h.length ⟨w.heap.size, 0, sz⟩) (Mp.set_le (R.none_of_ge (Nat.le_refl _))) (Mp.set_self _ _ _)
    exact ⟨u, _, h1, _, h3, R.push hwr h4, Ext.push R⟩
  | eff =>
    obtain ⟨dst, op, ty, pos, aft, gd⟩ := o
    cases op with
    | store t a x =>
      simp only [gop] at hg
      split at hg
      · rename_i id off ha
        split at hg
        · rename_i hx
          obtain ⟨h1, hq, hk⟩ := sto_opt hg
          cases hk
          have hva := hev a
          rw [ha] at hva
          obtain ⟨L, hL, e1⟩ := hva
          have hvx := (hev x).cells hx.1
          obtain ⟨w', g1, g2, g3⟩ := gstore_sound (P := P) R hL hvx hq
          refine ⟨undef, w', runs_u (s := Instr.storeAt t (ρ a) (ρ x)) rfl ?_, m, ⟨[], rfl, rfl⟩, g2, g3⟩
          rw [e1]
          have hlen := hvx.length
          have hsz : ¬ (ρ x).cells.size ≠ (ev x).cells.length := by simpa using hlen
          simp only [Instr.storeAt, Instr.sureAddr, Sem.run_bind, Sem.run_pure, Result.andThen_ok, storeVar, run_sizeOf hx.2]
          rw [if_neg hsz]
          exact g1
        · cases hg
      · cases hg
    | mapUpdate t mp k v =>
      simp only [gop] at hg
      obtain ⟨h1, hq, hk⟩ := sto_opt hg
      cases hk
      obtain ⟨w', k1, k2, k3⟩ := mapSet_sound (P := P) R (hev mp) (hev k) (hev v) hq
      exact ⟨undef, w', runs_u (s := Instr.mapUpdate t (ρ mp) (ρ k) (ρ v)) rfl k1, m, ⟨[], rfl, rfl⟩, k2, k3⟩
    | call c =>
      obtain ⟨callee, args, ats⟩ := c
      cases callee with
      | builtin b =>
        simp only [gop] at hg
        by_cases hb : b = .append ∨ b = .copy ∨ b = .delete ∨ b = .clear
        · obtain ⟨v, w', k1, k2⟩ := builtin_eff (P := P) (ty := ty) R hev hb hg
          refine ⟨v, w', .inl ?_, k2⟩
          simp only [execOp, resolve, Sem.run_bind, Sem.run_pure, Result.andThen_ok, invoke]
          exact k1 _
        · exfalso
          cases b <;> simp at hb <;> first
            | (simp [gbuiltin, GM.opt] at hg; done)
            | (simp [opClass] at hc; done)
            | (have hne : ∀ t d, ats[0]? = some t → P.underlying t = some d → (match d with
                  | .map _ _ | .string | .slice _ | .array _ _ | .pointer _ => False
                  | _ => True) := by
                intro t d h1 h2
                simp only [opClass, h1, Option.bind_some, h2] at hc
                split <;> first | trivial | (simp at hc; done)
               unfold gbuiltin at hg
               split at hg <;> first
                | (rename_i t x _ ht hx
                   split at hg <;> first
                    | (rename_i hu; exact (hne _ _ ht hu).elim)
                    | (rename_i hu _; exact (hne _ _ ht hu).elim)
                    | cases hg)
                | (exfalso; simp_all; done)
                | cases hg)
      | _ => simp [gop, GM.opt] at hg
    | binOp op t x y t2 => cases op <;> simp only [opClass] at hc <;> first | (cases hc; done) | (split at hc <;> cases hc)
    | convert s d x =>
      simp only [gop, gconvert] at hg
      split at hg
      · rename_i e0 h1
        split at hg
        · rename_i e id off len cap sp hu0 h2 hx
          split at hg
          · rename_i hu
            split at hg
            · rename_i hsd
              obtain ⟨h2', hq, hk⟩ := sto_opt hg
              cases hk
              have hva := hev x
              rw [hx] at hva
              obtain ⟨L, c, o, hL, e1, k1, k2⟩ := hva
              unfold gmark at hq
              split at hq
              · rename_i cs mode ho
                split at hq
                · cases hq
                · rename_i hmode
                  cases hq
                  obtain ⟨cc, ee, fr, g1, g2, g3, g4, g5⟩ := R.cells hL ho
                  have hsb : fr.1 = fr.2 ∨ cc.size ≤ fr.1 := by
                    cases mode with
                    | rw => exact .inl g5
                    | sb => exact g5
                    | ro => exact absurd rfl hmode
                  obtain ⟨w', fr', q1, q2, q3, q4, q5, q6, q7⟩ := mark_run (P := P) (o := o) g1 hsb
                  have hwr : (GObj.cells cs mode).wr = true := by simp [GObj.wr, hmode]
                  have hrun : (Go.convert s d (ρ x)).run P w = .ok (.slice (some ⟨L.block, o, none⟩) len c) w' := by
                    rw [e1]
                    subst hsd
                    simp only [Go.convert, Sem.run_bind, run_underlying h1, Result.andThen_ok]
                    rw [h1] at h2; cases h2
                    simp only [run_underlying hu, Sem.run_bind, Result.andThen_ok, beq_self_eq_true, q1, Sem.run_pure]
                  refine ⟨_, w', runs_v (s := Go.convert s d (ρ x)) rfl hrun, m, ⟨L, c, o, hL, rfl, k1, k2⟩, R.change hL ho hwr q5 (fun _ => ⟨q2, cc, ee, fr', rfl, g2, g3, g4, q3⟩) q4, Ext.change R hL ho hwr q5 q6 q7 q4⟩
              · cases hq
            · cases hg
          · cases hg
        · rename_i a len cap sp hu0 h2 hx
          obtain ⟨v, hq, hk⟩ := dst_opt hg
          cases hk
          simp only [Option.map_eq_some_iff] at hq
          obtain ⟨l, hq, rfl⟩ := hq
          have hva := hev x
          rw [hx] at hva
          refine ⟨.string ⟨l.toArray⟩, w, runs_v (s := Go.convert s d (ρ x)) rfl ?_, m, rfl, R, Ext.refl m h w R.dom⟩
          have hb := gbytes_sound (P := P) R hva hq
          generalize ρ x = rx at hb hva ⊢
          cases a with
          | none =>
            obtain ⟨rfl, _⟩ := hva
            simp only [Go.convert, Sem.run_bind, run_underlying h1, run_underlying h2, Result.andThen_ok, run_underlying hu0, hb]
          | some p =>
            obtain ⟨L, c, o, hL, rfl, _⟩ := hva
            simp only [Go.convert, Sem.run_bind, run_underlying h1, run_underlying h2, Result.andThen_ok, run_underlying hu0, hb]
        · cases hg
      · rename_i ds hns h1
        exfalso
        simp only [opClass, h1] at hc
        split at hc
        · rename_i e he
          exact hns _ (by injection he)
        · split at hc <;> cases hc
      · cases hg
    | _ => first | (simp [opClass] at hc; done) | (simp [gop, GM.opt] at hg; done)

theorem gnext_sound (R : Rep gl m h w) {ρ : Operand → Value} {ev : Operand → GVal} (hev : EvR m ev ρ) {o : Oper} {x : Operand} (ho : o.op = .next x true) {h' : GHeap} {g : GVal} (hg : gnext h (ev x) = some (g, h')) :
    ∃ v w', OpRuns P ρ o w v w' ∧ Done gl m h w g h' v w' := by
  obtain ⟨dst, op, ty, pos, aft, gd⟩ := o
  simp only at ho
  subst ho
  have hx := hev x
  unfold gnext at hg
  split at hg
  · rename_i id he
    rw [he] at hx
    obtain ⟨L, hL, e1⟩ := hx
    split at hg
    · rename_i s pos' hid
      obtain ⟨o', q1, rfl, hb0⟩ := R.rel id L _ hL hid
      have hlt := R.here id L hL
      have hsz : (ByteArray.mk s.toArray).size = s.length := by simp [ByteArray.size]
      have hgo : (getObj L.block).run P w = .ok (.stringIter ⟨s.toArray⟩ pos') w := by simp [getObj, Sem.run, q1]
      split at hg
      · rename_i hpos
        cases hg
        have hrest : ∀ (O : Obj) (b : Nat), b ≠ L.block → (w.heap.setIfInBounds L.block O)[b]? = w.heap[b]? := fun O b hb => Array.getElem?_setIfInBounds_ne (fun e => hb e.symm)
        refine ⟨.tuple #[.bool true, goInt pos', .int .i32 (Utf8.decode ⟨s.toArray⟩ pos').1], { w with heap := w.heap.setIfInBounds L.block (.stringIter ⟨s.toArray⟩ (pos' + (Utf8.decode ⟨s.toArray⟩ pos').2)) }, runs_v (s := Instr.next (ρ x) true ty) rfl ?_, m, ?_, ?_, ?_⟩
        · rw [e1, hb0]
          simp only [Instr.next, Nat.add_zero, Sem.run_bind, hgo, Result.andThen_ok, hsz]
          rw [if_pos hpos]
          simp only [Sem.run_bind, Result.andThen_ok, Sem.run_pure]
          simp [setObj, Sem.run, q1]
        · exact ⟨[.bool true, .int .i64 pos', .int .i32 (Utf8.decode ⟨s.toArray⟩ pos').1], rfl, _, _, rfl, rfl, _, _, rfl, rfl, _, _, rfl, rfl, rfl⟩
        · exact R.change hL hid rfl (by simp) (fun _ => ⟨by simp [hlt], rfl, hb0⟩) (hrest _)
        · exact Ext.change R hL hid rfl (by simp) rfl rfl (hrest _)
      · rename_i hpos
        cases hg
        refine ⟨.tuple #[.bool false], w, runs_v (s := Instr.next (ρ x) true ty) rfl ?_, m, ⟨[.bool false], rfl, _, _, rfl, rfl, rfl⟩, R, Ext.refl m _ w R.dom⟩
        rw [e1, hb0]
        simp only [Instr.next, Nat.add_zero, Sem.run_bind, hgo, Result.andThen_ok, hsz]
        rw [if_neg hpos]
        rfl
    · cases hg
  · cases hg
end
end Gh

/- Regions in the order of their text, and code: what the ghost proves of it, the machine does. -/
namespace Gh
open Go

/-- A call of f from this ghost state ends in a state of which Q speaks. -/
def CallsG (P : Program) (gl : Nat → Option Nat) (f : FuncId) (args : List GVal) (h : GHeap) (Q : GVal → GHeap → Prop) : Prop :=
  ∀ (m : Mp) (w : World) (vs : List Value), Rep gl m h w → VRs m args vs →
    Calls P f vs.toArray w fun e w' => ∃ r v h' m', e = .returned v ∧ Q r h' ∧ VR m' r v ∧ Rep gl m' h' w' ∧ Ext m h w m' h' w'

/-- A round of a loop over a function. -/
def RoundG (P : Program) (gl : Nat → Option Nat) (l : Nat) (args : List GVal) (h : GHeap) (Q : GVal → GHeap → Prop) : Prop :=
  ∀ (m : Mp) (w : World) (vs : List Value) (L : Loc) (lp : Go.Loop), Rep gl m h w → VRs m args vs → m l = some L → w.heap[L.block]? = some (.loop lp) →
    lp.params.size = vs.length ∧
    ∀ (c : Frame) (cs : List Frame), ∃ v w', Steps P (lone (Frame.round L.block lp.fn ((lp.params.zip vs.toArray).foldl (fun tmps (t, a) => tmps.setIfInBounds t a) lp.tmps) lp.assign lp.body .normal) (c :: cs) w) (lone (c.finish v) cs w') ∧
      ∃ r h' m', Q r h' ∧ VR m' r v ∧ Rep gl m' h' w' ∧ Ext m h w m' h' w'

def propAlg (P : Program) (gl : Nat → Option Nat) : Alg Prop where
  fail := False
  gm g k := g.wp fun x => k x.1 x.2
  nxt o k := ∃ v h', o = some (v, h') ∧ k v h'
  req c _ a := c ∧ a
  call := CallsG P gl
  round := RoundG P gl
  loop f := ∃ n, f n

mutual
theorem Kd.ex_fits : (k : Kd) → {Q : GVal → Prop} → k.ex Q → ∃ v, k.fits v = true ∧ Q v
  | .int k, _, ⟨n, h⟩ => ⟨_, by simp [Kd.fits], h⟩
  | .bool, _, ⟨n, h⟩ => ⟨_, rfl, h⟩
  | .str, _, ⟨n, h⟩ => ⟨_, rfl, h⟩
  | .ptr, _, ⟨n, h⟩ => ⟨_, rfl, h⟩
  | .slice, _, ⟨a, n, c, o, h⟩ => ⟨_, rfl, h⟩
  | .map, _, ⟨n, h⟩ => ⟨_, rfl, h⟩
  | .func, _, ⟨v, h⟩ => ⟨v, by cases v <;> rfl, h⟩
  | .other, _, ⟨v, h⟩ => ⟨v, by cases v <;> rfl, h⟩
  | .agg l, _, h => by
    obtain ⟨vs, h1, h2⟩ := Kd.exs_fits l h
    exact ⟨.agg vs, h1, h2⟩
  | .tup l, _, h => by
    obtain ⟨vs, h1, h2⟩ := Kd.exs_fits l h
    exact ⟨.tuple vs, h1, h2⟩
theorem Kd.exs_fits : (k : List Kd) → {Q : List GVal → Prop} → Kd.exs k Q → ∃ v, Kd.fitss k v = true ∧ Q v
  | [], _, h => ⟨[], rfl, h⟩
  | k :: ks, _, h => by
    obtain ⟨v, h1, h2⟩ := Kd.ex_fits k h
    obtain ⟨vs, h3, h4⟩ := Kd.exs_fits ks h2
    exact ⟨v :: vs, by simp [Kd.fitss, h1, h3], h4⟩
end

theorem GM.wp_opt {X : Type} {Q : X → Prop} : (g : GM X) → g.wp Q → ∃ x, g.opt = some x ∧ Q x
  | .ret x, h => ⟨x, rfl, h⟩
  | .fail, h => h.elim
  | .req c d k, ⟨h1, h2⟩ => by
    obtain ⟨x, h3, h4⟩ := GM.wp_opt k h2
    exact ⟨x, by simp only [GM.opt, if_pos h1, h3], h4⟩
  | .dst kd o k, h => by
    obtain ⟨v, h1, rfl, h2⟩ := Kd.ex_fits kd h
    obtain ⟨x, h3, h4⟩ := GM.wp_opt (k v) h2
    exact ⟨x, by simp only [GM.opt, h1, if_true, h3], h4⟩
  | .eff kd o k, h => by
    obtain ⟨v, h1, h', rfl, h2⟩ := Kd.ex_fits kd h
    obtain ⟨x, h3, h4⟩ := GM.wp_opt (k v h') h2
    exact ⟨x, by simp only [GM.opt, h1, if_true, h3], h4⟩
  | .sto o k, h => by
    obtain ⟨h', rfl, h2⟩ := h
    obtain ⟨x, h3, h4⟩ := GM.wp_opt (k h') h2
    exact ⟨x, by simp only [GM.opt, h3], h4⟩

section steps
variable {P : Program} {b : Frame} {a : Act} {k : List Item} {cs : List Frame} {w w' : World} {ops : Array Oper} {i : Nat} {rest : List Nat} {o : Oper}

theorem finR (ho : ops[i]? = some o) (v : Value) : (b.atR a (.inRegion ops (i :: rest) :: k)).finish v = b.atR (a.put o.dst v) (.inRegion ops rest :: k) := by
  rw [Frame.finish_atR, ho]; rfl
theorem stepR_value {v : Value} (ho : ops[i]? = some o) (hw : Region.wanted o (yielded ops a.tmps) = true) (hd : ∀ c, o.op ≠ .defer c)
    (hr : (execOp a.eval o).run P w = .ok (.value v) w') :
    step P (lone (b.atR a (.inRegion ops (i :: rest) :: k)) cs w) = .next (lone (b.atR (a.put o.dst v) (.inRegion ops rest :: k)) cs w') := by
  refine step_lone_go ?_
  rw [stepGR_op ho hw, Oper.semAt_eq _ _ _ hd, ← finR ho v]
  simp [stepG.apply, hr]
theorem stepR_skip' (ho : ops[i]? = some o) (hw : Region.wanted o (yielded ops a.tmps) = true) (hd : ∀ c, o.op ≠ .defer c)
    (hr : (execOp a.eval o).run P w = .ok .skip w') :
    step P (lone (b.atR a (.inRegion ops (i :: rest) :: k)) cs w) = .next (lone (b.atR (a.put o.dst undef) (.inRegion ops rest :: k)) cs w') := by
  refine step_lone_go ?_
  rw [stepGR_op ho hw, Oper.semAt_eq _ _ _ hd, ← finR ho undef]
  simp [stepG.apply, hr]
theorem stepR_enter {f : FuncId} {args : Array Value} (ho : ops[i]? = some o) (hw : Region.wanted o (yielded ops a.tmps) = true) (hd : ∀ c, o.op ≠ .defer c)
    (hr : (execOp a.eval o).run P w = .ok (.enter f args) w') :
    step P (lone (b.atR a (.inRegion ops (i :: rest) :: k)) cs w) = .next (lone (Frame.enter P f args .normal) (b.atR a (.inRegion ops (i :: rest) :: k) :: cs) w') := by
  refine step_lone_go ?_
  rw [stepGR_op ho hw, Oper.semAt_eq _ _ _ hd]
  simp [stepG.apply, hr, Frame.atR]
theorem stepR_round {l : Nat} {f : FuncId} {tmps : Array Value} {as_ bd : Code} (ho : ops[i]? = some o) (hw : Region.wanted o (yielded ops a.tmps) = true) (hd : ∀ c, o.op ≠ .defer c)
    (hr : (execOp a.eval o).run P w = .ok (.round l f tmps as_ bd) w') :
    step P (lone (b.atR a (.inRegion ops (i :: rest) :: k)) cs w) = .next (lone (Frame.round l f tmps as_ bd .normal) (b.atR a (.inRegion ops (i :: rest) :: k) :: cs) w') := by
  refine step_lone_go ?_
  rw [stepGR_op ho hw, Oper.semAt_eq _ _ _ hd]
  simp [stepG.apply, hr]
theorem stepR_runs {v : Value} (ho : ops[i]? = some o) (hw : Region.wanted o (yielded ops a.tmps) = true) (hd : ∀ c, o.op ≠ .defer c) (hr : OpRuns P a.eval o w v w') :
    step P (lone (b.atR a (.inRegion ops (i :: rest) :: k)) cs w) = .next (lone (b.atR (a.put o.dst v) (.inRegion ops rest :: k)) cs w') := by
  rcases hr with h | ⟨h, rfl⟩
  · exact stepR_value ho hw hd h
  · exact stepR_skip' ho hw hd h
end steps

/-! The state of a frame. -/
def Dfr (n₀ : Nat) (m : Mp) (w : World) : List Deferred → Prop
  | [] => True
  | d :: ds => (∃ r : Nat, d = { target := .collected r, args := #[] } ∧ w.heap[r]? = some (.deferred (some [])) ∧ (∀ (id : Nat) (L : Loc), m id = some L → L.block ≠ r) ∧
      (∀ d' ∈ ds, d' ≠ { target := .collected r, args := #[] }) ∧ n₀ ≤ r) ∧ Dfr n₀ m w ds

theorem Dfr.ext {gl : Nat → Option Nat} {n₀ : Nat} {m m' : Mp} {h h' : GHeap} {w w' : World} (R : Rep gl m h w) (E : Ext m h w m' h' w') : {ds : List Deferred} → Dfr n₀ m w ds → Dfr n₀ m' w' ds
  | [], _ => trivial
  | d :: ds, ⟨⟨r, h1, h2, h3, h4⟩, h5⟩ => by
    have hr : r < w.heap.size := by
      rcases Nat.lt_or_ge r w.heap.size with h | h
      · exact h
      · rw [Array.getElem?_eq_none h] at h2; cases h2
    refine ⟨⟨r, h1, ?_, ?_, h4⟩, Dfr.ext R E h5⟩
    · rw [E.keep r hr fun i L o hm _ _ => h3 i L hm]; exact h2
    · intro id L hL
      rcases E.new id L hL with hi | hi | ⟨i, Li, o, g1, _, _, g4⟩
      · rw [E.mext id hi] at hL; exact h3 id L hL
      · omega
      · rw [← g4]; exact h3 i Li g1

/-- The loop whose round the frame is. -/
def curOk (m : Mp) : Option Nat → Option Nat → Prop
  | none, none => True
  | some l, some r => ∃ L, m l = some L ∧ L.block = r
  | _, _ => False
theorem curOk.mono {m m' : Mp} (h : MLe m m') : {c r : Option Nat} → curOk m c r → curOk m' c r
  | none, none, _ => trivial
  | some _, some _, ⟨L, h1, h2⟩ => ⟨L, h _ _ h1, h2⟩

/-- A ghost state for a frame's state; 'm₀ h₀ w₀': how the frame began. -/
structure St (gl : Nat → Option Nat) (m₀ : Mp) (h₀ : GHeap) (w₀ : World) (cur : Option Nat) (ro : Option Nat) (t : List GVal) (h : GHeap) (a : Act) (w : World) (m : Mp) : Prop where
  tmps : VRs m t a.tmps.toList
  rep : Rep gl m h w
  ext : Ext m₀ h₀ w₀ m h w
  dfr : Dfr w₀.heap.size m w a.defers
  dom₀ : ∀ id L, m₀ id = some L → id < h₀.length
  cur : curOk m cur ro

variable {P : Program} {gl : Nat → Option Nat} {m₀ : Mp} {h₀ : GHeap} {w₀ : World} {cur : Option Nat} {ro : Option Nat}

theorem VRs.getD {m : Mp} {t : List GVal} {vs : Array Value} (h : VRs m t vs.toList) (i : Nat) : VR m (t.getD i .undef) (vs.getD i undef) := by
  rw [List.getD_eq_getElem?_getD, Array.getD_eq_getD_getElem?]
  cases hi : t[i]? with
  | none => trivial
  | some g =>
    obtain ⟨v, h1, h2⟩ := h.get hi
    have : vs[i]? = some v := by simpa using h1
    rw [this]; exact h2

theorem gev_R {m : Mp} {h : GHeap} {w : World} {t : List GVal} {a : Act} (R : Rep gl m h w) (ht : VRs m t a.tmps.toList) : EvR m (gev gl t) a.eval := by
  intro x
  cases x with
  | tmp i => simp only [gev, lget_eq]; exact VRs.getD ht i
  | const v =>
    simp only [gev, Act.eval]
    cases hv : ofValue v with
    | none => trivial
    | some g => exact ofValue_VR hv
  | global g =>
    simp only [gev, Act.eval]
    cases hg : gl g with
    | none => trivial
    | some id =>
      obtain ⟨L, h1, h2, h3⟩ := R.glob g id hg
      exact ⟨L, h1, by rw [h2, h3]⟩
  | func f => exact ⟨.func f, [], [], rfl, rfl, rfl, rfl⟩

theorem St.put {t : List GVal} {h : GHeap} {a : Act} {w : World} {m : Mp} (S : St gl m₀ h₀ w₀ cur ro t h a w m) {d : Option Tmp} {g : GVal} {v : Value} {h' : GHeap} {w' : World} {m' : Mp}
    (hv : VR m' g v) (R : Rep gl m' h' w') (E : Ext m h w m' h' w') : St gl m₀ h₀ w₀ cur ro (gput t d g) h' (a.put d v) w' m' := by
  have hle := E.mle S.rep.dom
  refine ⟨?_, R, S.ext.trans E, ?_, S.dom₀, ?_⟩
  · have ht := VRs.mono hle _ _ S.tmps
    cases d with
    | none => exact ht
    | some d =>
      simp only [gput, lset_eq, Act.put, Array.toList_setIfInBounds]
      exact VRs_set d ht hv
  · have := Dfr.ext S.rep E S.dfr
    cases d <;> exact this
  · exact S.cur.mono hle

/-! What the rest of a frame comes to: 'F' is whatever is to be reached. -/
variable (P gl m₀ h₀ w₀ cur)
def PointOK (F : Machine → Prop) (b : Frame) (cs : List Frame) (k : List Item) (X : List GVal → GHeap → Prop) : Prop :=
  ∀ t h, X t h → ∀ a w m, St gl m₀ h₀ w₀ cur b.roundOf t h a w m → F (lone (b.atR a k) cs w)

variable {P gl m₀ h₀ w₀ cur}
variable {F : Machine → Prop} {b : Frame} {cs : List Frame}

theorem gwant_sound {m : Mp} {t : List GVal} {a : Act} (ht : VRs m t a.tmps.toList) {ops : Array Oper} {o : Oper} :
    (gwant ops t o = .yes → Region.wanted o (yielded ops a.tmps) = true) ∧ (gwant ops t o = .no → Region.wanted o (yielded ops a.tmps) = false) := by
  unfold gwant Region.wanted
  simp only [lget_eq]
  cases hg : o.guard with
  | none => simp
  | some jw =>
    obtain ⟨j, want⟩ := jw
    simp only []
    cases hd : (ops[j]?).bind (·.dst) with
    | none => simp
    | some d =>
      simp only [Option.map_some]
      have hv := VRs.getD ht d
      have hy : ∀ v, a.tmps.getD d undef = v → v ≠ undef → yielded ops a.tmps j = (match v with | .bool b => some b | _ => none) := by
        intro v hv hne
        simp only [yielded, hd, Option.bind_some]
        rw [Array.getD_eq_getD_getElem?] at hv
        cases he : a.tmps[d]? with
        | none => rw [he] at hv; exact absurd hv.symm hne
        | some u => rw [he] at hv; simp at hv; subst hv; cases u <;> rfl
      constructor
      · intro h
        split at h
        · rename_i bb hbb
          simp only [Option.some.injEq] at hbb
          rw [hbb] at hv
          split at h
          · rename_i hbw
            rw [hy _ hv (by simp [undef])]
            simp [hbw]
          · cases h
        · cases h
        · cases h
      · intro h
        split at h
        · rename_i bb hbb
          simp only [Option.some.injEq] at hbb
          rw [hbb] at hv
          split at h
          · cases h
          · rename_i hbw
            rw [hy _ hv (by simp [undef])]
            simpa using hbw
        · rename_i hbb
          simp only [Option.some.injEq] at hbb
          rw [hbb] at hv
          obtain ⟨c, hc, hc2⟩ := hv
          cases hc2
          simp only [yielded, hd, Option.bind_some]
          rw [Array.getD_eq_getD_getElem?] at hc
          cases he : a.tmps[d]? with
          | none => simp
          | some u => rw [he] at hc; simp at hc; subst hc; simp
        · cases h

/-- One operation. -/
theorem gone_sound (hF : ∀ m m', Steps P m m' → F m' → F m) {ops : Array Oper} {i : Nat} {rest : List Nat} {o : Oper} {k : List Item} (ho : ops[i]? = some o)
    {t : List GVal} {h : GHeap} {X : GVal → GHeap → Prop} (hx : gone (propAlg P gl) P gl t o h X) {a : Act} {w : World} {m : Mp} (S : St gl m₀ h₀ w₀ cur b.roundOf t h a w m)
    (hw : Region.wanted o (yielded ops a.tmps) = true)
    (hk : ∀ g h' v w' m', X g h' → VR m' g v → Rep gl m' h' w' → Ext m h w m' h' w' → F (lone (b.atR (a.put o.dst v) (.inRegion ops rest :: k)) cs w')) :
    F (lone (b.atR a (.inRegion ops (i :: rest) :: k)) cs w) := by
  have hev := gev_R S.rep S.tmps
  have plain : (∀ c, o.op ≠ .defer c) → (gop P (gev gl t) o h).wp (fun x => X x.1 x.2) → F (lone (b.atR a (.inRegion ops (i :: rest) :: k)) cs w) := by
    intro hd hwp
    obtain ⟨⟨g, h'⟩, h1, h2⟩ := GM.wp_opt _ hwp
    obtain ⟨v, w', r1, m', r2, r3, r4⟩ := gop_sound S.rep hev h1
    exact hF _ _ (.one (stepR_runs ho hw hd r1)) (hk g h' v w' m' h2 r2 r3 r4)
  obtain ⟨dst, op, ty, pos, aft, gd⟩ := o
  rw [gone_eq] at hx
  unfold goneS at hx
  split at hx
  · rename_i f args ats hop
    simp only at hop
    subst hop
    have hd : ∀ c, (Op.call { callee := .value f, args := args, argTypes := ats }) ≠ .defer c := fun c => by simp
    unfold gcallV at hx
    split at hx
    · split at hx
      · rename_i g first captured hf
        split at hx
        · rename_i hcb
          have hfv := hev f
          rw [hf] at hfv
          obtain ⟨fn', f', c', e1, e2, e3, e4⟩ := hfv
          simp only [FnR] at e2
          subst e2
          have hargs := args_of hev args.toList
          have hvs := VRs_append (VRs_append e3 hargs) e4
          have hrun : (execOp a.eval ⟨dst, .call { callee := .value f, args := args, argTypes := ats }, ty, pos, aft, gd⟩).run P w = .ok (.enter g (f' ++ args.toList.map a.eval ++ c').toArray) w := by
            simp only [execOp, resolve, e1, Deferred.ofValue, Sem.run_bind, Sem.run_pure, Result.andThen_ok, invoke, callFunc, run_program]
            unfold callable at hcb
            split at hcb
            · rename_i fn hfn
              simp only [Bool.and_eq_true, Bool.not_eq_true'] at hcb
              simp only [hfn]
              rw [if_neg (by simpa using hcb.2)]
              have hbn : fn.body.isNone = false := by cases hb : fn.body <;> simp [hb] at hcb ⊢
              simp only [hbn, Bool.false_eq_true, if_false, Sem.run_pure]
              congr 2
              apply Array.ext'
              simp
            · cases hcb
          obtain ⟨e, w', fr, hR, hsteps, _, hleave⟩ := hx m w _ S.rep hvs (b.atR a (.inRegion ops (i :: rest) :: k) :: cs)
          obtain ⟨r, v, h', m', rfl, q1, q2, q3, q4⟩ := hR
          refine hF _ _ (.head (stepR_enter ho hw hd hrun) (Steps.trans hsteps (.one (step_leave_returned hleave)))) ?_
          rw [finR ho v]
          exact hk r h' v w' m' q1 q2 q3 q4
        · exact hx.elim
      · rename_i l hf
        obtain ⟨hil, hx⟩ := hx
        have hfv := hev f
        rw [hf] at hfv
        obtain ⟨fn', f', c', e1, e2, e3, e4⟩ := hfv
        obtain ⟨L, hL, rfl⟩ := e2
        cases e3; cases e4
        obtain ⟨lp, hlp⟩ : ∃ lp, w.heap[L.block]? = some (.loop lp) := by
          unfold isLoop at hil
          split at hil
          · rename_i hid
            obtain ⟨o', q1, lp, rfl, _⟩ := S.rep.rel l L _ hL hid
            exact ⟨lp, q1⟩
          · cases hil
        have hargs := args_of hev args.toList
        obtain ⟨hsz, hx⟩ := hx m w _ L lp S.rep hargs hL hlp
        have hrun : (execOp a.eval ⟨dst, .call { callee := .value f, args := args, argTypes := ats }, ty, pos, aft, gd⟩).run P w =
            .ok (.round L.block lp.fn ((lp.params.zip (args.toList.map a.eval).toArray).foldl (fun tmps (t, a) => tmps.setIfInBounds t a) lp.tmps) lp.assign lp.body) w := by
          have hg : (Instr.getLoop L.block).run P w = .ok lp w := by simp [Instr.getLoop, getObj, Sem.run, hlp]
          have ea : args.map a.eval = (args.toList.map a.eval).toArray := by apply Array.ext'; simp
          simp only [execOp, resolve, e1, Deferred.ofValue, Sem.run_bind, Sem.run_pure, Result.andThen_ok, invoke, Instr.yield, hg, ea, Array.empty_append]
          simp only [List.length_map, Array.length_toList] at hsz
          rw [if_neg (by simp [hsz])]
          rfl
        obtain ⟨v, w', hsteps, r, h', m', q1, q2, q3, q4⟩ := hx (b.atR a (.inRegion ops (i :: rest) :: k)) cs
        refine hF _ _ (.head (stepR_round ho hw hd hrun) hsteps) ?_
        rw [finR ho v]
        exact hk r h' v w' m' q1 q2 q3 q4
      · exact hx.elim
    · exact hx.elim
  · rename_i x hop
    simp only at hop
    subst hop
    obtain ⟨g, h', h1, h2⟩ := hx
    obtain ⟨v, w', r1, m', r2, r3, r4⟩ := gnext_sound (o := ⟨dst, .next x true, ty, pos, aft, gd⟩) S.rep hev rfl h1
    exact hF _ _ (.one (stepR_runs ho hw (fun c => by simp) r1)) (hk g h' v w' m' h2 r2 r3 r4)
  · rename_i hn1 hn2
    refine plain (fun c hc => ?_) hx
    simp only at hc
    subst hc
    exact hx.elim
end Gh

/- Code: what the ghost proves of it, the machine does (regions that draw their order apart). -/
namespace Gh
open Go
section
variable {P : Program} {gl : Nat → Option Nat} {m₀ : Mp} {h₀ : GHeap} {w₀ : World} {cur : Option Nat}
variable {F : Machine → Prop} {b : Frame} {cs : List Frame}

theorem gops_sound (hF : ∀ m m', Steps P m m' → F m' → F m) (ops : Array Oper) {k : List Item} {X : List GVal → GHeap → Prop} (hk : PointOK gl m₀ h₀ w₀ cur F b cs k X) :
    ∀ (os : List Oper) (i : Nat), ops.toList.drop i = os → PointOK gl m₀ h₀ w₀ cur F b cs (.inRegion ops (List.range' i os.length) :: k) (fun t h => gops (propAlg P gl) P gl ops os t h X) := by
  intro os
  induction os with
  | nil =>
    intro i _ t h hx a w m S
    exact hF _ _ (.one stepR_region_end) (hk t h hx a w m S)
  | cons o os ih =>
    intro i hdrop t h hx a w m S
    have ho : ops[i]? = some o := by
      have := congrArg (fun l => l[0]?) hdrop
      simpa using this
    have hdrop' : ops.toList.drop (i + 1) = os := by
      have := congrArg List.tail hdrop
      simpa [List.tail_drop] using this
    have hr : List.range' i (o :: os).length = i :: List.range' (i + 1) os.length := by simp [List.range'_succ]
    rw [hr]
    simp only [gops] at hx
    obtain ⟨hy, hn⟩ := gwant_sound (ops := ops) (o := o) S.tmps
    split at hx
    · rename_i hg
      refine gone_sound hF ho hx S (hy hg) ?_
      intro g h' v w' m' hX r1 r2 r3
      exact ih (i + 1) hdrop' _ _ hX _ _ _ (S.put r1 r2 r3)
    · rename_i hg
      have hs := stepR_op_skip (P := P) (b := b) (a := a) (k := k) (cs := cs) (w := w) (ops := ops) (i := i) (rest := List.range' (i + 1) os.length) (by simp [ho, hn hg])
      simp only [ho, Option.bind_some] at hs
      exact hF _ _ (.one hs) (ih (i + 1) hdrop' _ _ hx _ _ _ (S.put (g := .tuple []) (v := undef) ⟨[], rfl, rfl⟩ S.rep (Ext.refl _ _ _ S.rep.dom)))
    · exact hx.elim

/-- What is asked of the ways out. -/
structure KOK (gl : Nat → Option Nat) (m₀ : Mp) (h₀ : GHeap) (w₀ : World) (cur : Option Nat) (F : Machine → Prop) (b : Frame) (cs : List Frame) (k : List Item) (K : Kont Prop) : Prop where
  nrm : PointOK gl m₀ h₀ w₀ cur F b cs k K.nrm
  ext : ∀ id k', exitTo id k' = exitTo id k → PointOK gl m₀ h₀ w₀ cur F b cs (.code (.exit id) :: k') (K.ext id)
  ret : ∀ k', PointOK gl m₀ h₀ w₀ cur F b cs (.code .ret :: k') K.ret

def DrawSound (P : Program) (gl : Nat → Option Nat) : Prop :=
  ∀ (m₀ : Mp) (h₀ : GHeap) (w₀ : World) (cur : Option Nat) (F : Machine → Prop) (b : Frame) (cs : List Frame), (∀ m m', Steps P m m' → F m' → F m) →
  ∀ (id : Nat) (ops : Array Oper) (k : List Item) (X : List GVal → GHeap → Prop), drawOk P ops = true → PointOK gl m₀ h₀ w₀ cur F b cs k X →
    PointOK gl m₀ h₀ w₀ cur F b cs (.code (.region id ops true) :: k) (fun t h => inRange ops t = true ∧ gdr P gl (propAlg P gl) ops (dorder P ops) [] t h X)

theorem gloop_sound (hF : ∀ m m', Steps P m m' → F m' → F m) {c : Code} {f : Kont Prop → List GVal → GHeap → Prop}
    (hf : ∀ (k : List Item) (K : Kont Prop), KOK gl m₀ h₀ w₀ cur F b cs k K → PointOK gl m₀ h₀ w₀ cur F b cs (.code c :: k) (f K))
    {k : List Item} {K : Kont Prop} (hK : KOK gl m₀ h₀ w₀ cur F b cs k K) : ∀ n, PointOK gl m₀ h₀ w₀ cur F b cs (.inLoop c :: k) (gloop (propAlg P gl) f K n) := by
  intro n
  induction n with
  | zero => intro t h hx; exact hx.elim
  | succ n ih =>
    intro t h hx a w m S
    refine hF _ _ (.one stepR_inLoop) (hf (.inLoop c :: k) { K with nrm := gloop (propAlg P gl) f K n } ⟨ih, ?_, hK.ret⟩ t h hx a w m S)
    intro id k' hk'
    exact hK.ext id k' (by rw [hk']; rfl)

theorem gendLoop_sound (hF : ∀ m m', Steps P m m' → F m' → F m) {k : List Item} {K : Kont Prop} (hK : KOK gl m₀ h₀ w₀ cur F b cs k K) {l : Nat} {t : List GVal} {h : GHeap} (hx : gendLoop (propAlg P gl) K l t h)
    {a : Act} {w : World} {m : Mp} (S : St gl m₀ h₀ w₀ cur b.roundOf t h a w m) {L : Loc} (hL : m l = some L) : F (lone (b.atR a (.endRangeFunc L.block :: k)) cs w) := by
  unfold gendLoop at hx
  split at hx
  · rename_i st pending tm ps as_ bd hl
    split at hx
    · exact hx.elim
    · rename_i hst
      obtain ⟨o', q1, lp, rfl, q2, q3, q4, q5, q6, q7⟩ := S.rep.rel l L _ hL hl
      have hlt := S.rep.here l L hL
      have hrest : ∀ (O : Obj) (b : Nat), b ≠ L.block → (w.heap.setIfInBounds L.block O)[b]? = w.heap[b]? := fun O b hb => Array.getElem?_setIfInBounds_ne (fun e => hb e.symm)
      have hrun : (Instr.endLoop L.block).run P w = .ok pending { w with heap := w.heap.setIfInBounds L.block (.loop { lp with state := .exhausted }) } := by
        have hg : (Instr.getLoop L.block).run P w = .ok lp w := by simp [Instr.getLoop, getObj, Sem.run, q1]
        have hne : (lp.state == LoopState.busy) = false := by
          rw [q2]; simpa using hst
        simp only [Instr.endLoop, Sem.run_bind, hg, Result.andThen_ok, hne, Bool.false_eq_true, if_false, Sem.run_pure, q3]
        simp [setObj, Sem.run, q1]
      have R' : Rep gl m (h.set l (.loop .exhausted pending tm ps as_ bd)) { w with heap := w.heap.setIfInBounds L.block (.loop { lp with state := .exhausted }) } :=
        S.rep.change (O := .loop { lp with state := .exhausted }) hL hl rfl (by simp) (fun _ => ⟨by simp [hlt], { lp with state := .exhausted }, rfl, rfl, q3, q4, q5, q6, q7⟩) (hrest _)
      have E' : Ext m h w m (h.set l (.loop .exhausted pending tm ps as_ bd)) { w with heap := w.heap.setIfInBounds L.block (.loop { lp with state := .exhausted }) } :=
        Ext.change S.rep hL hl rfl (by simp) rfl rfl (hrest _)
      have S' := S.put (d := none) (g := .undef) (v := undef) trivial R' E'
      simp only [gput, lset_eq, Act.put] at S'
      refine hF _ _ (.one (stepR_endRangeFunc hrun)) ?_
      cases pending with
      | none => exact hK.nrm _ _ hx _ _ _ S'
      | some c =>
        cases c with
        | ret => exact hK.ret k _ _ hx _ _ _ S'
        | exit id => exact hK.ext id k rfl _ _ hx _ _ _ S'
        | _ => exact hx.elim
  · exact hx.elim

theorem Ext.junk {m : Mp} {h : GHeap} {w : World} (R : Rep gl m h w) (O : Obj) : Ext m h w m h { w with heap := w.heap.push O } where
  size := by simp
  os := rfl
  out := rfl
  len := Nat.le_refl _
  mext := fun _ _ => rfl
  new := fun id L hL => .inl (R.dom id L hL)
  keep := fun b hb _ => push_old hb
  stay := fun _ _ h _ => h
  virt := fun _ _ _ => rfl
theorem Rep.junkPush {m : Mp} {h : GHeap} {w : World} (R : Rep gl m h w) (O : Obj) : Rep gl m h { w with heap := w.heap.push O } :=
  R.junk (fun _ hb => push_old hb) (by simp)
theorem Dfr.lt {n₀ : Nat} {m : Mp} {w : World} : {ds : List Deferred} → Dfr n₀ m w ds → ∀ d ∈ ds, ∃ r, d = { target := .collected r, args := #[] } ∧ r < w.heap.size
  | [], _, d, hd => by simp at hd
  | x :: ds, ⟨⟨r, h1, h2, _, _⟩, h5⟩, d, hd => by
    rcases List.mem_cons.1 hd with rfl | hd
    · refine ⟨r, h1, ?_⟩
      rcases Nat.lt_or_ge r w.heap.size with h | h
      · exact h
      · rw [Array.getElem?_eq_none h] at h2; cases h2
    · exact Dfr.lt h5 d hd

theorem stepR_scope {a : Act} {k : List Item} {w : World} {x : Code} : step P (lone (b.atR a (.code (.scope x) :: k)) cs w) = .next (lone (b.atR a (.code x :: .inScope x :: k)) cs w) :=
  step_lone_go (by simp [stepG, stepG.exec, Frame.atR])
theorem stepR_inScope {a : Act} {k : List Item} {w : World} {x : Code} : step P (lone (b.atR a (.inScope x :: k)) cs w) = .next (lone (b.atR a k) cs w) :=
  step_lone_go (by simp [stepG, stepG.exec, Frame.atR])

theorem rangeFunc_sound (hF : ∀ m m', Steps P m m' → F m' → F m) {f : Operand} {ps : Array Tmp} {as_ bd : Code} {k : List Item} {K : Kont Prop} (hK : KOK gl m₀ h₀ w₀ cur F b cs k K) :
    PointOK gl m₀ h₀ w₀ cur F b cs (.code (.rangeFunc f ps as_ bd) :: k) (gcode P gl (propAlg P gl) cur (.rangeFunc f ps as_ bd) K) := by
  intro t h hx a w m S
  unfold gcode at hx
  split at hx
  · rename_i hcur
    split at hx
    · rename_i g first captured hf
      split at hx
      · rename_i hcb
        -- the loop's record is laid
        have key : ∃ (lm : List Deferred) (w₁ : World) (L : Nat) (dfr : Nat),
            (Instr.enterLoop b.fn a.tmps ps as_ bd b.roundOf).run P w = .ok (L, lm) { w₁ with heap := w₁.heap.push (.loop { state := .ready, pending := none, fn := b.fn, tmps := a.tmps, params := ps, assign := as_, body := bd, defers := dfr }) } ∧
            L = w₁.heap.size ∧ Rep gl m h w₁ ∧ Ext m h w m h w₁ ∧ Dfr w₀.heap.size m w₁ (lm ++ a.defers) ∧ (∀ d ∈ lm, ∃ r, d = { target := .collected r, args := #[] } ∧ r < w₁.heap.size) := by
          have hcO := S.cur
          cases hro : b.roundOf with
          | none =>
            refine ⟨[{ target := .collected w.heap.size, args := #[] }], { w with heap := w.heap.push (.deferred (some [])) }, _, w.heap.size, ?_, rfl, S.rep.junkPush _, Ext.junk S.rep _, ?_, ?_⟩
            · simp [Instr.enterLoop]; rfl
            · refine ⟨⟨w.heap.size, rfl, by simp, fun id L hL => by have := S.rep.here id L hL; omega, ?_, S.ext.size⟩, Dfr.ext S.rep (Ext.junk S.rep _) S.dfr⟩
              intro d' hd' e
              obtain ⟨r, e1, hr⟩ := Dfr.lt S.dfr d' hd'
              rw [e1] at e
              simp only [Deferred.mk.injEq, Target.collected.injEq, and_true] at e
              omega
            · intro d hd
              simp at hd; subst hd
              exact ⟨_, rfl, by simp⟩
          | some r =>
            rw [hro] at hcO
            cases cur with
            | none => exact hcO.elim
            | some lc =>
              obtain ⟨Lc, hLc, hLb⟩ := hcO
              simp only [] at hcur
              unfold isLoop at hcur
              split at hcur
              · rename_i hid
                obtain ⟨o', q1, lp, rfl, _⟩ := S.rep.rel lc Lc _ hLc hid
                subst hLb
                refine ⟨[], w, _, lp.defers, ?_, rfl, S.rep, Ext.refl m h w S.rep.dom, S.dfr, fun d hd => by simp at hd⟩
                have hg : (Instr.getLoop Lc.block).run P w = .ok lp w := by simp [Instr.getLoop, getObj, Sem.run, q1]
                simp [Instr.enterLoop, hg]
              · cases hcur
        obtain ⟨lm, w₁, L, dfr, he, rfl, R1, E1, hdf, hlm⟩ := key
        have hwr : (GObj.loop .ready none t ps as_ bd).wr = true := rfl
        let lp : Go.Loop := { state := .ready, pending := none, fn := b.fn, tmps := a.tmps, params := ps, assign := as_, body := bd, defers := dfr }
        have hle : MLe m (m.set h.length ⟨w₁.heap.size, 0, 0⟩) := Mp.set_le (R1.none_of_ge (Nat.le_refl _))
        have R2 := R1.push (sz := 0) (d := w₁.drawn) (O := .loop lp) hwr ⟨lp, rfl, rfl, rfl, VRs.mono hle _ _ S.tmps, rfl, rfl, rfl⟩
        have E2 := Ext.push R1 (sz := 0) (d := w₁.drawn) (obj := .loop .ready none t ps as_ bd) (O := .loop lp)
        have hev := gev_R S.rep S.tmps
        have hfv := hev f
        rw [hf] at hfv
        obtain ⟨fn', f', c', e1, e2, e3, e4⟩ := hfv
        simp only [FnR] at e2
        subst e2
        have hvs : VRs (m.set h.length ⟨w₁.heap.size, 0, 0⟩) (first ++ [.func (.yield h.length) [] []] ++ captured) (f' ++ [Value.func (.yield w₁.heap.size) #[] #[]] ++ c') :=
          VRs_append (VRs_append (VRs.mono hle _ _ e3) ⟨_, [], rfl, ⟨.yield w₁.heap.size, [], [], rfl, ⟨_, Mp.set_self _ _ _, rfl⟩, rfl, rfl⟩, rfl⟩) (VRs.mono hle _ _ e4)
        have hres : (resolve a.eval (rangeCall f w₁.heap.size) 0).run P { w₁ with heap := w₁.heap.push (.loop lp), drawn := w₁.drawn } =
            .ok { target := .fn (.func g) c'.toArray, args := f'.toArray ++ #[Value.func (.yield w₁.heap.size) #[] #[]] } { w₁ with heap := w₁.heap.push (.loop lp), drawn := w₁.drawn } := by
          have ee : a.eval (.const (.func (.yield w₁.heap.size) #[] #[])) = .func (.yield w₁.heap.size) #[] #[] := rfl
          simp [resolve, e1, Deferred.ofValue, ee]
        have hinv : (invoke (.fn (.func g) c'.toArray) (f'.toArray ++ #[Value.func (.yield w₁.heap.size) #[] #[]])).run P { w₁ with heap := w₁.heap.push (.loop lp), drawn := w₁.drawn } =
            .ok (.enter g (f' ++ [Value.func (.yield w₁.heap.size) #[] #[]] ++ c').toArray) { w₁ with heap := w₁.heap.push (.loop lp), drawn := w₁.drawn } := by
          simp only [invoke, callFunc, Sem.run_bind, run_program, Result.andThen_ok]
          unfold callable at hcb
          split at hcb
          · rename_i fn hfn
            simp only [Bool.and_eq_true, Bool.not_eq_true'] at hcb
            simp only [hfn]
            rw [if_neg (by simpa using hcb.2)]
            have hbn : fn.body.isNone = false := by cases hb : fn.body <;> simp [hb] at hcb ⊢
            simp only [hbn, Bool.false_eq_true, if_false, Sem.run_pure]
            congr 2
            apply Array.ext'
            simp
          · cases hcb
        have henter := stepR_rangeFunc (P := P) (b := b) (a := a) (k := k) (cs := cs) (w := w) he hres hinv
        obtain ⟨e, w', fr, hR, hsteps, _, hleave⟩ := hx _ _ _ R2 hvs (b.atR { a with defers := lm ++ a.defers } (.inRangeFunc w₁.heap.size :: k) :: cs)
        obtain ⟨r, v, h', m', rfl, q1, q2, q3, q4⟩ := hR
        refine hF _ _ (.head henter (Steps.trans hsteps (.one (step_leave_returned hleave)))) ?_
        rw [finish_atR_inRangeFunc w₁.heap.size v]
        have E3 := (E1.trans E2).trans q4
        have hm' : m' h.length = some ⟨w₁.heap.size, 0, 0⟩ := by
          rw [q4.mext h.length (by simp)]; exact Mp.set_self _ _ _
        have hle2 := E3.mle S.rep.dom
        have S' : St gl m₀ h₀ w₀ cur b.roundOf t h' { a with defers := lm ++ a.defers } w' m' := by
          refine ⟨VRs.mono hle2 _ _ S.tmps, q3, S.ext.trans E3, ?_, S.dom₀, S.cur.mono hle2⟩
          exact Dfr.ext R1 (E2.trans q4) hdf
        have := gendLoop_sound hF hK q1 S' hm'
        exact this
      · exact hx.elim
    · exact hx.elim
  · exact hx.elim

theorem gcode_sound (hD : DrawSound P gl) (hF : ∀ m m', Steps P m m' → F m' → F m) : ∀ (c : Code) (k : List Item) (K : Kont Prop), KOK gl m₀ h₀ w₀ cur F b cs k K →
    PointOK gl m₀ h₀ w₀ cur F b cs (.code c :: k) (gcode P gl (propAlg P gl) cur c K) := by
  intro c
  induction c with
  | skip => intro k K hK t h hx a w m S; exact hF _ _ (.one stepR_skip) (hK.nrm t h hx a w m S)
  | region id ops draw =>
    intro k K hK t h hx a w m S
    unfold gcode at hx
    cases draw with
    | true =>
      simp only [if_true] at hx
      split at hx
      · rename_i hok
        simp only [Bool.and_eq_true] at hok
        exact hD m₀ h₀ w₀ cur F b cs hF id ops k K.nrm hok.1 hK.nrm t h ⟨hok.2, hx⟩ a w m S
      · exact hx.elim
    | false =>
      simp only [Bool.false_eq_true, if_false] at hx
      refine hF _ _ (.one stepR_region) ?_
      have := gops_sound hF ops hK.nrm ops.toList 0 (by simp) t h hx a w m S
      rw [List.range_eq_range']
      simpa using this
  | seq x y ihx ihy =>
    intro k K hK t h hx a w m S
    refine hF _ _ (.one stepR_seq) (ihx (.code y :: k) { K with nrm := fun t h => gcode P gl (propAlg P gl) cur y K t h } ⟨ihy k K hK, ?_, hK.ret⟩ t h hx a w m S)
    intro id k' hk'
    exact hK.ext id k' (by rw [hk']; rfl)
  | cond c x y ihx ihy =>
    intro k K hK t h hx a w m S
    unfold gcode at hx
    split at hx
    · rename_i v hv
      have hcv := gev_R S.rep S.tmps c
      rw [hv] at hcv
      simp only [VR] at hcv
      refine hF _ _ (.one (stepR_cond hcv)) ?_
      cases v with
      | true => simp only [if_true] at hx ⊢; exact ihx k K hK t h hx a w m S
      | false => simp only [Bool.false_eq_true, if_false] at hx ⊢; exact ihy k K hK t h hx a w m S
    · exact hx.elim
  | block id x ih =>
    intro k K hK t h hx a w m S
    refine hF _ _ (.one stepR_block) (ih (.inBlock id :: k) { K with ext := fun i t h => if i = id then K.nrm t h else K.ext i t h } ⟨?_, ?_, hK.ret⟩ t h hx a w m S)
    · intro t h hx a w m S
      exact hF _ _ (.one stepR_inBlock) (hK.nrm t h hx a w m S)
    · intro i k' hk' t h hx a w m S
      simp only [] at hx
      by_cases e : i = id
      · subst e
        rw [if_pos rfl] at hx
        refine hF _ _ (.one (stepR_exit (k' := k) ?_)) (hK.nrm t h hx a w m S)
        rw [hk']; simp [exitTo]
      · rw [if_neg e] at hx
        refine hK.ext i k' ?_ t h hx a w m S
        rw [hk']
        have : (id == i) = false := by simpa using fun h => e h.symm
        simp [exitTo, this]
  | loop x ih =>
    intro k K hK t h hx a w m S
    obtain ⟨n, hx⟩ := hx
    cases n with
    | zero => exact hx.elim
    | succ n =>
      refine hF _ _ (.one stepR_loop) (ih (.inLoop x :: k) { K with nrm := gloop (propAlg P gl) (fun K t h => gcode P gl (propAlg P gl) cur x K t h) K n } ⟨?_, ?_, hK.ret⟩ t h hx a w m S)
      · exact gloop_sound hF (fun k K hK => ih k K hK) hK n
      · intro id k' hk'
        exact hK.ext id k' (by rw [hk']; rfl)
  | exit id => intro k K hK t h hx a w m S; exact hK.ext id k rfl t h hx a w m S
  | scope x ih =>
    intro k K hK t h hx a w m S
    refine hF _ _ (.one (stepR_scope)) (ih (.inScope x :: k) K ⟨?_, ?_, hK.ret⟩ t h hx a w m S)
    · intro t h hx a w m S
      exact hF _ _ (.one stepR_inScope) (hK.nrm t h hx a w m S)
    · intro id k' hk'
      exact hK.ext id k' (by rw [hk']; rfl)
  | label l => intro k K hK t h hx a w m S; exact hF _ _ (.one stepR_label) (hK.nrm t h hx a w m S)
  | goto l => intro k K hK t h hx; exact hx.elim
  | ret => intro k K hK t h hx a w m S; exact hK.ret k t h hx a w m S
  | refuse y => intro k K hK t h hx; exact hx.elim
  | rangeFunc f ps as_ bd iha ihb =>
    intro k K hK
    exact rangeFunc_sound hF hK
end
end Gh

/- Functions and rounds: what the ghost proves of a body is what a call does. -/
namespace Gh
open Go
section
variable {P : Program} {gl : Nat → Option Nat}

theorem step_collected {fr : Frame} {cs : List Frame} {w : World} {r : Nat} {ds : List Deferred} (hm : fr.mode = .returning) (hd : fr.defers = { target := .collected r, args := #[] } :: ds)
    (hr : w.heap[r]? = some (.deferred (some []))) :
    step P (lone fr cs w) = .next (lone { fr with defers := ds } cs { w with heap := w.heap.setIfInBounds r (.deferred none) }) := by
  refine step_lone_go ?_
  have hrun : (Instr.takeDeferred r).run P w = .ok [] { w with heap := w.heap.setIfInBounds r (.deferred none) } := by
    simp [Instr.takeDeferred, getObj, setObj, Sem.run, hr]
  simp [stepG, unwind, hm, hd, Sem.runT_eq, hrun, GStep.bare_after]

theorem Rep.aside {m : Mp} {h : GHeap} {w : World} (R : Rep gl m h w) {r : Nat} {O : Obj} (hr : ∀ (id : Nat) (L : Loc), m id = some L → L.block ≠ r) :
    Rep gl m h { w with heap := w.heap.setIfInBounds r O } := by
  refine ⟨R.dom, fun id L hL => by simpa using R.here id L hL, fun id L o hL ho => ?_, R.inj, R.glob⟩
  obtain ⟨o', h1, h2⟩ := R.rel id L o hL ho
  exact ⟨o', by rw [Array.getElem?_setIfInBounds_ne (fun e => hr id L hL e.symm)]; exact h1, h2⟩

theorem Ext.aside {m₀ m : Mp} {h₀ h : GHeap} {w₀ w : World} (E : Ext m₀ h₀ w₀ m h w) {r : Nat} {O : Obj} (hr : w₀.heap.size ≤ r) :
    Ext m₀ h₀ w₀ m h { w with heap := w.heap.setIfInBounds r O } :=
  ⟨by simpa using E.size, E.os, E.out, E.len, E.mext, E.new, fun b hb hno => by
    have : r ≠ b := by omega
    simp only []
    rw [Array.getElem?_setIfInBounds_ne this]; exact E.keep b hb hno, E.stay, E.virt⟩

/-- The deferred blocks of a frame's loops over functions are taken at its end. -/
theorem unwind_sound {m₀ m : Mp} {h₀ h : GHeap} {w₀ : World} {cs : List Frame} : ∀ (ds : List Deferred) (fr : Frame) (w : World), fr.mode = .returning → fr.defers = ds → Dfr w₀.heap.size m w ds → Rep gl m h w → Ext m₀ h₀ w₀ m h w →
    ∃ w', Steps P (lone fr cs w) (lone { fr with defers := [] } cs w') ∧ Rep gl m h w' ∧ Ext m₀ h₀ w₀ m h w' := by
  intro ds
  induction ds with
  | nil =>
    intro fr w hm hd _ R E
    refine ⟨w, ?_, R, E⟩
    have : { fr with defers := [] } = fr := by cases fr; simp at hd; subst hd; rfl
    rw [this]; exact Steps.refl _ _
  | cons d ds ih =>
    intro fr w hm hd hdf R E
    obtain ⟨⟨r, rfl, h2, h3, h4, h5⟩, h6⟩ := hdf
    have hdf' : ∀ (ds : List Deferred), (∀ d' ∈ ds, d' ≠ { target := .collected r, args := #[] }) → Dfr w₀.heap.size m w ds → Dfr w₀.heap.size m { w with heap := w.heap.setIfInBounds r (.deferred none) } ds := by
      intro ds
      induction ds with
      | nil => intro _ _; trivial
      | cons e es ihe =>
        intro hne hx
        obtain ⟨⟨r', e1, e2, e3, e4, e5⟩, e6⟩ := hx
        refine ⟨⟨r', e1, ?_, e3, e4, e5⟩, ihe (fun d' hd' => hne d' (List.mem_cons_of_mem _ hd')) e6⟩
        have hrr : r ≠ r' := by
          rintro rfl
          exact hne e (List.mem_cons_self ..) e1
        simp only []
        rw [Array.getElem?_setIfInBounds_ne hrr]; exact e2
    obtain ⟨w', g1, g2, g3⟩ := ih { fr with defers := ds } { w with heap := w.heap.setIfInBounds r (.deferred none) } hm rfl (hdf' ds h4 h6) (R.aside h3) (E.aside h5)
    exact ⟨w', .head (step_collected hm hd h2) g1, g2, g3⟩

def resOne (tmps : Array Value) : ResultVar → Sem Value
  | .tmp t => pure (tmps.getD t undef)
  | .cell a t => do loadVar t (← asAddr (tmps.getD a undef))

theorem gres_sound {m : Mp} {h : GHeap} {w : World} (R : Rep gl m h w) {t : List GVal} {tmps : Array Value} (ht : VRs m t tmps.toList) : ∀ (rs : List ResultVar) (l : List GVal), gres P t h rs = some l →
    ∃ vs, (rs.mapM (resOne tmps)).run P w = .ok vs w ∧ VRs m l vs := by
  intro rs
  induction rs with
  | nil => intro l hl; cases hl; exact ⟨[], rfl, rfl⟩
  | cons r rs ih =>
    intro l hl
    cases r with
    | tmp i =>
      simp only [gres, Option.map_eq_some_iff] at hl
      obtain ⟨l', h1, rfl⟩ := hl
      obtain ⟨vs, g1, g2⟩ := ih l' h1
      refine ⟨tmps.getD i undef :: vs, ?_, ⟨_, _, rfl, VRs.getD ht i, g2⟩⟩
      rw [List.mapM_cons]
      simp only [resOne, Sem.run_bind, Sem.run_pure, Result.andThen_ok, g1]
    | cell a ty =>
      simp only [gres] at hl
      have hva := VRs.getD ht a
      have fin : ∀ id off g l', t.getD a .undef = .ptr (some (id, off)) → gres P t h rs = some l' →
          ((tagg P ty = some false ∧ gload h id off = some g) ∨ (tagg P ty = some true ∧ ∃ n, tsize P ty = some n ∧ (gloads h id off n).map .agg = some g)) → l = g :: l' →
          ∃ vs, ((ResultVar.cell a ty :: rs).mapM (resOne tmps)).run P w = .ok vs w ∧ VRs m l vs := by
        intro id off g l' h1 h2 h3 h4
        subst h4
        obtain ⟨v, k1, k2⟩ := load_sound (P := P) R hva h1 h3
        obtain ⟨vs, g1, g2⟩ := ih l' h2
        refine ⟨v :: vs, ?_, ⟨_, _, rfl, k1, g2⟩⟩
        rw [h1] at hva
        obtain ⟨L, hL, e⟩ := hva
        rw [e] at k2
        simp only [Instr.loadAt, Instr.sureAddr, Sem.run_bind, Sem.run_pure, Result.andThen_ok] at k2
        rw [List.mapM_cons]
        simp only [resOne, Sem.run_bind, e, asAddr, Sem.run_pure, Result.andThen_ok, k2, g1]
      split at hl
      · rename_i id off l' h1 h2 h3
        simp only [Option.map_eq_some_iff] at hl
        obtain ⟨v, hv, rfl⟩ := hl
        exact fin id off v l' h1 h3 (.inl ⟨h2, hv⟩) rfl
      · rename_i id off n l' h1 h2 h3 h4
        simp only [Option.map_eq_some_iff] at hl
        obtain ⟨v, hv, rfl⟩ := hl
        exact fin id off (.agg v) l' h1 h4 (.inr ⟨h2, n, h3, by rw [hv]; rfl⟩) rfl
      · cases hl

theorem results_sound {m : Mp} {h : GHeap} {w : World} (R : Rep gl m h w) {t : List GVal} {tmps : Array Value} (ht : VRs m t tmps.toList) {fn : Func} {l : List GVal} (hl : gres P t h fn.results.toList = some l) :
    ∃ v, (results fn tmps).run P w = .ok v w ∧ VR m (gresV l) v := by
  obtain ⟨vs, h1, h2⟩ := gres_sound R ht fn.results.toList l hl
  have hm : (fn.results.mapM (resOne tmps)).run P w = .ok vs.toArray w := by
    rw [Array.mapM_eq_mapM_toList]
    simp only [Sem.run_map, h1, Result.andThen_ok]
  have hr : (results fn tmps).run P w = .ok (if h : vs.toArray.size = 1 then vs.toArray[0] else .tuple vs.toArray) w := by
    have e : results fn tmps = (do let vs ← fn.results.mapM (resOne tmps); pure (if h : vs.size = 1 then vs[0] else .tuple vs) : Sem Value) := by
      unfold results resOne
      rfl
    rw [e]
    simp only [Sem.run_bind, hm, Result.andThen_ok, Sem.run_pure]
  refine ⟨_, hr, ?_⟩
  unfold gresV
  split
  · obtain ⟨v, vs', rfl, k1, k2⟩ := h2
    cases k2
    simpa using k1
  · rename_i hne
    have : ¬ vs.toArray.size = 1 := by
      intro e
      have hlen := h2.length
      simp at e
      rw [e] at hlen
      match l, hlen with
      | [v], _ => exact hne v rfl
    rw [dif_neg this]
    exact ⟨vs, rfl, h2⟩

theorem gfunc_sound (hD : DrawSound P gl) {f : FuncId} {fn : Func} {c : Code} {args : List GVal} {h : GHeap} {Q : GVal → GHeap → Prop} (hf : P.funcs[f]? = some fn) (hb : fn.body = some c)
    (hx : gfunc P gl (propAlg P gl) fn c args h Q) : CallsG P gl f args h Q := by
  intro m w vs R hvs cs
  let b : Frame := { (default : Frame) with fn := f, kind := .normal, roundOf := none }
  let F : Machine → Prop := fun M => ∃ v w' fr, Steps P M (lone fr cs w') ∧ fr.fn = f ∧ fr.leaving P w' (.returned v) ∧
    ∃ r h' m', Q r h' ∧ VR m' r v ∧ Rep gl m' h' w' ∧ Ext m h w m' h' w'
  have hF : ∀ M M', Steps P M M' → F M' → F M := by
    rintro M M' hs ⟨v, w', fr, h1, h2⟩
    exact ⟨v, w', fr, hs.trans h1, h2⟩
  have fin : ∀ (t : List GVal) (h' : GHeap), gresults P (propAlg P gl) fn Q t h' → ∀ (a : Act) (w' : World) (m' : Mp), St gl m h w none b.roundOf t h' a w' m' →
      ∀ todo, F (lone { b.atR a todo with mode := .returning } cs w') := by
    intro t h' hr a w' m' S todo
    obtain ⟨w2, g1, g2, g3⟩ := unwind_sound (P := P) (m₀ := m) (h₀ := h) (w₀ := w) (cs := cs) a.defers { b.atR a todo with mode := .returning } w' rfl rfl S.dfr S.rep S.ext
    unfold gresults at hr
    obtain ⟨⟨r, h2⟩, k1, k2⟩ := GM.wp_opt _ hr
    split at k1
    · rename_i l hl
      cases k1
      obtain ⟨v, q1, q2⟩ := results_sound g2 S.tmps hl
      exact ⟨v, w2, _, g1, rfl, ⟨rfl, rfl, rfl, fn, hf, q1⟩, _, h', m', k2, q2, g2, g3⟩
    · cases k1
  have hcode := gcode_sound (m₀ := m) (h₀ := h) (w₀ := w) (cur := none) (F := F) (b := b) (cs := cs) hD hF c []
    { nrm := gresults P (propAlg P gl) fn Q, ext := fun _ _ _ => False, ret := gresults P (propAlg P gl) fn Q }
    ⟨fun t h' hr a w' m' S => hF _ _ (.one (stepR_end rfl)) (fin t h' hr a w' m' S []),
     fun id k' _ t h' hr => hr.elim,
     fun k' t h' hr a w' m' S => hF _ _ (.one (stepR_ret rfl)) (fin t h' hr a w' m' S _)⟩
  have henter : Frame.enter P f vs.toArray .normal = b.atR { tmps := vs.toArray ++ Array.replicate (fn.ntmps - vs.toArray.size) undef, defers := [] } [.code c] := by
    simp [Frame.enter, Frame.atR, hf, hb, b]
  have hlen := hvs.length
  have S₀ : St gl m h w none b.roundOf (gstart fn args) h { tmps := vs.toArray ++ Array.replicate (fn.ntmps - vs.toArray.size) undef, defers := [] } w m := by
    refine ⟨?_, R, Ext.refl m h w R.dom, trivial, R.dom, trivial⟩
    unfold gstart
    have : (vs.toArray ++ Array.replicate (fn.ntmps - vs.toArray.size) undef).toList = vs ++ List.replicate (fn.ntmps - args.length) undef := by simp [hlen]
    rw [this]
    exact VRs_append hvs (VRs_replicate _ trivial)
  obtain ⟨v, w', fr, h1, h2, h3, r, h', m', h4⟩ := hcode _ _ hx _ _ _ S₀
  refine ⟨.returned v, w', fr, ⟨r, v, h', m', rfl, h4⟩, ?_, h2, h3⟩
  rw [henter]
  exact h1

theorem gsets_VRs {m : Mp} : ∀ (ps : List Tmp) (gs : List GVal) (us : List Value) (t : List GVal) (tm : Array Value), VRs m gs us → VRs m t tm.toList →
    VRs m (gsets t ps gs) (((ps.zip us).foldl (fun (tmps : Array Value) (x : Tmp × Value) => tmps.setIfInBounds x.1 x.2) tm).toList) := by
  intro ps
  induction ps with
  | nil => intro gs us t tm _ ht; simpa [gsets] using ht
  | cons p ps ih =>
    intro gs us t tm hg ht
    cases gs with
    | nil => cases hg; simpa [gsets] using ht
    | cons g gs =>
      obtain ⟨u, us, rfl, h1, h2⟩ := hg
      simp only [gsets, List.zip_cons_cons, List.foldl_cons]
      exact ih gs us (t.set p g) (tm.setIfInBounds p u) h2 (by rw [Array.toList_setIfInBounds]; exact VRs_set p ht h1)

theorem loop_change {m : Mp} {h : GHeap} {w : World} (R : Rep gl m h w) {l : Nat} {L : Loc} {st st' : LoopState} {pd pd' : Option Code} {tm : List GVal} {ps : Array Tmp} {as_ bd : Code} (hm : m l = some L)
    (hl : h[l]? = some (.loop st pd tm ps as_ bd)) : ∃ lp : Go.Loop, w.heap[L.block]? = some (.loop lp) ∧ lp.state = st ∧ lp.pending = pd ∧ VRs m tm lp.tmps.toList ∧ lp.params = ps ∧ lp.assign = as_ ∧ lp.body = bd ∧
      Rep gl m (h.set l (.loop st' pd' tm ps as_ bd)) { w with heap := w.heap.setIfInBounds L.block (.loop { lp with state := st', pending := pd' }) } ∧
      Ext m h w m (h.set l (.loop st' pd' tm ps as_ bd)) { w with heap := w.heap.setIfInBounds L.block (.loop { lp with state := st', pending := pd' }) } := by
  obtain ⟨o', q1, lp, rfl, q2, q3, q4, q5, q6, q7⟩ := R.rel l L _ hm hl
  have hlt := R.here l L hm
  have hrest : ∀ (O : Obj) (b : Nat), b ≠ L.block → (w.heap.setIfInBounds L.block O)[b]? = w.heap[b]? := fun O b hb => Array.getElem?_setIfInBounds_ne (fun e => hb e.symm)
  refine ⟨lp, q1, q2, q3, q4, q5, q6, q7, ?_, ?_⟩
  · exact R.change (O := .loop { lp with state := st', pending := pd' }) hm hl rfl (by simp) (fun _ => ⟨by simp [hlt], { lp with state := st', pending := pd' }, rfl, rfl, rfl, q4, q5, q6, q7⟩) (hrest _)
  · exact Ext.change R hm hl rfl (by simp) rfl rfl (hrest _)

theorem ground_sound (hD : DrawSound P gl) {l : Nat} {args : List GVal} {h : GHeap} {Q : GVal → GHeap → Prop} (hx : ground P gl (propAlg P gl) l args h Q) : RoundG P gl l args h Q := by
  intro m w vs L lp R hvs hL hlp
  unfold ground at hx
  split at hx
  · rename_i pd tm ps as_ bd hl
    split at hx
    · rename_i hsz
      obtain ⟨o', q1, lp', rfl, q2, q3, q4, q5, q6, q7⟩ := R.rel l L _ hL hl
      rw [hlp] at q1; cases q1
      refine ⟨by rw [q5, hvs.length]; exact hsz.symm, fun c cs => ?_⟩
      let b : Frame := { (default : Frame) with fn := lp.fn, kind := .normal, roundOf := some L.block }
      let F : Machine → Prop := fun M => ∃ v w', Steps P M (lone (c.finish v) cs w') ∧ ∃ r h' m', Q r h' ∧ VR m' r v ∧ Rep gl m' h' w' ∧ Ext m h w m' h' w'
      have hF : ∀ M M', Steps P M M' → F M' → F M := by
        rintro M M' hs ⟨v, w', h1, h2⟩
        exact ⟨v, w', hs.trans h1, h2⟩
      -- the end of the round
      have fin : ∀ (jump : Option Code) (t : List GVal) (h' : GHeap), gendRound (propAlg P gl) l jump Q h' → ∀ (a : Act) (w' : World) (m' : Mp), St gl m h w (some l) b.roundOf t h' a w' m' → m' l = some L →
          ∃ v w2, (Instr.endRound L.block jump).run P w' = .ok v w2 ∧ ∃ r h2 m2, Q r h2 ∧ VR m2 r v ∧ Rep gl m2 h2 w2 ∧ Ext m h w m2 h2 w2 := by
        intro jump t h' hr a w' m' S hm'
        unfold gendRound at hr
        split at hr
        · rename_i st2 pd2 tm2 ps2 as2 bd2 hl2
          obtain ⟨lp2, k1, _, _, _, _, _, _, k2, k3⟩ := loop_change S.rep (st' := if jump.isNone then .ready else .done) (pd' := jump) hm' hl2
          refine ⟨.bool jump.isNone, _, ?_, _, _, m', hr, rfl, k2, S.ext.trans k3⟩
          have hg : (Instr.getLoop L.block).run P w' = .ok lp2 w' := by simp [Instr.getLoop, getObj, Sem.run, k1]
          simp only [Instr.endRound, Sem.run_bind, hg, Result.andThen_ok, Sem.run_pure]
          simp [setObj, Sem.run, k1]
        · exact hr.elim
      have mL : ∀ {t h' a w' m'}, St gl m h w (some l) b.roundOf t h' a w' m' → m' l = some L := by
        intro t h' a w' m' S
        rw [S.ext.mext l (R.dom l L hL)]; exact hL
      let K2 : Kont Prop :=
        { nrm := fun _ h => gendRound (propAlg P gl) l none Q h
          ext := fun id _ h => gendRound (propAlg P gl) l (some (.exit id)) Q h
          ret := fun _ h => gendRound (propAlg P gl) l (some .ret) Q h }
      have hK2 : KOK gl m h w (some l) F b (c :: cs) [] K2 := by
        refine ⟨?_, ?_, ?_⟩
        · intro t h' hr a w' m' S
          obtain ⟨v, w2, e1, e2⟩ := fin none t h' hr a w' m' S (mL S)
          exact ⟨v, w2, .one (stepR_round_end rfl rfl e1), e2⟩
        · intro id k' hk' t h' hr a w' m' S
          obtain ⟨v, w2, e1, e2⟩ := fin (some (.exit id)) t h' hr a w' m' S (mL S)
          exact ⟨v, w2, .one (stepR_round_exit rfl rfl hk' e1), e2⟩
        · intro k' t h' hr a w' m' S
          obtain ⟨v, w2, e1, e2⟩ := fin (some .ret) t h' hr a w' m' S (mL S)
          exact ⟨v, w2, .one (stepR_round_ret rfl rfl e1), e2⟩
      have hbody := gcode_sound (m₀ := m) (h₀ := h) (w₀ := w) (cur := some l) (F := F) (b := b) (cs := c :: cs) hD hF bd [] K2 hK2
      let K1 : Kont Prop :=
        { nrm := fun t h => match h[l]? with
            | some (.loop .ready pd tm' ps' as' bd') => gcode P gl (propAlg P gl) (some l) bd K2 t (h.set l (.loop .busy pd tm' ps' as' bd'))
            | _ => False
          ext := fun _ _ _ => False
          ret := fun _ _ => False }
      have hK1 : KOK gl m h w (some l) F b (c :: cs) [.beginRound, .code bd] K1 := by
        refine ⟨?_, fun _ _ _ _ _ hr => hr.elim, fun _ _ _ hr => hr.elim⟩
        intro t h' hr a w' m' S
        simp only [K1] at hr
        split at hr
        · rename_i pd2 tm2 ps2 as2 bd2 hl2
          obtain ⟨lp2, k1, k0, k9, _, _, _, _, k2, k3⟩ := loop_change S.rep (st' := .busy) (pd' := pd2) (mL S) hl2
          have hrun : (Instr.beginRound L.block).run P w' = .ok () { w' with heap := w'.heap.setIfInBounds L.block (.loop { lp2 with state := .busy, pending := pd2 }) } := by
            have hg : (Instr.getLoop L.block).run P w' = .ok lp2 w' := by simp [Instr.getLoop, getObj, Sem.run, k1]
            have hp : lp2.pending = pd2 := k9
            simp only [Instr.beginRound, Sem.run_bind, hg, Result.andThen_ok, k0]
            have : (setObj L.block (.loop { lp2 with state := .busy })).run P w' = .ok () { w' with heap := w'.heap.setIfInBounds L.block (.loop { lp2 with state := .busy }) } := by simp [setObj, Sem.run, k1]
            rw [this]
            simp only [Result.andThen_ok, Sem.run_pure]
            subst hp
            rfl
          have S' := S.put (d := none) (g := .undef) (v := undef) trivial k2 k3
          simp only [gput, lset_eq, Act.put] at S'
          exact hF _ _ (.one (stepR_beginRound rfl hrun)) (hbody _ _ hr _ _ _ S')
        · exact hr.elim
      have hass := gcode_sound (m₀ := m) (h₀ := h) (w₀ := w) (cur := some l) (F := F) (b := b) (cs := c :: cs) hD hF as_ [.beginRound, .code bd] K1 hK1
      have henter : Frame.round L.block lp.fn ((lp.params.zip vs.toArray).foldl (fun tmps (t, a) => tmps.setIfInBounds t a) lp.tmps) lp.assign lp.body .normal =
          b.atR { tmps := (lp.params.zip vs.toArray).foldl (fun tmps (t, a) => tmps.setIfInBounds t a) lp.tmps, defers := [] } [.code as_, .beginRound, .code bd] := by
        rw [q6, q7]; simp [Frame.round, Frame.atR, b]
      rw [henter]
      refine hass _ _ hx _ _ m ⟨?_, R, Ext.refl m h w R.dom, trivial, R.dom, ⟨L, hL, rfl⟩⟩
      have := gsets_VRs ps.toList args vs tm lp.tmps hvs q4
      rw [q5, ← Array.foldl_toList, Array.toList_zip]
      simpa using this
    · exact hx.elim
  · exact hx.elim
end
end Gh

/- The evaluator is sound: what it computes, a call does. -/
namespace Gh
open Go

mutual
theorem Kd.fits_ex : (k : Kd) → {Q : GVal → Prop} → (v : GVal) → k.fits v = true → Q v → k.ex Q
  | .int k, _, .int l n, h, q => by simp [Kd.fits] at h; subst h; exact ⟨n, q⟩
  | .bool, _, .bool b, _, q => ⟨b, q⟩
  | .str, _, .str b, _, q => ⟨b, q⟩
  | .ptr, _, .ptr b, _, q => ⟨b, q⟩
  | .slice, _, .slice a n c o, _, q => ⟨a, n, c, o, q⟩
  | .map, _, .map b, _, q => ⟨b, q⟩
  | .func, _, v, _, q => ⟨v, q⟩
  | .other, _, v, _, q => ⟨v, q⟩
  | .agg l, _, .agg vs, h, q => Kd.fits_exs l vs h q
  | .tup l, _, .tuple vs, h, q => Kd.fits_exs l vs h q
theorem Kd.fits_exs : (k : List Kd) → {Q : List GVal → Prop} → (v : List GVal) → Kd.fitss k v = true → Q v → Kd.exs k Q
  | [], _, [], _, q => q
  | k :: ks, _, v :: vs, h, q => by
    simp only [Kd.fitss, Bool.and_eq_true] at h
    exact Kd.fits_ex k v h.1 (Kd.fits_exs ks vs h.2 q)
end

theorem GM.opt_wp {X : Type} {Q : X → Prop} {x : X} (q : Q x) : (g : GM X) → g.opt = some x → g.wp Q
  | .ret y, h => by cases h; exact q
  | .fail, h => by cases h
  | .req c d k, h => by
    simp only [GM.opt] at h
    split at h
    · exact ⟨‹_›, GM.opt_wp q k h⟩
    · cases h
  | .dst kd o k, h => by
    cases o with
    | none => cases h
    | some v =>
      simp only [GM.opt] at h
      split at h
      · exact Kd.fits_ex kd v ‹_› ⟨rfl, GM.opt_wp q (k v) h⟩
      · cases h
  | .eff kd o k, h => by
    cases o with
    | none => cases h
    | some v =>
      obtain ⟨v, h'⟩ := v
      simp only [GM.opt] at h
      split at h
      · exact Kd.fits_ex kd v ‹_› ⟨h', rfl, GM.opt_wp q (k v h') h⟩
      · cases h
  | .sto o k, h => by
    cases o with
    | none => cases h
    | some h' => exact ⟨h', rfl, GM.opt_wp q (k h') h⟩

section
variable {A B : Type}
structure Hom (a : Alg A) (b : Alg B) (ρ : A → B → Prop) : Prop where
  fail : ∀ y, ρ a.fail y
  gm : ∀ g k k', (∀ v h, ρ (k v h) (k' v h)) → ρ (a.gm g k) (b.gm g k')
  nxt : ∀ g k k', (∀ v h, ρ (k v h) (k' v h)) → ρ (a.nxt g k) (b.nxt g k')
  req : ∀ c d x y, ρ x y → ρ (a.req c d x) (b.req c d y)
  call : ∀ f args h k k', (∀ v h, ρ (k v h) (k' v h)) → ρ (a.call f args h k) (b.call f args h k')
  round : ∀ f args h k k', (∀ v h, ρ (k v h) (k' v h)) → ρ (a.round f args h k) (b.round f args h k')
  loop : ∀ f f', (∀ n, ρ (f n) (f' n)) → ρ (a.loop f) (b.loop f')

structure KHom (ρ : A → B → Prop) (K : Kont A) (K' : Kont B) : Prop where
  nrm : ∀ t h, ρ (K.nrm t h) (K'.nrm t h)
  ext : ∀ i t h, ρ (K.ext i t h) (K'.ext i t h)
  ret : ∀ t h, ρ (K.ret t h) (K'.ret t h)

variable {P : Program} {gl : Nat → Option Nat} {a : Alg A} {b : Alg B} {ρ : A → B → Prop}

theorem gcallV_hom (H : Hom a b ρ) (f : GVal) (args : List GVal) (h : GHeap) (k : GVal → GHeap → A) (k' : GVal → GHeap → B) (hk : ∀ v h, ρ (k v h) (k' v h)) :
    ρ (gcallV a P f args h k) (gcallV b P f args h k') := by
  unfold gcallV
  split
  · split
    · split
      · exact H.call _ _ _ _ _ hk
      · exact H.fail _
    · exact H.req _ _ _ _ (H.round _ _ _ _ _ hk)
    · exact H.fail _
  · exact H.fail _

theorem gone_hom (H : Hom a b ρ) (t : List GVal) (o : Oper) (h : GHeap) (k : GVal → GHeap → A) (k' : GVal → GHeap → B) (hk : ∀ v h, ρ (k v h) (k' v h)) :
    ρ (gone a P gl t o h k) (gone b P gl t o h k') := by
  rw [gone_eq, gone_eq]
  unfold goneS
  split
  · exact gcallV_hom H _ _ _ _ _ hk
  · exact H.nxt _ _ _ hk
  · exact H.gm _ _ _ hk

theorem gops_hom (H : Hom a b ρ) (ops : Array Oper) (k : List GVal → GHeap → A) (k' : List GVal → GHeap → B) (hk : ∀ t h, ρ (k t h) (k' t h)) : ∀ (os : List Oper) (t : List GVal) (h : GHeap),
    ρ (gops a P gl ops os t h k) (gops b P gl ops os t h k') := by
  intro os
  induction os with
  | nil => intro t h; exact hk t h
  | cons o os ih =>
    intro t h
    unfold gops
    split
    · exact gone_hom H _ _ _ _ _ fun v h => ih _ _
    · exact ih _ _
    · exact H.fail _

theorem gdr_hom (H : Hom a b ρ) (ops : Array Oper) (k : List GVal → GHeap → A) (k' : List GVal → GHeap → B) (hk : ∀ t h, ρ (k t h) (k' t h)) : ∀ (l rs : List Nat) (t : List GVal) (h : GHeap),
    ρ (gdr P gl a ops l rs t h k) (gdr P gl b ops l rs t h k') := by
  intro l
  induction l with
  | nil => intro rs t h; exact hk t h
  | cons i l ih =>
    intro rs t h
    unfold gdr
    split
    · exact H.fail _
    · split
      · exact ih _ _ _
      · exact H.fail _
      · split
        · refine gone_hom H _ _ _ _ _ fun v h => ?_
          split
          · exact ih _ _ _
          · exact H.req _ _ _ _ (ih _ _ _)
        · exact gone_hom H _ _ _ _ _ fun v h => ih _ _ _
        · exact gone_hom H _ _ _ _ _ fun v h => ih _ _ _

theorem gloop_hom (H : Hom a b ρ) {f : Kont A → List GVal → GHeap → A} {f' : Kont B → List GVal → GHeap → B} (hf : ∀ K K', KHom ρ K K' → ∀ t h, ρ (f K t h) (f' K' t h)) {K : Kont A} {K' : Kont B} (hK : KHom ρ K K') :
    ∀ n t h, ρ (gloop a f K n t h) (gloop b f' K' n t h) := by
  intro n
  induction n with
  | zero => intro t h; exact H.fail _
  | succ n ih =>
    intro t h
    unfold gloop
    exact hf { K with nrm := gloop a f K n } { K' with nrm := gloop b f' K' n } ⟨ih, hK.ext, hK.ret⟩ t h

theorem gendLoop_hom (H : Hom a b ρ) {K : Kont A} {K' : Kont B} (hK : KHom ρ K K') (l : Nat) (t : List GVal) (h : GHeap) : ρ (gendLoop a K l t h) (gendLoop b K' l t h) := by
  unfold gendLoop
  split
  · split
    · exact H.fail _
    · dsimp only
      split
      · exact hK.nrm _ _
      · exact hK.ret _ _
      · exact hK.ext _ _ _
      · exact H.fail _
  · exact H.fail _

theorem gcode_hom (H : Hom a b ρ) (cur : Option Nat) : ∀ (c : Code) (K : Kont A) (K' : Kont B), KHom ρ K K' → ∀ t h, ρ (gcode P gl a cur c K t h) (gcode P gl b cur c K' t h) := by
  intro c
  induction c with
  | skip => intro K K' hK t h; exact hK.nrm t h
  | region id ops draw =>
    intro K K' hK t h
    unfold gcode
    split
    · split
      · exact gdr_hom H _ _ _ hK.nrm _ _ _ _
      · exact H.fail _
    · exact gops_hom H _ _ _ hK.nrm _ _ _
  | seq x y ihx ihy =>
    intro K K' hK t h
    exact ihx { K with nrm := fun t h => gcode P gl a cur y K t h } { K' with nrm := fun t h => gcode P gl b cur y K' t h } ⟨fun t h => ihy K K' hK t h, hK.ext, hK.ret⟩ t h
  | cond c x y ihx ihy =>
    intro K K' hK t h
    unfold gcode
    split
    · split
      · exact ihx K K' hK t h
      · exact ihy K K' hK t h
    · exact H.fail _
  | block id x ih =>
    intro K K' hK t h
    refine ih { K with ext := fun i t h => if i = id then K.nrm t h else K.ext i t h } { K' with ext := fun i t h => if i = id then K'.nrm t h else K'.ext i t h } ⟨hK.nrm, fun i t h => ?_, hK.ret⟩ t h
    dsimp only
    split
    · exact hK.nrm t h
    · exact hK.ext i t h
  | loop x ih => intro K K' hK t h; exact H.loop _ _ fun n => gloop_hom H (fun K K' hK t h => ih K K' hK t h) hK n t h
  | exit id => intro K K' hK t h; exact hK.ext id t h
  | scope x ih => intro K K' hK t h; exact ih K K' hK t h
  | label l => intro K K' hK t h; exact hK.nrm t h
  | goto l => intro K K' hK t h; exact H.fail _
  | ret => intro K K' hK t h; exact hK.ret t h
  | refuse y => intro K K' hK t h; exact H.fail _
  | rangeFunc f ps as_ bd iha ihb =>
    intro K K' hK t h
    unfold gcode
    split
    · split
      · split
        · exact H.call _ _ _ _ _ fun v h => gendLoop_hom H hK _ _ _
        · exact H.fail _
      · exact H.fail _
    · exact H.fail _
end

section
variable {P : Program} {gl : Nat → Option Nat}
theorem CallsG.mono {f : FuncId} {args : List GVal} {h : GHeap} {Q Q' : GVal → GHeap → Prop} (hx : CallsG P gl f args h Q) (hq : ∀ r h', Q r h' → Q' r h') : CallsG P gl f args h Q' :=
  fun m w vs R hv => (hx m w vs R hv).mono fun _ _ ⟨r, v, h', m', a, b, c⟩ => ⟨r, v, h', m', a, hq _ _ b, c⟩
theorem RoundG.mono {f : Nat} {args : List GVal} {h : GHeap} {Q Q' : GVal → GHeap → Prop} (hx : RoundG P gl f args h Q) (hq : ∀ r h', Q r h' → Q' r h') : RoundG P gl f args h Q' := by
  intro m w vs L lp R hv hL hlp
  obtain ⟨h1, h2⟩ := hx m w vs L lp R hv hL hlp
  refine ⟨h1, fun c cs => ?_⟩
  obtain ⟨v, w', s, r, h', m', q, rest⟩ := h2 c cs
  exact ⟨v, w', s, r, h', m', hq _ _ q, rest⟩

theorem opt_hom {loops : Nat} {call : FuncId → List GVal → GHeap → Ans} {round : Nat → List GVal → GHeap → Ans} (R : GVal × GHeap)
    (hc : ∀ f args h r, call f args h = some r → CallsG P gl f args h fun a b => (a, b) = r)
    (hr : ∀ f args h r, round f args h = some r → RoundG P gl f args h fun a b => (a, b) = r) :
    Hom (optAlg loops call round) (propAlg P gl) (fun (x : Ans) (y : Prop) => x = some R → y) where
  fail := fun y h => by cases h
  gm := fun g k k' hk h => by
    simp only [optAlg] at h
    cases ho : g.opt with
    | none => rw [ho] at h; cases h
    | some x =>
      obtain ⟨v, h'⟩ := x
      rw [ho] at h
      exact GM.opt_wp (Q := fun x => k' x.1 x.2) (hk v h' h) g ho
  nxt := fun g k k' hk h => by
    simp only [optAlg] at h
    cases g with
    | none => cases h
    | some x => obtain ⟨v, h'⟩ := x; exact ⟨v, h', rfl, hk v h' h⟩
  req := fun c d x y hxy h => by
    simp only [optAlg] at h
    split at h
    · exact ⟨‹_›, hxy h⟩
    · cases h
  call := fun f args h k k' hk hh => by
    simp only [optAlg] at hh
    cases ho : call f args h with
    | none => rw [ho] at hh; cases hh
    | some x =>
      obtain ⟨v, h'⟩ := x
      rw [ho] at hh
      exact (hc f args h _ ho).mono fun r h2 e => by cases e; exact hk v h' hh
  round := fun f args h k k' hk hh => by
    simp only [optAlg] at hh
    cases ho : round f args h with
    | none => rw [ho] at hh; cases hh
    | some x =>
      obtain ⟨v, h'⟩ := x
      rw [ho] at hh
      exact (hr f args h _ ho).mono fun r h2 e => by cases e; exact hk v h' hh
  loop := fun f f' hf h => ⟨loops, hf loops h⟩

theorem gcall_groundO_sound (hD : DrawSound P gl) (loops : Nat) : ∀ n,
    (∀ f args h r, gcall P gl loops n f args h = some r → CallsG P gl f args h fun a b => (a, b) = r) ∧
    (∀ f args h r, gcall.groundO P gl loops n f args h = some r → RoundG P gl f args h fun a b => (a, b) = r) := by
  intro n
  induction n with
  | zero => exact ⟨fun f args h r hx => by simp [gcall] at hx, fun f args h r hx => by simp [gcall.groundO] at hx⟩
  | succ n ih =>
    have H := fun R => opt_hom (P := P) (gl := gl) (loops := loops) R ih.1 ih.2
    constructor
    · intro f args h r hx
      unfold gcall at hx
      split at hx
      · rename_i fn hfn
        split at hx
        · rename_i c hc
          refine gfunc_sound hD hfn hc ?_
          unfold gfunc at hx ⊢
          refine gcode_hom (H r) none c _ _ ?_ _ _ hx
          refine KHom.mk ?_ ?_ ?_
          · intro t h
            exact (H r).gm _ (fun a b => some (a, b)) (fun a b => (a, b) = r) fun v h hh => by cases hh; rfl
          · intro i t h
            exact (H r).fail _
          · intro t h
            exact (H r).gm _ (fun a b => some (a, b)) (fun a b => (a, b) = r) fun v h hh => by cases hh; rfl
        · cases hx
      · cases hx
    · intro l args h r hx
      unfold gcall.groundO at hx
      refine ground_sound hD ?_
      unfold ground at hx ⊢
      split at hx
      · rename_i pd tm ps as_ bd hl
        split at hx
        · rename_i hsz
          rw [if_pos hsz]
          have hend : ∀ (jump : Option Code) (h : GHeap), gendRound (optAlg loops (gcall P gl loops n) (gcall.groundO P gl loops n)) l jump (fun r h => some (r, h)) h = some r →
              gendRound (propAlg P gl) l jump (fun a b => (a, b) = r) h := by
            intro jump h hh
            unfold gendRound at hh ⊢
            split at hh
            · cases hh; rfl
            · cases hh
          refine gcode_hom (H r) (some l) as_ _ _ ?_ _ _ hx
          refine KHom.mk ?_ (fun i t h => (H r).fail _) (fun t h => (H r).fail _)
          intro t h hh
          dsimp only at hh ⊢
          split at hh
          · exact gcode_hom (H r) (some l) bd _ _ (KHom.mk (fun t h => hend none h) (fun i t h => hend _ h) (fun t h => hend _ h)) _ _ hh
          · exact ((H r).fail False hh).elim
        · exact ((H r).fail False hx).elim
      · exact ((H r).fail False hx).elim

theorem gcall_sound (hD : DrawSound P gl) {loops n : Nat} {f : FuncId} {args : List GVal} {h : GHeap} {r : GVal × GHeap} (hx : gcall P gl loops n f args h = some r) :
    CallsG P gl f args h fun a b => (a, b) = r := (gcall_groundO_sound hD loops n).1 f args h r hx

/-- What was computed without a heap holds beside any. -/
theorem CallsG.anywhere {f : FuncId} {h : GHeap} {Q : GVal → Prop} (hgl : ∀ g, gl g = none) (hx : CallsG P gl f [] [] fun r _ => Q r ∧ ∀ m v, VR m r v → VR (fun _ => none) r v) :
    CallsG P gl f [] h fun r h' => Q r ∧ h' = h := by
  intro m w vs R hv
  cases hv
  have R0 : Rep gl (fun _ => none) [] w := by
    refine Rep.mk ?_ ?_ ?_ ?_ ?_
    · intro _ _ h; cases h
    · intro _ _ h; cases h
    · intro _ _ _ h; cases h
    · intro _ _ _ _ _ _ h; cases h
    · intro g id h; rw [hgl] at h; cases h
  refine (hx _ w [] R0 rfl).mono ?_
  rintro e w' ⟨r, v, h', m', rfl, ⟨q, hr⟩, q2, q3, q4⟩
  have hsame : ∀ b : Nat, b < w.heap.size → w'.heap[b]? = w.heap[b]? := fun b hb => q4.keep b hb fun _ _ _ h => by cases h
  refine ⟨r, v, h, m, rfl, ⟨q, rfl⟩, ?_, R.junk hsame q4.size, ?_⟩
  · exact VR.mono (fun _ _ h => by cases h) _ _ (hr m' v q2)
  · exact ⟨q4.size, q4.os, q4.out, Nat.le_refl _, fun _ _ => rfl, fun id L hL => .inl (R.dom id L hL), fun b hb _ => hsame b hb, fun _ _ h _ => h, fun _ _ _ => rfl⟩
end
end Gh

