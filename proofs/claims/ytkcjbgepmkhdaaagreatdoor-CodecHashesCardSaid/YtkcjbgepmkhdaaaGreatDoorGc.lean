/- The ghost semantics is sound for regions that draw their order; condition: the program follows mixed orders. -/
import Derived.Test.YtkcjbgepmkhdaaaGreatDoorGb
import Derived.Orders
import Derived.Below
import Derived.Lib.Join
import GoSem.ClaimChange
set_option linter.unusedSimpArgs false
set_option linter.unusedVariables false
/- What an operation depends on: lemmas for regions that draw their order. -/
namespace Gh
open Go
section
variable {P : Program} {gl : Nat → Option Nat}

def agree (ev ev' : Operand → GVal) (o : Op) : Prop := ∀ x ∈ o.operands.toList, ev x = ev' x

theorem map_congr' {ev ev' : Operand → GVal} {l : List Operand} (h : ∀ x ∈ l, ev x = ev' x) : l.map ev = l.map ev' := List.map_congr_left h

theorem gop_congr {ev ev' : Operand → GVal} {o : Oper} (h : GHeap) (ha : agree ev ev' o.op) : gop P ev o h = gop P ev' o h := by
  obtain ⟨dst, op, ty, pos, aft, gd⟩ := o
  simp only [agree] at ha
  cases op with
  | build t parts =>
    have e : (parts.toList.map fun (i, x) => (i, ev x)) = parts.toList.map fun (i, x) => (i, ev' x) := by
      apply List.map_congr_left
      rintro ⟨i, x⟩ hx
      have : ev x = ev' x := ha x (by simp [Op.operands]; exact ⟨i, by simpa using hx⟩)
      simp [this]
    simp only [gop, e]
  | buildSlice t len parts =>
    have e : (parts.toList.map fun (i, x) => (i, ev x)) = parts.toList.map fun (i, x) => (i, ev' x) := by
      apply List.map_congr_left
      rintro ⟨i, x⟩ hx
      have : ev x = ev' x := ha x (by simp [Op.operands]; exact ⟨i, by simpa using hx⟩)
      simp [this]
    simp only [gop, e]
  | makeFunc fn first captured =>
    have e1 : first.toList.map ev = first.toList.map ev' := map_congr' fun x hx => ha x (by simp [Op.operands]; exact .inl (by simpa using hx))
    have e2 : captured.toList.map ev = captured.toList.map ev' := map_congr' fun x hx => ha x (by simp [Op.operands]; exact .inr (by simpa using hx))
    cases fn <;> simp only [gop, e1, e2]
  | makeMap t r =>
    cases r with
    | none => rfl
    | some x => have := ha x (by simp [Op.operands]); simp only [gop, this]
  | slice t x lo hi mx =>
    have e0 := ha x (by simp [Op.operands])
    have e1 : optV ev lo = optV ev' lo := by cases lo <;> simp [optV]; exact ha _ (by simp [Op.operands])
    have e2 : optV ev hi = optV ev' hi := by cases hi <;> simp [optV]; exact ha _ (by simp [Op.operands])
    have e3 : optV ev mx = optV ev' mx := by cases mx <;> simp [optV]; exact ha _ (by simp [Op.operands])
    simp only [gop, e0, e1, e2, e3]
  | call c =>
    obtain ⟨callee, args, ats⟩ := c
    cases callee with
    | builtin b =>
      have e : args.toList.map ev = args.toList.map ev' := map_congr' fun x hx => ha x (by simp [Op.operands, Call.operands]; simpa using hx)
      simp only [gop, e]
    | _ => rfl
  | move x => have := ha x (by simp [Op.operands]); simp only [gop, this]
  | assign x => have := ha x (by simp [Op.operands]); simp only [gop, this]
  | pick c a b =>
    have e1 := ha c (by simp [Op.operands]); have e2 := ha a (by simp [Op.operands]); have e3 := ha b (by simp [Op.operands])
    simp only [gop, e1, e2, e3]
  | box e x => have := ha x (by simp [Op.operands]); simp only [gop, this]
  | load t a => have := ha a (by simp [Op.operands]); simp only [gop, this]
  | store t a x =>
    have e1 := ha a (by simp [Op.operands]); have e2 := ha x (by simp [Op.operands])
    simp only [gop, e1, e2]
  | nilCheck x => have := ha x (by simp [Op.operands]); simp only [gop, this]
  | sliceToArrayPointer ty x => have := ha x (by simp [Op.operands]); simp only [gop, this]
  | binOp op t x y t2 =>
    have e1 := ha x (by simp [Op.operands]); have e2 := ha y (by simp [Op.operands])
    simp only [gop, e1, e2]
  | unOp op t x => have := ha x (by simp [Op.operands]); simp only [gop, this]
  | convert s d x => have := ha x (by simp [Op.operands]); simp only [gop, this]
  | makeSlice t l c =>
    have e1 := ha l (by simp [Op.operands]); have e2 := ha c (by simp [Op.operands])
    simp only [gop, e1, e2]
  | fieldAddr s x f => have := ha x (by simp [Op.operands]); simp only [gop, this]
  | field s x f => have := ha x (by simp [Op.operands]); simp only [gop, this]
  | indexAddr t x i =>
    have e1 := ha x (by simp [Op.operands]); have e2 := ha i (by simp [Op.operands])
    simp only [gop, e1, e2]
  | index t x i =>
    have e1 := ha x (by simp [Op.operands]); have e2 := ha i (by simp [Op.operands])
    simp only [gop, e1, e2]
  | lookup t x k ok =>
    have e1 := ha x (by simp [Op.operands]); have e2 := ha k (by simp [Op.operands])
    simp only [gop, e1, e2]
  | mapUpdate t mp k v =>
    have e1 := ha mp (by simp [Op.operands]); have e2 := ha k (by simp [Op.operands]); have e3 := ha v (by simp [Op.operands])
    simp only [gop, e1, e2, e3]
  | range t x => have := ha x (by simp [Op.operands]); simp only [gop, this]
  | extract x i => have := ha x (by simp [Op.operands]); simp only [gop, this]
  | _ => rfl

theorem gload_append {h l : GHeap} {id off : Nat} {g : GVal} (hg : gload h id off = some g) : gload (h ++ l) id off = some g := by
  unfold gload at hg ⊢
  split at hg
  · rename_i ho
    rw [List.getElem?_append_left (List.getElem?_eq_some_iff.1 ho).1, ho]; exact hg
  · cases hg
theorem gloads_append {h l : GHeap} {id off n : Nat} {g : List GVal} (hg : gloads h id off n = some g) : gloads (h ++ l) id off n = some g := by
  unfold gloads at hg ⊢
  split at hg
  · rename_i ho
    rw [List.getElem?_append_left (List.getElem?_eq_some_iff.1 ho).1, ho]; exact hg
  · cases hg
theorem gentries_append {h l : GHeap} {x : GVal} {es : List (GVal × GVal)} (hg : gentries h x = some es) : gentries (h ++ l) x = some es := by
  unfold gentries at hg ⊢
  split at hg
  · exact hg
  · split at hg
    · rename_i ho
      rw [List.getElem?_append_left (List.getElem?_eq_some_iff.1 ho).1, ho]; exact hg
    · cases hg
  · cases hg
theorem plainBlock_append {h l : GHeap} {id : Nat} (hg : plainBlock h id = true) : plainBlock (h ++ l) id = true := by
  unfold plainBlock at hg ⊢
  split at hg
  · rename_i ho
    rw [List.getElem?_append_left (List.getElem?_eq_some_iff.1 ho).1, ho]
  · cases hg
theorem geqIn_append {h l : GHeap} : ∀ (d : Nat) (t : TypeId) (x y : GVal) (r : Bool), geqIn P h d t x y = some r → geqIn P (h ++ l) d t x y = some r := by
  intro d
  induction d with
  | zero => intro t x y r hg; simp [geqIn] at hg
  | succ d ih =>
    intro t x y r hg
    unfold geqIn at hg ⊢
    split at hg <;> try (first | exact hg | (simp_all; done))
    · rename_i e a b hu
      split at hg
      · cases hg
      · rename_i h1
        rw [if_neg h1]
        split at hg
        · rename_i h2; rw [if_pos h2]; exact hg
        · rename_i h2
          rw [if_neg h2]
          split at hg
          · rename_i h3
            simp only [Bool.and_eq_true] at h3
            rw [if_pos (by simp [plainBlock_append h3.1, plainBlock_append h3.2])]; exact hg
          · cases hg
    · rename_i fs xs ys hu
      split at hg
      · cases hg
      · rename_i h1
        rw [if_neg h1]
        clear hu h1
        revert r
        induction fs.toList with
        | nil => intro r hg; exact hg
        | cons f fs ihf =>
          intro r hg
          simp only [List.foldr_cons] at hg ⊢
          split at hg
          · rename_i hn; rw [if_pos hn]; exact ihf r hg
          · rename_i hn
            rw [if_neg hn]
            split at hg
            · rename_i a b ha hb
              unfold andO at hg
              split at hg
              · rename_i r1 r2 h1 h2
                rw [ih _ _ _ _ h1, ihf r2 h2]; exact hg
              · cases hg
            · cases hg
    · rename_i n e xs ys hu
      split at hg
      · rename_i s hs
        clear hu
        revert r
        generalize List.range' 0 n = l'
        induction l' with
        | nil => intro r hg; exact hg
        | cons i l' ihf =>
          intro r hg
          simp only [List.foldr_cons] at hg ⊢
          split at hg
          · rename_i a b ha hb
            unfold andO at hg
            split at hg
            · rename_i r1 r2 h1 h2
              rw [ih _ _ _ _ h1, ihf r2 h2]; exact hg
            · cases hg
          · cases hg
      · cases hg

theorem dst_change {kd : Kd} {o o' : Option GVal} {h h' : GHeap} {v : GVal} (hg : (GM.dst kd o fun v => GM.ret (v, h)).opt = some (v, h)) (ho : o' = some v) :
    (GM.dst kd o' fun v => GM.ret (v, h')).opt = some (v, h') := by
  subst ho
  cases o with
  | none => cases hg
  | some u =>
    simp only [GM.opt] at hg ⊢
    split at hg
    · rename_i hf; cases hg; rw [if_pos hf]
    · cases hg
theorem dst_val {kd : Kd} {o : Option GVal} {h : GHeap} {v : GVal} (hg : (GM.dst kd o fun v => GM.ret (v, h)).opt = some (v, h)) : o = some v := by
  obtain ⟨u, h1, h2⟩ := dst_opt hg
  cases h2; exact h1

/-- The value of a read, in a heap, and that nothing else is asked. -/
theorem read_move {ev : Operand → GVal} {o : Oper} (hc : opClass P o = .read) {h h' : GHeap} {v : GVal} (hg : (gop P ev o h).opt = some (v, h))
    (hm : match o.op with
      | .load ty a => ∀ id off, ev a = .ptr (some (id, off)) → (tagg P ty = some false → gload h id off = some v → gload h' id off = some v) ∧
          (tagg P ty = some true → ∀ n, tsize P ty = some n → (gloads h id off n).map .agg = some v → (gloads h' id off n).map .agg = some v)
      | .lookup ty x k ok => glookup P h ty (ev x) (ev k) ok = some v → glookup P h' ty (ev x) (ev k) ok = some v
      | .binOp .eql ty x y _ => ∀ b, geq P h ty (ev x) (ev y) = some b → v = .bool b → geq P h' ty (ev x) (ev y) = some b
      | .binOp .neq ty x y _ => ∀ b, geq P h ty (ev x) (ev y) = some b → v = .bool (!b) → geq P h' ty (ev x) (ev y) = some b
      | .call { callee := .builtin _, args, .. } => ∀ x, args.toList.map ev = [x] → ∀ es, gentries h x = some es → v = .int .i64 (es.length : Int) → ∃ es', gentries h' x = some es' ∧ es'.length = es.length
      | _ => False) : (gop P ev o h').opt = some (v, h') := by
  obtain ⟨dst, op, ty, pos, aft, gd⟩ := o
  cases op with
  | load t a =>
    simp only [] at hm
    simp only [gop] at hg ⊢
    split at hg
    · rename_i id off h1 h2
      exact dst_change hg ((hm id off h1).1 h2 (dst_val hg))
    · rename_i id off h1 h2
      split at hg
      · rename_i n hn
        exact dst_change hg ((hm id off h1).2 h2 n hn (dst_val hg))
      · cases hg
    · cases hg
  | lookup t x k ok =>
    simp only [] at hm
    simp only [gop] at hg ⊢
    exact dst_change hg (hm (dst_val hg))
  | binOp op t x y t2 =>
    obtain ⟨_, hg2⟩ := pure_opt hg
    have goal : (gbinOp P h' op t (ev x) (ev y)).opt = some v → (gop P ev ⟨dst, .binOp op t x y t2, ty, pos, aft, gd⟩ h').opt = some (v, h') := by
      intro e
      simp only [gop]
      rw [GM.opt_map, e]; rfl
    apply goal
    have hop : op = .eql ∨ op = .neq := by cases op <;> simp [opClass] at hc <;> simp
    by_cases hi : ∃ k i l j, ev x = .int k i ∧ ev y = .int l j
    · obtain ⟨k, i, l, j, e1, e2⟩ := hi
      rw [e1, e2] at hg2 ⊢
      rcases hop with rfl | rfl <;> exact hg2
    · by_cases hs : ∃ i j, ev x = .str i ∧ ev y = .str j
      · obtain ⟨i, j, e1, e2⟩ := hs
        rw [e1, e2] at hg2 ⊢
        rcases hop with rfl | rfl <;> exact hg2
      · have n1 : ∀ k a l b, ev x = .int k a → ev y = .int l b → False := fun k a l b e f => hi ⟨k, a, l, b, e, f⟩
        have n2 : ∀ a b, ev x = .str a → ev y = .str b → False := fun a b e f => hs ⟨a, b, e, f⟩
        generalize hx : ev x = p at *
        generalize hy : ev y = q at *
        rcases hop with rfl | rfl
        · have form : ∀ hh, gbinOp P hh .eql t p q = if eqFree P t p q then .dst .bool ((geq P hh t p q).map .bool) .ret else .fail := by
            intro hh
            unfold gbinOp
            split
            all_goals first | rfl | exact (n1 _ _ _ _ rfl rfl).elim | exact (n2 _ _ rfl rfl).elim | (exfalso; simp_all; done)
          rw [form] at hg2 ⊢
          split at hg2
          · rename_i hf
            rw [if_pos hf]
            obtain ⟨r, hr, hq⟩ := dst_opt hg2
            cases hq
            simp only [Option.map_eq_some_iff] at hr
            obtain ⟨b, hb, rfl⟩ := hr
            simp only [hx, hy] at hm
            rw [hm b hb rfl]; rfl
          · cases hg2
        · have form : ∀ hh, gbinOp P hh .neq t p q = if eqFree P t p q then .dst .bool ((geq P hh t p q).map fun b => .bool (!b)) .ret else .fail := by
            intro hh
            unfold gbinOp
            split
            all_goals first | rfl | exact (n1 _ _ _ _ rfl rfl).elim | exact (n2 _ _ rfl rfl).elim | (exfalso; simp_all; done)
          rw [form] at hg2 ⊢
          split at hg2
          · rename_i hf
            rw [if_pos hf]
            obtain ⟨r, hr, hq⟩ := dst_opt hg2
            cases hq
            simp only [Option.map_eq_some_iff] at hr
            obtain ⟨b, hb, rfl⟩ := hr
            simp only [hx, hy] at hm
            rw [hm b hb rfl]; rfl
          · cases hg2
  | call c =>
    obtain ⟨callee, args, ats⟩ := c
    cases callee with
    | builtin b =>
      simp only [] at hm
      have hb : b = .len ∧ ∃ t k e, ats[0]? = some t ∧ P.underlying t = some (.map k e) := by
        cases b <;> simp only [opClass, reduceCtorEq] at hc
        refine ⟨rfl, ?_⟩
        split at hc
        · rename_i k e hh
          simp only [Option.bind_eq_some_iff] at hh
          obtain ⟨t, h1, h2⟩ := hh
          exact ⟨t, k, e, h1, h2⟩
        all_goals cases hc
      obtain ⟨rfl, t, k, e, ht, hu⟩ := hb
      have form : ∀ x, args.toList.map ev = [x] → ∀ hh, gop P ev ⟨dst, .call ⟨.builtin .len, args, ats⟩, ty, pos, aft, gd⟩ hh = GM.dst (.int .i64) ((gentries hh x).map fun es => .int .i64 es.length) fun v => .ret (v, hh) := by
        intro x hx hh
        simp only [gop, gbuiltin, hx, ht, hu]
      have hx : ∃ x, args.toList.map ev = [x] := by
        simp only [gop, gbuiltin] at hg
        split at hg
        · rename_i t' x _ ht' hx; exact ⟨x, hx⟩
        all_goals first | (exfalso; simp_all; done) | (cases hg; done)
      obtain ⟨x, hx⟩ := hx
      rw [form x hx] at hg ⊢
      have hv := dst_val hg
      simp only [Option.map_eq_some_iff] at hv
      obtain ⟨es, he, hv⟩ := hv
      obtain ⟨es', h1, h2⟩ := hm x hx es he hv.symm
      refine dst_change hg ?_
      rw [h1, ← hv, ← h2]; rfl
    | _ => simp [opClass] at hc
  | convert s d x => (simp only [opClass] at hc; split at hc; cases hc; (split at hc <;> cases hc))
  | _ => simp [opClass] at hc

theorem read_append {ev : Operand → GVal} {o : Oper} (hc : opClass P o = .read) {h l : GHeap} {v : GVal} (hg : (gop P ev o h).opt = some (v, h)) : (gop P ev o (h ++ l)).opt = some (v, h ++ l) := by
  refine read_move hc hg ?_
  obtain ⟨dst, op, ty, pos, aft, gd⟩ := o
  cases op with
  | load t a =>
    intro id off _
    refine ⟨fun _ h => gload_append h, fun _ n _ h => ?_⟩
    simp only [Option.map_eq_some_iff] at h ⊢
    obtain ⟨x, h1, h2⟩ := h
    exact ⟨x, gloads_append h1, h2⟩
  | lookup t x k ok =>
    intro hl
    unfold glookup at hl ⊢
    split at hl
    · split at hl
      · rename_i hk
        rw [if_pos hk]
        split at hl
        · cases hl
        · rename_i es he
          rw [gentries_append he]; exact hl
      · cases hl
    · cases hl
  | binOp op t x y t2 =>
    cases op <;> simp only [opClass, reduceCtorEq] at hc
    · intro b hb _; exact geqIn_append _ _ _ _ _ hb
    · intro b hb _; exact geqIn_append _ _ _ _ _ hb
  | call c =>
    obtain ⟨callee, args, ats⟩ := c
    cases callee with
    | builtin b => intro x _ es he _; exact ⟨es, gentries_append he, rfl⟩
    | _ => simp [opClass] at hc
  | convert s d x => (simp only [opClass] at hc; split at hc; cases hc; (split at hc <;> cases hc))
  | _ => simp [opClass] at hc

theorem read_same {t : List GVal} {o : Oper} (hc : opClass P o = .read) {h h' : GHeap} {v : GVal} (hg : (gop P (gev gl t) o h).opt = some (v, h)) (hv : ∀ d, o.dst = some d → t.getD d .undef = v)
    (hs : rdSame P gl t o h') : (gop P (gev gl t) o h').opt = some (v, h') := by
  refine read_move hc hg ?_
  obtain ⟨dst, op, ty, pos, aft, gd⟩ := o
  cases dst with
  | none => cases op <;> simp [rdSame] at hs <;> (split at hs <;> cases hs)
  | some d =>
    have hv := hv d rfl
    cases op with
    | load t' a =>
      intro id off ha
      simp only [rdSame, ha, hv] at hs
      constructor
      · intro h1 _; simp only [h1] at hs; exact hs
      · intro h1 n h2 _; simp only [h1, h2] at hs; exact hs
    | lookup t' x k ok => intro _; simp only [rdSame, hv] at hs; exact hs
    | binOp op t' x y t2 =>
      cases op <;> simp only [opClass, reduceCtorEq] at hc
      · intro b hb e
        simp only [rdSame, hv, e, Option.map_eq_some_iff] at hs
        obtain ⟨r, h1, h2⟩ := hs
        cases h2; exact h1
      · intro b hb e
        simp only [rdSame, hv, e, Option.map_eq_some_iff] at hs
        obtain ⟨r, h1, h2⟩ := hs
        simp only [GVal.bool.injEq, Bool.not_eq_eq_eq_not, Bool.not_not] at h2
        subst h2; exact h1
    | call c =>
      obtain ⟨callee, args, ats⟩ := c
      cases callee with
      | builtin b =>
        intro x hx es he e
        simp only [rdSame, hx, hv, e, Option.map_eq_some_iff] at hs
        obtain ⟨r, h1, h2⟩ := hs
        simp only [GVal.int.injEq, true_and] at h2
        exact ⟨r, h1, by omega⟩
      | _ => simp [opClass] at hc
    | convert s d x => (simp only [opClass] at hc; split at hc; cases hc; (split at hc <;> cases hc))
    | _ => simp [opClass] at hc
end
end Gh

/- The orders that a region may draw. -/
namespace Gh
open Go

theorem nodup_lt (n : Nat) : ∀ (l : List Nat), l.Nodup → (∀ x ∈ l, x < n) → l.length ≤ n := by
  induction n with
  | zero =>
    intro l _ h
    cases l with
    | nil => simp
    | cons x l => have := h x (by simp); omega
  | succ n ih =>
    intro l hn h
    have h1 : (l.erase n).Nodup := hn.erase n
    have h2 : ∀ x ∈ l.erase n, x < n := by
      intro x hx
      have hx' := (List.Nodup.mem_erase_iff hn).1 hx
      have := h x hx'.2
      have := hx'.1
      omega
    have h3 := ih _ h1 h2
    by_cases hm : n ∈ l
    · have := List.length_erase_of_mem hm; omega
    · rw [List.erase_of_not_mem hm] at h3; omega
theorem nodup_sub : ∀ (l acc : List Nat), l.Nodup → (∀ x ∈ l, x ∈ acc) → l.length ≤ acc.length := by
  intro l
  induction l with
  | nil => intro acc _ _; simp
  | cons x l ih =>
    intro acc hn h
    have hn' := List.nodup_cons.1 hn
    have h1 := ih (acc.erase x) hn'.2 (fun y hy => by
      have hne : y ≠ x := by rintro rfl; exact hn'.1 hy
      exact (List.mem_erase_of_ne hne).2 (h y (List.mem_cons_of_mem _ hy)))
    have h2 := List.length_erase_of_mem (h x (List.mem_cons_self ..))
    have h3 : 0 < acc.length := List.length_pos_of_mem (h x (List.mem_cons_self ..))
    simp; omega
theorem nodup_full {n : Nat} {l : List Nat} (hn : l.Nodup) (h : ∀ x ∈ l, x < n) (hl : l.length = n) : ∀ i, i < n → i ∈ l := by
  intro i hi
  by_cases hm : i ∈ l
  · exact hm
  · have := nodup_lt n (i :: l) (List.nodup_cons.2 ⟨hm, hn⟩) (by
      intro x hx
      rcases List.mem_cons.1 hx with rfl | hx
      · exact hi
      · exact h x hx)
    simp at this; omega

/-- What may come behind what is done. -/
inductive Sched (ops : Array Oper) : List Nat → List Nat → Prop where
  | done {D : List Nat} : (∀ i, i < ops.size → i ∈ D) → Sched ops D []
  | take {D l : List Nat} {i : Nat} {o : Oper} : i ∉ D → ops[i]? = some o → (∀ e ∈ o.after, Region.binds .any e = true → e.on ∈ D) → Sched ops (i :: D) l → Sched ops D (i :: l)

def Forward (ops : Array Oper) : Prop := ∀ (i : Nat) (o : Oper), ops[i]? = some o → ∀ e ∈ o.after, Region.binds .any e = true → e.on < i

theorem sched_go {ops : Array Oper} (hfw : Forward ops) : ∀ (fuel t : Nat) (listed : Array Bool) (acc : List Nat), listed.size = ops.size → (∀ j, j < ops.size → listed.getD j true = decide (j ∈ acc)) → acc.Nodup → (∀ j ∈ acc, j < ops.size) →
    fuel + acc.length = ops.size → ∃ l, Region.linearise.go .any ops fuel t listed acc = acc.reverse ++ l ∧ Sched ops acc l := by
  intro fuel
  induction fuel with
  | zero =>
    intro t listed acc hsz hls hnd hlt hlen
    exact ⟨[], by simp [Region.linearise.go], .done (nodup_full hnd hlt (by omega))⟩
  | succ fuel ih =>
    intro t listed acc hsz hls hnd hlt hlen
    have hread : ∀ i, i ∈ Region.ready .any ops listed ↔ i < ops.size ∧ i ∉ acc ∧ ∃ o, ops[i]? = some o ∧ ∀ e ∈ o.after, Region.binds .any e = true → listed.getD e.on false = true := by
      intro i
      unfold Region.ready
      rw [List.mem_filter, List.mem_range]
      constructor
      · rintro ⟨h1, h2⟩
        simp only [Bool.and_eq_true, Bool.not_eq_true'] at h2
        have h3 := hls i h1
        rw [h2.1] at h3
        refine ⟨h1, by simpa using h3.symm, ops[i], Array.getElem?_eq_getElem h1, ?_⟩
        have h4 := h2.2
        rw [Array.getElem?_eq_getElem h1] at h4
        simp only [Option.map_some, Option.getD_some, Array.all_eq_true'] at h4
        intro e he hb
        have := h4 e he
        simpa [hb] using this
      · rintro ⟨h1, h2, o, h3, h4⟩
        refine ⟨h1, ?_⟩
        simp only [Bool.and_eq_true, Bool.not_eq_true']
        refine ⟨by rw [hls i h1]; simpa using h2, ?_⟩
        rw [h3]
        simp only [Option.map_some, Option.getD_some, Array.all_eq_true']
        intro e he
        cases hb : Region.binds .any e with
        | false => rfl
        | true => simpa using h4 e he hb
    have hfalse : ∀ j, j < ops.size → (listed.getD j false = true ↔ j ∈ acc) := by
      intro j hj
      have := hls j hj
      rw [Array.getD_eq_getD_getElem?, Array.getElem?_eq_getElem (by omega)] at this
      rw [Array.getD_eq_getD_getElem?, Array.getElem?_eq_getElem (by omega)]
      simp only [Option.getD_some] at this ⊢
      rw [this]; simp
    -- there is one that may be taken
    have hex : ∃ i, i ∈ Region.ready .any ops listed := by
      have : ∃ i, i < ops.size ∧ i ∉ acc := by
        rcases Classical.em (∃ i, i < ops.size ∧ i ∉ acc) with h | h
        · exact h
        · exfalso
          have hall : ∀ i, i < ops.size → i ∈ acc := fun i hi => Classical.byContradiction fun hn => h ⟨i, hi, hn⟩
          have h2 := nodup_sub (List.range ops.size) acc List.nodup_range fun x hx => hall x (List.mem_range.1 hx)
          simp at h2; omega
      -- the least of them
      have : ∃ i, (i < ops.size ∧ i ∉ acc) ∧ ∀ j, j < i → j ∈ acc := by
        obtain ⟨i, hi, hni⟩ := this
        induction i using Nat.strongRecOn with
        | _ i ihi =>
          by_cases hj : ∃ j, j < i ∧ j ∉ acc
          · obtain ⟨j, hj1, hj2⟩ := hj
            exact ihi j hj1 (by omega) hj2
          · exact ⟨i, ⟨hi, hni⟩, fun j hj' => Classical.byContradiction fun hn => hj ⟨j, hj', hn⟩⟩
      obtain ⟨i, ⟨hi, hni⟩, hmin⟩ := this
      refine ⟨i, (hread i).2 ⟨hi, hni, ops[i], Array.getElem?_eq_getElem hi, fun e he hb => ?_⟩⟩
      have hlt' := hfw i ops[i] (Array.getElem?_eq_getElem hi) e he hb
      exact (hfalse e.on (by omega)).2 (hmin _ hlt')
    simp only [Region.linearise.go]
    change ∃ l, (match (Region.ready .any ops listed)[t % (Region.ready .any ops listed).length]? with
      | some i => Region.linearise.go .any ops fuel (t / (Region.ready .any ops listed).length) (listed.setIfInBounds i true) (i :: acc)
      | none => acc.reverse) = acc.reverse ++ l ∧ Sched ops acc l
    obtain ⟨i0, hi0⟩ := hex
    have hpos : 0 < (Region.ready .any ops listed).length := List.length_pos_of_mem hi0
    have hlt2 : t % (Region.ready .any ops listed).length < (Region.ready .any ops listed).length := Nat.mod_lt _ hpos
    rw [List.getElem?_eq_getElem hlt2]
    generalize hi : (Region.ready .any ops listed)[t % (Region.ready .any ops listed).length] = i
    have him : i ∈ Region.ready .any ops listed := by rw [← hi]; exact List.getElem_mem _
    obtain ⟨h1, h2, o, h3, h4⟩ := (hread i).1 him
    obtain ⟨l, g1, g2⟩ := ih (t / (Region.ready .any ops listed).length) (listed.setIfInBounds i true) (i :: acc) (by simpa using hsz) (by
      intro j hj
      by_cases e : j = i
      · subst e
        rw [Array.getD_eq_getD_getElem?]
        simp [hsz, hj]
      · have := hls j hj
        rw [Array.getD_eq_getD_getElem?] at this ⊢
        rw [Array.getElem?_setIfInBounds_ne (fun e' => e e'.symm), this]
        simp [e]) (List.nodup_cons.2 ⟨h2, hnd⟩) (by
      intro j hj
      rcases List.mem_cons.1 hj with rfl | hj
      · exact h1
      · exact hlt j hj) (by simp; omega)
    refine ⟨i :: l, by dsimp only; rw [g1]; simp, .take h2 h3 ?_ g2⟩
    intro e he hb
    have hlt' := hfw i o h3 e he hb
    exact (hfalse e.on (by omega)).1 (h4 e he hb)

theorem sched_linearise {ops : Array Oper} (hfw : Forward ops) (t : Nat) : Sched ops [] (Region.linearise .any ops t) := by
  obtain ⟨l, h1, h2⟩ := sched_go hfw ops.size t (Array.replicate ops.size false) [] (by simp) (by intro j hj; rw [Array.getD_eq_getD_getElem?]; simp [hj]) List.nodup_nil (by simp) (by simp)
  unfold Region.linearise
  rw [h1]; exact h2

/-! 'bef' is what the edges tell. -/
def befOf (acc : Array Nat) (o : Oper) : Nat := o.after.foldl (fun s e => if Region.binds .any e then s ||| 2 ^ e.on ||| acc.getD e.on 0 else s) 0
def befList : List Oper → Array Nat → Array Nat
  | [], acc => acc
  | o :: os, acc => befList os (acc.push (befOf acc o))
theorem befs_eq (ops : Array Oper) : befs ops = befList ops.toList #[] := by
  have key : ∀ (l : List Oper) (acc : Array Nat), l.foldl (fun acc o => acc.push (befOf acc o)) acc = befList l acc := by
    intro l
    induction l with
    | nil => intro acc; rfl
    | cons o os ih => intro acc; simp only [List.foldl_cons, befList]; exact ih _
  unfold befs Region.before
  rw [← Array.foldl_toList]
  exact key _ _
theorem befList_old : ∀ (l : List Oper) (acc : Array Nat) (k : Nat), k < acc.size → (befList l acc)[k]? = acc[k]? := by
  intro l
  induction l with
  | nil => intro acc k _; rfl
  | cons o os ih =>
    intro acc k hk
    simp only [befList]
    rw [ih _ k (by simp; omega), Array.getElem?_push_lt hk, Array.getElem?_eq_getElem hk]
theorem befList_size : ∀ (l : List Oper) (acc : Array Nat), (befList l acc).size = acc.size + l.length := by
  intro l
  induction l with
  | nil => intro acc; rfl
  | cons o os ih => intro acc; simp only [befList, ih]; simp; omega
theorem befList_new : ∀ (l : List Oper) (acc : Array Nat) (k : Nat) (o : Oper), l[k]? = some o → ∃ acc', (befList l acc)[acc.size + k]? = some (befOf acc' o) ∧ acc'.size = acc.size + k ∧ ∀ j, j < acc'.size → acc'[j]? = (befList l acc)[j]? := by
  intro l
  induction l with
  | nil => intro acc k o h; simp at h
  | cons x os ih =>
    intro acc k o h
    cases k with
    | zero =>
      simp at h; subst h
      refine ⟨acc, ?_, rfl, fun j hj => ?_⟩
      · simp only [befList, Nat.add_zero]
        rw [befList_old _ _ _ (by simp)]; simp
      · simp only [befList]
        rw [befList_old _ _ _ (by simp; omega), Array.getElem?_push_lt hj, Array.getElem?_eq_getElem hj]
    | succ k =>
      simp at h
      obtain ⟨acc', h1, h2, h3⟩ := ih (acc.push (befOf acc x)) k o h
      refine ⟨acc', ?_, by rw [h2]; simp; omega, h3⟩
      simp only [befList]
      rw [show acc.size + (k + 1) = (acc.push (befOf acc x)).size + k from by simp; omega]
      exact h1

theorem befOf_bit {acc : Array Nat} {o : Oper} {j : Nat} (h : (befOf acc o).testBit j = true) : ∃ e ∈ o.after, Region.binds .any e = true ∧ (e.on = j ∨ (acc.getD e.on 0).testBit j = true) := by
  unfold befOf at h
  rw [← Array.foldl_toList] at h
  have key : ∀ (l : List Edge) (s : Nat), (l.foldl (fun s e => if Region.binds .any e then s ||| 2 ^ e.on ||| acc.getD e.on 0 else s) s).testBit j = true →
      s.testBit j = true ∨ ∃ e ∈ l, Region.binds .any e = true ∧ (e.on = j ∨ (acc.getD e.on 0).testBit j = true) := by
    intro l
    induction l with
    | nil => intro s h; exact .inl h
    | cons e l ih =>
      intro s h
      simp only [List.foldl_cons] at h
      rcases ih _ h with h1 | ⟨e', h1, h2⟩
      · split at h1
        · rename_i hb
          simp only [Nat.testBit_or, Bool.or_eq_true, Nat.testBit_two_pow] at h1
          rcases h1 with (h1 | h1) | h1
          · exact .inl h1
          · exact .inr ⟨e, by simp, hb, .inl (by simpa using h1)⟩
          · exact .inr ⟨e, by simp, hb, .inr h1⟩
        · exact .inl h1
      · exact .inr ⟨e', by simp [h1], h2⟩
  rcases key _ _ h with h1 | ⟨e, h1, h2⟩
  · simp at h1
  · exact ⟨e, by simpa using h1, h2⟩

theorem bef_step {ops : Array Oper} {i j : Nat} {o : Oper} (ho : ops[i]? = some o) (h : bef ops j i = true) : ∃ e ∈ o.after, Region.binds .any e = true ∧ (e.on = j ∨ (e.on < i ∧ bef ops j e.on = true)) := by
  have ho' : ops.toList[i]? = some o := by simpa using ho
  obtain ⟨acc', h1, h2, h3⟩ := befList_new ops.toList #[] i o ho'
  simp only [List.size_toArray, List.length_nil, Nat.zero_add] at h1 h2
  unfold bef at h
  rw [befs_eq, Array.getD_eq_getD_getElem?, h1] at h
  obtain ⟨e, he, hb, hj⟩ := befOf_bit h
  refine ⟨e, he, hb, ?_⟩
  rcases hj with hj | hj
  · exact .inl hj
  · right
    have hlt : e.on < acc'.size := by
      rcases Nat.lt_or_ge e.on acc'.size with h | h
      · exact h
      · rw [Array.getD_eq_getD_getElem?, Array.getElem?_eq_none h] at hj; simp at hj
    refine ⟨by omega, ?_⟩
    unfold bef
    rw [befs_eq, Array.getD_eq_getD_getElem?, ← h3 _ hlt, ← Array.getD_eq_getD_getElem?]
    exact hj
theorem bef_none {ops : Array Oper} {i j : Nat} (ho : ops[i]? = none) : bef ops j i = false := by
  unfold bef
  rw [befs_eq, Array.getD_eq_getD_getElem?, Array.getElem?_eq_none]
  · simp
  · rw [befList_size]
    have := Array.getElem?_eq_none_iff.1 ho
    simpa using this

theorem bef_lt {ops : Array Oper} (hfw : Forward ops) : ∀ (i j : Nat), bef ops j i = true → j < i := by
  intro i
  induction i using Nat.strongRecOn with
  | _ i ih =>
    intro j h
    cases ho : ops[i]? with
    | none => rw [bef_none ho] at h; cases h
    | some o =>
      obtain ⟨e, he, hb, hj⟩ := bef_step ho h
      have := hfw i o ho e he hb
      rcases hj with rfl | ⟨h1, h2⟩
      · exact this
      · have := ih _ h1 j h2; omega

/-- What is done holds all that stands before it. -/
def Closed (ops : Array Oper) (D : List Nat) : Prop := ∀ i ∈ D, ∀ o, ops[i]? = some o → ∀ e ∈ o.after, Region.binds .any e = true → e.on ∈ D
theorem Closed.bef {ops : Array Oper} {D : List Nat} (hD : Closed ops D) : ∀ (i j : Nat), i ∈ D → bef ops j i = true → j ∈ D := by
  intro i
  induction i using Nat.strongRecOn with
  | _ i ih =>
    intro j hi h
    cases ho : ops[i]? with
    | none => rw [bef_none ho] at h; cases h
    | some o =>
      obtain ⟨e, he, hb, hj⟩ := bef_step ho h
      have h1 := hD i hi o ho e he hb
      rcases hj with rfl | ⟨h2, h3⟩
      · exact h1
      · exact ih _ h2 j h1 h3
theorem bef_of_take {ops : Array Oper} {D : List Nat} (hD : Closed ops D) {i j : Nat} {o : Oper} (ho : ops[i]? = some o) (he : ∀ e ∈ o.after, Region.binds .any e = true → e.on ∈ D) (h : bef ops j i = true) : j ∈ D := by
  obtain ⟨e, h1, h2, h3⟩ := bef_step ho h
  rcases h3 with rfl | ⟨_, h3⟩
  · exact he e h1 h2
  · exact hD.bef _ _ (he e h1 h2) h3
end Gh

/- Regions that draw their order: what the ghost proves in its order, the machine does in any. -/
namespace Gh
open Go

/-! What the shape of an operation tells of the heap. -/
section
variable {P : Program} {gl : Nat → Option Nat}

theorem pure_heap {ev : Operand → GVal} {o : Oper} {h h' : GHeap} {g : GVal} (hc : opClass P o = .pure ∨ opClass P o = .read) (hg : (gop P ev o h).opt = some (g, h')) : h' = h := by
  have key : ∀ (k : GM GVal), (GM.map (fun v => (v, h)) k).opt = some (g, h') → h' = h := fun k hk => (pure_opt hk).1
  have key2 : ∀ (kd : Kd) (o : Option GVal), (GM.dst kd o fun v => GM.ret (v, h)).opt = some (g, h') → h' = h := by
    intro kd o hk
    obtain ⟨v, _, h2⟩ := dst_opt hk
    cases h2; rfl
  obtain ⟨dst, op, ty, pos, aft, gd⟩ := o
  cases op with
  | makeFunc fn first captured =>
    cases fn <;> simp only [gop] at hg <;> try (cases hg; done)
    split at hg <;> cases hg; rfl
  | convert s d x =>
    have hc' : ∀ e, P.underlying d ≠ some (.slice e) := by
      intro e he
      simp only [opClass, he] at hc
      split at hc <;> simp at hc
    simp only [gop] at hg
    unfold gconvert at hg
    repeat' split at hg
    all_goals first
      | exact key _ hg
      | exact key2 _ _ hg
      | (cases hg; done)
      | (cases hg; rfl)
      | (exfalso; simp_all; done)
  | call c =>
    obtain ⟨callee, args, ats⟩ := c
    cases callee with
    | builtin b =>
      simp only [gop] at hg
      cases b <;> simp only [opClass, reduceCtorEq, or_self] at hc <;> simp only [gbuiltin] at hg
      all_goals repeat' split at hg
      all_goals first
        | exact key _ hg
        | exact key2 _ _ hg
        | (cases hg; done)
        | (cases hg; rfl)
        | (obtain ⟨_, hh⟩ := req_opt hg; cases hh; rfl)
        | (exfalso; simp_all; done)
    | _ => simp [opClass] at hc
  | _ =>
    first
    | (simp only [opClass, reduceCtorEq, or_self] at hc; done)
    | (simp only [gop] at hg
       first
       | exact key _ hg
       | exact key2 _ _ hg
       | (cases hg; rfl)
       | (repeat' split at hg
          all_goals first
            | exact key _ hg
            | exact key2 _ _ hg
            | (cases hg; done)
            | (cases hg; rfl)))

theorem alloc_heap {ev : Operand → GVal} {o : Oper} {h h' : GHeap} {g : GVal} (hc : opClass P o = .alloc) (hg : (gop P ev o h).opt = some (g, h')) : ∃ obj, h' = h ++ [obj] ∧ obj.wr = true := by
  obtain ⟨dst, op, ty, pos, aft, gd⟩ := o
  cases op with
  | binOp op t x y t2 => cases op <;> simp only [opClass] at hc <;> first | (cases hc; done) | (split at hc <;> cases hc)
  | call c =>
    obtain ⟨callee, args, ats⟩ := c
    cases callee with
    | builtin b =>
      cases b <;> simp only [opClass, reduceCtorEq] at hc
      split at hc <;> cases hc
    | _ => simp [opClass] at hc
  | convert s d x =>
    simp only [gop] at hg
    unfold gconvert at hg
    repeat' split at hg
    all_goals first
      | (cases hg; done)
      | (cases hg; exact ⟨_, rfl, rfl⟩)
      | (exfalso; simp_all [opClass]; done)
  | makeMap t r =>
    cases r with
    | none => cases hg; exact ⟨_, rfl, rfl⟩
    | some x =>
      simp only [gop] at hg
      split at hg <;> cases hg
      exact ⟨_, rfl, rfl⟩
  | _ =>
    first
    | (simp only [opClass, reduceCtorEq] at hc; done)
    | (simp only [gop] at hg
       repeat' split at hg
       all_goals first
        | (cases hg; done)
        | (cases hg; exact ⟨_, rfl, rfl⟩)
        | (obtain ⟨_, hh⟩ := req_opt hg; cases hh; exact ⟨_, rfl, rfl⟩))

/-! Temporaries, but for those that nobody reads. -/
def restr (R : List Nat) (t : List GVal) : List GVal := t.mapIdx fun d g => if R.contains d then g else .undef
theorem restr_getD (R : List Nat) (t : List GVal) (d : Nat) : (restr R t).getD d .undef = if R.contains d then t.getD d .undef else .undef := by
  simp only [restr, List.getD_eq_getElem?_getD, List.getElem?_mapIdx]
  cases t[d]? <;> simp
theorem restr_length (R : List Nat) (t : List GVal) : (restr R t).length = t.length := by simp [restr]

/-- Alike where the operation reads. -/
def alike (ops : Array Oper) (o : Oper) (t t' : List GVal) : Prop := ∀ d ∈ readsT ops o, t.getD d .undef = t'.getD d .undef
theorem alike_restr (ops : Array Oper) (o : Oper) (t : List GVal) : alike ops o (restr (readsT ops o) t) t := by
  intro d hd
  rw [restr_getD, if_pos (by simpa using hd)]
theorem alike.agree {ops : Array Oper} {o : Oper} {t t' : List GVal} (h : alike ops o t t') : agree (gev gl t) (gev gl t') o.op := by
  intro x hx
  cases x with
  | tmp d =>
    simp only [gev, lget_eq]
    exact h d (by simp only [readsT, List.mem_append, List.mem_filterMap]; exact .inl ⟨_, hx, rfl⟩)
  | _ => rfl
theorem alike.want {ops : Array Oper} {o : Oper} {t t' : List GVal} (h : alike ops o t t') : gwant ops t o = gwant ops t' o := by
  unfold gwant
  simp only [lget_eq]
  cases hg : o.guard with
  | none => rfl
  | some jw =>
    obtain ⟨j, want⟩ := jw
    simp only []
    cases hd : (ops[j]?).bind (·.dst) with
    | none => rfl
    | some d =>
      simp only [Option.map_some]
      rw [h d (by simp [readsT, hg, hd])]
theorem alike.gone {ops : Array Oper} {o : Oper} {t t' : List GVal} (ha : alike ops o t t') (h : GHeap) {A : Type} (alg : Alg A) (k : GVal → GHeap → A) : gone alg P gl t o h k = gone alg P gl t' o h k := by
  have hag := ha.agree (gl := gl)
  have hop := gop_congr (P := P) (o := o) h hag
  obtain ⟨dst, op, ty, pos, aft, gd⟩ := o
  simp only [agree] at hag
  simp only [gone_eq]
  unfold goneS
  split
  · rename_i f args ats hopp
    simp only at hopp; subst hopp
    have e : args.toList.map (gev gl t) = args.toList.map (gev gl t') := map_congr' fun x hx => hag x (by simp [Op.operands, Call.operands]; right; simpa using hx)
    have e2 : gev gl t f = gev gl t' f := hag f (by simp [Op.operands, Call.operands])
    simp only [e, e2]
  · rename_i x hopp
    simp only at hopp; subst hopp
    have e2 : gev gl t x = gev gl t' x := hag x (by simp [Op.operands])
    simp only [e2]
  · rw [hop]
theorem gone_plain {t : List GVal} {o : Oper} (hc : opClass P o ≠ .eff) (h : GHeap) {A : Type} (alg : Alg A) (k : GVal → GHeap → A) : gone alg P gl t o h k = alg.gm (gop P (gev gl t) o h) k := by
  obtain ⟨dst, op, ty, pos, aft, gd⟩ := o
  simp only [gone_eq]
  unfold goneS
  split
  · rename_i hopp; simp only at hopp; subst hopp; simp [opClass] at hc
  · rename_i hopp; simp only at hopp; subst hopp; simp [opClass] at hc
  · rfl
end
end Gh

/- Regions that draw their order: what the ghost proves in its order, the machine does in any. -/
namespace Gh
open Go

section
variable {P : Program} {gl : Nat → Option Nat} {m₀ : Mp} {h₀ : GHeap} {w₀ : World} {cur : Option Nat}
variable {F : Machine → Prop} {b : Frame} {cs : List Frame}

/-! What 'drawOk' tells. -/
structure DOK (P : Program) (ops : Array Oper) : Prop where
  fw : Forward ops
  one : ∀ (i : Nat) (o : Oper) (d : Nat), ops[i]? = some o → o.dst = some d → d ∉ readsT ops o
  two : ∀ (i j : Nat) (a b : Oper), i < j → ops[i]? = some a → ops[j]? = some b → pairOk P ops a i b j = true

theorem DOK.of {ops : Array Oper} (h : drawOk P ops = true) : DOK P ops ∧ dok P ops [] (dorder P ops) = true := by
  simp only [drawOk, Bool.and_eq_true, List.all_eq_true] at h
  obtain ⟨h1, h2⟩ := h
  have mem : ∀ (i : Nat) (o : Oper), ops[i]? = some o → (o, i) ∈ ops.toList.zipIdx := by
    intro i o ho
    rw [List.mem_zipIdx_iff_getElem?]
    simpa using ho
  refine ⟨⟨?_, ?_, ?_⟩, h2⟩
  · intro i o ho e he hb
    have := (h1 _ (mem i o ho)).1
    simp only [oneOk, Bool.and_eq_true, Array.all_eq_true'] at this
    have := this.1 e he
    simpa [hb] using this
  · intro i o d ho hd
    have := (h1 _ (mem i o ho)).1
    simp only [oneOk, Bool.and_eq_true, hd] at this
    simpa using this.2
  · intro i j a b hij ha hb
    have := (h1 _ (mem i a ha)).2 _ (mem j b hb)
    simpa [hij] using this

variable {ops : Array Oper}
/-- Two that write the same are the same. -/
theorem DOK.dst (K : DOK P ops) {i j d : Nat} {a b : Oper} (ha : ops[i]? = some a) (hb : ops[j]? = some b) (hd : a.dst = some d) (he : b.dst = some d) : i = j := by
  rcases Nat.lt_trichotomy i j with h | h | h
  · have := K.two i j a b h ha hb
    simp [pairOk, hd, he] at this
  · exact h
  · have := K.two j i b a h hb ha
    simp [pairOk, hd, he] at this
/-- Who writes what is read stands before or behind. -/
theorem DOK.writer (K : DOK P ops) {i j d : Nat} {o a : Oper} (ho : ops[i]? = some o) (ha : ops[j]? = some a) (hd : a.dst = some d) (hr : d ∈ readsT ops o) : bef ops j i = true ∨ (bef ops i j = true ∧ ¬ isRead P o = true) := by
  rcases Nat.lt_trichotomy i j with h | h | h
  · right
    have := K.two i j o a h ho ha
    simp only [pairOk, Bool.and_eq_true, Bool.or_eq_true, clash, hd] at this
    obtain ⟨⟨_, h1⟩, h2⟩ := this
    constructor
    · rcases h1 with h1 | h1
      · exact h1
      · simp [hr] at h1
    · simp [hr] at h2; simpa using h2
  · subst h; rw [ho] at ha; cases ha
    exact absurd hr (K.one _ _ _ ho hd)
  · left
    have := K.two j i a o h ha ho
    simp only [pairOk, Bool.and_eq_true, Bool.or_eq_true, clash, hd] at this
    obtain ⟨⟨_, h1⟩, _⟩ := this
    rcases h1 with h1 | h1
    · exact h1
    · simp [hr] at h1

/-! What 'dok' tells. -/
theorem dok_cons {G l : List Nat} {i : Nat} (h : dok P ops G (i :: l) = true) : i < ops.size ∧ i ∉ G ∧ (∀ j, j < ops.size → bef ops j i = true → j ∈ G) ∧
    (effAt P ops i = true → ∀ j ∈ l, (effAt P ops j = true ∧ bef ops i j = true) ∨ ∃ e ∈ i :: l, effAt P ops e = true ∧ bef ops e j = true) ∧ dok P ops (i :: G) l = true := by
  simp only [dok, Bool.and_eq_true, decide_eq_true_eq, Bool.not_eq_true', List.all_eq_true, List.mem_range, Bool.or_eq_true, List.contains_iff_mem] at h
  obtain ⟨⟨⟨⟨⟨h1, h2⟩, h3⟩, h4⟩, h5⟩, h6⟩ := h
  refine ⟨h1, by simpa using h2, ?_, ?_, h6⟩
  · intro j hj hb
    rcases h3 j hj with h | h
    · rw [hb] at h; cases h
    · exact h
  · intro he j hj
    rcases h5 with h | h
    · rw [he] at h; cases h
    · have := h j hj
      cases hf : effAt P ops j with
      | true => simp only [hf, if_true] at this; exact .inl ⟨rfl, this⟩
      | false =>
        simp only [hf, Bool.false_eq_true, if_false, List.any_eq_true, Bool.and_eq_true] at this
        exact .inr this
theorem dok_all : ∀ (l G : List Nat), dok P ops G l = true → (∀ j, j < ops.size → j ∈ G ∨ j ∈ l) ∧ (∀ j ∈ l, j < ops.size ∧ j ∉ G)
  | [], G, h => by
    simp only [dok, List.all_eq_true, List.mem_range, List.contains_iff_mem] at h
    exact ⟨fun j hj => .inl (h j hj), fun j hj => by simp at hj⟩
  | i :: l, G, h => by
    obtain ⟨h1, h2, _, _, h5⟩ := dok_cons h
    obtain ⟨g1, g2⟩ := dok_all l (i :: G) h5
    constructor
    · intro j hj
      rcases g1 j hj with h | h
      · rcases List.mem_cons.1 h with rfl | h
        · exact .inr (List.mem_cons_self ..)
        · exact .inl h
      · exact .inr (List.mem_cons_of_mem _ h)
    · intro j hj
      rcases List.mem_cons.1 hj with rfl | hj
      · exact ⟨h1, h2⟩
      · exact ⟨(g2 j hj).1, fun hG => (g2 j hj).2 (List.mem_cons_of_mem _ hG)⟩

/-! Frames whose temporaries do not matter. -/
theorem St.grow {t : List GVal} {h : GHeap} {a : Act} {w : World} {m : Mp} (S : St gl m₀ h₀ w₀ cur b.roundOf t h a w m) (obj : GObj) : St gl m₀ h₀ w₀ cur b.roundOf t (h ++ [obj]) a w m :=
  ⟨S.tmps, S.rep.grow obj, ⟨S.ext.size, S.ext.os, S.ext.out, by have := S.ext.len; simp; omega, S.ext.mext, S.ext.new, S.ext.keep,
    fun id o h1 h2 => by
      have := S.ext.stay id o h1 h2
      rw [List.getElem?_append_left (List.getElem?_eq_some_iff.1 this).1]; exact this,
    fun id hid hn => by
      have h1 := S.ext.virt id hid hn
      have h2 : id < h.length := Nat.lt_of_lt_of_le hid S.ext.len
      rw [List.getElem?_append_left h2]; exact h1⟩, S.dfr, S.dom₀, S.cur⟩

theorem Dfr.realize {n₀ : Nat} {m : Mp} {w : World} {id sz d : Nat} {O : Obj} : {ds : List Deferred} → Dfr n₀ m w ds → Dfr n₀ (m.set id ⟨w.heap.size, 0, sz⟩) { w with heap := w.heap.push O, drawn := d } ds
  | [], _ => trivial
  | x :: ds, ⟨⟨r, h1, h2, h3, h4⟩, h5⟩ => by
    have hr : r < w.heap.size := by
      rcases Nat.lt_or_ge r w.heap.size with h | h
      · exact h
      · rw [Array.getElem?_eq_none h] at h2; cases h2
    refine ⟨⟨r, h1, by simp only []; rw [push_old hr]; exact h2, ?_, h4⟩, Dfr.realize h5⟩
    intro i L hL
    unfold Mp.set at hL
    split at hL
    · cases hL; simp; omega
    · exact h3 i L hL

/-- A new object gets its place late. -/
theorem St.realize {t : List GVal} {h : GHeap} {a : Act} {w : World} {m : Mp} (S : St gl m₀ h₀ w₀ cur b.roundOf t h a w m) {id sz d : Nat} {obj : GObj} {O : Obj} (hid : h[id]? = some obj) (hn : m id = none) (hwr : obj.wr = true)
    (h0 : h₀.length ≤ id) (ho : ORel (m.set id ⟨w.heap.size, 0, sz⟩) ⟨w.heap.size, 0, sz⟩ obj O) :
    St gl m₀ h₀ w₀ cur b.roundOf t h a { w with heap := w.heap.push O, drawn := d } (m.set id ⟨w.heap.size, 0, sz⟩) := by
  have hle : MLe m (m.set id ⟨w.heap.size, 0, sz⟩) := Mp.set_le hn
  refine ⟨VRs.mono hle _ _ S.tmps, S.rep.realize hid hn hwr ho, ?_, S.dfr.realize, S.dom₀, S.cur.mono hle⟩
  have E := S.ext
  refine ⟨by simp; have := E.size; omega, E.os, E.out, E.len, ?_, ?_, ?_, E.stay, E.virt⟩
  · intro i hi
    have : i ≠ id := by omega
    simp only [Mp.set, if_neg this]
    exact E.mext i hi
  · intro i L hL
    simp only [Mp.set] at hL
    split at hL
    · cases hL; exact .inr (.inl E.size)
    · exact E.new i L hL
  · intro bl hb hno
    have := E.keep bl hb hno
    simp only []
    rw [push_old (Nat.lt_of_lt_of_le hb E.size)]; exact this

theorem St.undef {t : List GVal} {h : GHeap} {a : Act} {w : World} {m : Mp} (S : St gl m₀ h₀ w₀ cur b.roundOf t h a w m) {t' : List GVal} (hl : t'.length = a.tmps.size)
    (ht : ∀ d, d < t'.length → VR m (t'.getD d .undef) (a.tmps.getD d Go.undef)) : St gl m₀ h₀ w₀ cur b.roundOf t' h a w m := by
  refine { S with tmps := VRs_of (by simpa using hl.symm) ?_ }
  intro i x y hx hy
  have hi := (List.getElem?_eq_some_iff.1 hx).1
  have := ht i hi
  rw [List.getD_eq_getElem?_getD, hx, Array.getD_eq_getD_getElem?] at this
  have hy' : a.tmps[i]? = some y := by simpa using hy
  rw [hy'] at this
  exact this
end
end Gh

/- Regions that draw their order: the invariant. -/
namespace Gh
open Go

section
variable (P : Program) (gl : Nat → Option Nat) (m₀ : Mp) (h₀ : GHeap) (w₀ : World) (cur : Option Nat) (b : Frame) (ops : Array Oper) (t0 : List GVal)

/-- What an operation finds in a temporary. -/
def Src (val : Nat → GVal) (i d : Nat) (g : GVal) : Prop :=
  (∀ j o, ops[j]? = some o → o.dst = some d → bef ops j i = true → g = val j) ∧ ((∀ j o, ops[j]? = some o → o.dst = some d → bef ops j i = false) → g = t0.getD d .undef)

/-- What is known of an operation that the ghost has taken and the machine not yet. -/
def Pend (val : Nat → GVal) (al : Nat → Option Nat) (rs : List Nat) (h : GHeap) (m : Mp) (i : Nat) (o : Oper) : Prop :=
  ∃ ti : List GVal, ti.length = t0.length ∧ (∀ d ∈ readsT ops o, Src ops t0 val i d (ti.getD d .undef)) ∧
    ((gwant ops ti o = .no ∧ val i = .tuple []) ∨ (gwant ops ti o = .yes ∧
      ((opClass P o = .pure ∧ ∃ hi, (gop P (gev gl ti) o hi).opt = some (val i, hi)) ∨
       (opClass P o = .read ∧ i ∈ rs ∧ (gop P (gev gl ti) o h).opt = some (val i, h)) ∨
       (opClass P o = .alloc ∧ ∃ hi obj, (gop P (gev gl ti) o hi).opt = some (val i, hi ++ [obj]) ∧ al i = some hi.length ∧ obj.wr = true ∧ h[hi.length]? = some obj ∧ m hi.length = none ∧ h₀.length ≤ hi.length))))

structure Inv (D G rs : List Nat) (val : Nat → GVal) (al : Nat → Option Nat) (t : List GVal) (h : GHeap) (a : Act) (w : World) (m : Mp) : Prop where
  sub : ∀ i ∈ D, i ∈ G
  cl : Closed ops D
  gcl : ∀ i ∈ G, ∀ j, bef ops j i = true → j ∈ G
  eff : ∀ i ∈ G, effAt P ops i = true → i ∈ D
  len : t.length = t0.length
  size : a.tmps.size = t0.length
  t1 : ∀ j ∈ G, ∀ o d, ops[j]? = some o → o.dst = some d → t.getD d .undef = val j
  t2 : ∀ d, (∀ j ∈ G, ∀ o, ops[j]? = some o → o.dst ≠ some d) → t.getD d .undef = t0.getD d .undef
  c1 : ∀ j ∈ D, ∀ o d, ops[j]? = some o → o.dst = some d → VR m (val j) (a.tmps.getD d Go.undef)
  c2 : ∀ d, (∀ j ∈ D, ∀ o, ops[j]? = some o → o.dst ≠ some d) → VR m (t0.getD d .undef) (a.tmps.getD d Go.undef)
  st : ∃ t', St gl m₀ h₀ w₀ cur b.roundOf t' h a w m
  inj : ∀ i j id, al i = some id → al j = some id → i = j
  lt : ∀ i id, al i = some id → id < h.length
  pend : ∀ i ∈ G, i ∉ D → ∀ o, ops[i]? = some o → Pend P gl h₀ ops t0 val al rs h m i o
end

section
variable {P : Program} {gl : Nat → Option Nat} {m₀ : Mp} {h₀ : GHeap} {w₀ : World} {cur : Option Nat}
variable {F : Machine → Prop} {b : Frame} {cs : List Frame} {ops : Array Oper} {t0 : List GVal}
variable {D G rs : List Nat} {val : Nat → GVal} {al : Nat → Option Nat} {t : List GVal} {h : GHeap} {a : Act} {w : World} {m : Mp}

theorem Inv.reads (K : DOK P ops) (I : Inv P gl m₀ h₀ w₀ cur b ops t0 D G rs val al t h a w m) {i : Nat} {o : Oper} (hi : i ∉ D) (ho : ops[i]? = some o)
    (he : ∀ e ∈ o.after, Region.binds .any e = true → e.on ∈ D) {d : Nat} (hd : d ∈ readsT ops o) {g : GVal} (hs : Src ops t0 val i d g) : VR m g (a.tmps.getD d Go.undef) := by
  by_cases hw : ∃ j o', ops[j]? = some o' ∧ o'.dst = some d ∧ bef ops j i = true
  · obtain ⟨j, o', h1, h2, h3⟩ := hw
    rw [hs.1 j o' h1 h2 h3]
    exact I.c1 j (bef_of_take I.cl ho he h3) o' d h1 h2
  · have hn : ∀ j o', ops[j]? = some o' → o'.dst = some d → bef ops j i = false := by
      intro j o' h1 h2
      cases hb : bef ops j i with
      | false => rfl
      | true => exact absurd ⟨j, o', h1, h2, hb⟩ hw
    rw [hs.2 hn]
    refine I.c2 d fun j hj o' h1 h2 => ?_
    rcases K.writer ho h1 h2 hd with h3 | ⟨h3, _⟩
    · rw [hn j o' h1 h2] at h3; cases h3
    · exact hi (I.cl.bef _ _ hj h3)

theorem Inv.src (K : DOK P ops) (I : Inv P gl m₀ h₀ w₀ cur b ops t0 D G rs val al t h a w m) {i : Nat} {o : Oper} (hi : i ∉ G) (ho : ops[i]? = some o)
    (hb : ∀ j, bef ops j i = true → j ∈ G) {d : Nat} (hd : d ∈ readsT ops o) : Src ops t0 val i d (t.getD d .undef) := by
  refine ⟨fun j o' h1 h2 h3 => I.t1 j (hb j h3) o' d h1 h2, fun hn => I.t2 d fun j hj o' h1 h2 => ?_⟩
  rcases K.writer ho h1 h2 hd with h3 | ⟨h3, _⟩
  · rw [hn j o' h1 h2] at h3; cases h3
  · exact hi (I.gcl j hj i h3)

def upd {α : Type} (f : Nat → α) (i : Nat) (v : α) : Nat → α := fun j => if j = i then v else f j
theorem upd_self {α : Type} (f : Nat → α) (i : Nat) (v : α) : upd f i v i = v := by simp [upd]
theorem upd_ne {α : Type} (f : Nat → α) {i j : Nat} (v : α) (h : j ≠ i) : upd f i v j = f j := by simp [upd, h]

theorem Src.upd {val : Nat → GVal} {i k d : Nat} {g v : GVal} (hs : Src ops t0 val k d g) (hn : bef ops i k = false) : Src ops t0 (upd val i v) k d g := by
  refine ⟨fun j o h1 h2 h3 => ?_, hs.2⟩
  have : j ≠ i := by rintro rfl; rw [hn] at h3; cases h3
  rw [upd_ne _ _ this]; exact hs.1 j o h1 h2 h3

theorem gput_getD {t : List GVal} {dst : Option Tmp} {v : GVal} {d : Nat} (hr : ∀ e, dst = some e → e < t.length) : (gput t dst v).getD d .undef = if dst = some d then v else t.getD d .undef := by
  cases dst with
  | none => simp [gput]
  | some e =>
    have := hr e rfl
    simp only [gput, lset_eq, Option.some.injEq, List.getD_eq_getElem?_getD]
    by_cases h : e = d
    · subst h; simp [this]
    · simp [h, List.getElem?_set_ne h]
theorem gput_length {t : List GVal} {dst : Option Tmp} {v : GVal} : (gput t dst v).length = t.length := by cases dst <;> simp [gput, lset_eq]
theorem put_getD {a : Act} {dst : Option Tmp} {v : Value} {d : Nat} (hr : ∀ e, dst = some e → e < a.tmps.size) : (a.put dst v).tmps.getD d Go.undef = if dst = some d then v else a.tmps.getD d Go.undef := by
  cases dst with
  | none => simp [Act.put]
  | some e =>
    have := hr e rfl
    simp only [Act.put, Option.some.injEq, Array.getD_eq_getD_getElem?]
    by_cases h : e = d
    · subst h; simp [this]
    · simp [h, Array.getElem?_setIfInBounds_ne h]
theorem put_size {a : Act} {dst : Option Tmp} {v : Value} : (a.put dst v).tmps.size = a.tmps.size := by cases dst <;> simp [Act.put]

theorem inRange_of {t : List GVal} (hr : inRange ops t = true) {i : Nat} {o : Oper} (ho : ops[i]? = some o) : ∀ e, o.dst = some e → e < t.length := by
  intro e he
  simp only [inRange, List.all_eq_true] at hr
  have := hr o (by have : ops.toList[i]? = some o := by simpa using ho
                   exact List.mem_of_getElem? this)
  simpa [he] using this

/-- The ghost takes an operation without effect. -/
theorem Inv.add (K : DOK P ops) (I : Inv P gl m₀ h₀ w₀ cur b ops t0 D G rs val al t h a w m) (hr : inRange ops t0 = true) {i : Nat} {o : Oper} (hi : i ∉ G) (ho : ops[i]? = some o)
    (hb : ∀ j, bef ops j i = true → j ∈ G) (hne : effAt P ops i = false) (v : GVal) (obj : Option GObj) (rs' : List Nat) (hrs : ∀ r ∈ rs, r ∈ rs')
    (hp : ∀ ti, alike ops o ti t → ti.length = t0.length → ((gwant ops ti o = .no ∧ v = .tuple []) ∨ (gwant ops ti o = .yes ∧
      ((opClass P o = .pure ∧ ∃ hi, (gop P (gev gl ti) o hi).opt = some (v, hi)) ∨
       (opClass P o = .read ∧ i ∈ rs' ∧ obj = none ∧ (gop P (gev gl ti) o h).opt = some (v, h)) ∨
       (opClass P o = .alloc ∧ ∃ ob, obj = some ob ∧ (gop P (gev gl ti) o h).opt = some (v, h ++ [ob]) ∧ ob.wr = true))))) :
    Inv P gl m₀ h₀ w₀ cur b ops t0 D (i :: G) rs' (upd val i v) (upd al i (obj.map fun _ => h.length)) (gput t o.dst v) (h ++ obj.toList) a w m := by
  obtain ⟨t', S⟩ := I.st
  have hin : ∀ e, o.dst = some e → e < t.length := by rw [I.len]; exact inRange_of hr ho
  have hGi : ∀ j ∈ G, j ≠ i := fun j hj e => hi (e ▸ hj)
  refine ⟨fun j hj => List.mem_cons_of_mem _ (I.sub j hj), I.cl, ?_, ?_, by rw [gput_length, I.len], I.size, ?_, ?_, ?_, I.c2, ?_, ?_, ?_, ?_⟩
  · intro j hj k hk
    rcases List.mem_cons.1 hj with rfl | hj
    · exact List.mem_cons_of_mem _ (hb k hk)
    · exact List.mem_cons_of_mem _ (I.gcl j hj k hk)
  · intro j hj he
    rcases List.mem_cons.1 hj with rfl | hj
    · rw [hne] at he; cases he
    · exact I.eff j hj he
  · intro j hj o' d h1 h2
    rw [gput_getD hin]
    by_cases e : j = i
    · subst e; rw [ho] at h1; cases h1
      rw [if_pos h2, upd_self]
    · have hj' : j ∈ G := by
        rcases List.mem_cons.1 hj with h | h
        · exact absurd h e
        · exact h
      rw [if_neg (fun h3 => e (K.dst h1 ho h2 h3)), upd_ne _ _ e]
      exact I.t1 j hj' o' d h1 h2
  · intro d hn
    rw [gput_getD hin, if_neg (hn i (List.mem_cons_self ..) o ho)]
    exact I.t2 d fun j hj => hn j (List.mem_cons_of_mem _ hj)
  · intro j hj o' d h1 h2
    rw [upd_ne _ _ (hGi j (I.sub j hj))]
    exact I.c1 j hj o' d h1 h2
  · cases obj with
    | none => exact ⟨t', by simpa using S⟩
    | some ob => exact ⟨t', S.grow ob⟩
  · intro j k id h1 h2
    unfold upd at h1 h2
    split at h1 <;> split at h2
    · rename_i e1 e2; rw [e1, e2]
    · cases obj with
      | none => cases h1
      | some ob => cases h1; have := I.lt _ _ h2; dsimp only at this; omega
    · cases obj with
      | none => cases h2
      | some ob => cases h2; have := I.lt _ _ h1; dsimp only at this; omega
    · exact I.inj j k id h1 h2
  · intro j id h1
    unfold upd at h1
    split at h1
    · cases obj with
      | none => cases h1
      | some ob => cases h1; simp
    · have := I.lt _ _ h1; simp; omega
  · intro j hj hjD o' ho'
    by_cases e : j = i
    · subst e; rw [ho] at ho'; cases ho'
      refine ⟨t, I.len, fun d hd => (I.src K hi ho hb hd).upd ?_, ?_⟩
      · cases hbb : bef ops j j with
        | false => rfl
        | true => have := bef_lt K.fw _ _ hbb; omega
      · rw [upd_self, upd_self]
        rcases hp t (fun d _ => rfl) I.len with h1 | ⟨h1, h2 | ⟨h2, h3, rfl, h4⟩ | ⟨h2, ob, rfl, h4, h5⟩⟩
        · exact .inl h1
        · exact .inr ⟨h1, .inl h2⟩
        · exact .inr ⟨h1, .inr (.inl ⟨h2, h3, by simpa using h4⟩)⟩
        · exact .inr ⟨h1, .inr (.inr ⟨h2, h, ob, h4, rfl, h5, by simp, S.rep.none_of_ge (Nat.le_refl _), S.ext.len⟩)⟩
    · have hj' : j ∈ G := by
        rcases List.mem_cons.1 hj with h | h
        · exact absurd h e
        · exact h
      obtain ⟨ti, g1, g2, g3⟩ := I.pend j hj' hjD o' ho'
      refine ⟨ti, g1, fun d hd => (g2 d hd).upd ?_, ?_⟩
      · cases hbb : bef ops i j with
        | false => rfl
        | true => exact absurd (I.gcl j hj' i hbb) hi
      · rw [upd_ne _ _ e, upd_ne _ _ e]
        rcases g3 with g3 | ⟨g3, g4 | ⟨g4, g5, g6⟩ | ⟨g4, hi', ob, g5, g6, g7, g8, g9⟩⟩
        · exact .inl g3
        · exact .inr ⟨g3, .inl g4⟩
        · exact .inr ⟨g3, .inr (.inl ⟨g4, hrs _ g5, read_append g4 g6⟩)⟩
        · refine .inr ⟨g3, .inr (.inr ⟨g4, hi', ob, g5, g6, g7, ?_, g9⟩)⟩
          rw [List.getElem?_append_left (List.getElem?_eq_some_iff.1 g8).1]; exact g8

/-- The machine takes an operation that the ghost has taken. -/
theorem Inv.exec (K : DOK P ops) (I : Inv P gl m₀ h₀ w₀ cur b ops t0 D G rs val al t h a w m) (hr : inRange ops t0 = true) {i : Nat} {o : Oper} (hiG : i ∈ G) (hi : i ∉ D) (ho : ops[i]? = some o)
    (he : ∀ e ∈ o.after, Region.binds .any e = true → e.on ∈ D) {v : Value} {w' : World} {m' : Mp} (hle : MLe m m') (hv : VR m' (val i) v) {t' : List GVal} (S : St gl m₀ h₀ w₀ cur b.roundOf t' h a w' m')
    (hm : ∀ id, m id = none → al i ≠ some id → m' id = none) :
    Inv P gl m₀ h₀ w₀ cur b ops t0 (i :: D) G rs val al t h (a.put o.dst v) w' m' := by
  have hin : ∀ e, o.dst = some e → e < a.tmps.size := by rw [I.size]; exact inRange_of hr ho
  refine ⟨?_, ?_, I.gcl, fun j hj h1 => List.mem_cons_of_mem _ (I.eff j hj h1), I.len, by rw [put_size, I.size], I.t1, I.t2, ?_, ?_, ?_, I.inj, I.lt, ?_⟩
  · intro j hj
    rcases List.mem_cons.1 hj with rfl | hj
    · exact hiG
    · exact I.sub j hj
  · intro j hj o' ho' e he' hb
    rcases List.mem_cons.1 hj with rfl | hj
    · rw [ho] at ho'; cases ho'
      exact List.mem_cons_of_mem _ (he e he' hb)
    · exact List.mem_cons_of_mem _ (I.cl j hj o' ho' e he' hb)
  · intro j hj o' d h1 h2
    rw [put_getD hin]
    by_cases e : j = i
    · subst e; rw [ho] at h1; cases h1
      rw [if_pos h2]; exact hv
    · have hj' : j ∈ D := by
        rcases List.mem_cons.1 hj with h | h
        · exact absurd h e
        · exact h
      rw [if_neg (fun h3 => e (K.dst h1 ho h2 h3))]
      exact VR.mono hle _ _ (I.c1 j hj' o' d h1 h2)
  · intro d hn
    rw [put_getD hin, if_neg (hn i (List.mem_cons_self ..) o ho)]
    exact VR.mono hle _ _ (I.c2 d fun j hj => hn j (List.mem_cons_of_mem _ hj))
  · exact ⟨_, S.put (g := val i) hv S.rep (Ext.refl _ _ _ S.rep.dom)⟩
  · intro j hj hjD o' ho'
    have hne : j ≠ i := fun e => hjD (e ▸ List.mem_cons_self ..)
    obtain ⟨ti, g1, g2, g3⟩ := I.pend j hj (fun hh => hjD (List.mem_cons_of_mem _ hh)) o' ho'
    refine ⟨ti, g1, g2, ?_⟩
    rcases g3 with g3 | ⟨g3, g4 | g4 | ⟨g4, hi', ob, g5, g6, g7, g8, g9, g10⟩⟩
    · exact .inl g3
    · exact .inr ⟨g3, .inl g4⟩
    · exact .inr ⟨g3, .inr (.inl g4)⟩
    · exact .inr ⟨g3, .inr (.inr ⟨g4, hi', ob, g5, g6, g7, g8, hm _ g9 fun e => hne (I.inj _ _ _ g6 e), g10⟩)⟩

/-- Both take an operation with an effect. -/
theorem Inv.both (K : DOK P ops) (I : Inv P gl m₀ h₀ w₀ cur b ops t0 D G rs val al t h a w m) (hr : inRange ops t0 = true) {i : Nat} {o : Oper} (hi : i ∉ G) (ho : ops[i]? = some o)
    (he : ∀ e ∈ o.after, Region.binds .any e = true → e.on ∈ D) {g : GVal} {v : Value} {h' : GHeap} {w' : World} {m' : Mp} (hv : VR m' g v) (R : Rep gl m' h' w') (E : Ext m h w m' h' w')
    (hrd : ∀ k ∈ G, k ∉ D → ∀ o', ops[k]? = some o' → opClass P o' = .read → k ∈ rs → ∀ ti, (∀ d ∈ readsT ops o', Src ops t0 val k d (ti.getD d .undef)) → (gop P (gev gl ti) o' h).opt = some (val k, h) → (gop P (gev gl ti) o' h').opt = some (val k, h')) :
    Inv P gl m₀ h₀ w₀ cur b ops t0 (i :: D) (i :: G) rs (upd val i g) al (gput t o.dst g) h' (a.put o.dst v) w' m' := by
  obtain ⟨t', S⟩ := I.st
  have hle := E.mle S.rep.dom
  have hinG : ∀ e, o.dst = some e → e < t.length := by rw [I.len]; exact inRange_of hr ho
  have hin : ∀ e, o.dst = some e → e < a.tmps.size := by rw [I.size]; exact inRange_of hr ho
  have hGi : ∀ j ∈ G, j ≠ i := fun j hj e => hi (e ▸ hj)
  have hb : ∀ j, bef ops j i = true → j ∈ G := fun j hj => I.sub j (bef_of_take I.cl ho he hj)
  refine ⟨?_, ?_, ?_, ?_, by rw [gput_length, I.len], by rw [put_size, I.size], ?_, ?_, ?_, ?_, ?_, I.inj, fun j id hj => Nat.lt_of_lt_of_le (I.lt j id hj) E.len, ?_⟩
  · intro j hj
    rcases List.mem_cons.1 hj with rfl | hj
    · exact List.mem_cons_self ..
    · exact List.mem_cons_of_mem _ (I.sub j hj)
  · intro j hj o' ho' e he' hbd
    rcases List.mem_cons.1 hj with hji | hj
    · subst hji; rw [ho] at ho'; cases ho'
      exact List.mem_cons_of_mem _ (he e he' hbd)
    · exact List.mem_cons_of_mem _ (I.cl j hj o' ho' e he' hbd)
  · intro j hj k hk
    rcases List.mem_cons.1 hj with rfl | hj
    · exact List.mem_cons_of_mem _ (hb k hk)
    · exact List.mem_cons_of_mem _ (I.gcl j hj k hk)
  · intro j hj hee
    rcases List.mem_cons.1 hj with rfl | hj
    · exact List.mem_cons_self ..
    · exact List.mem_cons_of_mem _ (I.eff j hj hee)
  · intro j hj o' d h1 h2
    rw [gput_getD hinG]
    by_cases e : j = i
    · subst e; rw [ho] at h1; cases h1
      rw [if_pos h2, upd_self]
    · have hj' : j ∈ G := by
        rcases List.mem_cons.1 hj with h | h
        · exact absurd h e
        · exact h
      rw [if_neg (fun h3 => e (K.dst h1 ho h2 h3)), upd_ne _ _ e]
      exact I.t1 j hj' o' d h1 h2
  · intro d hn
    rw [gput_getD hinG, if_neg (hn i (List.mem_cons_self ..) o ho)]
    exact I.t2 d fun j hj => hn j (List.mem_cons_of_mem _ hj)
  · intro j hj o' d h1 h2
    rw [put_getD hin]
    by_cases e : j = i
    · subst e; rw [ho] at h1; cases h1
      rw [if_pos h2, upd_self]; exact hv
    · have hj' : j ∈ D := by
        rcases List.mem_cons.1 hj with h | h
        · exact absurd h e
        · exact h
      rw [if_neg (fun h3 => e (K.dst h1 ho h2 h3)), upd_ne _ _ e]
      exact VR.mono hle _ _ (I.c1 j hj' o' d h1 h2)
  · intro d hn
    rw [put_getD hin, if_neg (hn i (List.mem_cons_self ..) o ho)]
    exact VR.mono hle _ _ (I.c2 d fun j hj => hn j (List.mem_cons_of_mem _ hj))
  · exact ⟨_, S.put (g := g) (d := o.dst) hv R E⟩
  · intro j hj hjD o' ho'
    have hne : j ≠ i := fun e => hjD (e ▸ List.mem_cons_self ..)
    have hj' : j ∈ G := by
      rcases List.mem_cons.1 hj with h | h
      · exact absurd h hne
      · exact h
    have hjD' : j ∉ D := fun hh => hjD (List.mem_cons_of_mem _ hh)
    obtain ⟨ti, g1, g2, g3⟩ := I.pend j hj' hjD' o' ho'
    refine ⟨ti, g1, fun d hd => (g2 d hd).upd ?_, ?_⟩
    · cases hbb : bef ops i j with
      | false => rfl
      | true => exact absurd (I.gcl j hj' i hbb) hi
    · rw [upd_ne _ _ hne]
      rcases g3 with g3 | ⟨g3, g4 | ⟨g4, g5, g6⟩ | ⟨g4, hi', ob, g5, g6, g7, g8, g9, g10⟩⟩
      · exact .inl g3
      · exact .inr ⟨g3, .inl g4⟩
      · exact .inr ⟨g3, .inr (.inl ⟨g4, g5, hrd j hj' hjD' o' ho' g4 g5 ti g2 g6⟩)⟩
      · have hlt := (List.getElem?_eq_some_iff.1 g8).1
        exact .inr ⟨g3, .inr (.inr ⟨g4, hi', ob, g5, g6, g7, by rw [E.virt _ hlt g9]; exact g8, by rw [E.mext _ hlt]; exact g9, g10⟩)⟩
end
end Gh

/- Regions that draw their order: what the ghost proves in its order, the machine does in any. -/
namespace Gh
open Go

section
variable {P : Program} {gl : Nat → Option Nat} {m₀ : Mp} {h₀ : GHeap} {w₀ : World} {cur : Option Nat}
variable {F : Machine → Prop} {b : Frame} {cs : List Frame} {ops : Array Oper} {t0 : List GVal}
variable {D G rs : List Nat} {val : Nat → GVal} {al : Nat → Option Nat} {t : List GVal} {h : GHeap} {a : Act} {w : World} {m : Mp}

theorem effAt_of {i : Nat} {o : Oper} (ho : ops[i]? = some o) : effAt P ops i = true ↔ opClass P o = .eff := by
  simp [effAt, ho, isEff]

/-- The ghost goes as far as the next effect. -/
theorem advance (K : DOK P ops) (hr : inRange ops t0 = true) {X : List GVal → GHeap → Prop} : ∀ (l G rs : List Nat) (val : Nat → GVal) (al : Nat → Option Nat) (t : List GVal) (h : GHeap),
    Inv P gl m₀ h₀ w₀ cur b ops t0 D G rs val al t h a w m → dok P ops G l = true → gdr P gl (propAlg P gl) ops l rs t h X →
    ∃ G' l' rs' val' al' t' h', Inv P gl m₀ h₀ w₀ cur b ops t0 D G' rs' val' al' t' h' a w m ∧ dok P ops G' l' = true ∧ gdr P gl (propAlg P gl) ops l' rs' t' h' X ∧
      (∀ e l'', l' = e :: l'' → effAt P ops e = true) := by
  intro l
  induction l with
  | nil => intro G rs val al t h I hd hx; exact ⟨G, [], rs, val, al, t, h, I, hd, hx, fun e l'' he => by cases he⟩
  | cons i l ih =>
    intro G rs val al t h I hd hx
    by_cases hi : effAt P ops i = true
    · exact ⟨G, i :: l, rs, val, al, t, h, I, hd, hx, fun e l'' he => by cases he; exact hi⟩
    · obtain ⟨d1, d2, d3, _, d5⟩ := dok_cons hd
      have ho : ops[i]? = some ops[i] := Array.getElem?_eq_getElem d1
      generalize ops[i] = o at ho
      have hi' : effAt P ops i = false := by simpa using hi
      have hcl : opClass P o ≠ .eff := fun e => hi ((effAt_of ho).2 e)
      have hb : ∀ j, bef ops j i = true → j ∈ G := fun j hj => d3 j (Nat.lt_trans (bef_lt K.fw _ _ hj) d1) hj
      simp only [gdr, ho] at hx
      cases hw : gwant ops t o with
      | open_ => rw [hw] at hx; exact hx.elim
      | no =>
        rw [hw] at hx
        have I' := I.add K hr d2 ho hb hi' (.tuple []) none rs (fun _ h => h) (fun ti ha _ => .inl ⟨by rw [ha.want]; exact hw, rfl⟩)
        simp only [Option.toList_none, List.append_nil] at I'
        exact ih _ _ _ _ _ _ I' d5 hx
      | yes =>
        rw [hw] at hx
        cases hc : opClass P o with
        | eff => exact absurd hc hcl
        | pure =>
          rw [hc] at hx
          simp only [gone_plain hcl] at hx
          obtain ⟨⟨v, h'⟩, h1, h2⟩ := GM.wp_opt _ hx
          have := pure_heap (.inl hc) h1
          subst this
          have I' := I.add K hr d2 ho hb hi' v none rs (fun _ h => h) (fun ti ha _ => .inr ⟨by rw [ha.want]; exact hw, .inl ⟨hc, _, by rw [gop_congr _ (ha.agree)]; exact h1⟩⟩)
          simp only [Option.toList_none, List.append_nil] at I'
          exact ih _ _ _ _ _ _ I' d5 h2
        | read =>
          rw [hc] at hx
          simp only [gone_plain hcl] at hx
          obtain ⟨⟨v, h'⟩, h1, h2⟩ := GM.wp_opt _ hx
          have := pure_heap (.inr hc) h1
          subst this
          have I' := I.add K hr d2 ho hb hi' v none (rs ++ [i]) (fun _ h => by simp [h]) (fun ti ha _ => .inr ⟨by rw [ha.want]; exact hw, .inr (.inl ⟨hc, by simp, rfl, by rw [gop_congr _ (ha.agree)]; exact h1⟩)⟩)
          simp only [Option.toList_none, List.append_nil] at I'
          exact ih _ _ _ _ _ _ I' d5 h2
        | alloc =>
          rw [hc] at hx
          simp only [gone_plain hcl] at hx
          obtain ⟨⟨v, h'⟩, h1, h2⟩ := GM.wp_opt _ hx
          obtain ⟨ob, rfl, hwr⟩ := alloc_heap hc h1
          have I' := I.add K hr d2 ho hb hi' v (some ob) rs (fun _ h => h) (fun ti ha _ => .inr ⟨by rw [ha.want]; exact hw, .inr (.inr ⟨hc, ob, rfl, by rw [gop_congr _ (ha.agree)]; exact h1, hwr⟩)⟩)
          simp only [Option.toList_some] at I'
          exact ih _ _ _ _ _ _ I' d5 h2

theorem notDefer {o : Oper} (hc : opClass P o ≠ .eff) (c : Call) : o.op ≠ .defer c := by
  intro e; apply hc; obtain ⟨dst, op, ty, pos, aft, gd⟩ := o; simp only at e; subst e; simp [opClass]

/-- The machine takes an operation that the ghost has taken. -/
theorem takePending (hF : ∀ m m', Steps P m m' → F m' → F m) (K : DOK P ops) (hr : inRange ops t0 = true) (I : Inv P gl m₀ h₀ w₀ cur b ops t0 D G rs val al t h a w m) {i : Nat} {o : Oper} (hiG : i ∈ G) (hi : i ∉ D) (ho : ops[i]? = some o)
    (he : ∀ e ∈ o.after, Region.binds .any e = true → e.on ∈ D) {rest : List Nat} {k : List Item}
    (hk : ∀ a' w' m', Inv P gl m₀ h₀ w₀ cur b ops t0 (i :: D) G rs val al t h a' w' m' → F (lone (b.atR a' (.inRegion ops rest :: k)) cs w')) :
    F (lone (b.atR a (.inRegion ops (i :: rest) :: k)) cs w) := by
  obtain ⟨ti, p1, p2, p3⟩ := I.pend i hiG hi o ho
  obtain ⟨t', S⟩ := I.st
  have hal : alike ops o (restr (readsT ops o) ti) ti := alike_restr ops o ti
  have S' : St gl m₀ h₀ w₀ cur b.roundOf (restr (readsT ops o) ti) h a w m := S.undef (by rw [restr_length, p1, I.size]) fun d _ => by
    rw [restr_getD]
    split
    · rename_i hd
      have hd' : d ∈ readsT ops o := by simpa using hd
      exact I.reads K hi ho he hd' (p2 d hd')
    · trivial
  obtain ⟨hy, hn⟩ := gwant_sound (ops := ops) (o := o) S'.tmps
  rw [hal.want] at hy hn
  have hev := gev_R S'.rep S'.tmps
  rcases p3 with ⟨q1, q2⟩ | ⟨q1, q2⟩
  · have hs := stepR_op_skip (P := P) (b := b) (a := a) (k := k) (cs := cs) (w := w) (ops := ops) (i := i) (rest := rest) (by simp [ho, hn q1])
    simp only [ho, Option.bind_some] at hs
    exact hF _ _ (.one hs) (hk _ _ _ (I.exec K hr hiG hi ho he (MLe.refl m) (by rw [q2]; exact ⟨[], rfl, rfl⟩) S (fun _ h _ => h)))
  · rcases q2 with ⟨hc, hi', g1⟩ | ⟨hc, _, g1⟩ | ⟨hc, hi', obj, g1, g2, g3, g4, g5, g6⟩
    · rw [← gop_congr _ (hal.agree)] at g1
      obtain ⟨_, v, r1, r2⟩ := pure_sound hev hc g1
      exact hF _ _ (.one (stepR_runs ho (hy q1) (notDefer (P := P) (by rw [hc]; simp)) (r2 w))) (hk _ _ _ (I.exec K hr hiG hi ho he (MLe.refl m) r1 S (fun _ h _ => h)))
    · rw [← gop_congr _ (hal.agree)] at g1
      obtain ⟨_, v, r1, r2⟩ := read_sound S'.rep hev hc g1
      exact hF _ _ (.one (stepR_runs ho (hy q1) (notDefer (P := P) (by rw [hc]; simp)) r2)) (hk _ _ _ (I.exec K hr hiG hi ho he (MLe.refl m) r1 S (fun _ h _ => h)))
    · rw [← gop_congr _ (hal.agree)] at g1
      obtain ⟨ob, e1, _, r1⟩ := alloc_sound hev hc g1
      have e2 : ob = obj := by
        have := List.append_cancel_left e1
        simpa using this.symm
      subst e2
      obtain ⟨O, u, d, sz, r2, r3⟩ := r1 w
      obtain ⟨r4, r5⟩ := r3 (m.set hi'.length ⟨w.heap.size, 0, sz⟩) (Mp.set_le g5) (Mp.set_self ..)
      refine hF _ _ (.one (stepR_runs ho (hy q1) (notDefer (P := P) (by rw [hc]; simp)) r2)) (hk _ _ _ (I.exec K hr hiG hi ho he (Mp.set_le g5) r4 (S.realize g4 g5 g3 g6 r5) ?_))
      intro id h1 h2
      unfold Mp.set
      rw [if_neg]
      · exact h1
      · intro e; exact h2 (by rw [g2, e])

theorem rdAll_cons {t : List GVal} {h : GHeap} {i : Nat} {l : List Nat} (hr : rdAll P gl ops t h (i :: l)) : (∀ o, ops[i]? = some o → rdSame P gl t o h) ∧ rdAll P gl ops t h l := by
  rw [rdAll] at hr
  refine ⟨fun o ho => ?_, hr.2⟩
  have := hr.1
  rw [ho] at this
  exact this
theorem rdAll_mem {t : List GVal} {h : GHeap} {k : Nat} {o : Oper} (ho : ops[k]? = some o) : ∀ (l : List Nat), rdAll P gl ops t h l → k ∈ l → rdSame P gl t o h := by
  intro l
  induction l with
  | nil => intro _ hk; simp at hk
  | cons i l ih =>
    intro hr hk
    rcases List.mem_cons.1 hk with rfl | hk
    · exact (rdAll_cons hr).1 o ho
    · exact ih (rdAll_cons hr).2 hk

/-- Both take an operation with an effect. -/
theorem takeEffect (hF : ∀ m m', Steps P m m' → F m' → F m) (K : DOK P ops) (hr : inRange ops t0 = true) (I : Inv P gl m₀ h₀ w₀ cur b ops t0 D G rs val al t h a w m) {i : Nat} {o : Oper} (hi : i ∉ G) (ho : ops[i]? = some o)
    (hef : effAt P ops i = true) (he : ∀ e ∈ o.after, Region.binds .any e = true → e.on ∈ D) {rest l : List Nat} {k : List Item} {X : List GVal → GHeap → Prop} (hx : gdr P gl (propAlg P gl) ops (i :: l) rs t h X)
    (hk : ∀ val' t' h' a' w' m', Inv P gl m₀ h₀ w₀ cur b ops t0 (i :: D) (i :: G) rs val' al t' h' a' w' m' → gdr P gl (propAlg P gl) ops l rs t' h' X → F (lone (b.atR a' (.inRegion ops rest :: k)) cs w')) :
    F (lone (b.atR a (.inRegion ops (i :: rest) :: k)) cs w) := by
  obtain ⟨t', S⟩ := I.st
  have hiD : i ∉ D := fun hh => hi (I.sub i hh)
  have hb : ∀ j, bef ops j i = true → j ∈ G := fun j hj => I.sub j (bef_of_take I.cl ho he hj)
  have hal : alike ops o (restr (readsT ops o) t) t := alike_restr ops o t
  have S' : St gl m₀ h₀ w₀ cur b.roundOf (restr (readsT ops o) t) h a w m := S.undef (by rw [restr_length, I.len, I.size]) fun d _ => by
    rw [restr_getD]
    split
    · rename_i hd
      have hd' : d ∈ readsT ops o := by simpa using hd
      exact I.reads K hiD ho he hd' (I.src K hi ho hb hd')
    · trivial
  obtain ⟨hy, hn⟩ := gwant_sound (ops := ops) (o := o) S'.tmps
  rw [hal.want] at hy hn
  have hin : ∀ e, o.dst = some e → e < t.length := by rw [I.len]; exact inRange_of hr ho
  simp only [gdr, ho] at hx
  cases hw : gwant ops t o with
  | open_ => rw [hw] at hx; exact hx.elim
  | no =>
    rw [hw] at hx
    have hs := stepR_op_skip (P := P) (b := b) (a := a) (k := k) (cs := cs) (w := w) (ops := ops) (i := i) (rest := rest) (by simp [ho, hn hw])
    simp only [ho, Option.bind_some] at hs
    exact hF _ _ (.one hs) (hk _ _ _ _ _ _ (I.both K hr hi ho he (g := .tuple []) (v := Go.undef) ⟨[], rfl, rfl⟩ S.rep (Ext.refl _ _ _ S.rep.dom) (fun _ _ _ _ _ _ _ _ _ hh => hh)) hx)
  | yes =>
    rw [hw, (effAt_of ho).1 hef] at hx
    simp only [] at hx
    rw [← hal.gone] at hx
    refine gone_sound hF ho hx S' (hy hw) ?_
    intro g h' v w' m' hX r1 r2 r3
    have hrd : rdAll P gl ops t h' (rs.filter fun r => !bef ops r i) ∧ gdr P gl (propAlg P gl) ops l rs (gput t o.dst g) h' X := by
      cases hf : rs.filter fun r => !bef ops r i with
      | nil => rw [hf] at hX; exact ⟨trivial, hX⟩
      | cons r l' => rw [hf] at hX; exact hX
    refine hk _ _ _ _ _ _ (I.both K hr hi ho he r1 r2 r3 ?_) hrd.2
    intro q hqG hqD o' ho' hc hqrs ti hsrc hg
    have hqb : bef ops q i = false := by
      cases hbb : bef ops q i with
      | false => rfl
      | true => exact absurd (bef_of_take I.cl ho he hbb) hqD
    have hsame := rdAll_mem ho' _ hrd.1 (by simp [hqrs, hqb])
    have hlike : alike ops o' ti t := by
      intro d hd
      by_cases hwr : ∃ (j : Nat) (oj : Oper), ops[j]? = some oj ∧ oj.dst = some d ∧ bef ops j q = true
      · obtain ⟨j, oj, h1, h2, h3⟩ := hwr
        rw [(hsrc d hd).1 j oj h1 h2 h3, I.t1 j (I.gcl q hqG j h3) oj d h1 h2]
      · have hno : ∀ (j : Nat) (oj : Oper), ops[j]? = some oj → oj.dst ≠ some d := by
          intro j oj h1 h2
          rcases K.writer ho' h1 h2 hd with h3 | ⟨_, h4⟩
          · exact hwr ⟨j, oj, h1, h2, h3⟩
          · exact h4 (by simp [isRead, hc])
        rw [(hsrc d hd).2 fun j oj h1 h2 => absurd h2 (hno j oj h1), I.t2 d fun j _ oj h1 => hno j oj h1]
    rw [gop_congr _ (hlike.agree)] at hg ⊢
    exact read_same hc hg (fun d hd => I.t1 q hqG o' d ho' hd) hsame

/-- All that is left of a region. -/
theorem drawRun (hF : ∀ m m', Steps P m m' → F m' → F m) (K : DOK P ops) (hr : inRange ops t0 = true) {k : List Item} {X : List GVal → GHeap → Prop} (hX : PointOK gl m₀ h₀ w₀ cur F b cs k X) :
    ∀ (D l : List Nat), Sched ops D l → ∀ (G rest rs : List Nat) (val : Nat → GVal) (al : Nat → Option Nat) (t : List GVal) (h : GHeap) (a : Act) (w : World) (m : Mp),
      Inv P gl m₀ h₀ w₀ cur b ops t0 D G rs val al t h a w m → dok P ops G rest = true → gdr P gl (propAlg P gl) ops rest rs t h X → (∀ e l'', rest = e :: l'' → effAt P ops e = true) →
      F (lone (b.atR a (.inRegion ops l :: k)) cs w) := by
  intro D l hs
  induction hs with
  | @done D hall =>
    intro G rest rs val al t h a w m I hd hx _
    obtain ⟨t', S⟩ := I.st
    have hrest : rest = [] := by
      cases rest with
      | nil => rfl
      | cons e l =>
        have := (dok_all _ _ hd).2 e (List.mem_cons_self ..)
        exact absurd (I.sub e (hall e this.1)) this.2
    subst hrest
    refine hF _ _ (.one stepR_region_end) (hX t h hx a w m (S.undef (by rw [I.len, I.size]) fun d _ => ?_))
    by_cases hwr : ∃ (j : Nat) (oj : Oper), ops[j]? = some oj ∧ oj.dst = some d
    · obtain ⟨j, oj, h1, h2⟩ := hwr
      have hj : j ∈ D := hall j (by
        rcases Nat.lt_or_ge j ops.size with h | h
        · exact h
        · rw [Array.getElem?_eq_none h] at h1; cases h1)
      rw [I.t1 j (I.sub j hj) oj d h1 h2]
      exact I.c1 j hj oj d h1 h2
    · rw [I.t2 d fun j _ oj h1 h2 => hwr ⟨j, oj, h1, h2⟩]
      exact I.c2 d fun j _ oj h1 h2 => hwr ⟨j, oj, h1, h2⟩
  | @take D l i o hi ho he _ ih =>
    intro G rest rs val al t h a w m I hd hx hhead
    have hlt : i < ops.size := by
      rcases Nat.lt_or_ge i ops.size with h | h
      · exact h
      · rw [Array.getElem?_eq_none h] at ho; cases ho
    by_cases hiG : i ∈ G
    · exact takePending hF K hr I hiG hi ho he fun a' w' m' I' => ih G rest rs val al t h a' w' m' I' hd hx hhead
    · cases rest with
      | nil =>
        rcases (dok_all _ _ hd).1 i hlt with h | h
        · exact absurd h hiG
        · simp at h
      | cons e l' =>
        have hee := hhead e l' rfl
        obtain ⟨d1, d2, d3, d4, d5⟩ := dok_cons hd
        have hfresh := (dok_all _ _ hd).2
        have hei : e = i := by
          rcases (dok_all _ _ hd).1 i hlt with h | h
          · exact absurd h hiG
          · rcases List.mem_cons.1 h with h | h
            · exact h.symm
            · exfalso
              rcases d4 hee i h with ⟨_, h2⟩ | ⟨e', h1, _, h2⟩
              · exact d2 (I.sub e (bef_of_take I.cl ho he h2))
              · exact (hfresh e' h1).2 (I.sub e' (bef_of_take I.cl ho he h2))
        subst hei
        refine takeEffect hF K hr I hiG ho hee he hx fun val' t' h' a' w' m' I' hx' => ?_
        obtain ⟨G2, l2, rs2, val2, al2, t2, h2, I2, hd2, hx2, hh2⟩ := advance K hr _ _ _ _ _ _ _ I' d5 hx'
        exact ih G2 l2 rs2 val2 al2 t2 h2 a' w' m' I2 hd2 hx2 hh2

theorem drawSound (hmix : P.follows .mixedOrders = true) (gl : Nat → Option Nat) : DrawSound P gl := by
  intro m₀ h₀ w₀ cur F b cs hF id ops k X hok hX t h ⟨hr, hx⟩ a w m S
  obtain ⟨K, hd⟩ := DOK.of hok
  have S1 : St gl m₀ h₀ w₀ cur b.roundOf t h a { w with drawn := w.drawn + 1 } m :=
    ⟨S.tmps, S.rep.drawn _, S.ext.drawn _, Dfr.ext S.rep ((Ext.refl _ _ _ S.rep.dom).drawn _) S.dfr, S.dom₀, S.cur⟩
  refine hF _ _ (.one stepR_region_draw) ?_
  have hsch : Sched ops [] (Region.schedule (P.follows .mixedOrders) ops (w.tape w.drawn (.order b.fn id))) := by
    rw [hmix]
    simp only [Region.schedule, Bool.true_or, if_true]
    exact sched_linearise K.fw _
  have I0 : Inv P gl m₀ h₀ w₀ cur b ops t [] [] [] (fun _ => .undef) (fun _ => none) t h a { w with drawn := w.drawn + 1 } m := by
    refine ⟨fun _ h => h, fun i hi => by simp at hi, fun i hi => by simp at hi, fun i hi => by simp at hi, rfl, ?_, fun j hj => by simp at hj, fun _ _ => rfl, fun j hj => by simp at hj, ?_, ⟨t, S1⟩, ?_, ?_, fun i hi => by simp at hi⟩
    · simpa using S.tmps.length
    · intro d _; exact VRs.getD S.tmps d
    · intro i j id h; cases h
    · intro i id h; cases h
  obtain ⟨G2, l2, rs2, val2, al2, t2, h2, I2, hd2, hx2, hh2⟩ := advance K hr _ _ _ _ _ _ _ I0 hd hx
  exact drawRun hF K hr hX [] _ hsch _ _ _ _ _ _ _ _ _ _ I2 hd2 hx2 hh2
end
end Gh

/- The evaluator with given contracts for some functions; strings.Join as one. -/
namespace Gh
open Go RowKit

section
variable (P : Program) (gl : Nat → Option Nat)
/-- A call, to a depth; some functions by their contracts. -/
noncomputable def gcallP (prim : FuncId → List GVal → GHeap → Ans) (loops : Nat) : Nat → FuncId → List GVal → GHeap → Ans
  | 0, _, _, _ => none
  | n + 1, f, args, h =>
    match prim f args h with
    | some r => some r
    | none =>
    match P.funcs[f]? with
    | some fn => match fn.body with
      | some c => gfunc P gl (optAlg loops (gcallP prim loops n) (groundO n)) fn c args h fun r h => some (r, h)
      | none => none
    | none => none
where
  groundO : Nat → Nat → List GVal → GHeap → Ans
  | 0, _, _, _ => none
  | n + 1, l, args, h => ground P gl (optAlg loops (gcallP prim loops n) (groundO n)) l args h fun r h => some (r, h)
end

section
variable {P : Program} {gl : Nat → Option Nat}
def PrimOK (P : Program) (gl : Nat → Option Nat) (prim : FuncId → List GVal → GHeap → Ans) : Prop :=
  ∀ f args h r, prim f args h = some r → CallsG P gl f args h fun a b => (a, b) = r

theorem gcallP_groundO_sound (hD : DrawSound P gl) {prim : FuncId → List GVal → GHeap → Ans} (hP : PrimOK P gl prim) (loops : Nat) : ∀ n,
    (∀ f args h r, gcallP P gl prim loops n f args h = some r → CallsG P gl f args h fun a b => (a, b) = r) ∧
    (∀ f args h r, gcallP.groundO P gl prim loops n f args h = some r → RoundG P gl f args h fun a b => (a, b) = r) := by
  intro n
  induction n with
  | zero => exact ⟨fun f args h r hx => by simp [gcallP] at hx, fun f args h r hx => by simp [gcallP.groundO] at hx⟩
  | succ n ih =>
    have H := fun R => opt_hom (P := P) (gl := gl) (loops := loops) R ih.1 ih.2
    constructor
    · intro f args h r hx
      unfold gcallP at hx
      split at hx
      · rename_i r' hr'
        cases hx
        exact hP f args h r hr'
      split at hx
      · rename_i fn hfn
        split at hx
        · rename_i c hc
          refine gfunc_sound hD hfn hc ?_
          unfold gfunc at hx ⊢
          refine gcode_hom (H r) none c _ _ ?_ _ _ hx
          refine KHom.mk ?_ ?_ ?_
          · intro t h
            exact (H r).gm _ (fun a b => some (a, b)) (fun a b => (a, b) = r) fun v h hh => by cases hh; rfl
          · intro i t h
            exact (H r).fail _
          · intro t h
            exact (H r).gm _ (fun a b => some (a, b)) (fun a b => (a, b) = r) fun v h hh => by cases hh; rfl
        · cases hx
      · cases hx
    · intro l args h r hx
      unfold gcallP.groundO at hx
      refine ground_sound hD ?_
      unfold ground at hx ⊢
      split at hx
      · rename_i pd tm ps as_ bd hl
        split at hx
        · rename_i hsz
          rw [if_pos hsz]
          have hend : ∀ (jump : Option Code) (h : GHeap), gendRound (optAlg loops (gcallP P gl prim loops n) (gcallP.groundO P gl prim loops n)) l jump (fun r h => some (r, h)) h = some r →
              gendRound (propAlg P gl) l jump (fun a b => (a, b) = r) h := by
            intro jump h hh
            unfold gendRound at hh ⊢
            split at hh
            · cases hh; rfl
            · cases hh
          refine gcode_hom (H r) (some l) as_ _ _ ?_ _ _ hx
          refine KHom.mk ?_ (fun i t h => (H r).fail _) (fun t h => (H r).fail _)
          intro t h hh
          dsimp only at hh ⊢
          split at hh
          · exact gcode_hom (H r) (some l) bd _ _ (KHom.mk (fun t h => hend none h) (fun i t h => hend _ h) (fun t h => hend _ h)) _ _ hh
          · exact ((H r).fail False hh).elim
        · exact ((H r).fail False hx).elim
      · exact ((H r).fail False hx).elim

theorem gcallP_sound (hD : DrawSound P gl) {prim : FuncId → List GVal → GHeap → Ans} (hP : PrimOK P gl prim) {loops n : Nat} {f : FuncId} {args : List GVal} {h : GHeap} {r : GVal × GHeap} (hx : gcallP P gl prim loops n f args h = some r) :
    CallsG P gl f args h fun a b => (a, b) = r := (gcallP_groundO_sound hD hP loops n).1 f args h r hx

/-- A closed call that hands back true. -/
def tells (o : Ans) : Bool := match o with
  | some (.bool true, _) => true
  | _ => false
theorem CallsG.closed (hD : DrawSound P gl) {prim : FuncId → List GVal → GHeap → Ans} (hP : PrimOK P gl prim) (hgl : ∀ g, gl g = none) {loops n : Nat} {f : FuncId} (hx : tells (gcallP P gl prim loops n f [] []) = true) (h : GHeap) :
    CallsG P gl f [] h fun r h' => r = .bool true ∧ h' = h := by
  refine CallsG.anywhere (Q := fun r => r = .bool true) hgl ?_
  cases ho : gcallP P gl prim loops n f [] [] with
  | none => rw [ho] at hx; cases hx
  | some r =>
    obtain ⟨v, h'⟩ := r
    rw [ho] at hx
    have hv : v = .bool true := by
      unfold tells at hx
      split at hx
      · rename_i hh; cases hh; rfl
      · cases hx
    subst hv
    refine (gcallP_sound hD hP ho).mono fun a b e => ?_
    cases e
    exact ⟨rfl, fun m v hv => hv⟩

/-- What a call that changes nothing older leaves. -/
theorem Ext.below {m : Mp} {h : GHeap} {w w' : World} (R : Rep gl m h w) (B : Below w.heap.size w w') : Rep gl m h w' ∧ Ext m h w m h w' :=
  ⟨R.junk B.block B.size, ⟨B.size, B.os, B.output, Nat.le_refl _, fun _ _ => rfl, fun id L hL => .inl (R.dom id L hL), fun b hb _ => B.block b hb, fun _ _ h _ => h, fun _ _ _ => rfl⟩⟩

/-! strings.Join -/
noncomputable def strsOf : List GVal → Option (List (List UInt8))
  | [] => some []
  | .str s :: vs => (strsOf vs).map (s :: ·)
  | _ :: _ => none
noncomputable def joinPrim (k : FuncId) (f : FuncId) (args : List GVal) (h : GHeap) : Ans :=
  if f = k then
    match args with
    | [.slice (some (id, off)) len cap op, .str sep] =>
      if 0 < len ∧ len ≤ cap ∧ len ≤ 1000000 then
        match gloads h id off len with
        | some cs => match strsOf cs with
          | some xs => if (Lib.join xs sep).length ≤ 1000000 then some (.str (Lib.join xs sep), h) else none
          | none => none
        | none => none
      else none
    | _ => none
  else none

theorem strsOf_length : ∀ {cs : List GVal} {xs : List (List UInt8)}, strsOf cs = some xs → cs.length = xs.length
  | [], xs, h => by cases h; rfl
  | v :: vs, xs, h => by
    cases v <;> simp only [strsOf, Option.map_eq_some_iff, reduceCtorEq] at h
    obtain ⟨l, h1, rfl⟩ := h
    simp [strsOf_length h1]
theorem strsOf_get : ∀ {cs : List GVal} {xs : List (List UInt8)}, strsOf cs = some xs → ∀ (j : Nat) (x : List UInt8), xs[j]? = some x → cs[j]? = some (.str x)
  | [], xs, h, j, x, hx => by cases h; simp at hx
  | v :: vs, xs, h, j, x, hx => by
    cases v <;> simp only [strsOf, Option.map_eq_some_iff, reduceCtorEq] at h
    obtain ⟨l, h1, rfl⟩ := h
    cases j with
    | zero => simp at hx; subst hx; rfl
    | succ j => simp at hx ⊢; exact strsOf_get h1 j x hx

theorem gloads_get {h : GHeap} {id off n : Nat} {cs : List GVal} (hcs : gloads h id off n = some cs) {j : Nat} {v : GVal} (hj : j < n) (hg : cs[j]? = some v) : gload h id (off + j) = some v := by
  unfold gloads at hcs
  unfold gload
  cases hh : h[id]? with
  | none => rw [hh] at hcs; cases hcs
  | some o =>
    rw [hh] at hcs
    cases o with
    | cells cells mode =>
      simp only [] at hcs ⊢
      split at hcs
      · cases hcs
        rw [List.getElem?_take_of_lt hj, List.getElem?_drop] at hg
        exact hg
      · cases hcs
    | _ => cases hcs
theorem joinPrim_ok {k : FuncId}
    (hJ : ∀ (bk o c : Nat) (xs : List ByteArray) (sep : ByteArray) (w : World), (∀ (j : Nat) x, xs[j]? = some x → w.cell? ⟨bk, o + j, none⟩ = some (.string x)) → bk < w.heap.size → xs.length ≤ 140737488355328 → xs.length ≤ c →
      (Lib.join (xs.map (·.data.toList)) sep.data.toList).length ≤ 140737488355328 →
      Calls P k #[.slice (some ⟨bk, o, none⟩) xs.length c, .string sep] w fun e w' => e = .returned (.string ⟨(Lib.join (xs.map (·.data.toList)) sep.data.toList).toArray⟩) ∧ Below w.heap.size w w') :
    PrimOK P gl (joinPrim k) := by
  intro f args h r hx m w vs R hv
  unfold joinPrim at hx
  split at hx
  · rename_i hf
    subst hf
    split at hx
    · rename_i id off len cap op sep
      split at hx
      · rename_i hb
        obtain ⟨hb1, hb2, hb3⟩ := hb
        split at hx
        · rename_i cs hcs
          split at hx
          · rename_i xs hxs
            split at hx
            · rename_i hl
              cases hx
              obtain ⟨v1, vs1, rfl, ⟨L, c, o, hL, rfl, ho, hc⟩, v2, vs2, rfl, h2, h3⟩ := hv
              cases h2; cases h3
              have ho' := ho (by omega)
              subst ho'
              have hcle := hc.le
              have hlen := strsOf_length hxs
              have hcsl : cs.length = len := by
                unfold gloads at hcs
                split at hcs
                · split at hcs
                  · cases hcs; simp; omega
                  · cases hcs
                · cases hcs
              have hcell : ∀ (j : Nat) x, (xs.map fun l => (⟨l.toArray⟩ : ByteArray))[j]? = some x → w.cell? ⟨L.block, L.base + off + j, none⟩ = some (.string x) := by
                intro j x hj
                simp only [List.getElem?_map, Option.map_eq_some_iff] at hj
                obtain ⟨l, hl1, rfl⟩ := hj
                have hg := strsOf_get hxs j l hl1
                have hjl : j < len := by rw [← hcsl]; exact (List.getElem?_eq_some_iff.1 hg).1
                have hload : gload h id (off + j) = some (.str l) := gloads_get hcs hjl hg
                obtain ⟨u, g1, g2⟩ := gload_cell R hL hload
                have g2' : u = .string ⟨l.toArray⟩ := g2
                subst g2'
                rw [Nat.add_assoc]; exact g1
              have hmap : (xs.map fun l => (⟨l.toArray⟩ : ByteArray)).map (·.data.toList) = xs := by
                rw [List.map_map]
                conv => rhs; rw [← List.map_id xs]
                rfl
              have C := hJ L.block (L.base + off) c (xs.map fun l => (⟨l.toArray⟩ : ByteArray)) ⟨sep.toArray⟩ w hcell (R.here id L hL) (by simp; omega) (by simp; omega) (by rw [hmap]; simp; omega)
              rw [hmap] at C
              have e1 : (xs.map fun l => (⟨l.toArray⟩ : ByteArray)).length = len := by simp; omega
              rw [e1] at C
              refine C.mono ?_
              rintro e w' ⟨rfl, B⟩
              obtain ⟨R', E'⟩ := Ext.below R B
              exact ⟨_, _, h, m, rfl, rfl, (rfl : _ = _), R', E'⟩
            · cases hx
          · cases hx
        · cases hx
      · cases hx
    · cases hx
  · cases hx
end
end Gh

/- From a ghost's proof of a law to the row's words. -/
namespace Gh
open Go RowKit

def gl0 : Nat → Option Nat := fun _ => none
theorem gl0_none (g : Nat) : gl0 g = none := rfl
def m0 : Mp := fun _ => none
theorem rep0 (w : World) : Rep gl0 m0 [] w := by
  refine Rep.mk ?_ ?_ ?_ ?_ ?_
  · intro _ _ h; cases h
  · intro _ _ h; cases h
  · intro _ _ _ h; cases h
  · intro _ _ _ _ _ _ h; cases h
  · intro g id h; cases h

/-- All that was there stands as it stood, where nothing of it may be written. -/
theorem Ext.kept {m : Mp} {h : GHeap} {w : World} {m' : Mp} {h' : GHeap} {w' : World} (E : Ext m h w m' h' w') (hro : ∀ (i : Nat) (L : Loc) (o : GObj), m i = some L → h[i]? = some o → o.wr = false) (may : MemPlace → Prop) : w.keptBut w' may := by
  refine ⟨E.os, E.out, fun i hi => ?_⟩
  rw [E.keep i hi fun j L o h1 h2 h3 => by rw [hro j L o h1 h2] at h3; cases h3]
  split <;> simp_all

/-- A law of plain arguments. -/
theorem plainLaw {P : Program} {f : FuncId} {args : List GVal} {vs : List Value} {W : World} (hx : CallsG P gl0 f args [] fun r _ => r = .bool true) (hv : VRs m0 args vs) :
    Calls P f vs.toArray W fun e W' => e = .returned (.bool true) ∧ ∀ may, W.keptBut W' may := by
  refine (hx m0 W vs (rep0 W) hv).mono ?_
  rintro e w' ⟨r, v, h', m', rfl, rfl, q2, _, q4⟩
  simp only [VR] at q2
  subst q2
  exact ⟨rfl, fun may => q4.kept (fun _ _ _ h => by cases h) may⟩

/-! Pieces of code. -/
def seqL : Code → Code
  | .seq a _ => a
  | c => c
def seqR : Code → Code
  | .seq _ b => b
  | c => c
def regOps : Code → Array Oper
  | .region _ ops _ => ops
  | _ => #[]
def bodyOf (fn : Func) : Code := match fn.body with
  | some c => c
  | none => .skip
/-- The ways out of a function. -/
def KF (P : Program) (gl : Nat → Option Nat) (fn : Func) (Q : GVal → GHeap → Prop) : Kont Prop :=
  { nrm := gresults P (propAlg P gl) fn Q, ext := fun _ _ _ => False, ret := gresults P (propAlg P gl) fn Q }
end Gh

