/- Propositions at points of code, and loops by invariants; no condition. -/
import Derived.Test.YtjdhacapbbakaaaGd
set_option linter.unusedSimpArgs false
set_option linter.unusedVariables false
/- An algebra of readable propositions; points of code; loops by invariants. -/
namespace Gh
open Go
set_option linter.unusedVariables false

noncomputable def bsplit (b : Bool) (x y : Prop) : Prop := Bool.rec (motive := fun _ => Prop) x y b
theorem bsplit_iff {b : Bool} {x y : Prop} : bsplit b x y ↔ (b = true → y) ∧ (b = false → x) := by cases b <;> simp [bsplit]
theorem bsplit_of {b : Bool} {x y : Prop} (h : b = true → y) (h' : b = false → x) : bsplit b x y := bsplit_iff.2 ⟨h, h'⟩
noncomputable def oget {α : Type} (o : Option α) (F : α → Prop) : Prop := Option.rec (motive := fun _ => Prop) False F o
theorem oget_iff {α : Type} {o : Option α} {F : α → Prop} : oget o F ↔ ∃ x, o = some x ∧ F x := by cases o <;> simp [oget]
theorem oget_some {α : Type} {x : α} {F : α → Prop} : oget (some x) F = F x := rfl
theorem oget_of {α : Type} {o : Option α} {F : α → Prop} {x : α} (h : o = some x) (hf : F x) : oget o F := by subst h; exact hf
noncomputable def bkeep (b : Bool) (x : Prop) : Prop := Bool.rec (motive := fun _ => Prop) False x b

/-! Values read as what they are. -/
noncomputable def isB (v : GVal) : Option Bool :=
  GVal.rec (motive_1 := fun _ => Option Bool) (motive_2 := fun _ => Unit) none (fun b => some b) (fun _ _ => none) (fun _ => none) (fun _ => none) (fun _ _ _ _ => none) (fun _ => none) (fun _ _ _ _ _ => none) none (fun _ _ _ => none) none (fun _ _ => none) (fun _ _ => none) () (fun _ _ _ _ => ()) v
/-- A value that may be a truth value: both are looked at. -/
noncomputable def vsplit (v : GVal) (k : GVal → Prop) : Prop :=
  Option.rec (motive := fun _ => Prop) (k v) (fun b => bsplit b (k (.bool false)) (k (.bool true))) (isB v)
theorem vsplit_iff {v : GVal} {k : GVal → Prop} : vsplit v k ↔ k v := by
  cases v <;> try exact Iff.rfl
  rename_i b
  cases b <;> exact Iff.rfl

noncomputable def gInt (k : IntKind) (v : GVal) (F : Int → Prop) : Prop := match v with
  | .int l n => bkeep (decide (l = k)) (F n)
  | _ => False
noncomputable def gBool (v : GVal) (F : Bool → Prop) : Prop := match v with
  | .bool b => F b
  | _ => False
noncomputable def gStrV (v : GVal) (F : List UInt8 → Prop) : Prop := match v with
  | .str b => F b
  | _ => False
noncomputable def gMapV (v : GVal) (F : Option Nat → Prop) : Prop := match v with
  | .map b => F b
  | _ => False
noncomputable def gPtr (v : GVal) (N : Prop) (F : Nat → Nat → Prop) : Prop := match v with
  | .ptr (some (id, off)) => F id off
  | .ptr none => N
  | _ => False
noncomputable def gSliceV (v : GVal) (N : Option Nat → Prop) (F : Nat → Nat → Nat → Nat → Option Nat → Prop) : Prop := match v with
  | .slice (some (id, off)) n c o => F id off n c o
  | .slice none 0 0 o => N o
  | _ => False
noncomputable def gAgg (v : GVal) (F : List GVal → Prop) : Prop := match v with
  | .agg l => F l
  | _ => False
noncomputable def gTup (v : GVal) (F : List GVal → Prop) : Prop := match v with
  | .tuple l => F l
  | _ => False
noncomputable def gCons (l : List GVal) (F : GVal → List GVal → Prop) : Prop := match l with
  | x :: xs => F x xs
  | [] => False
noncomputable def gNil (l : List GVal) (F : Prop) : Prop := match l with
  | [] => F
  | _ :: _ => False

mutual
noncomputable def kfit : Kd → GVal → (GVal → Prop) → Prop
  | .int k, v, F => gInt k v fun n => F (.int k n)
  | .bool, v, F => gBool v fun b => F (.bool b)
  | .str, v, F => gStrV v fun s => F (.str s)
  | .ptr, v, F => gPtr v (F (.ptr none)) fun id off => F (.ptr (some (id, off)))
  | .slice, v, F => gSliceV v (fun o => F (.slice none 0 0 o)) fun id off n c o => F (.slice (some (id, off)) n c o)
  | .map, v, F => gMapV v fun r => F (.map r)
  | .func, v, F => F v
  | .other, v, F => F v
  | .agg l, v, F => gAgg v fun cs => kfits l cs fun vs => F (.agg vs)
  | .tup l, v, F => gTup v fun cs => kfits l cs fun vs => F (.tuple vs)
noncomputable def kfits : List Kd → List GVal → (List GVal → Prop) → Prop
  | [], l, F => gNil l (F [])
  | k :: ks, l, F => gCons l fun x xs => kfit k x fun v => kfits ks xs fun vs => F (v :: vs)
end
theorem bkeep_iff {b : Bool} {x : Prop} : bkeep b x ↔ b = true ∧ x := by cases b <;> simp [bkeep]
mutual
theorem kfit_ex : (k : Kd) → {v : GVal} → {F : GVal → Prop} → kfit k v F → k.fits v = true ∧ F v
  | .int k, v, F, h => by
    cases v <;> simp only [kfit, gInt] at h
    rw [bkeep_iff, decide_eq_true_eq] at h
    obtain ⟨rfl, h⟩ := h
    exact ⟨by simp [Kd.fits], h⟩
  | .bool, v, F, h => by
    cases v <;> simp only [kfit, gBool] at h
    exact ⟨rfl, h⟩
  | .str, v, F, h => by
    cases v <;> simp only [kfit, gStrV] at h
    exact ⟨rfl, h⟩
  | .ptr, v, F, h => by
    cases v <;> simp only [kfit, gPtr] at h
    rename_i a
    cases a with
    | none => exact ⟨rfl, h⟩
    | some p => exact ⟨rfl, h⟩
  | .slice, v, F, h => by
    cases v <;> simp only [kfit, gSliceV] at h
    rename_i a n c o
    cases a with
    | none =>
      split at h
      · rename_i heq; cases heq
      · rename_i heq; cases heq; exact ⟨rfl, h⟩
      · cases h
    | some p => exact ⟨rfl, h⟩
  | .map, v, F, h => by
    cases v <;> simp only [kfit, gMapV] at h
    exact ⟨rfl, h⟩
  | .func, v, F, h => ⟨by cases v <;> rfl, h⟩
  | .other, v, F, h => ⟨by cases v <;> rfl, h⟩
  | .agg l, v, F, h => by
    cases v <;> simp only [kfit, gAgg] at h
    obtain ⟨h1, h2⟩ := kfits_ex l h
    exact ⟨h1, h2⟩
  | .tup l, v, F, h => by
    cases v <;> simp only [kfit, gTup] at h
    obtain ⟨h1, h2⟩ := kfits_ex l h
    exact ⟨h1, h2⟩
theorem kfits_ex : (k : List Kd) → {v : List GVal} → {F : List GVal → Prop} → kfits k v F → Kd.fitss k v = true ∧ F v
  | [], v, F, h => by
    cases v <;> simp only [kfits, gNil] at h
    exact ⟨rfl, h⟩
  | k :: ks, v, F, h => by
    cases v <;> simp only [kfits, gCons] at h
    obtain ⟨h1, h2⟩ := kfit_ex k h
    obtain ⟨h3, h4⟩ := kfits_ex ks h2
    exact ⟨by simp [Kd.fitss, h1, h3], h4⟩
end

mutual
theorem kfit_mono : (k : Kd) → {v : GVal} → {F F' : GVal → Prop} → (∀ v, F v → F' v) → kfit k v F → kfit k v F'
  | .int k, v, F, F', hF, h => by
    cases v <;> simp only [kfit, gInt] at h ⊢
    rw [bkeep_iff] at h ⊢
    exact ⟨h.1, hF _ h.2⟩
  | .bool, v, F, F', hF, h => by
    cases v <;> simp only [kfit, gBool] at h ⊢
    exact hF _ h
  | .str, v, F, F', hF, h => by
    cases v <;> simp only [kfit, gStrV] at h ⊢
    exact hF _ h
  | .ptr, v, F, F', hF, h => by
    cases v <;> simp only [kfit, gPtr] at h ⊢
    rename_i a
    cases a <;> exact hF _ h
  | .slice, v, F, F', hF, h => by
    cases v <;> simp only [kfit, gSliceV] at h ⊢
    split at h
    · rename_i heq; cases heq; exact hF _ h
    · rename_i heq; cases heq; exact hF _ h
    · cases h
  | .map, v, F, F', hF, h => by
    cases v <;> simp only [kfit, gMapV] at h ⊢
    exact hF _ h
  | .func, v, F, F', hF, h => hF _ h
  | .other, v, F, F', hF, h => hF _ h
  | .agg l, v, F, F', hF, h => by
    cases v <;> simp only [kfit, gAgg] at h ⊢
    exact kfits_mono l (fun vs => hF _) h
  | .tup l, v, F, F', hF, h => by
    cases v <;> simp only [kfit, gTup] at h ⊢
    exact kfits_mono l (fun vs => hF _) h
theorem kfits_mono : (k : List Kd) → {v : List GVal} → {F F' : List GVal → Prop} → (∀ v, F v → F' v) → kfits k v F → kfits k v F'
  | [], v, F, F', hF, h => by
    cases v <;> simp only [kfits, gNil] at h ⊢
    exact hF _ h
  | k :: ks, v, F, F', hF, h => by
    cases v <;> simp only [kfits, gCons] at h ⊢
    exact kfit_mono k (fun x => kfits_mono ks fun vs => hF _) h
end

namespace GM
variable {X : Type}
noncomputable def wpS : GM X → (X → Prop) → Prop
  | ret x, Q => Q x
  | fail, _ => False
  | req c _ k, Q => c ∧ k.wpS Q
  | dst kd o k, Q => oget o fun v => kfit kd v fun v => (k v).wpS Q
  | eff kd o k, Q => oget o fun x => kfit kd x.1 fun v => (k v x.2).wpS Q
  | sto o k, Q => oget o fun h => (k h).wpS Q
theorem wpS_wp : (g : GM X) → {Q : X → Prop} → g.wpS Q → g.wp Q
  | ret x, Q, h => h
  | fail, _, h => h
  | req c _ k, Q, h => ⟨h.1, k.wpS_wp h.2⟩
  | dst kd o k, Q, h => by
    obtain ⟨v, rfl, h⟩ := oget_iff.1 h
    obtain ⟨h1, h2⟩ := kfit_ex kd h
    exact Kd.fits_ex kd v h1 ⟨rfl, (k v).wpS_wp h2⟩
  | eff kd o k, Q, h => by
    obtain ⟨⟨v, h'⟩, rfl, h⟩ := oget_iff.1 h
    obtain ⟨h1, h2⟩ := kfit_ex kd h
    exact Kd.fits_ex kd v h1 ⟨h', rfl, (k v h').wpS_wp h2⟩
  | sto o k, Q, h => by
    obtain ⟨h', rfl, h⟩ := oget_iff.1 h
    exact ⟨h', rfl, (k h').wpS_wp h⟩
theorem wp_mono : (g : GM X) → {Q Q' : X → Prop} → (∀ x, Q x → Q' x) → g.wp Q → g.wp Q' := fun g Q Q' hq h => by
  obtain ⟨x, h1, h2⟩ := g.wp_opt h
  exact GM.opt_wp (hq x h2) g h1
end GM

section
variable (P : Program) (gl : Nat → Option Nat)
/-- What kind of value a function hands back. -/
noncomputable def resKd (f : FuncId) : Kd := match P.funcs[f]? with
  | some fn => gresKd P fn
  | none => .other
noncomputable def algS : Alg Prop where
  fail := False
  gm g k := g.wpS fun x => vsplit x.1 fun v => k v x.2
  nxt o k := oget o fun x => vsplit x.1 fun v => k v x.2
  req c _ a := c ∧ a
  call f args h k := CallsG P gl f args h fun r h' => kfit (resKd P f) r fun v => vsplit v fun v => k v h'
  round l args h k := RoundG P gl l args h fun r h' => kfit .bool r fun v => vsplit v fun v => k v h'
  loop f := ∃ n, f n
end

section
variable {P : Program} {gl : Nat → Option Nat}
theorem algS_hom : Hom (algS P gl) (propAlg P gl) (fun (x y : Prop) => x → y) where
  fail := fun _ h => h.elim
  gm := fun g k k' hk h => g.wp_mono (fun x hx => hk _ _ (vsplit_iff.1 hx)) (g.wpS_wp h)
  nxt := fun o k k' hk h => by
    cases o with
    | none => exact False.elim h
    | some x => exact ⟨x.1, x.2, rfl, hk _ _ ((vsplit_iff (k := fun v => k v x.2)).1 h)⟩
  req := fun c d x y hxy h => ⟨h.1, hxy h.2⟩
  call := fun f args h k k' hk hh => hh.mono fun r h' hr => hk _ _ (vsplit_iff.1 (kfit_ex _ hr).2)
  round := fun f args h k k' hk hh => hh.mono fun r h' hr => hk _ _ (vsplit_iff.1 (kfit_ex _ hr).2)
  loop := fun f f' hf ⟨n, h⟩ => ⟨n, hf n h⟩

theorem prop_hom : Hom (propAlg P gl) (propAlg P gl) (fun (x y : Prop) => x → y) where
  fail := fun _ h => h.elim
  gm := fun g k k' hk h => g.wp_mono (fun x hx => hk _ _ hx) h
  nxt := fun o k k' hk ⟨v, h', e, h⟩ => ⟨v, h', e, hk _ _ h⟩
  req := fun c d x y hxy h => ⟨h.1, hxy h.2⟩
  call := fun f args h k k' hk hh => hh.mono fun r h' hr => hk _ _ hr
  round := fun f args h k k' hk hh => hh.mono fun r h' hr => hk _ _ hr
  loop := fun f f' hf ⟨n, h⟩ => ⟨n, hf n h⟩
end
end Gh

/- Points of code; loops by an invariant and a measure; functions and rounds from their points. -/
namespace Gh
open Go
set_option linter.unusedVariables false

def GMono (A : Alg Prop) : Prop := Hom A A (fun (x y : Prop) => x → y)
section
variable {P : Program} {gl : Nat → Option Nat}
theorem algS_mono : GMono (algS P gl) where
  fail := fun _ h => h.elim
  gm := fun g k k' hk h => by
    have go : ∀ (g : GM (GVal × GHeap)) {Q Q' : GVal × GHeap → Prop}, (∀ x, Q x → Q' x) → g.wpS Q → g.wpS Q' := by
      intro g
      induction g with
      | ret x => intro Q Q' hq h; exact hq _ h
      | fail => intro Q Q' hq h; exact h
      | req c d k ih => intro Q Q' hq h; exact ⟨h.1, ih hq h.2⟩
      | dst kd o k ih =>
        intro Q Q' hq h
        obtain ⟨v, rfl, h⟩ := oget_iff.1 h
        exact kfit_mono kd (fun v => ih v hq) h
      | eff kd o k ih =>
        intro Q Q' hq h
        obtain ⟨v, rfl, h⟩ := oget_iff.1 h
        exact kfit_mono kd (fun v => ih v _ hq) h
      | sto o k ih =>
        intro Q Q' hq h
        obtain ⟨v, rfl, h⟩ := oget_iff.1 h
        exact ih v hq h
    exact go g (fun x hx => vsplit_iff.2 (hk _ _ (vsplit_iff.1 hx))) h
  nxt := fun o k k' hk h => by
    cases o with
    | none => exact False.elim h
    | some x => exact (vsplit_iff (k := fun v => k' v x.2)).2 (hk _ _ ((vsplit_iff (k := fun v => k v x.2)).1 h))
  req := fun c d x y hxy h => ⟨h.1, hxy h.2⟩
  call := fun f args h k k' hk hh => hh.mono fun r h' hr => kfit_mono _ (fun v hv => vsplit_iff.2 (hk _ _ (vsplit_iff.1 hv))) hr
  round := fun f args h k k' hk hh => hh.mono fun r h' hr => kfit_mono _ (fun v hv => vsplit_iff.2 (hk _ _ (vsplit_iff.1 hv))) hr
  loop := fun f f' hf ⟨n, h⟩ => ⟨n, hf n h⟩

theorem gloop_up {A : Alg Prop} (HA : GMono A) {F : Kont Prop → List GVal → GHeap → Prop} (hF : ∀ K K', KHom (fun (x y : Prop) => x → y) K K' → ∀ t h, F K t h → F K' t h) {K : Kont Prop} : ∀ n t h, gloop A F K n t h → gloop A F K (n + 1) t h := by
  intro n
  induction n with
  | zero => intro t h hx; exact (HA.fail False hx).elim
  | succ n ih =>
    intro t h hx
    have hx : F { K with nrm := gloop A F K n } t h := hx
    show F { K with nrm := gloop A F K (n + 1) } t h
    exact hF { K with nrm := gloop A F K n } { K with nrm := gloop A F K (n + 1) } (KHom.mk ih (fun _ _ _ h => h) (fun _ _ h => h)) t h hx
theorem gloop_le {A : Alg Prop} (HA : GMono A) {F : Kont Prop → List GVal → GHeap → Prop} (hF : ∀ K K', KHom (fun (x y : Prop) => x → y) K K' → ∀ t h, F K t h → F K' t h) {K : Kont Prop} {n n' : Nat} (hn : n ≤ n') {t : List GVal} {h : GHeap} (hx : gloop A F K n t h) : gloop A F K n' t h := by
  induction hn with
  | refl => exact hx
  | step _ ih => exact gloop_up HA hF _ _ _ ih

/-- A loop, by an invariant with a measure. -/
theorem loop_rule {cur : Option Nat} {b : Code} {K : Kont Prop} (I : Nat → List GVal → GHeap → Prop)
    (hstep : ∀ n t h, I n t h → gcode P gl (algS P gl) cur b { K with nrm := fun t h => ∃ m, m < n ∧ I m t h } t h) {n : Nat} {t : List GVal} {h : GHeap} (h0 : I n t h) :
    gcode P gl (algS P gl) cur (.loop b) K t h := by
  have hF : ∀ K K', KHom (fun (x y : Prop) => x → y) K K' → ∀ t h, gcode P gl (algS P gl) cur b K t h → gcode P gl (algS P gl) cur b K' t h := fun K K' hK t h => gcode_hom algS_mono cur b K K' hK t h
  have key : ∀ N n, n ≤ N → ∀ t h, I n t h → gloop (algS P gl) (fun K t h => gcode P gl (algS P gl) cur b K t h) K (n + 1) t h := by
    intro N
    induction N with
    | zero =>
      intro n hn t h hi
      have : n = 0 := by omega
      subst this
      show gcode P gl (algS P gl) cur b { K with nrm := gloop (algS P gl) (fun K t h => gcode P gl (algS P gl) cur b K t h) K 0 } t h
      refine hF { K with nrm := fun t h => ∃ m, m < 0 ∧ I m t h } { K with nrm := gloop (algS P gl) (fun K t h => gcode P gl (algS P gl) cur b K t h) K 0 } (KHom.mk (fun t h hh => ?_) (fun _ _ _ h => h) (fun _ _ h => h)) t h (hstep 0 t h hi)
      obtain ⟨m, hm, _⟩ := hh
      omega
    | succ N ih =>
      intro n hn t h hi
      show gcode P gl (algS P gl) cur b { K with nrm := gloop (algS P gl) (fun K t h => gcode P gl (algS P gl) cur b K t h) K n } t h
      refine hF { K with nrm := fun t h => ∃ m, m < n ∧ I m t h } { K with nrm := gloop (algS P gl) (fun K t h => gcode P gl (algS P gl) cur b K t h) K n } (KHom.mk (fun t h hh => ?_) (fun _ _ _ h => h) (fun _ _ h => h)) t h (hstep n t h hi)
      obtain ⟨m, hm, hi2⟩ := hh
      rcases Nat.exists_eq_succ_of_ne_zero (show n ≠ 0 by omega) with ⟨n', rfl⟩
      exact gloop_le algS_mono hF (by omega) (ih m (by omega) t h hi2)
  exact ⟨n + 1, key n n (Nat.le_refl n) t h h0⟩
end

/-! Points of code: a path of 0 and 1 down a body. -/
noncomputable def sub : Code → List Nat → Code
  | c, [] => c
  | .seq a _, 0 :: p => sub a p
  | .seq _ b, _ :: p => sub b p
  | .cond _ a _, 0 :: p => sub a p
  | .cond _ _ b, _ :: p => sub b p
  | .block _ b, _ :: p => sub b p
  | .scope b, _ :: p => sub b p
  | .loop b, _ :: p => sub b p
  | c, _ => c
section
variable (P : Program) (gl : Nat → Option Nat) (cur : Option Nat)
noncomputable def subK : Code → List Nat → List (List GVal → GHeap → Prop) → Kont Prop → Kont Prop
  | _, [], _, K => K
  | .seq a b, 0 :: p, Ns, K => subK a p Ns { K with nrm := fun t h => gcode P gl (algS P gl) cur b K t h }
  | .seq _ b, _ :: p, Ns, K => subK b p Ns K
  | .cond _ a _, 0 :: p, Ns, K => subK a p Ns K
  | .cond _ _ b, _ :: p, Ns, K => subK b p Ns K
  | .block id b, _ :: p, Ns, K => subK b p Ns { K with ext := fun i t h => if i = id then K.nrm t h else K.ext i t h }
  | .scope b, _ :: p, Ns, K => subK b p Ns K
  | .loop b, _ :: p, N :: Ns, K => subK b p Ns { K with nrm := N }
  | _, _, _, K => K
/-- What is to be shown at a point of a body. -/
noncomputable def pt (c : Code) (p : List Nat) (Ns : List (List GVal → GHeap → Prop)) (K : Kont Prop) (t : List GVal) (h : GHeap) : Prop :=
  gcode P gl (algS P gl) cur (sub c p) (subK P gl cur c p Ns K) t h
/-- The ways out of a function. -/
noncomputable def KS (fn : Func) (Q : GVal → GHeap → Prop) : Kont Prop :=
  { nrm := gresults P (algS P gl) fn Q, ext := fun _ _ _ => False, ret := gresults P (algS P gl) fn Q }
end
section
variable {P : Program} {gl : Nat → Option Nat}
theorem pt_call (hD : DrawSound P gl) {f : FuncId} {fn : Func} {c : Code} (hf : P.funcs[f]? = some fn) (hb : fn.body = some c) {args : List GVal} {h : GHeap} {Q : GVal → GHeap → Prop}
    (hx : pt P gl none c [] [] (KS P gl fn Q) (gstart fn args) h) : CallsG P gl f args h Q := by
  refine gfunc_sound hD hf hb ?_
  unfold gfunc
  have hx : gcode P gl (algS P gl) none c (KS P gl fn Q) (gstart fn args) h := by
    have e1 : sub c [] = c := by unfold sub; rfl
    have e2 : subK P gl none c [] [] (KS P gl fn Q) = KS P gl fn Q := by unfold subK; rfl
    unfold pt at hx
    rwa [e1, e2] at hx
  refine gcode_hom algS_hom none c _ _ ?_ _ _ hx
  exact KHom.mk (fun t h => (algS_hom (P := P) (gl := gl)).gm _ Q Q fun _ _ h => h) (fun _ _ _ h => h) (fun t h => (algS_hom (P := P) (gl := gl)).gm _ Q Q fun _ _ h => h)
end
end Gh

