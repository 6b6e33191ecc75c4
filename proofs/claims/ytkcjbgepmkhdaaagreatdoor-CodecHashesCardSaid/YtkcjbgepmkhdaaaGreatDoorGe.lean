/- Propositions at points of code, and loops by invariants; no condition. -/
import Derived.Test.YtkcjbgepmkhdaaaGreatDoorGd
import Derived.IntWalk
import Derived.Carry
import Derived.ChangeReads
set_option linter.unusedSimpArgs false
set_option linter.unusedVariables false
/- An algebra of readable propositions; points of code; loops by invariants. -/
namespace Gh
open Go
set_option linter.unusedVariables false

noncomputable def bsplit (b : Bool) (x y : Prop) : Prop := Bool.rec (motive := fun _ => Prop) x y b
theorem bsplit_iff {b : Bool} {x y : Prop} : bsplit b x y ↔ (b = true → y) ∧ (b = false → x) := by cases b <;> simp [bsplit]
theorem bsplit_of {b : Bool} {x y : Prop} (h : b = true → y) (h' : b = false → x) : bsplit b x y := bsplit_iff.2 ⟨h, h'⟩
noncomputable def oget {α : Type} (o : Option α) (F : α → Prop) : Prop := Option.rec (motive := fun _ => Prop) False F o
theorem oget_iff {α : Type} {o : Option α} {F : α → Prop} : oget o F ↔ ∃ x, o = some x ∧ F x := by cases o <;> simp [oget]
theorem oget_some {α : Type} {x : α} {F : α → Prop} : oget (some x) F = F x := rfl
theorem oget_of {α : Type} {o : Option α} {F : α → Prop} {x : α} (h : o = some x) (hf : F x) : oget o F := by subst h; exact hf
noncomputable def bkeep (b : Bool) (x : Prop) : Prop := Bool.rec (motive := fun _ => Prop) False x b

/-! Values read as what they are. -/
noncomputable def isB (v : GVal) : Option Bool :=
  GVal.rec (motive_1 := fun _ => Option Bool) (motive_2 := fun _ => Unit) none (fun b => some b) (fun _ _ => none) (fun _ => none) (fun _ => none) (fun _ _ _ _ => none) (fun _ => none) (fun _ _ _ _ _ => none) none (fun _ _ _ => none) none (fun _ _ => none) (fun _ _ => none) () (fun _ _ _ _ => ()) v
/-- A value that may be a truth value: both are looked at. -/
noncomputable def vsplit (v : GVal) (k : GVal → Prop) : Prop :=
  Option.rec (motive := fun _ => Prop) (k v) (fun b => bsplit b (k (.bool false)) (k (.bool true))) (isB v)
theorem vsplit_iff {v : GVal} {k : GVal → Prop} : vsplit v k ↔ k v := by
  cases v <;> try exact Iff.rfl
  rename_i b
  cases b <;> exact Iff.rfl

noncomputable def gInt (k : IntKind) (v : GVal) (F : Int → Prop) : Prop := match v with
  | .int l n => bkeep (decide (l = k)) (F n)
  | _ => False
noncomputable def gBool (v : GVal) (F : Bool → Prop) : Prop := match v with
  | .bool b => F b
  | _ => False
noncomputable def gStrV (v : GVal) (F : List UInt8 → Prop) : Prop := match v with
  | .str b => F b
  | _ => False
noncomputable def gMapV (v : GVal) (F : Option Nat → Prop) : Prop := match v with
  | .map b => F b
  | _ => False
noncomputable def gPtr (v : GVal) (N : Prop) (F : Nat → Nat → Prop) : Prop := match v with
  | .ptr (some (id, off)) => F id off
  | .ptr none => N
  | _ => False
noncomputable def gSliceV (v : GVal) (F : Option (Nat × Nat) → Nat → Nat → Option Nat → Prop) : Prop := match v with
  | .slice a n c o => F a n c o
  | _ => False
noncomputable def gAgg (v : GVal) (F : List GVal → Prop) : Prop := match v with
  | .agg l => F l
  | _ => False
noncomputable def gTup (v : GVal) (F : List GVal → Prop) : Prop := match v with
  | .tuple l => F l
  | _ => False
noncomputable def gCons (l : List GVal) (F : GVal → List GVal → Prop) : Prop := match l with
  | x :: xs => F x xs
  | [] => False
noncomputable def gNil (l : List GVal) (F : Prop) : Prop := match l with
  | [] => F
  | _ :: _ => False

theorem gInt_int {k : IntKind} {n : Int} {F : Int → Prop} : gInt k (.int k n) F = F n := by simp [gInt, bkeep]
theorem gBool_bool {b : Bool} {F : Bool → Prop} : gBool (.bool b) F = F b := rfl
theorem gStrV_str {b : List UInt8} {F : List UInt8 → Prop} : gStrV (.str b) F = F b := rfl
theorem gMapV_map {b : Option Nat} {F : Option Nat → Prop} : gMapV (.map b) F = F b := rfl
theorem gPtr_some {i o : Nat} {N : Prop} {F : Nat → Nat → Prop} : gPtr (.ptr (some (i, o))) N F = F i o := rfl
theorem gPtr_none {N : Prop} {F : Nat → Nat → Prop} : gPtr (.ptr none) N F = N := rfl
theorem gSliceV_slice {a : Option (Nat × Nat)} {n c : Nat} {o : Option Nat} {F : Option (Nat × Nat) → Nat → Nat → Option Nat → Prop} : gSliceV (.slice a n c o) F = F a n c o := rfl
theorem gAgg_agg {l : List GVal} {F : List GVal → Prop} : gAgg (.agg l) F = F l := rfl
theorem gTup_tuple {l : List GVal} {F : List GVal → Prop} : gTup (.tuple l) F = F l := rfl
theorem gCons_cons {x : GVal} {l : List GVal} {F : GVal → List GVal → Prop} : gCons (x :: l) F = F x l := rfl
theorem gNil_nil {F : Prop} : gNil [] F = F := rfl

noncomputable def kfit (k : Kd) : GVal → (GVal → Prop) → Prop :=
  Kd.rec (motive_1 := fun _ => GVal → (GVal → Prop) → Prop) (motive_2 := fun _ => List GVal → (List GVal → Prop) → Prop)
    (fun k v F => gInt k v fun n => F (.int k n)) (fun v F => gBool v fun b => F (.bool b)) (fun v F => gStrV v fun s => F (.str s))
    (fun v F => gPtr v (F (.ptr none)) fun id off => F (.ptr (some (id, off)))) (fun v F => gSliceV v fun a n c o => F (.slice a n c o)) (fun v F => gMapV v fun r => F (.map r))
    (fun v F => F v) (fun v F => F v) (fun _ ih v F => gAgg v fun cs => ih cs fun vs => F (.agg vs)) (fun _ ih v F => gTup v fun cs => ih cs fun vs => F (.tuple vs))
    (fun l F => gNil l (F [])) (fun _ _ ihk ihks l F => gCons l fun x xs => ihk x fun v => ihks xs fun vs => F (v :: vs)) k
noncomputable def kfits (ks : List Kd) : List GVal → (List GVal → Prop) → Prop :=
  Kd.rec_1 (motive_1 := fun _ => GVal → (GVal → Prop) → Prop) (motive_2 := fun _ => List GVal → (List GVal → Prop) → Prop)
    (fun k v F => gInt k v fun n => F (.int k n)) (fun v F => gBool v fun b => F (.bool b)) (fun v F => gStrV v fun s => F (.str s))
    (fun v F => gPtr v (F (.ptr none)) fun id off => F (.ptr (some (id, off)))) (fun v F => gSliceV v fun a n c o => F (.slice a n c o)) (fun v F => gMapV v fun r => F (.map r))
    (fun v F => F v) (fun v F => F v) (fun _ ih v F => gAgg v fun cs => ih cs fun vs => F (.agg vs)) (fun _ ih v F => gTup v fun cs => ih cs fun vs => F (.tuple vs))
    (fun l F => gNil l (F [])) (fun _ _ ihk ihks l F => gCons l fun x xs => ihk x fun v => ihks xs fun vs => F (v :: vs)) ks
theorem kfit_int {k : IntKind} {v : GVal} {F : GVal → Prop} : kfit (.int k) v F = gInt k v fun n => F (.int k n) := rfl
theorem kfit_bool {v : GVal} {F : GVal → Prop} : kfit .bool v F = gBool v fun b => F (.bool b) := rfl
theorem kfit_str {v : GVal} {F : GVal → Prop} : kfit .str v F = gStrV v fun b => F (.str b) := rfl
theorem kfit_ptr {v : GVal} {F : GVal → Prop} : kfit .ptr v F = gPtr v (F (.ptr none)) fun id off => F (.ptr (some (id, off))) := rfl
theorem kfit_slice {v : GVal} {F : GVal → Prop} : kfit .slice v F = gSliceV v fun a n c o => F (.slice a n c o) := rfl
theorem kfit_map {v : GVal} {F : GVal → Prop} : kfit .map v F = gMapV v fun r => F (.map r) := rfl
theorem kfit_agg {l : List Kd} {v : GVal} {F : GVal → Prop} : kfit (.agg l) v F = gAgg v fun cs => kfits l cs fun vs => F (.agg vs) := rfl
theorem kfit_tup {l : List Kd} {v : GVal} {F : GVal → Prop} : kfit (.tup l) v F = gTup v fun cs => kfits l cs fun vs => F (.tuple vs) := rfl
theorem kfits_nil {l : List GVal} {F : List GVal → Prop} : kfits [] l F = gNil l (F []) := rfl
theorem kfits_cons {k : Kd} {ks : List Kd} {l : List GVal} {F : List GVal → Prop} : kfits (k :: ks) l F = gCons l fun x xs => kfit k x fun v => kfits ks xs fun vs => F (v :: vs) := rfl
theorem bkeep_iff {b : Bool} {x : Prop} : bkeep b x ↔ b = true ∧ x := by cases b <;> simp [bkeep]
mutual
theorem kfit_ex : (k : Kd) → {v : GVal} → {F : GVal → Prop} → kfit k v F → k.fits v = true ∧ F v
  | .int k, v, F, h => by
    cases v <;> simp only [kfit_int, gInt] at h
    rw [bkeep_iff, decide_eq_true_eq] at h
    obtain ⟨rfl, h⟩ := h
    exact ⟨by simp [Kd.fits], h⟩
  | .bool, v, F, h => by
    cases v <;> simp only [kfit_bool, gBool] at h
    exact ⟨rfl, h⟩
  | .str, v, F, h => by
    cases v <;> simp only [kfit_str, gStrV] at h
    exact ⟨rfl, h⟩
  | .ptr, v, F, h => by
    cases v <;> simp only [kfit_ptr, gPtr] at h
    rename_i a
    cases a with
    | none => exact ⟨rfl, h⟩
    | some p => exact ⟨rfl, h⟩
  | .slice, v, F, h => by
    cases v <;> simp only [kfit_slice, gSliceV] at h
    exact ⟨rfl, h⟩
  | .map, v, F, h => by
    cases v <;> simp only [kfit_map, gMapV] at h
    exact ⟨rfl, h⟩
  | .func, v, F, h => ⟨by cases v <;> rfl, h⟩
  | .other, v, F, h => ⟨by cases v <;> rfl, h⟩
  | .agg l, v, F, h => by
    cases v <;> simp only [kfit_agg, gAgg] at h
    obtain ⟨h1, h2⟩ := kfits_ex l h
    exact ⟨h1, h2⟩
  | .tup l, v, F, h => by
    cases v <;> simp only [kfit_tup, gTup] at h
    obtain ⟨h1, h2⟩ := kfits_ex l h
    exact ⟨h1, h2⟩
theorem kfits_ex : (k : List Kd) → {v : List GVal} → {F : List GVal → Prop} → kfits k v F → Kd.fitss k v = true ∧ F v
  | [], v, F, h => by
    cases v <;> simp only [kfits_nil, gNil] at h
    exact ⟨rfl, h⟩
  | k :: ks, v, F, h => by
    cases v <;> simp only [kfits_cons, gCons] at h
    obtain ⟨h1, h2⟩ := kfit_ex k h
    obtain ⟨h3, h4⟩ := kfits_ex ks h2
    exact ⟨by simp [Kd.fitss, h1, h3], h4⟩
end

mutual
theorem kfit_mono : (k : Kd) → {v : GVal} → {F F' : GVal → Prop} → (∀ v, F v → F' v) → kfit k v F → kfit k v F'
  | .int k, v, F, F', hF, h => by
    cases v <;> simp only [kfit_int, gInt] at h ⊢
    rw [bkeep_iff] at h ⊢
    exact ⟨h.1, hF _ h.2⟩
  | .bool, v, F, F', hF, h => by
    cases v <;> simp only [kfit_bool, gBool] at h ⊢
    exact hF _ h
  | .str, v, F, F', hF, h => by
    cases v <;> simp only [kfit_str, gStrV] at h ⊢
    exact hF _ h
  | .ptr, v, F, F', hF, h => by
    cases v <;> simp only [kfit_ptr, gPtr] at h ⊢
    rename_i a
    cases a <;> exact hF _ h
  | .slice, v, F, F', hF, h => by
    cases v <;> simp only [kfit_slice, gSliceV] at h ⊢
    exact hF _ h
  | .map, v, F, F', hF, h => by
    cases v <;> simp only [kfit_map, gMapV] at h ⊢
    exact hF _ h
  | .func, v, F, F', hF, h => hF _ h
  | .other, v, F, F', hF, h => hF _ h
  | .agg l, v, F, F', hF, h => by
    cases v <;> simp only [kfit_agg, gAgg] at h ⊢
    exact kfits_mono l (fun vs => hF _) h
  | .tup l, v, F, F', hF, h => by
    cases v <;> simp only [kfit_tup, gTup] at h ⊢
    exact kfits_mono l (fun vs => hF _) h
theorem kfits_mono : (k : List Kd) → {v : List GVal} → {F F' : List GVal → Prop} → (∀ v, F v → F' v) → kfits k v F → kfits k v F'
  | [], v, F, F', hF, h => by
    cases v <;> simp only [kfits_nil, gNil] at h ⊢
    exact hF _ h
  | k :: ks, v, F, F', hF, h => by
    cases v <;> simp only [kfits_cons, gCons] at h ⊢
    exact kfit_mono k (fun x => kfits_mono ks fun vs => hF _) h
end

namespace GM
variable {X : Type}
noncomputable def wpS : GM X → (X → Prop) → Prop
  | ret x, Q => Q x
  | fail, _ => False
  | req c _ k, Q => c ∧ k.wpS Q
  | dst kd o k, Q => oget o fun v => kfit kd v fun v => (k v).wpS Q
  | eff kd o k, Q => oget o fun x => kfit kd x.1 fun v => (k v x.2).wpS Q
  | sto o k, Q => oget o fun h => (k h).wpS Q
theorem wpS_wp : (g : GM X) → {Q : X → Prop} → g.wpS Q → g.wp Q
  | ret x, Q, h => h
  | fail, _, h => h
  | req c _ k, Q, h => ⟨h.1, k.wpS_wp h.2⟩
  | dst kd o k, Q, h => by
    obtain ⟨v, rfl, h⟩ := oget_iff.1 h
    obtain ⟨h1, h2⟩ := kfit_ex kd h
    exact Kd.fits_ex kd v h1 ⟨rfl, (k v).wpS_wp h2⟩
  | eff kd o k, Q, h => by
    obtain ⟨⟨v, h'⟩, rfl, h⟩ := oget_iff.1 h
    obtain ⟨h1, h2⟩ := kfit_ex kd h
    exact Kd.fits_ex kd v h1 ⟨h', rfl, (k v h').wpS_wp h2⟩
  | sto o k, Q, h => by
    obtain ⟨h', rfl, h⟩ := oget_iff.1 h
    exact ⟨h', rfl, (k h').wpS_wp h⟩
theorem wp_mono : (g : GM X) → {Q Q' : X → Prop} → (∀ x, Q x → Q' x) → g.wp Q → g.wp Q' := fun g Q Q' hq h => by
  obtain ⟨x, h1, h2⟩ := g.wp_opt h
  exact GM.opt_wp (hq x h2) g h1
end GM

section
variable (P : Program) (gl : Nat → Option Nat)
/-- What kind of value a function hands back. -/
noncomputable def resKd (f : FuncId) : Kd := match P.funcs[f]? with
  | some fn => gresKd P fn
  | none => .other
noncomputable def algS : Alg Prop where
  fail := False
  gm g k := g.wpS fun x => vsplit x.1 fun v => k v x.2
  nxt o k := oget o fun x => vsplit x.1 fun v => k v x.2
  req c _ a := c ∧ a
  call f args h k := CallsG P gl f args h fun r h' => kfit (resKd P f) r fun v => vsplit v fun v => k v h'
  round l args h k := RoundG P gl l args h fun r h' => kfit .bool r fun v => vsplit v fun v => k v h'
  loop f := ∃ n, f n
end

section
variable {P : Program} {gl : Nat → Option Nat}
theorem algS_hom : Hom (algS P gl) (propAlg P gl) (fun (x y : Prop) => x → y) where
  fail := fun _ h => h.elim
  gm := fun g k k' hk h => g.wp_mono (fun x hx => hk _ _ (vsplit_iff.1 hx)) (g.wpS_wp h)
  nxt := fun o k k' hk h => by
    cases o with
    | none => exact False.elim h
    | some x => exact ⟨x.1, x.2, rfl, hk _ _ ((vsplit_iff (k := fun v => k v x.2)).1 h)⟩
  req := fun c d x y hxy h => ⟨h.1, hxy h.2⟩
  call := fun f args h k k' hk hh => hh.mono fun r h' hr => hk _ _ (vsplit_iff.1 (kfit_ex _ hr).2)
  round := fun f args h k k' hk hh => hh.mono fun r h' hr => hk _ _ (vsplit_iff.1 (kfit_ex _ hr).2)
  loop := fun f f' hf ⟨n, h⟩ => ⟨n, hf n h⟩

theorem prop_hom : Hom (propAlg P gl) (propAlg P gl) (fun (x y : Prop) => x → y) where
  fail := fun _ h => h.elim
  gm := fun g k k' hk h => g.wp_mono (fun x hx => hk _ _ hx) h
  nxt := fun o k k' hk ⟨v, h', e, h⟩ => ⟨v, h', e, hk _ _ h⟩
  req := fun c d x y hxy h => ⟨h.1, hxy h.2⟩
  call := fun f args h k k' hk hh => hh.mono fun r h' hr => hk _ _ hr
  round := fun f args h k k' hk hh => hh.mono fun r h' hr => hk _ _ hr
  loop := fun f f' hf ⟨n, h⟩ => ⟨n, hf n h⟩
end
end Gh

/- Points of code; loops by an invariant and a measure; functions and rounds from their points. -/
namespace Gh
open Go
set_option linter.unusedVariables false

def GMono (A : Alg Prop) : Prop := Hom A A (fun (x y : Prop) => x → y)
section
variable {P : Program} {gl : Nat → Option Nat}
theorem algS_mono : GMono (algS P gl) where
  fail := fun _ h => h.elim
  gm := fun g k k' hk h => by
    have go : ∀ (g : GM (GVal × GHeap)) {Q Q' : GVal × GHeap → Prop}, (∀ x, Q x → Q' x) → g.wpS Q → g.wpS Q' := by
      intro g
      induction g with
      | ret x => intro Q Q' hq h; exact hq _ h
      | fail => intro Q Q' hq h; exact h
      | req c d k ih => intro Q Q' hq h; exact ⟨h.1, ih hq h.2⟩
      | dst kd o k ih =>
        intro Q Q' hq h
        obtain ⟨v, rfl, h⟩ := oget_iff.1 h
        exact kfit_mono kd (fun v => ih v hq) h
      | eff kd o k ih =>
        intro Q Q' hq h
        obtain ⟨v, rfl, h⟩ := oget_iff.1 h
        exact kfit_mono kd (fun v => ih v _ hq) h
      | sto o k ih =>
        intro Q Q' hq h
        obtain ⟨v, rfl, h⟩ := oget_iff.1 h
        exact ih v hq h
    exact go g (fun x hx => vsplit_iff.2 (hk _ _ (vsplit_iff.1 hx))) h
  nxt := fun o k k' hk h => by
    cases o with
    | none => exact False.elim h
    | some x => exact (vsplit_iff (k := fun v => k' v x.2)).2 (hk _ _ ((vsplit_iff (k := fun v => k v x.2)).1 h))
  req := fun c d x y hxy h => ⟨h.1, hxy h.2⟩
  call := fun f args h k k' hk hh => hh.mono fun r h' hr => kfit_mono _ (fun v hv => vsplit_iff.2 (hk _ _ (vsplit_iff.1 hv))) hr
  round := fun f args h k k' hk hh => hh.mono fun r h' hr => kfit_mono _ (fun v hv => vsplit_iff.2 (hk _ _ (vsplit_iff.1 hv))) hr
  loop := fun f f' hf ⟨n, h⟩ => ⟨n, hf n h⟩

theorem gloop_up {A : Alg Prop} (HA : GMono A) {F : Kont Prop → List GVal → GHeap → Prop} (hF : ∀ K K', KHom (fun (x y : Prop) => x → y) K K' → ∀ t h, F K t h → F K' t h) {K : Kont Prop} : ∀ n t h, gloop A F K n t h → gloop A F K (n + 1) t h := by
  intro n
  induction n with
  | zero => intro t h hx; exact (HA.fail False hx).elim
  | succ n ih =>
    intro t h hx
    have hx : F { K with nrm := gloop A F K n } t h := hx
    show F { K with nrm := gloop A F K (n + 1) } t h
    exact hF { K with nrm := gloop A F K n } { K with nrm := gloop A F K (n + 1) } (KHom.mk ih (fun _ _ _ h => h) (fun _ _ h => h)) t h hx
theorem gloop_le {A : Alg Prop} (HA : GMono A) {F : Kont Prop → List GVal → GHeap → Prop} (hF : ∀ K K', KHom (fun (x y : Prop) => x → y) K K' → ∀ t h, F K t h → F K' t h) {K : Kont Prop} {n n' : Nat} (hn : n ≤ n') {t : List GVal} {h : GHeap} (hx : gloop A F K n t h) : gloop A F K n' t h := by
  induction hn with
  | refl => exact hx
  | step _ ih => exact gloop_up HA hF _ _ _ ih

/-- A loop, by an invariant with a measure. -/
theorem loop_rule {cur : Option Nat} {b : Code} {K : Kont Prop} (I : Nat → List GVal → GHeap → Prop)
    (hstep : ∀ n t h, I n t h → gcode P gl (algS P gl) cur b { K with nrm := fun t h => ∃ m, m < n ∧ I m t h } t h) {n : Nat} {t : List GVal} {h : GHeap} (h0 : I n t h) :
    gcode P gl (algS P gl) cur (.loop b) K t h := by
  have hF : ∀ K K', KHom (fun (x y : Prop) => x → y) K K' → ∀ t h, gcode P gl (algS P gl) cur b K t h → gcode P gl (algS P gl) cur b K' t h := fun K K' hK t h => gcode_hom algS_mono cur b K K' hK t h
  have key : ∀ N n, n ≤ N → ∀ t h, I n t h → gloop (algS P gl) (fun K t h => gcode P gl (algS P gl) cur b K t h) K (n + 1) t h := by
    intro N
    induction N with
    | zero =>
      intro n hn t h hi
      have : n = 0 := by omega
      subst this
      show gcode P gl (algS P gl) cur b { K with nrm := gloop (algS P gl) (fun K t h => gcode P gl (algS P gl) cur b K t h) K 0 } t h
      refine hF { K with nrm := fun t h => ∃ m, m < 0 ∧ I m t h } { K with nrm := gloop (algS P gl) (fun K t h => gcode P gl (algS P gl) cur b K t h) K 0 } (KHom.mk (fun t h hh => ?_) (fun _ _ _ h => h) (fun _ _ h => h)) t h (hstep 0 t h hi)
      obtain ⟨m, hm, _⟩ := hh
      omega
    | succ N ih =>
      intro n hn t h hi
      show gcode P gl (algS P gl) cur b { K with nrm := gloop (algS P gl) (fun K t h => gcode P gl (algS P gl) cur b K t h) K n } t h
      refine hF { K with nrm := fun t h => ∃ m, m < n ∧ I m t h } { K with nrm := gloop (algS P gl) (fun K t h => gcode P gl (algS P gl) cur b K t h) K n } (KHom.mk (fun t h hh => ?_) (fun _ _ _ h => h) (fun _ _ h => h)) t h (hstep n t h hi)
      obtain ⟨m, hm, hi2⟩ := hh
      rcases Nat.exists_eq_succ_of_ne_zero (show n ≠ 0 by omega) with ⟨n', rfl⟩
      exact gloop_le algS_mono hF (by omega) (ih m (by omega) t h hi2)
  exact ⟨n + 1, key n n (Nat.le_refl n) t h h0⟩
end

/-! Points of code: a path of 0 and 1 down a body. -/
noncomputable def sub : Code → List Nat → Code
  | c, [] => c
  | .seq a _, 0 :: p => sub a p
  | .seq _ b, _ :: p => sub b p
  | .cond _ a _, 0 :: p => sub a p
  | .cond _ _ b, _ :: p => sub b p
  | .block _ b, _ :: p => sub b p
  | .scope b, _ :: p => sub b p
  | .loop b, _ :: p => sub b p
  | c, _ => c
section
variable (P : Program) (gl : Nat → Option Nat) (cur : Option Nat)
noncomputable def subK : Code → List Nat → List (List GVal → GHeap → Prop) → Kont Prop → Kont Prop
  | _, [], _, K => K
  | .seq a b, 0 :: p, Ns, K => subK a p Ns { K with nrm := fun t h => gcode P gl (algS P gl) cur b K t h }
  | .seq _ b, _ :: p, Ns, K => subK b p Ns K
  | .cond _ a _, 0 :: p, Ns, K => subK a p Ns K
  | .cond _ _ b, _ :: p, Ns, K => subK b p Ns K
  | .block id b, _ :: p, Ns, K => subK b p Ns { K with ext := fun i t h => if i = id then K.nrm t h else K.ext i t h }
  | .scope b, _ :: p, Ns, K => subK b p Ns K
  | .loop b, _ :: p, N :: Ns, K => subK b p Ns { K with nrm := N }
  | _, _, _, K => K
/-- What is to be shown at a point of a body. -/
noncomputable def pt (c : Code) (p : List Nat) (Ns : List (List GVal → GHeap → Prop)) (K : Kont Prop) (t : List GVal) (h : GHeap) : Prop :=
  gcode P gl (algS P gl) cur (sub c p) (subK P gl cur c p Ns K) t h
/-- In the midst of a region. -/
noncomputable def mid (c : Code) (p : List Nat) (i : Nat) (Ns : List (List GVal → GHeap → Prop)) (K : Kont Prop) (t : List GVal) (h : GHeap) : Prop :=
  gops (algS P gl) P gl (regOps (sub c p)) ((regOps (sub c p)).toList.drop i) t h (subK P gl cur c p Ns K).nrm
noncomputable def midD (c : Code) (p : List Nat) (i : Nat) (rs : List Nat) (Ns : List (List GVal → GHeap → Prop)) (K : Kont Prop) (t : List GVal) (h : GHeap) : Prop :=
  gdr P gl (algS P gl) (regOps (sub c p)) ((dorder P (regOps (sub c p))).drop i) rs t h (subK P gl cur c p Ns K).nrm
/-- The ways out of a function. -/
noncomputable def KS (fn : Func) (Q : GVal → GHeap → Prop) : Kont Prop :=
  { nrm := gresults P (algS P gl) fn Q, ext := fun _ _ _ => False, ret := gresults P (algS P gl) fn Q }
end
section
variable {P : Program} {gl : Nat → Option Nat}
theorem pt_loop {cur : Option Nat} {c b : Code} {p : List Nat} {Ns : List (List GVal → GHeap → Prop)} {K : Kont Prop} (hb : sub c p = .loop b) (I : Nat → List GVal → GHeap → Prop)
    (hstep : ∀ n t h, I n t h → gcode P gl (algS P gl) cur b { subK P gl cur c p Ns K with nrm := fun t h => ∃ m, m < n ∧ I m t h } t h) {n : Nat} {t : List GVal} {h : GHeap} (h0 : I n t h) :
    pt P gl cur c p Ns K t h := by
  unfold pt
  rw [hb]
  exact loop_rule I hstep h0
theorem pt_call (hD : DrawSound P gl) {f : FuncId} {fn : Func} {c : Code} (hf : P.funcs[f]? = some fn) (hb : fn.body = some c) {args : List GVal} {h : GHeap} {Q : GVal → GHeap → Prop}
    (hx : pt P gl none c [] [] (KS P gl fn Q) (gstart fn args) h) : CallsG P gl f args h Q := by
  refine gfunc_sound hD hf hb ?_
  unfold gfunc
  have hx : gcode P gl (algS P gl) none c (KS P gl fn Q) (gstart fn args) h := by
    have e1 : sub c [] = c := by unfold sub; rfl
    have e2 : subK P gl none c [] [] (KS P gl fn Q) = KS P gl fn Q := by unfold subK; rfl
    unfold pt at hx
    rwa [e1, e2] at hx
  refine gcode_hom algS_hom none c _ _ ?_ _ _ hx
  exact KHom.mk (fun t h => (algS_hom (P := P) (gl := gl)).gm _ Q Q fun _ _ h => h) (fun _ _ _ h => h) (fun t h => (algS_hom (P := P) (gl := gl)).gm _ Q Q fun _ _ h => h)
end
end Gh

/- What stands as it stood; calls that leave all as it stood; reads and writes in a heap. -/
namespace Gh
open Go
set_option linter.unusedVariables false

/-! A value that two pictures tell. -/
theorem FnR.back {m m' : Mp} (hm : MLe m m') {f g g' : Fn} (h : FnR m f g) (h' : FnR m' f g') : FnR m f g' := by
  cases f <;> simp only [FnR] at h h' ⊢
  · exact h'
  · obtain ⟨L, h1, h2⟩ := h
    obtain ⟨L', h3, h4⟩ := h'
    rw [hm _ _ h1] at h3
    cases h3
    exact ⟨L, h1, h4⟩
mutual
theorem VR.back {m m' : Mp} (hm : MLe m m') : (g : GVal) → (v v' : Value) → VR m g v → VR m' g v' → VR m g v'
  | .undef, _, _, _, _ => trivial
  | .bool _, _, _, _, h => h
  | .int _ _, _, _, _, h => h
  | .str _, _, _, _, h => h
  | .ptr none, _, _, _, h => h
  | .ptr (some (_, _)), _, _, ⟨L, h1, _⟩, ⟨L', h3, h4⟩ => by
    rw [hm _ _ h1] at h3; cases h3; exact ⟨L, h1, h4⟩
  | .slice none _ _ _, _, _, _, h => h
  | .slice (some (_, _)) _ _ _, _, _, ⟨L, c, o, h1, _⟩, ⟨L', c', o', h3, h4⟩ => by
    rw [hm _ _ h1] at h3; cases h3; exact ⟨L, c', o', h1, h4⟩
  | .map none, _, _, _, h => h
  | .map (some _), _, _, ⟨L, h1, _⟩, ⟨L', h3, h4⟩ => by
    rw [hm _ _ h1] at h3; cases h3; exact ⟨L, h1, h4⟩
  | .func _ f c, _, _, ⟨fn, f1, c1, _, h2, h3, h4⟩, ⟨fn', f2, c2, e, g2, g3, g4⟩ =>
    ⟨fn', f2, c2, e, h2.back hm g2, VRs.back hm f f1 f2 h3 g3, VRs.back hm c c1 c2 h4 g4⟩
  | .nilFunc, _, _, _, h => h
  | .iface _ g, _, _, ⟨v1, _, h2⟩, ⟨v2, e, g2⟩ => ⟨v2, e, VR.back hm g v1 v2 h2 g2⟩
  | .nilIface, _, _, _, h => h
  | .agg l, _, _, ⟨c, _, h2⟩, ⟨c', e, g2⟩ => ⟨c', e, VRs.back hm l c c' h2 g2⟩
  | .tuple l, _, _, ⟨c, _, h2⟩, ⟨c', e, g2⟩ => ⟨c', e, VRs.back hm l c c' h2 g2⟩
theorem VRs.back {m m' : Mp} (hm : MLe m m') : (g : List GVal) → (v v' : List Value) → VRs m g v → VRs m' g v' → VRs m g v'
  | [], _, _, _, h => h
  | x :: xs, _, _, ⟨y, ys, _, h2, h3⟩, ⟨y', ys', e, g2, g3⟩ => ⟨y', ys', e, VR.back hm x y y' h2 g2, VRs.back hm xs ys ys' h3 g3⟩
end
theorem ERel.back {m m' : Mp} (hm : MLe m m') : {g : List (GVal × GVal)} → {v v' : List MapEntry} → ERel m g v → ERel m' g v' → ERel m g v'
  | [], _, _, _, h => h
  | (_, _) :: _, _, _, ⟨e, rest, _, h2, h3, h4⟩, ⟨e', rest', p, g2, g3, g4⟩ => ⟨e', rest', p, VR.back hm _ _ _ h2 g2, VR.back hm _ _ _ h3 g3, ERel.back hm h4 g4⟩
theorem ORel.back {m m' : Mp} (hm : MLe m m') {L : Loc} {g : GObj} {o o' : Obj} (h : ORel m L g o) (h' : ORel m' L g o') : ORel m L g o' := by
  cases g with
  | dead => trivial
  | cells cs mode =>
    obtain ⟨c, e, fr, h1, h2, h3, h4, h5⟩ := h
    obtain ⟨c', e', fr', g1, g2, g3, g4, g5⟩ := h'
    refine ⟨c', e', fr', g1, g2, g3, fun i g hg => ?_, g5⟩
    obtain ⟨v, _, b⟩ := h4 i g hg
    obtain ⟨v', a', b'⟩ := g4 i g hg
    exact ⟨v', a', VR.back hm _ _ _ b b'⟩
  | map es ro =>
    obtain ⟨es1, cl, h1, h2⟩ := h
    obtain ⟨es2, cl', g1, g2⟩ := h'
    exact ⟨es2, cl', g1, h2.back hm g2⟩
  | siter s pos => exact h'
  | loop st pd tm ps as_ bd =>
    obtain ⟨l, h1, h2, h3, h4, h5⟩ := h
    obtain ⟨l', g1, g2, g3, g4, g5⟩ := h'
    exact ⟨l', g1, g2, g3, VRs.back hm _ _ _ h4 g4, g5⟩

section
variable {P : Program} {gl : Nat → Option Nat}
/-- A value that speaks of no place. -/
def Bare (r : GVal) : Prop := ∀ m m' v, VR m r v → VR m' r v
/-- A call that leaves all that was there as it stood, and hands back no place, leaves nothing. -/
theorem CallsG.forget {f : FuncId} {args : List GVal} {h : GHeap} {Q : GVal → Prop} (hx : CallsG P gl f args h fun r h' => Q r ∧ Bare r ∧ ∀ i, i < h.length → h'[i]? = h[i]?) :
    CallsG P gl f args h fun r h' => Q r ∧ h' = h := by
  intro m w vs R hv
  refine (hx m w vs R hv).mono ?_
  rintro e w' ⟨r, v, h', m', rfl, ⟨q, bare, hst⟩, q2, R', E⟩
  have hm : MLe m m' := E.mle R.dom
  refine ⟨r, v, h, m, rfl, ⟨q, rfl⟩, bare _ _ _ q2, ?_, ?_⟩
  · refine ⟨R.dom, fun id L hL => Nat.lt_of_lt_of_le (R.here id L hL) E.size, ?_, R.inj, R.glob⟩
    intro id L o hL ho
    obtain ⟨O, _, h2⟩ := R.rel id L o hL ho
    obtain ⟨O', h3, h4⟩ := R'.rel id L o (hm _ _ hL) (by rw [hst id (R.dom id L hL)]; exact ho)
    exact ⟨O', h3, h2.back hm h4⟩
  · exact ⟨E.size, E.os, E.out, Nat.le_refl _, fun _ _ => rfl, fun id L hL => .inl (R.dom id L hL), E.keep, fun _ _ h _ => h, fun _ _ _ => rfl⟩
theorem Bare.int {k : IntKind} {n : Int} : Bare (.int k n) := fun _ _ _ h => h
theorem Bare.bool {b : Bool} : Bare (.bool b) := fun _ _ _ h => h
theorem Bare.str {b : List UInt8} : Bare (.str b) := fun _ _ _ h => h
theorem Bare.ptr0 : Bare (.ptr none) := fun _ _ _ h => h
theorem Bare.nil : ∀ m m' v, VRs m [] v → VRs m' [] v := fun _ _ _ h => h
theorem Bare.cons {x : GVal} {l : List GVal} (hx : Bare x) (hl : ∀ m m' v, VRs m l v → VRs m' l v) : ∀ m m' v, VRs m (x :: l) v → VRs m' (x :: l) v :=
  fun m m' _ ⟨y, ys, e, h2, h3⟩ => ⟨y, ys, e, hx m m' y h2, hl m m' ys h3⟩
theorem Bare.tuple {l : List GVal} (hl : ∀ m m' v, VRs m l v → VRs m' l v) : Bare (.tuple l) := fun m m' _ ⟨c, e, h⟩ => ⟨c, e, hl m m' c h⟩
theorem Bare.agg {l : List GVal} (hl : ∀ m m' v, VRs m l v → VRs m' l v) : Bare (.agg l) := fun m m' _ ⟨c, e, h⟩ => ⟨c, e, hl m m' c h⟩
end

/-- All that was there, but some, stands. -/
def Same (F : List Nat) (h h' : GHeap) : Prop := h.length ≤ h'.length ∧ ∀ i, i < h.length → i ∉ F → h'[i]? = h[i]?
theorem Same.refl {F : List Nat} (h : GHeap) : Same F h h := ⟨Nat.le_refl _, fun _ _ _ => rfl⟩
theorem Same.trans {F : List Nat} {a b c : GHeap} (x : Same F a b) (y : Same F b c) : Same F a c :=
  ⟨Nat.le_trans x.1 y.1, fun i hi hn => by rw [y.2 i (Nat.lt_of_lt_of_le hi x.1) hn, x.2 i hi hn]⟩
theorem Same.mono {F G : List Nat} {a b : GHeap} (x : Same F a b) (hs : ∀ i ∈ F, i < a.length → i ∈ G) : Same G a b :=
  ⟨x.1, fun i hi hn => x.2 i hi fun hf => hn (hs i hf hi)⟩
/-- What is new in the middle may be changed. -/
theorem Same.then {F G : List Nat} {a b c : GHeap} (x : Same F a b) (y : Same G b c) (hs : ∀ i ∈ G, i < a.length → i ∈ F) : Same F a c :=
  ⟨Nat.le_trans x.1 y.1, fun i hi hn => by rw [y.2 i (Nat.lt_of_lt_of_le hi x.1) fun hg => hn (hs i hg hi), x.2 i hi hn]⟩
theorem Same.append {F : List Nat} (h l : GHeap) : Same F h (h ++ l) := ⟨by simp, fun i hi _ => List.getElem?_append_left hi⟩
theorem Same.set {F : List Nat} {h : GHeap} {i : Nat} {o : GObj} (hi : i ∈ F) : Same F h (h.set i o) :=
  ⟨by simp, fun j _ hn => List.getElem?_set_ne fun e => hn (by rw [← e]; exact hi)⟩
theorem Same.at {F : List Nat} {h h' : GHeap} {i : Nat} {o : GObj} (x : Same F h h') (ho : h[i]? = some o) (hn : i ∉ F) : h'[i]? = some o := by
  rw [x.2 i (List.getElem?_eq_some_iff.1 ho).1 hn]; exact ho
theorem lt_of_at {h : GHeap} {i : Nat} {o : GObj} (ho : h[i]? = some o) : i < h.length := (List.getElem?_eq_some_iff.1 ho).1
theorem at_append {h l : GHeap} {i : Nat} {o : GObj} (ho : h[i]? = some o) : (h ++ l)[i]? = some o := by
  rw [List.getElem?_append_left (lt_of_at ho)]; exact ho
theorem at_new {h l : GHeap} {o : GObj} : (h ++ o :: l)[h.length]? = some o := by simp
theorem at_set {h : GHeap} {i : Nat} {o o' : GObj} (ho : h[i]? = some o) : (h.set i o')[i]? = some o' := List.getElem?_set_self (lt_of_at ho)
theorem at_set_ne {h : GHeap} {i j : Nat} {o o' : GObj} (ho : h[i]? = some o) (hij : j ≠ i) : (h.set j o')[i]? = some o := by
  rw [List.getElem?_set_ne hij]; exact ho

theorem gload_at {h : GHeap} {i off : Nat} {cs : List GVal} {mode : CM} {v : GVal} (ho : h[i]? = some (.cells cs mode)) (hv : cs[off]? = some v) : gload h i off = some v := by
  simp only [gload, ho, hv]
theorem gloads_at {h : GHeap} {i off n : Nat} {cs l : List GVal} {mode : CM} (ho : h[i]? = some (.cells cs mode)) (hn : off + n ≤ cs.length) (hl : (cs.drop off).take n = l) : gloads h i off n = some l := by
  simp only [gloads, ho, if_pos hn, hl]
theorem gstore_at {h : GHeap} {i off : Nat} {cs vs : List GVal} {mode : CM} (ho : h[i]? = some (.cells cs mode)) (hm : mode ≠ .ro) (hn : off + vs.length ≤ cs.length) (hc : allCell vs = true) :
    gstore h i off vs = some (h.set i (.cells (setMany cs off vs) mode)) := by
  simp only [gstore, ho, if_pos (And.intro hm (And.intro hn hc))]

/-- A call whose end is told, used. -/
theorem CallsG.use {P : Program} {gl : Nat → Option Nat} {f : FuncId} {args : List GVal} {h h' : GHeap} {r : GVal} {Q : GVal → GHeap → Prop} (hx : CallsG P gl f args h fun a b => a = r ∧ b = h') (hq : Q r h') : CallsG P gl f args h Q :=
  hx.mono fun a b ⟨e1, e2⟩ => by subst e1; subst e2; exact hq
end Gh

/- Lists in the heap, and small helps for proofs at points of code. -/
namespace Gh
open Go IntWalk
set_option linter.unusedVariables false

/-- The cells of a list stand behind an address. -/
def Cells (h : GHeap) (a : Option (Nat × Nat)) (l : List GVal) : Prop :=
  ∀ j v, l[j]? = some v → ∃ id off, a = some (id, off) ∧ gload h id (off + j) = some v
/-- Those who hold them are among these. -/
def Within (a : Option (Nat × Nat)) (F : List Nat) : Prop := ∀ id off, a = some (id, off) → id ∈ F
theorem gload_same {F : List Nat} {h h' : GHeap} {id off : Nat} {v : GVal} (s : Same F h h') (hn : id ∉ F) (hl : gload h id off = some v) : gload h' id off = some v := by
  unfold gload at hl ⊢
  cases ho : h[id]? with
  | none => rw [ho] at hl; cases hl
  | some o => rw [s.at ho hn]; rw [ho] at hl; exact hl
theorem Cells.same {F : List Nat} {h h' : GHeap} {a : Option (Nat × Nat)} {l : List GVal} (c : Cells h a l) (s : Same F h h') (hn : ∀ id off, a = some (id, off) → id ∉ F) : Cells h' a l := by
  intro j v hj
  obtain ⟨id, off, rfl, hl⟩ := c j v hj
  exact ⟨id, off, rfl, gload_same s (hn _ _ rfl) hl⟩
theorem Cells.nil {h : GHeap} {a : Option (Nat × Nat)} : Cells h a [] := fun j v hj => by simp at hj
theorem Cells.of {h : GHeap} {id off : Nat} {cs l : List GVal} {mode : CM} (ho : h[id]? = some (.cells cs mode)) (hl : ∀ j v, l[j]? = some v → cs[off + j]? = some v) : Cells h (some (id, off)) l :=
  fun j v hj => ⟨id, off, rfl, gload_at ho (hl j v hj)⟩
theorem Cells.new {h : GHeap} {l : List GVal} {mode : CM} {r : GHeap} : Cells (h ++ .cells l mode :: r) (some (h.length, 0)) l :=
  Cells.of at_new fun j v hj => by simpa using hj
theorem Cells.ptr {h : GHeap} {a : Option (Nat × Nat)} {l : List GVal} {j e : Nat} {v : GVal} {F : Nat → Nat → Prop} {N : Prop} (c : Cells h a l) (he : e = j) (hj : l[j]? = some v)
    (hf : ∀ id off, a = some (id, off) → gload h id (off + e) = some v → F id (off + e)) : oget (Option.map (fun p => GVal.ptr (some (p.fst, p.snd + e))) a) fun x => gPtr x N F := by
  subst he
  obtain ⟨id, off, rfl, hl⟩ := c _ v hj
  exact hf id off rfl hl

theorem gstore_at1 {h : GHeap} {i off : Nat} {cs : List GVal} {mode : CM} {v : GVal} (ho : h[i]? = some (.cells cs mode)) (hm : mode ≠ .ro) (hn : off < cs.length) (hc : v.isCell = true) :
    gstore h i off [v] = some (h.set i (.cells (cs.set off v) mode)) :=
  gstore_at ho hm (by simp; omega) (by simp [allCell, hc])
theorem oget_gInt {o : Option GVal} {k : IntKind} {n : Int} {F : Int → Prop} (h : o = some (.int k n)) (hf : F n) : oget o fun x => gInt k x F := by
  subst h
  show gInt k (.int k n) F
  rw [gInt_int]; exact hf
theorem oget_gBool {o : Option GVal} {n : Bool} {F : Bool → Prop} (h : o = some (.bool n)) (hf : F n) : oget o fun x => gBool x F := by
  subst h; exact hf
theorem oget_gSlice {o : Option GVal} {a : Option (Nat × Nat)} {n c : Nat} {p : Option Nat} {F : Option (Nat × Nat) → Nat → Nat → Option Nat → Prop} (h : o = some (.slice a n c p)) (hf : F a n c p) : oget o fun x => gSliceV x F := by
  subst h; exact hf
theorem oget_gMap {o : Option GVal} {r : Option Nat} {F : Option Nat → Prop} (h : o = some (.map r)) (hf : F r) : oget o fun x => gMapV x F := by
  subst h; exact hf
theorem oget_gPtr {o : Option GVal} {i f : Nat} {N : Prop} {F : Nat → Nat → Prop} (h : o = some (.ptr (some (i, f)))) (hf : F i f) : oget o fun x => gPtr x N F := by
  subst h; exact hf
theorem gInt_of {k : IntKind} {n : Int} {F : Int → Prop} (hf : F n) : gInt k (.int k n) F := by rw [gInt_int]; exact hf

/-- A call by what is known of it. -/
theorem CallsG.by {P : Program} {gl : Nat → Option Nat} {f : FuncId} {args : List GVal} {h : GHeap} {R Q : GVal → GHeap → Prop} (hx : CallsG P gl f args h R) (hq : ∀ r h', R r h' → Q r h') : CallsG P gl f args h Q := hx.mono hq
/-- A call that hands back an integer and changes nothing. -/
theorem CallsG.int {P : Program} {gl : Nat → Option Nat} {f : FuncId} {args : List GVal} {h : GHeap} {k : IntKind} {n : Int} {F : Int → GHeap → Prop} (hx : CallsG P gl f args h fun r h' => r = .int k n ∧ h' = h) (hq : F n h) :
    CallsG P gl f args h fun r h' => gInt k r fun n => F n h' :=
  hx.mono fun r h' ⟨e1, e2⟩ => by subst e1; subst e2; exact gInt_of hq
theorem CallsG.bool {P : Program} {gl : Nat → Option Nat} {f : FuncId} {args : List GVal} {h : GHeap} {b : Bool} {F : Bool → GHeap → Prop} (hx : CallsG P gl f args h fun r h' => r = .bool b ∧ h' = h) (hq : F b h) :
    CallsG P gl f args h fun r h' => gBool r fun n => F n h' :=
  hx.mono fun r h' ⟨e1, e2⟩ => by subst e1; subst e2; exact hq
theorem w64 {x : Int} (h : -9223372036854775808 ≤ x ∧ x ≤ 9223372036854775807) : IntKind.i64.wrap x = x := i64_in x h
end Gh
namespace Gh
open Go
/-- A call on values that name no place, beside no heap, beside any heap. -/
theorem CallsG.scalar {P : Program} {gl : Nat → Option Nat} {f : FuncId} {args : List GVal} {h : GHeap} {Q : GVal → Prop} (hgl : ∀ g, gl g = none) (ha : ∀ ρ, rens ρ args = args) (hx : CallsG P gl f args [] fun r _ => Q r ∧ Bare r ∧ ∀ ρ, ren ρ r = r) :
    CallsG P gl f args h fun r h' => Q r ∧ h' = h := by
  have I : Inside gl (fun i => h.length + i) [] h := ⟨fun _ _ h => by simp at h, fun _ h => by simp at h, fun i _ => by simp, fun i o ho => by simp at ho, fun g id hg => by rw [hgl] at hg; cases hg⟩
  have hy := CallsG.frame I hx
  rw [ha] at hy
  refine CallsG.forget (hy.mono ?_)
  rintro r h' ⟨rc, hc', ⟨q, b, e⟩, rfl, _, M⟩
  rw [e]
  exact ⟨q, b, fun i hi => M.out i hi fun j hj => by simp at hj⟩
/-- What is shut stays; what may be written is told. -/
theorem CallsG.forgetW {P : Program} {gl : Nat → Option Nat} {f : FuncId} {args : List GVal} {h : GHeap} {Q : GVal → Prop} (hx : CallsG P gl f args h fun r h' => Q r ∧ Bare r ∧ ∀ (i : Nat) (o : GObj), h[i]? = some o → o.wr = true → h'[i]? = some o) :
    CallsG P gl f args h fun r h' => Q r ∧ h' = h := by
  intro m w vs R hv
  refine (hx m w vs R hv).mono ?_
  rintro e w' ⟨r, v, h', m', rfl, ⟨q, bare, hst⟩, q2, R', E⟩
  have hm : MLe m m' := E.mle R.dom
  refine ⟨r, v, h, m, rfl, ⟨q, rfl⟩, bare _ _ _ q2, ?_, ?_⟩
  · refine ⟨R.dom, fun id L hL => Nat.lt_of_lt_of_le (R.here id L hL) E.size, ?_, R.inj, R.glob⟩
    intro id L o hL ho
    obtain ⟨O, _, h2⟩ := R.rel id L o hL ho
    have hs : h'[id]? = some o := by
      cases hw : o.wr with
      | true => exact hst id o ho hw
      | false => exact E.stay id o ho hw
    obtain ⟨O', h3, h4⟩ := R'.rel id L o (hm _ _ hL) hs
    exact ⟨O', h3, h2.back hm h4⟩
  · exact ⟨E.size, E.os, E.out, Nat.le_refl _, fun _ _ => rfl, fun id L hL => .inl (R.dom id L hL), E.keep, fun _ _ h _ => h, fun _ _ _ => rfl⟩
/-- A call on bare values beside the package's variables, which are shut, beside any heap that begins with these. -/
theorem CallsG.scalarG {P : Program} {gl : Nat → Option Nat} {f : FuncId} {args : List GVal} {h0 h : GHeap} {Q : GVal → Prop} (hgl : ∀ g id, gl g = some id → id < h0.length) (hro : ∀ o ∈ h0, o.wr = false) (hid : ∀ (ρ : Nat → Nat), ∀ o ∈ h0, renObj ρ o = o)
    (hpre : ∀ (i : Nat) (o : GObj), h0[i]? = some o → h[i]? = some o) (ha : ∀ ρ, rens ρ args = args) (hx : CallsG P gl f args h0 fun r _ => Q r ∧ Bare r ∧ ∀ ρ, ren ρ r = r) :
    CallsG P gl f args h fun r h' => Q r ∧ h' = h := by
  have hlow : ∀ i, i < h0.length → i < h.length := fun i hi => (List.getElem?_eq_some_iff.1 (hpre i _ (List.getElem?_eq_getElem hi))).1
  have I : Inside gl (fun i => if i < h0.length then i else h.length + (i - h0.length)) h0 h := by
    refine ⟨fun i j hi hj e => by simpa [hi, hj] using e, fun i hi => by simpa [hi] using hlow i hi, fun i hi => by rw [if_neg (by omega)], fun i o ho => ?_, fun g id hg => by rw [if_pos (hgl g id hg)]⟩
    have hi := (List.getElem?_eq_some_iff.1 ho).1
    rw [if_pos hi, hid _ o (List.mem_of_getElem? ho)]
    exact hpre i o ho
  have hy := CallsG.frame I hx
  rw [ha] at hy
  refine CallsG.forgetW (hy.mono ?_)
  rintro r h' ⟨rc, hc', ⟨q, b, e⟩, rfl, _, M⟩
  rw [e]
  refine ⟨q, b, fun i o ho hw => ?_⟩
  rw [M.out i (List.getElem?_eq_some_iff.1 ho).1 fun j hj e => ?_]
  · exact ho
  · rw [if_pos hj] at e
    subst e
    have h1 := hpre j _ (List.getElem?_eq_getElem hj)
    rw [ho] at h1
    cases h1
    rw [hro _ (List.getElem_mem hj)] at hw
    cases hw
/-- A closed call that tells true. -/
theorem CallsG.closedG {P : Program} {gl : Nat → Option Nat} (hD : DrawSound P gl) {prim : FuncId → List GVal → GHeap → Ans} (hP : PrimOK P gl prim) {h0 h : GHeap} (hgl : ∀ g id, gl g = some id → id < h0.length) (hro : ∀ o ∈ h0, o.wr = false)
    (hid : ∀ (ρ : Nat → Nat), ∀ o ∈ h0, renObj ρ o = o) (hpre : ∀ (i : Nat) (o : GObj), h0[i]? = some o → h[i]? = some o) {k0 loops n : Nat} (hk : k0 = h0.length) {f : FuncId} (hx : tells (gcallC P gl k0 prim loops n f [] h0) = true) :
    CallsG P gl f [] h fun r h' => r = .bool true ∧ h' = h := by
  refine CallsG.scalarG (Q := fun r => r = .bool true) hgl hro hid hpre (fun _ => rfl) ?_
  cases ho : gcallC P gl k0 prim loops n f [] h0 with
  | none => rw [ho] at hx; cases hx
  | some r =>
    obtain ⟨v, h'⟩ := r
    rw [ho] at hx
    have hv : v = .bool true := by
      unfold tells at hx
      split at hx
      · rename_i hh; cases hh; rfl
      · cases hx
    subst hv
    refine (gcallC_sound (k0 := k0) (fun g id hg => by rw [hk]; exact hgl g id hg) hD hP ho).mono fun a b e => ?_
    cases e
    exact ⟨rfl, Bare.bool, fun _ => rfl⟩
end Gh

/- From point to point of a body. -/
namespace Gh
open Go
set_option linter.unusedVariables false
section
variable {P : Program} {gl : Nat → Option Nat} {cur : Option Nat} {c : Code} {p : List Nat} {Ns : List (List GVal → GHeap → Prop)} {K : Kont Prop} {t : List GVal} {h : GHeap}
theorem pt_region {i : Nat} {ops : Array Oper} (hs : sub c p = .region i ops false) : pt P gl cur c p Ns K t h = gops (algS P gl) P gl ops ops.toList t h (subK P gl cur c p Ns K).nrm := by
  unfold pt; rw [hs]; rfl
theorem pt_draw {i : Nat} {ops : Array Oper} {l : List Nat} (hs : sub c p = .region i ops true) (hd : drawOk P ops = true) (ho : dorder P ops = l) (hr : inRange ops t = true) :
    pt P gl cur c p Ns K t h = gdr P gl (algS P gl) ops l [] t h (subK P gl cur c p Ns K).nrm := by
  unfold pt; rw [hs]
  show (if drawOk P ops && inRange ops t then gdr P gl (algS P gl) ops (dorder P ops) [] t h (subK P gl cur c p Ns K).nrm else (algS P gl).fail) = _
  rw [hd, hr, ho]; rfl
theorem reg_a {i : Nat} {ops : Array Oper} {k : List GVal → GHeap → Prop} {R : Prop} (hs : sub c p = .region i ops false) (hk : (subK P gl cur c p Ns K).nrm = k) (hx : gops (algS P gl) P gl ops ops.toList t h k = R) : pt P gl cur c p Ns K t h = R := by
  rw [pt_region hs, hk]; exact hx
theorem reg_d {i : Nat} {ops : Array Oper} {k : List GVal → GHeap → Prop} {R : Prop} {l : List Nat} (hs : sub c p = .region i ops true) (hd : drawOk P ops = true ∧ dorder P ops = l) (hr : inRange ops t = true) (hk : (subK P gl cur c p Ns K).nrm = k)
    (hx : gdr P gl (algS P gl) ops l [] t h k = R) : pt P gl cur c p Ns K t h = R := by
  rw [pt_draw hs hd.1 hd.2 hr, hk]; exact hx
theorem pt_seq {a b : Code} (hs : sub c p = .seq a b) {q : List Nat} (hq : sub c q = a) (hK : subK P gl cur c q Ns K = { subK P gl cur c p Ns K with nrm := fun t h => gcode P gl (algS P gl) cur b (subK P gl cur c p Ns K) t h }) :
    pt P gl cur c p Ns K t h = pt P gl cur c q Ns K t h := by
  unfold pt; rw [hs, hq, hK]; rfl
theorem pt_block {id : Nat} {b : Code} (hs : sub c p = .block id b) {q : List Nat} (hq : sub c q = b) (hK : subK P gl cur c q Ns K = { subK P gl cur c p Ns K with ext := fun i t h => if i = id then (subK P gl cur c p Ns K).nrm t h else (subK P gl cur c p Ns K).ext i t h }) :
    pt P gl cur c p Ns K t h = pt P gl cur c q Ns K t h := by
  unfold pt; rw [hs, hq, hK]; rfl
theorem pt_scope {b : Code} (hs : sub c p = .scope b) {q : List Nat} (hq : sub c q = b) (hK : subK P gl cur c q Ns K = subK P gl cur c p Ns K) :
    pt P gl cur c p Ns K t h = pt P gl cur c q Ns K t h := by
  unfold pt; rw [hs, hq, hK]; rfl
theorem pt_condT {x : Operand} {a b : Code} (hs : sub c p = .cond x a b) {q : List Nat} (hq : sub c q = a) (hK : subK P gl cur c q Ns K = subK P gl cur c p Ns K) (hx : gev gl t x = .bool true) :
    pt P gl cur c p Ns K t h = pt P gl cur c q Ns K t h := by
  unfold pt; rw [hs, hq, hK]
  show (match gev gl t x with
    | .bool v => if v = true then gcode P gl (algS P gl) cur a (subK P gl cur c p Ns K) t h else gcode P gl (algS P gl) cur b (subK P gl cur c p Ns K) t h
    | _ => (algS P gl).fail) = _
  rw [hx]; rfl
theorem pt_condF {x : Operand} {a b : Code} (hs : sub c p = .cond x a b) {q : List Nat} (hq : sub c q = b) (hK : subK P gl cur c q Ns K = subK P gl cur c p Ns K) (hx : gev gl t x = .bool false) :
    pt P gl cur c p Ns K t h = pt P gl cur c q Ns K t h := by
  unfold pt; rw [hs, hq, hK]
  show (match gev gl t x with
    | .bool v => if v = true then gcode P gl (algS P gl) cur a (subK P gl cur c p Ns K) t h else gcode P gl (algS P gl) cur b (subK P gl cur c p Ns K) t h
    | _ => (algS P gl).fail) = _
  rw [hx]; rfl
theorem pt_skip (hs : sub c p = .skip) : pt P gl cur c p Ns K t h = (subK P gl cur c p Ns K).nrm t h := by
  unfold pt; rw [hs]; rfl
theorem pt_label {i : Nat} (hs : sub c p = .label i) : pt P gl cur c p Ns K t h = (subK P gl cur c p Ns K).nrm t h := by
  unfold pt; rw [hs]; rfl
theorem pt_ret (hs : sub c p = .ret) : pt P gl cur c p Ns K t h = (subK P gl cur c p Ns K).ret t h := by
  unfold pt; rw [hs]; rfl
theorem pt_exit {i : Nat} (hs : sub c p = .exit i) : pt P gl cur c p Ns K t h = (subK P gl cur c p Ns K).ext i t h := by
  unfold pt; rw [hs]; rfl
theorem oget_gAgg {o : Option GVal} {l : List GVal} {F : List GVal → Prop} (h : o = some (.agg l)) (hf : F l) : oget o fun x => gAgg x F := by subst h; exact hf
theorem gCons_of {x : GVal} {l : List GVal} {F : GVal → List GVal → Prop} (hf : F x l) : gCons (x :: l) F := hf
theorem gNil_of {F : Prop} (hf : F) : gNil [] F := hf
theorem gBool_of {b : Bool} {F : Bool → Prop} (hf : F b) : gBool (.bool b) F := hf
theorem gMap_of {r : Option Nat} {F : Option Nat → Prop} (hf : F r) : gMapV (.map r) F := hf
theorem gSlice_of {a : Option (Nat × Nat)} {n c : Nat} {o : Option Nat} {F : Option (Nat × Nat) → Nat → Nat → Option Nat → Prop} (hf : F a n c o) : gSliceV (.slice a n c o) F := hf
theorem gPtr_of {i o : Nat} {N : Prop} {F : Nat → Nat → Prop} (hf : F i o) : gPtr (.ptr (some (i, o))) N F := hf
theorem gPtr_of0 {N : Prop} {F : Nat → Nat → Prop} (hf : N) : gPtr (.ptr none) N F := hf
theorem gAgg_of {l : List GVal} {F : List GVal → Prop} (hf : F l) : gAgg (.agg l) F := hf
theorem gTup_of {l : List GVal} {F : List GVal → Prop} (hf : F l) : gTup (.tuple l) F := hf
theorem oget_pair {o : Option (GVal × GHeap)} {v : GVal} {h : GHeap} {F : GVal × GHeap → Prop} (ho : o = some (v, h)) (hf : F (v, h)) : oget o F := by subst ho; exact hf
theorem lget_z {α : Type} {d x : α} {l : List α} : lget d (x :: l) 0 = x := rfl
theorem lget_s {α : Type} {d x : α} {l : List α} {i : Nat} : lget d (x :: l) (i + 1) = lget d l i := rfl
theorem res_nil {fn : Func} {Q : GVal → GHeap → Prop} (hr : fn.results.toList = []) (hq : Q (.tuple []) h) : gresults P (algS P gl) fn Q t h := by
  unfold gresults; rw [hr]; exact (vsplit_iff (k := fun v => Q v h)).2 hq
theorem res_one {fn : Func} {Q : GVal → GHeap → Prop} {i : Nat} {v : GVal} (hr : fn.results.toList = [.tmp i]) (hv : lget .undef t i = v) (hq : Q v h) : gresults P (algS P gl) fn Q t h := by
  unfold gresults; rw [hr]
  rw [lget_eq] at hv
  subst hv
  exact (vsplit_iff (k := fun v => Q v h)).2 hq
theorem res_two {fn : Func} {Q : GVal → GHeap → Prop} {i j : Nat} {v w : GVal} (hr : fn.results.toList = [.tmp i, .tmp j]) (hv : lget .undef t i = v) (hw : lget .undef t j = w) (hq : Q (.tuple [v, w]) h) : gresults P (algS P gl) fn Q t h := by
  unfold gresults; rw [hr]
  rw [lget_eq] at hv hw
  subst hv; subst hw
  exact (vsplit_iff (k := fun v => Q v h)).2 hq
theorem res_three {fn : Func} {Q : GVal → GHeap → Prop} {i j k : Nat} {v w x : GVal} (hr : fn.results.toList = [.tmp i, .tmp j, .tmp k]) (hv : lget .undef t i = v) (hw : lget .undef t j = w) (hx : lget .undef t k = x) (hq : Q (.tuple [v, w, x]) h) : gresults P (algS P gl) fn Q t h := by
  unfold gresults; rw [hr]
  rw [lget_eq] at hv hw hx
  subst hv; subst hw; subst hx
  exact (vsplit_iff (k := fun v => Q v h)).2 hq
end
end Gh
namespace Gh
open Go
section
variable {A : Type} (alg : Alg A) (P : Program) (gl : Nat → Option Nat)
/-- A piece of a region that draws; the end is told the reads too. -/
noncomputable def gdrK (ops : Array Oper) : List Nat → List Nat → List GVal → GHeap → (List Nat → List GVal → GHeap → A) → A
  | [], rs, t, h, k => k rs t h
  | i :: l, rs, t, h, k =>
    match ops[i]? with
    | none => alg.fail
    | some o =>
      match gwant ops t o with
      | .no => gdrK ops l rs (gput t o.dst (.tuple [])) h k
      | .open_ => alg.fail
      | .yes =>
        match opClass P o with
        | .eff => gone alg P gl t o h fun v h' =>
            match rs.filter fun r => !bef ops r i with
            | [] => gdrK ops l rs (gput t o.dst v) h' k
            | rs' => alg.req (rdAll P gl ops t h' rs') inferInstance (gdrK ops l rs (gput t o.dst v) h' k)
        | .read => gone alg P gl t o h fun v h' => gdrK ops l (rs ++ [i]) (gput t o.dst v) h' k
        | _ => gone alg P gl t o h fun v h' => gdrK ops l rs (gput t o.dst v) h' k
theorem gdr_split' (ops : Array Oper) (l2 : List Nat) (k : List GVal → GHeap → A) (F : List Nat → List GVal → GHeap → A) (hF : ∀ rs t h, gdr P gl alg ops l2 rs t h k = F rs t h) : ∀ (l1 rs : List Nat) (t : List GVal) (h : GHeap),
    gdr P gl alg ops (l1 ++ l2) rs t h k = gdrK alg P gl ops l1 rs t h F := by
  intro l1
  induction l1 with
  | nil => intro rs t h; exact hF rs t h
  | cons i l ih =>
    intro rs t h
    simp only [List.cons_append]
    unfold gdr gdrK
    cases ops[i]? with
    | none => rfl
    | some o =>
      dsimp only
      cases gwant ops t o with
      | no => dsimp only; exact ih _ _ _
      | open_ => rfl
      | yes =>
        dsimp only
        cases opClass P o with
        | eff =>
          refine congrArg (gone alg P gl t o h) ?_
          funext v h'
          cases rs.filter fun r => !bef ops r i with
          | nil => exact ih _ _ _
          | cons a l' => exact congrArg (alg.req _ _) (ih _ _ _)
        | read => exact congrArg (gone alg P gl t o h) (funext fun v => funext fun h' => ih _ _ _)
        | pure => exact congrArg (gone alg P gl t o h) (funext fun v => funext fun h' => ih _ _ _)
        | alloc => exact congrArg (gone alg P gl t o h) (funext fun v => funext fun h' => ih _ _ _)
theorem gdr_split (ops : Array Oper) (l2 : List Nat) (k : List GVal → GHeap → A) (l1 rs : List Nat) (t : List GVal) (h : GHeap) :
    gdr P gl alg ops (l1 ++ l2) rs t h k = gdrK alg P gl ops l1 rs t h fun rs t h => gdr P gl alg ops l2 rs t h k :=
  gdr_split' alg P gl ops l2 k _ (fun _ _ _ => rfl) l1 rs t h
end
theorem reg_d2 {P : Program} {gl : Nat → Option Nat} {cur : Option Nat} {c : Code} {p : List Nat} {Ns : List (List GVal → GHeap → Prop)} {K : Kont Prop} {t : List GVal} {h : GHeap} {i : Nat} {ops : Array Oper} {k : List GVal → GHeap → Prop} {l1 l2 : List Nat} (hs : sub c p = .region i ops true) (hd : drawOk P ops = true ∧ dorder P ops = l1 ++ l2) (hr : inRange ops t = true) (hk : (subK P gl cur c p Ns K).nrm = k) :
    pt P gl cur c p Ns K t h = gdrK (algS P gl) P gl ops l1 [] t h fun rs t h => gdr P gl (algS P gl) ops l2 rs t h k := by
  rw [pt_draw hs hd.1 hd.2 hr, hk]; exact gdr_split _ _ _ _ _ _ _ _ _ _
end Gh

/- Ranges over functions: the statement, and a round. -/
namespace Gh
open Go
set_option linter.unusedVariables false
noncomputable def rfBd : Code → Code
  | .rangeFunc _ _ _ bd => bd
  | c => c
noncomputable def rfAs : Code → Code
  | .rangeFunc _ _ as_ _ => as_
  | c => c
noncomputable def rfPs : Code → Array Tmp
  | .rangeFunc _ ps _ _ => ps
  | _ => #[]
section
variable {P : Program} {gl : Nat → Option Nat} {c : Code} {p : List Nat} {Ns : List (List GVal → GHeap → Prop)} {K : Kont Prop} {t : List GVal} {h : GHeap}
/-- The statement: its function is called with a loop, and then the loop ends. -/
theorem pt_range {f : Operand} {ps : Array Tmp} {as_ bd : Code} {g : FuncId} {first captured : List GVal} (hs : sub c p = .rangeFunc f ps as_ bd) (hf : gev gl t f = .func (.func g) first captured) (hc : callable P g = true) (hk : resKd P g = .tup [])
    (hx : CallsG P gl g (first ++ [.func (.yield h.length) [] []] ++ captured) (h ++ [.loop .ready none t ps as_ bd]) fun r h' => r = .tuple [] ∧ gendLoop (algS P gl) (subK P gl none c p Ns K) h.length t h') :
    pt P gl none c p Ns K t h := by
  unfold pt; rw [hs]
  show (match true with
    | true =>
      match gev gl t f with
      | .func (.func g) first captured =>
        if callable P g then (algS P gl).call g (first ++ [.func (.yield h.length) [] []] ++ captured) (h ++ [.loop .ready none t ps as_ bd]) fun _ h' => gendLoop (algS P gl) (subK P gl none c p Ns K) h.length t h'
        else (algS P gl).fail
      | _ => (algS P gl).fail
    | false => (algS P gl).fail)
  rw [hf]
  dsimp only
  rw [if_pos hc]
  refine CallsG.mono hx ?_
  rintro r h' ⟨rfl, hg⟩
  rw [hk]
  rw [kfit_tup, gTup_tuple, kfits_nil, gNil_nil]
  exact (vsplit_iff (k := fun _ => gendLoop (algS P gl) (subK P gl none c p Ns K) h.length t h')).2 hg
theorem gendLoop_none {l : Nat} {st : LoopState} {tm : List GVal} {ps : Array Tmp} {as_ bd : Code} (hl : h[l]? = some (.loop st none tm ps as_ bd)) (hst : st ≠ .busy) (hx : K.nrm t (h.set l (.loop .exhausted none tm ps as_ bd))) : gendLoop (algS P gl) K l t h := by
  unfold gendLoop; rw [hl]; dsimp only; rw [if_neg hst]; exact hx
theorem gendLoop_ret {l : Nat} {st : LoopState} {tm : List GVal} {ps : Array Tmp} {as_ bd : Code} (hl : h[l]? = some (.loop st (some .ret) tm ps as_ bd)) (hst : st ≠ .busy) (hx : K.ret t (h.set l (.loop .exhausted (some .ret) tm ps as_ bd))) : gendLoop (algS P gl) K l t h := by
  unfold gendLoop; rw [hl]; dsimp only; rw [if_neg hst]; exact hx
theorem gendLoop_exit {l i : Nat} {st : LoopState} {tm : List GVal} {ps : Array Tmp} {as_ bd : Code} (hl : h[l]? = some (.loop st (some (.exit i)) tm ps as_ bd)) (hst : st ≠ .busy) (hx : K.ext i t (h.set l (.loop .exhausted (some (.exit i)) tm ps as_ bd))) : gendLoop (algS P gl) K l t h := by
  unfold gendLoop; rw [hl]; dsimp only; rw [if_neg hst]; exact hx

/-- The ways out of a round's body. -/
noncomputable def KB (P : Program) (gl : Nat → Option Nat) (l : Nat) (Q : GVal → GHeap → Prop) : Kont Prop :=
  { nrm := fun _ h => gendRound (algS P gl) l none Q h, ext := fun id _ h => gendRound (algS P gl) l (some (.exit id)) Q h, ret := fun _ h => gendRound (algS P gl) l (some .ret) Q h }
theorem gendRound_at {l : Nat} {jump : Option Code} {st : LoopState} {pd : Option Code} {tm : List GVal} {ps : Array Tmp} {as_ bd : Code} {Q : GVal → GHeap → Prop} (hl : h[l]? = some (.loop st pd tm ps as_ bd))
    (hq : Q (.bool jump.isNone) (h.set l (.loop (if jump.isNone then .ready else .done) jump tm ps as_ bd))) : gendRound (algS P gl) l jump Q h := by
  unfold gendRound; rw [hl]; exact hq
/-- A round: the assignment, then the body. -/
theorem round_at (hD : DrawSound P gl) {l : Nat} {args : List GVal} {pd : Option Code} {tm : List GVal} {ps : Array Tmp} {as_ bd : Code} {Q : GVal → GHeap → Prop} (hl : h[l]? = some (.loop .ready pd tm ps as_ bd)) (hlen : args.length = ps.size)
    (hx : gcode P gl (algS P gl) (some l) as_
      { nrm := fun t h => ∃ pd' tm' ps' as' bd', h[l]? = some (.loop .ready pd' tm' ps' as' bd') ∧ gcode P gl (algS P gl) (some l) bd (KB P gl l Q) t (h.set l (.loop .busy pd' tm' ps' as' bd')), ext := fun _ _ _ => False, ret := fun _ _ => False } (gsets tm ps.toList args) h) :
    RoundG P gl l args h Q := by
  refine ground_sound hD ?_
  unfold ground
  rw [hl]
  dsimp only
  rw [if_pos hlen]
  refine gcode_hom algS_hom (some l) as_ _ _ ?_ _ _ hx
  refine KHom.mk ?_ (fun i t h hh => hh.elim) (fun t h hh => hh.elim)
  rintro t h ⟨pd', tm', ps', as', bd', h1, h2⟩
  dsimp only
  rw [h1]
  dsimp only
  have hend : ∀ (jump : Option Code) (h : GHeap), gendRound (algS P gl) l jump Q h → gendRound (propAlg P gl) l jump Q h := by
    intro jump h hh
    unfold gendRound at hh ⊢
    split at hh
    · exact hh
    · exact hh.elim
  refine gcode_hom algS_hom (some l) bd (KB P gl l Q) _ ?_ _ _ h2
  exact KHom.mk (fun t h => hend none h) (fun i t h => hend _ h) (fun t h => hend _ h)
end
end Gh

/- Calls that are known: looked up by their pictures. -/
namespace Gh
open Go
set_option linter.unusedVariables false
mutual
theorem GVal.beq_eq : (a b : GVal) → GVal.beq a b = true → a = b
  | .undef, b, h => by cases b <;> first | rfl | (simp [GVal.beq] at h)
  | .bool x, b, h => by cases b <;> simp [GVal.beq] at h; subst h; rfl
  | .int k n, b, h => by cases b <;> simp [GVal.beq] at h; obtain ⟨rfl, rfl⟩ := h; rfl
  | .str s, b, h => by cases b <;> simp [GVal.beq] at h; subst h; rfl
  | .ptr x, b, h => by cases b <;> simp [GVal.beq] at h; subst h; rfl
  | .slice x n c o, b, h => by cases b <;> simp [GVal.beq] at h; obtain ⟨⟨⟨rfl, rfl⟩, rfl⟩, rfl⟩ := h; rfl
  | .map x, b, h => by cases b <;> simp [GVal.beq] at h; subst h; rfl
  | .func f x y, b, h => by
    cases b <;> simp [GVal.beq] at h
    rename_i g x' y'
    obtain ⟨⟨rfl, h1⟩, h2⟩ := h
    rw [GVal.beqs_eq x x' h1, GVal.beqs_eq y y' h2]
  | .nilFunc, b, h => by cases b <;> first | rfl | (simp [GVal.beq] at h)
  | .iface t x, b, h => by
    cases b <;> simp [GVal.beq] at h
    rename_i t' x'
    obtain ⟨rfl, h1⟩ := h
    rw [GVal.beq_eq x x' h1]
  | .nilIface, b, h => by cases b <;> first | rfl | (simp [GVal.beq] at h)
  | .agg x, b, h => by
    cases b <;> simp [GVal.beq] at h
    rename_i x'
    rw [GVal.beqs_eq x x' h]
  | .tuple x, b, h => by
    cases b <;> simp [GVal.beq] at h
    rename_i x'
    rw [GVal.beqs_eq x x' h]
theorem GVal.beqs_eq : (a b : List GVal) → GVal.beqs a b = true → a = b
  | [], b, h => by cases b <;> first | rfl | (simp [GVal.beqs] at h)
  | x :: xs, b, h => by
    cases b <;> simp [GVal.beqs] at h
    rename_i y ys
    rw [GVal.beq_eq x y h.1, GVal.beqs_eq xs ys h.2]
end
noncomputable def GObj.same : GObj → GObj → Bool
  | .cells a m, .cells b n => GVal.beqs a b && decide (m = n)
  | _, _ => false
theorem GObj.same_eq {a b : GObj} (h : GObj.same a b = true) : a = b := by
  cases a <;> cases b <;> simp [GObj.same] at h
  rw [GVal.beqs_eq _ _ h.1, h.2]
noncomputable def sameHeap : GHeap → GHeap → Bool
  | [], [] => true
  | a :: as', b :: bs => GObj.same a b && sameHeap as' bs
  | _, _ => false
theorem sameHeap_eq : ∀ (a b : GHeap), sameHeap a b = true → a = b
  | [], [], _ => rfl
  | [], _ :: _, h => by simp [sameHeap] at h
  | _ :: _, [], h => by simp [sameHeap] at h
  | a :: as', b :: bs, h => by
    simp only [sameHeap, Bool.and_eq_true] at h
    rw [GObj.same_eq h.1, sameHeap_eq as' bs h.2]
structure Known where
  f : FuncId
  args : List GVal
  h : GHeap
  r : GVal
  h' : GHeap
noncomputable def lookK : List Known → FuncId → List GVal → GHeap → Ans
  | [], _, _, _ => none
  | e :: es, f, args, h => bif Nat.beq e.f f && GVal.beqs e.args args && sameHeap e.h h then some (e.r, e.h') else lookK es f args h
noncomputable def viaKnown (k0 : Nat) (es : List Known) (f : FuncId) (args : List GVal) (h : GHeap) : Ans :=
  bif es.any fun e => Nat.beq e.f f then
    (fun rl => bif okPic rl h && allIn (gidss args) rl && firsts k0 rl then
      match lookK es f (rens (fun id => lidx id rl) args) (picHeap rl h) with
      | some (rc, hc') => some (ren (picOf rl (llen h)) rc, putAllF (picOf rl (llen h)) 0 hc' h)
      | none => none
    else none) (reach h 100000 (List.range k0 ++ gidss args) [])
  else none
section
variable {P : Program} {gl : Nat → Option Nat}
theorem lookK_ok : ∀ {es : List Known}, (∀ e ∈ es, CallsG P gl e.f e.args e.h fun a b => (a, b) = (e.r, e.h')) → CallOK P gl (lookK es)
  | [], _, f, args, h, r, hx => by cases hx
  | e :: es, hall, f, args, h, r, hx => by
    unfold lookK at hx
    cases hb : Nat.beq e.f f && GVal.beqs e.args args && sameHeap e.h h with
    | false =>
      rw [hb] at hx
      exact lookK_ok (fun e he => hall e (List.mem_cons_of_mem _ he)) f args h r hx
    | true =>
      rw [hb] at hx
      cases hx
      simp only [Bool.and_eq_true] at hb
      have e1 := Nat.eq_of_beq_eq_true hb.1.1
      have e2 := GVal.beqs_eq _ _ hb.1.2
      have e3 := sameHeap_eq _ _ hb.2
      rw [← e1, ← e2, ← e3]
      exact hall e List.mem_cons_self
theorem viaKnown_ok {k0 : Nat} (hgl : ∀ g id, gl g = some id → id < k0) {es : List Known} (hall : ∀ e ∈ es, CallsG P gl e.f e.args e.h fun a b => (a, b) = (e.r, e.h')) : PrimOK P gl (viaKnown k0 es) := by
  intro f args h r hx
  unfold viaKnown at hx
  cases ha : es.any fun e => Nat.beq e.f f with
  | false => rw [ha] at hx; cases hx
  | true =>
    rw [ha] at hx
    simp only [cond_true] at hx
    generalize reach h 100000 (List.range k0 ++ gidss args) [] = rl at hx
    cases hk : okPic rl h && allIn (gidss args) rl && firsts k0 rl with
    | false => rw [hk] at hx; cases hx
    | true =>
      rw [hk] at hx
      simp only [cond_true] at hx
      simp only [Bool.and_eq_true] at hk
      cases ho : lookK es f (rens (fun id => lidx id rl) args) (picHeap rl h) with
      | none => rw [ho] at hx; cases hx
      | some x =>
        obtain ⟨rc, hc'⟩ := x
        rw [ho] at hx
        cases hx
        rw [putAllF_eq, llen_eq]
        exact CallsG.pic (fun g id hg => firsts_get hk.2 id (hgl g id hg)) hk.1.1 hk.1.2 (lookK_ok hall _ _ _ _ ho)
end
end Gh

/- Inputs that are only read: the ghost's heap for them; what stands behind the call. -/
namespace Gh
open Go RowKit
set_option linter.unusedVariables false
/-- A piece of memory that is only read. -/
structure Piece where
  L : Loc
  cs : List GVal
def mOf (ps : List Piece) : Mp := fun i => (ps[i]?).map (·.L)
def hOf (ps : List Piece) : GHeap := ps.map fun p => .cells p.cs .ro
def Piece.ok (W : World) (p : Piece) : Prop := ∃ c elem fr, W.heap[p.L.block]? = some (.cells c elem fr) ∧ c.size = p.L.size ∧ p.L.base + p.cs.length ≤ c.size ∧ ∀ (j : Nat) (g : GVal), p.cs[j]? = some g → ∃ v, c[p.L.base + j]? = some v ∧ ∀ m, VR m g v
theorem ro_rep {gl : Nat → Option Nat} {W : World} {ps : List Piece} (hp : ∀ p ∈ ps, p.ok W) (hgl : ∀ g id, gl g = some id → ∃ p, ps[id]? = some p ∧ p.L.block = g ∧ p.L.base = 0) : Rep gl (mOf ps) (hOf ps) W := by
  have get : ∀ {i : Nat} {L : Loc}, mOf ps i = some L → ∃ p, ps[i]? = some p ∧ p.L = L := by
    intro i L h
    simp only [mOf, Option.map_eq_some_iff] at h
    exact h
  refine ⟨fun id L h => ?_, fun id L h => ?_, fun id L o h ho => ?_, fun i j L L' a b h h' ha hb hw _ _ => ?_, fun g id h => ?_⟩
  · obtain ⟨p, h1, _⟩ := get h
    simpa [hOf] using (List.getElem?_eq_some_iff.1 h1).1
  · obtain ⟨p, h1, rfl⟩ := get h
    obtain ⟨c, e, fr, h2, _⟩ := hp p (List.mem_of_getElem? h1)
    rcases Nat.lt_or_ge p.L.block W.heap.size with h3 | h3
    · exact h3
    · rw [Array.getElem?_eq_none h3] at h2; cases h2
  · obtain ⟨p, h1, rfl⟩ := get h
    obtain ⟨c, e, fr, h2, h3, h4, h5⟩ := hp p (List.mem_of_getElem? h1)
    simp only [hOf, List.getElem?_map, h1, Option.map_some, Option.some.injEq] at ho
    subst ho
    exact ⟨_, h2, c, e, fr, rfl, h3, h4, fun i g hg => let ⟨v, q1, q2⟩ := h5 i g hg; ⟨v, q1, q2 _⟩, trivial⟩
  · obtain ⟨p, h1, _⟩ := get h
    simp only [hOf, List.getElem?_map, h1, Option.map_some, Option.some.injEq] at ha
    subst ha
    simp [GObj.wr] at hw
  · obtain ⟨p, h1, h2, h3⟩ := hgl g id h
    exact ⟨p.L, by simp [mOf, h1], h2, h3⟩
theorem hOf_ro {ps : List Piece} {i : Nat} {o : GObj} (h : (hOf ps)[i]? = some o) : o.wr = false := by
  simp only [hOf, List.getElem?_map, Option.map_eq_some_iff] at h
  obtain ⟨p, _, rfl⟩ := h
  rfl
/-- What stands behind a call that only reads. -/
structure StandsBy (W W' : World) : Prop where
  os : W'.os = W.os
  out : W'.output = W.output
  size : W.heap.size ≤ W'.heap.size
  block : ∀ b : Nat, b < W.heap.size → W'.heap[b]? = W.heap[b]?
theorem StandsBy.kept {W W' : World} (s : StandsBy W W') (may : MemPlace → Prop) : W.keptBut W' may := by
  refine ⟨s.os, s.out, fun i hi => ?_⟩
  rw [s.block i hi]
  split <;> simp_all
theorem StandsBy.trod {H : Type} {enc : TypeId × Value → H} {P : Program} {t : TypeId} (hl : laidOutB P = true) (hr : P.readableRec t = true) (hrow : t < P.types.size) {W W' : World} {v : Value} {d : DataW H} {ps : List MemPlace}
    (h : DataW.Trod enc P W 0 (fun _ => true) true t v d ps) (s : StandsBy W W') (hlt : ∀ x ∈ ps, x.block < W.heap.size) : DataW.Trod enc P W' 0 (fun b => decide (b < W.heap.size)) true t v d ps := by
  have hb : Below W.heap.size W { W' with tape := W.tape } := ⟨s.os, rfl, s.out, s.size, s.block⟩
  obtain ⟨n, hn⟩ := Below.trod hl hr hrow h hb hlt
  exact ⟨n, by rw [← DataW.trod_heap (w := { W' with tape := W.tape }) (w' := W') rfl]; exact hn⟩
theorem roLaw {P : Program} {gl : Nat → Option Nat} {f : FuncId} {args : List GVal} {vs : List Value} {W : World} {ps : List Piece} (hp : ∀ p ∈ ps, p.ok W) (hgl : ∀ g id, gl g = some id → ∃ p, ps[id]? = some p ∧ p.L.block = g ∧ p.L.base = 0)
    (hx : CallsG P gl f args (hOf ps) fun r _ => r = .bool true) (hv : VRs (mOf ps) args vs) : Calls P f vs.toArray W fun e W' => e = .returned (.bool true) ∧ StandsBy W W' := by
  refine (hx (mOf ps) W vs (ro_rep hp hgl) hv).mono ?_
  rintro e w' ⟨r, v, h', m', rfl, rfl, q2, _, q4⟩
  simp only [VR] at q2
  subst q2
  refine ⟨rfl, q4.os, q4.out, q4.size, fun b hb => q4.keep b hb fun i L o h1 h2 h3 => ?_⟩
  rw [hOf_ro h2] at h3; cases h3
end Gh

