/- A call on a small heap holds beside any heap; no condition. -/
import Derived.Test.YtkcjbgepmkhdaaaGreatDoorGc
set_option linter.unusedSimpArgs false
set_option linter.unusedVariables false
/- The frame rule: what a call does beside a small heap it does beside any heap that holds it. -/
namespace Gh
open Go

def renFn (ρ : Nat → Nat) : Fn → Fn
  | .yield l => .yield (ρ l)
  | f => f
mutual
noncomputable def ren (ρ : Nat → Nat) : GVal → GVal
  | .ptr (some (id, off)) => .ptr (some (ρ id, off))
  | .slice (some (id, off)) n c o => .slice (some (ρ id, off)) n c o
  | .map (some id) => .map (some (ρ id))
  | .func f a c => .func (renFn ρ f) (rens ρ a) (rens ρ c)
  | .iface t v => .iface t (ren ρ v)
  | .agg l => .agg (rens ρ l)
  | .tuple l => .tuple (rens ρ l)
  | v => v
noncomputable def rens (ρ : Nat → Nat) : List GVal → List GVal
  | [] => []
  | v :: vs => ren ρ v :: rens ρ vs
end
noncomputable def renEs (ρ : Nat → Nat) : List (GVal × GVal) → List (GVal × GVal)
  | [] => []
  | (k, v) :: es => (ren ρ k, ren ρ v) :: renEs ρ es
noncomputable def renObj (ρ : Nat → Nat) : GObj → GObj
  | .cells cs mode => .cells (rens ρ cs) mode
  | .map es ro => .map (renEs ρ es) ro
  | .loop st pd tm ps as_ bd => .loop st pd (rens ρ tm) ps as_ bd
  | o => o

theorem rens_length (ρ : Nat → Nat) : ∀ l, (rens ρ l).length = l.length
  | [] => rfl
  | v :: vs => by simp [rens, rens_length ρ vs]
theorem rens_get (ρ : Nat → Nat) : ∀ (l : List GVal) (i : Nat), (rens ρ l)[i]? = (l[i]?).map (ren ρ)
  | [], i => by simp [rens]
  | v :: vs, i => by
    cases i with
    | zero => simp [rens]
    | succ i => simp [rens, rens_get ρ vs i]
theorem renObj_wr (ρ : Nat → Nat) (o : GObj) : (renObj ρ o).wr = o.wr := by cases o <;> rfl
theorem renObj_live (ρ : Nat → Nat) (o : GObj) : (renObj ρ o).live = o.live := by cases o <;> rfl

theorem FnR_ren {m : Mp} {ρ : Nat → Nat} {f g : Fn} : FnR m (renFn ρ f) g ↔ FnR (fun i => m (ρ i)) f g := by
  cases f <;> rfl
mutual
theorem VR_ren {m : Mp} {ρ : Nat → Nat} : (g : GVal) → (v : Value) → (VR m (ren ρ g) v ↔ VR (fun i => m (ρ i)) g v)
  | .undef, _ => Iff.rfl
  | .bool _, _ => Iff.rfl
  | .int _ _, _ => Iff.rfl
  | .str _, _ => Iff.rfl
  | .ptr none, _ => Iff.rfl
  | .ptr (some (_, _)), _ => Iff.rfl
  | .slice none _ _ _, _ => Iff.rfl
  | .slice (some (_, _)) _ _ _, _ => Iff.rfl
  | .map none, _ => Iff.rfl
  | .map (some _), _ => Iff.rfl
  | .func f a c, v => by
    show (∃ fn' f' c', v = .func fn' (List.toArray f') (List.toArray c') ∧ FnR m (renFn ρ f) fn' ∧ VRs m (rens ρ a) f' ∧ VRs m (rens ρ c) c') ↔
      (∃ fn' f' c', v = .func fn' (List.toArray f') (List.toArray c') ∧ FnR (fun i => m (ρ i)) f fn' ∧ VRs (fun i => m (ρ i)) a f' ∧ VRs (fun i => m (ρ i)) c c')
    constructor
    · rintro ⟨fn', f', c', h1, h2, h3, h4⟩
      exact ⟨fn', f', c', h1, FnR_ren.1 h2, (VRs_ren a f').1 h3, (VRs_ren c c').1 h4⟩
    · rintro ⟨fn', f', c', h1, h2, h3, h4⟩
      exact ⟨fn', f', c', h1, FnR_ren.2 h2, (VRs_ren a f').2 h3, (VRs_ren c c').2 h4⟩
  | .nilFunc, _ => Iff.rfl
  | .iface t g, v => by
    show (∃ v', v = .iface t v' ∧ VR m (ren ρ g) v') ↔ (∃ v', v = .iface t v' ∧ VR (fun i => m (ρ i)) g v')
    constructor
    · rintro ⟨v', h1, h2⟩; exact ⟨v', h1, (VR_ren g v').1 h2⟩
    · rintro ⟨v', h1, h2⟩; exact ⟨v', h1, (VR_ren g v').2 h2⟩
  | .nilIface, _ => Iff.rfl
  | .agg l, v => by
    show (∃ c, v = .agg (List.toArray c) ∧ VRs m (rens ρ l) c) ↔ (∃ c, v = .agg (List.toArray c) ∧ VRs (fun i => m (ρ i)) l c)
    constructor
    · rintro ⟨c, h1, h2⟩; exact ⟨c, h1, (VRs_ren l c).1 h2⟩
    · rintro ⟨c, h1, h2⟩; exact ⟨c, h1, (VRs_ren l c).2 h2⟩
  | .tuple l, v => by
    show (∃ c, v = .tuple (List.toArray c) ∧ VRs m (rens ρ l) c) ↔ (∃ c, v = .tuple (List.toArray c) ∧ VRs (fun i => m (ρ i)) l c)
    constructor
    · rintro ⟨c, h1, h2⟩; exact ⟨c, h1, (VRs_ren l c).1 h2⟩
    · rintro ⟨c, h1, h2⟩; exact ⟨c, h1, (VRs_ren l c).2 h2⟩
theorem VRs_ren {m : Mp} {ρ : Nat → Nat} : (g : List GVal) → (v : List Value) → (VRs m (rens ρ g) v ↔ VRs (fun i => m (ρ i)) g v)
  | [], _ => Iff.rfl
  | x :: xs, v => by
    show (∃ y ys, v = y :: ys ∧ VR m (ren ρ x) y ∧ VRs m (rens ρ xs) ys) ↔ (∃ y ys, v = y :: ys ∧ VR (fun i => m (ρ i)) x y ∧ VRs (fun i => m (ρ i)) xs ys)
    constructor
    · rintro ⟨y, ys, h1, h2, h3⟩; exact ⟨y, ys, h1, (VR_ren x y).1 h2, (VRs_ren xs ys).1 h3⟩
    · rintro ⟨y, ys, h1, h2, h3⟩; exact ⟨y, ys, h1, (VR_ren x y).2 h2, (VRs_ren xs ys).2 h3⟩
end
theorem ERel_ren {m : Mp} {ρ : Nat → Nat} : (es : List (GVal × GVal)) → (l : List MapEntry) → (ERel m (renEs ρ es) l ↔ ERel (fun i => m (ρ i)) es l)
  | [], _ => Iff.rfl
  | (k, v) :: es, l => by
    show (∃ e rest, l = e :: rest ∧ VR m (ren ρ k) e.key ∧ VR m (ren ρ v) e.val ∧ ERel m (renEs ρ es) rest) ↔ (∃ e rest, l = e :: rest ∧ VR (fun i => m (ρ i)) k e.key ∧ VR (fun i => m (ρ i)) v e.val ∧ ERel (fun i => m (ρ i)) es rest)
    constructor
    · rintro ⟨e, rest, h1, h2, h3, h4⟩; exact ⟨e, rest, h1, (VR_ren k _).1 h2, (VR_ren v _).1 h3, (ERel_ren es rest).1 h4⟩
    · rintro ⟨e, rest, h1, h2, h3, h4⟩; exact ⟨e, rest, h1, (VR_ren k _).2 h2, (VR_ren v _).2 h3, (ERel_ren es rest).2 h4⟩
theorem ORel_ren {m : Mp} {ρ : Nat → Nat} {L : Loc} (o : GObj) (O : Obj) : ORel m L (renObj ρ o) O ↔ ORel (fun i => m (ρ i)) L o O := by
  cases o with
  | dead => exact Iff.rfl
  | siter s p => exact Iff.rfl
  | map es ro =>
    show (∃ es' clock, O = .map es' clock ∧ ERel m (renEs ρ es) es'.toList) ↔ (∃ es' clock, O = .map es' clock ∧ ERel (fun i => m (ρ i)) es es'.toList)
    constructor
    · rintro ⟨a, b, h1, h2⟩; exact ⟨a, b, h1, (ERel_ren es _).1 h2⟩
    · rintro ⟨a, b, h1, h2⟩; exact ⟨a, b, h1, (ERel_ren es _).2 h2⟩
  | loop st pd tm ps as_ bd =>
    constructor
    · rintro ⟨l, h1, h2, h3, h4, h5⟩; exact ⟨l, h1, h2, h3, (VRs_ren tm _).1 h4, h5⟩
    · rintro ⟨l, h1, h2, h3, h4, h5⟩; exact ⟨l, h1, h2, h3, (VRs_ren tm _).2 h4, h5⟩
  | cells cs mode =>
    constructor
    · rintro ⟨c, e, fr, h1, h2, h3, h4, h5⟩
      refine ⟨c, e, fr, h1, h2, by rw [rens_length] at h3; exact h3, fun i g hg => ?_, h5⟩
      obtain ⟨v, g1, g2⟩ := h4 i (ren ρ g) (by rw [rens_get, hg]; rfl)
      exact ⟨v, g1, (VR_ren g v).1 g2⟩
    · rintro ⟨c, e, fr, h1, h2, h3, h4, h5⟩
      refine ⟨c, e, fr, h1, h2, by rw [rens_length]; exact h3, fun i g hg => ?_, h5⟩
      rw [rens_get] at hg
      simp only [Option.map_eq_some_iff] at hg
      obtain ⟨g', hg', rfl⟩ := hg
      obtain ⟨v, g1, g2⟩ := h4 i g' hg'
      exact ⟨v, g1, (VR_ren g' v).2 g2⟩

/-- A place for a small heap in a great one. -/
structure Inside (gl : Nat → Option Nat) (ρ : Nat → Nat) (hc h : GHeap) : Prop where
  inj : ∀ i j, i < hc.length → j < hc.length → ρ i = ρ j → i = j
  low : ∀ i, i < hc.length → ρ i < h.length
  high : ∀ i, hc.length ≤ i → ρ i = h.length + (i - hc.length)
  same : ∀ (i : Nat) (o : GObj), hc[i]? = some o → h[ρ i]? = some (renObj ρ o)
  glob : ∀ g id, gl g = some id → ρ id = id
/-- What the great heap is behind the call. -/
structure Merged (ρ : Nat → Nat) (hc hc' h h' : GHeap) : Prop where
  len : h'.length = h.length + (hc'.length - hc.length)
  img : ∀ i, h'[ρ i]? = (hc'[i]?).map (renObj ρ)
  out : ∀ id, id < h.length → (∀ i, i < hc.length → ρ i ≠ id) → h'[id]? = h[id]?

noncomputable def putAll (ρ : Nat → Nat) : Nat → List GObj → GHeap → GHeap
  | _, [], h => h
  | i, o :: os, h => putAll ρ (i + 1) os (if ρ i < h.length then h.set (ρ i) (renObj ρ o) else h ++ [renObj ρ o])

theorem putAll_merged {gl : Nat → Option Nat} {ρ : Nat → Nat} {hc hc' h : GHeap} (I : Inside gl ρ hc h) (hk : hc.length ≤ hc'.length) : ∀ (os : List GObj) (i : Nat) (hi : GHeap), hc'.drop i = os → i ≤ hc'.length →
    hi.length = h.length + (i - hc.length) → (∀ j, j < i → hi[ρ j]? = (hc'[j]?).map (renObj ρ)) → (∀ id, id < h.length → (∀ j, j < i → j < hc.length → ρ j ≠ id) → hi[id]? = h[id]?) → Merged ρ hc hc' h (putAll ρ i os hi) := by
  have inj' : ∀ a b, ρ a = ρ b → a = b := by
    intro a b e
    rcases Nat.lt_or_ge a hc.length with h1 | h1 <;> rcases Nat.lt_or_ge b hc.length with h2 | h2
    · exact I.inj a b h1 h2 e
    · have := I.low a h1; have := I.high b h2; omega
    · have := I.low b h2; have := I.high a h1; omega
    · have := I.high a h1; have := I.high b h2; omega
  intro os
  induction os with
  | nil =>
    intro i hi hd hle hlen himg hout
    have hie : i = hc'.length := by
      have := congrArg List.length hd
      simp at this; omega
    subst hie
    refine ⟨hlen, fun j => ?_, fun id hid hn => hout id hid fun j _ hj => hn j hj⟩
    rcases Nat.lt_or_ge j hc'.length with h1 | h1
    · exact himg j h1
    · rw [List.getElem?_eq_none h1]
      have := I.high j (by omega)
      simp only [putAll]
      rw [List.getElem?_eq_none (by omega)]; rfl
  | cons o os ih =>
    intro i hi hd hle hlen himg hout
    have ho : hc'[i]? = some o := by
      have := congrArg (fun l => l[0]?) hd
      simpa using this
    have hilt : i < hc'.length := (List.getElem?_eq_some_iff.1 ho).1
    have hd' : hc'.drop (i + 1) = os := by
      have := congrArg List.tail hd
      simpa [List.tail_drop] using this
    simp only [putAll]
    rcases Nat.lt_or_ge i hc.length with hik | hik
    · have hlow := I.low i hik
      rw [if_pos (by omega)]
      refine ih (i + 1) _ hd' (by omega) (by simp; omega) ?_ ?_
      · intro j hj
        by_cases e : j = i
        · subst e
          rw [List.getElem?_set_self (by omega), ho]; rfl
        · rw [List.getElem?_set_ne (fun e' => e (inj' _ _ e'.symm))]
          exact himg j (by omega)
      · intro id hid hn
        rw [List.getElem?_set_ne (hn i (by omega) hik)]
        exact hout id hid fun j hj hjk => hn j (by omega) hjk
    · have hhigh := I.high i hik
      rw [if_neg (by omega)]
      refine ih (i + 1) _ hd' (by omega) (by simp; omega) ?_ ?_
      · intro j hj
        by_cases e : j = i
        · subst e
          rw [ho, hhigh, show h.length + (j - hc.length) = hi.length from by omega]
          simp
        · have hj' : j < i := by omega
          have := himg j hj'
          rw [List.getElem?_append_left]
          · exact this
          · have hjl : j < hc'.length := by omega
            rw [List.getElem?_eq_getElem hjl] at this
            simp only [Option.map_some] at this
            exact (List.getElem?_eq_some_iff.1 this).1
      · intro id hid hn
        rw [List.getElem?_append_left (by omega)]
        exact hout id hid fun j hj hjk => hn j (by omega) hjk
theorem merge_merged {gl : Nat → Option Nat} {ρ : Nat → Nat} {hc hc' h : GHeap} (I : Inside gl ρ hc h) (hk : hc.length ≤ hc'.length) : Merged ρ hc hc' h (putAll ρ 0 hc' h) :=
  putAll_merged I hk hc' 0 h rfl (Nat.zero_le _) (by simp) (fun j hj => by omega) (fun _ _ _ => rfl)

/-- A number in the great heap: in the picture, or not. -/
theorem Inside.cases {gl : Nat → Option Nat} {ρ : Nat → Nat} {hc h : GHeap} (I : Inside gl ρ hc h) (id : Nat) : (∃ i, id = ρ i) ∨ (id < h.length ∧ ∀ i, i < hc.length → ρ i ≠ id) := by
  rcases Nat.lt_or_ge id h.length with h1 | h1
  · by_cases hx : ∃ i, i < hc.length ∧ ρ i = id
    · obtain ⟨i, _, h3⟩ := hx; exact .inl ⟨i, h3.symm⟩
    · exact .inr ⟨h1, fun i hi e => hx ⟨i, hi, e⟩⟩
  · refine .inl ⟨id - h.length + hc.length, ?_⟩
    rw [I.high _ (by omega)]; omega

theorem CallsG.frame {P : Program} {gl : Nat → Option Nat} {f : FuncId} {args : List GVal} {hc h : GHeap} {ρ : Nat → Nat} {Q : GVal → GHeap → Prop} (I : Inside gl ρ hc h) (hx : CallsG P gl f args hc Q) :
    CallsG P gl f (rens ρ args) h fun r h' => ∃ rc hc', Q rc hc' ∧ r = ren ρ rc ∧ h' = putAll ρ 0 hc' h ∧ Merged ρ hc hc' h h' := by
  intro m w vs R hv
  let mc : Mp := fun i => m (ρ i)
  have mlow : ∀ i L, mc i = some L → i < hc.length := by
    intro i L hL
    rcases Nat.lt_or_ge i hc.length with h1 | h1
    · exact h1
    · have h2 := R.dom _ L hL; have h3 := I.high i h1; omega
  have sub : ∀ (i : Nat) (L : Loc) (o : GObj), mc i = some L → hc[i]? = some o → h[ρ i]? = some (renObj ρ o) := fun i L o _ ho => I.same i o ho
  have Rc : Rep gl mc hc w := by
    refine ⟨mlow, fun i L hL => R.here _ L hL, ?_, ?_, ?_⟩
    · intro i L o hL ho
      obtain ⟨o', h1, h2⟩ := R.rel _ L _ hL (I.same i o ho)
      exact ⟨o', h1, (ORel_ren o o').1 h2⟩
    · intro i j L L' a b hi hj ha hb hwa hlb hbl
      exact I.inj i j (mlow i L hi) (mlow j L' hj) (R.inj _ _ L L' _ _ hi hj (I.same i a ha) (I.same j b hb) (by rw [renObj_wr]; exact hwa) (by rw [renObj_live]; exact hlb) hbl)
    · intro g id hg
      obtain ⟨L, h1, h2⟩ := R.glob g id hg
      exact ⟨L, by show m (ρ id) = _; rw [I.glob g id hg]; exact h1, h2⟩
  refine (hx mc w vs Rc ((VRs_ren args vs).1 hv)).mono ?_
  rintro e w' ⟨rc, v, hc', mc', rfl, q, q2, Rc', E⟩
  have M := merge_merged I E.len
  generalize hh : putAll ρ 0 hc' h = h' at M
  let m' : Mp := fun id => if id < h.length then m id else mc' (id - h.length + hc.length)
  have hm' : (fun i => m' (ρ i)) = mc' := by
    funext i
    show (if ρ i < h.length then m (ρ i) else mc' (ρ i - h.length + hc.length)) = mc' i
    rcases Nat.lt_or_ge i hc.length with h1 | h1
    · rw [if_pos (I.low i h1), E.mext i h1]
    · have := I.high i h1
      rw [if_neg (by omega)]
      congr 1; omega
  have hmi : ∀ i, m' (ρ i) = mc' i := fun i => congrFun hm' i
  have hold : ∀ id, id < h.length → m' id = m id := fun id hid => if_pos hid
  have hle : MLe m m' := fun id L hL => by rw [hold id (R.dom id L hL)]; exact hL
  -- what may be written of the small heap
  have wrc : ∀ (i : Nat) (L : Loc) (o : GObj), mc i = some L → hc[i]? = some o → o.wr = true → ∃ o', h[ρ i]? = some o' ∧ o'.wr = true := fun i L o hL ho hw => ⟨_, I.same i o ho, by rw [renObj_wr]; exact hw⟩
  have img : ∀ i o, h'[ρ i]? = some o → ∃ oc, hc'[i]? = some oc ∧ o = renObj ρ oc := by
    intro i o ho
    rw [M.img i] at ho
    simp only [Option.map_eq_some_iff] at ho
    obtain ⟨oc, h1, h2⟩ := ho
    exact ⟨oc, h1, h2.symm⟩
  -- a written object of the small heap stands apart from what is not of it
  have apart : ∀ (i id : Nat) (L L' : Loc) (oc b : GObj), mc' i = some L → hc'[i]? = some oc → oc.wr = true ∨ oc.live = true → m id = some L' → h[id]? = some b → (∀ j, j < hc.length → ρ j ≠ id) →
      (oc.wr = true ∧ b.live = true ∨ oc.live = true ∧ b.wr = true) → L.block ≠ L'.block := by
    intro i id L L' oc b hL hoc _ hid hb hn hor hbl
    have hbl' : b.live = true := by
      rcases hor with h | h
      · exact h.2
      · exact GObj.live_of_wr h.2
    rcases E.new i L hL with hi | hi | ⟨i0, Li, o, g1, g2, g3, g4⟩
    · have hL0 : m (ρ i) = some L := (E.mext i hi).symm.trans hL
      have ho0 : hc[i]? = some hc[i] := List.getElem?_eq_getElem hi
      generalize hc[i] = o0 at ho0
      have h1 := I.same i o0 ho0
      have hst : o0.wr = false → oc = o0 := fun hf => by
        have := E.stay i o0 ho0 hf
        rw [this] at hoc; cases hoc; rfl
      rcases hor with ⟨hw, hl⟩ | ⟨hl, hw⟩
      · have hw0 : o0.wr = true := by
          cases h : o0.wr with
          | true => rfl
          | false => rw [hst h, h] at hw; cases hw
        exact hn i hi (R.inj _ _ L L' _ _ hL0 hid h1 hb (by rw [renObj_wr]; exact hw0) hl hbl)
      · have hl0 : o0.live = true := by
          cases h : o0.wr with
          | true => exact GObj.live_of_wr h
          | false => rw [hst h] at hl; exact hl
        exact hn i hi (R.inj _ _ L' L _ _ hid hL0 hb h1 hw (by rw [renObj_live]; exact hl0) hbl.symm).symm
    · have := R.here id L' hid; omega
    · have h1 := I.same i0 o g2
      exact hn i0 (mlow i0 Li g1) (R.inj _ _ Li L' _ _ g1 hid h1 hb (by rw [renObj_wr]; exact g3) hbl' (g4.trans hbl))
  have R' : Rep gl m' h' w' := by
    refine ⟨?_, ?_, ?_, ?_, ?_⟩
    · intro id L hL
      rcases I.cases id with ⟨i, rfl⟩ | ⟨h1, _⟩
      · rw [hmi] at hL
        have h1 := Rc'.dom i L hL
        have h2 : h'[ρ i]? = some (renObj ρ hc'[i]) := by rw [M.img i, List.getElem?_eq_getElem h1]; rfl
        exact (List.getElem?_eq_some_iff.1 h2).1
      · rw [M.len]; omega
    · intro id L hL
      rcases I.cases id with ⟨i, rfl⟩ | ⟨h1, _⟩
      · rw [hmi] at hL; exact Rc'.here i L hL
      · rw [hold id h1] at hL
        exact Nat.lt_of_lt_of_le (R.here id L hL) E.size
    · intro id L o hL ho
      rcases I.cases id with ⟨i, rfl⟩ | ⟨h1, hn⟩
      · rw [hmi] at hL
        obtain ⟨oc, g1, rfl⟩ := img i o ho
        obtain ⟨o', g2, g3⟩ := Rc'.rel i L oc hL g1
        exact ⟨o', g2, (ORel_ren oc o').2 (by rw [hm']; exact g3)⟩
      · rw [hold id h1] at hL
        rw [M.out id h1 hn] at ho
        obtain ⟨o', g1, g2⟩ := R.rel id L o hL ho
        have hbs := R.here id L hL
        cases hl : o.live with
        | true =>
          refine ⟨o', ?_, g2.mono hle⟩
          rw [E.keep L.block hbs fun i Li oi k1 k2 k3 k4 => ?_]
          · exact g1
          · exact hn i (mlow i Li k1) (R.inj _ _ Li L _ _ k1 hL (I.same i oi k2) ho (by rw [renObj_wr]; exact k3) hl k4)
        | false =>
          cases o <;> simp [GObj.live] at hl
          have hb : L.block < w'.heap.size := Nat.lt_of_lt_of_le hbs E.size
          exact ⟨w'.heap[L.block], Array.getElem?_eq_getElem hb, trivial⟩
    · intro i j L L' a b hi hj ha hb hwa hlb hbl
      rcases I.cases i with ⟨ci, rfl⟩ | ⟨h1, hn1⟩ <;> rcases I.cases j with ⟨cj, rfl⟩ | ⟨h2, hn2⟩
      · rw [hmi] at hi hj
        obtain ⟨oa, g1, rfl⟩ := img ci a ha
        obtain ⟨ob, g2, rfl⟩ := img cj b hb
        rw [renObj_wr] at hwa; rw [renObj_live] at hlb
        rw [Rc'.inj ci cj L L' oa ob hi hj g1 g2 hwa hlb hbl]
      · rw [hmi] at hi
        obtain ⟨oa, g1, rfl⟩ := img ci a ha
        rw [hold j h2] at hj
        rw [M.out j h2 hn2] at hb
        rw [renObj_wr] at hwa
        exact absurd hbl (apart ci j L L' oa b hi g1 (.inl hwa) hj hb hn2 (.inl ⟨hwa, hlb⟩))
      · rw [hmi] at hj
        obtain ⟨ob, g2, rfl⟩ := img cj b hb
        rw [hold i h1] at hi
        rw [M.out i h1 hn1] at ha
        rw [renObj_live] at hlb
        exact absurd hbl.symm (apart cj i L' L ob a hj g2 (.inr hlb) hi ha hn1 (.inr ⟨hlb, hwa⟩))
      · rw [hold i h1] at hi; rw [hold j h2] at hj
        rw [M.out i h1 hn1] at ha; rw [M.out j h2 hn2] at hb
        exact R.inj i j L L' a b hi hj ha hb hwa hlb hbl
    · intro g id hg
      obtain ⟨L, h1, h2⟩ := R.glob g id hg
      exact ⟨L, hle _ _ h1, h2⟩
  refine ⟨ren ρ rc, v, h', m', rfl, ⟨rc, hc', q, rfl, hh.symm, M⟩, (VR_ren rc v).2 (by rw [hm']; exact q2), R', ?_⟩
  refine ⟨E.size, E.os, E.out, by rw [M.len]; omega, fun id hid => hold id hid, ?_, ?_, ?_, ?_⟩
  · intro id L hL
    rcases Nat.lt_or_ge id h.length with h1 | h1
    · exact .inl h1
    · rcases I.cases id with ⟨i, rfl⟩ | ⟨h2, _⟩
      · rw [hmi] at hL
        rcases E.new i L hL with hi | hi | ⟨i0, Li, o, g1, g2, g3, g4⟩
        · have := I.low i hi; omega
        · exact .inr (.inl hi)
        · exact .inr (.inr ⟨ρ i0, Li, _, g1, I.same i0 o g2, by rw [renObj_wr]; exact g3, g4⟩)
      · omega
  · intro bl hb hno
    refine E.keep bl hb fun i L o h1 h2 h3 => ?_
    exact hno (ρ i) L _ h1 (I.same i o h2) (by rw [renObj_wr]; exact h3)
  · intro id o ho hf
    rcases I.cases id with ⟨i, rfl⟩ | ⟨h1, hn⟩
    · have hlt := (List.getElem?_eq_some_iff.1 ho).1
      have hi : i < hc.length := by
        rcases Nat.lt_or_ge i hc.length with h1 | h1
        · exact h1
        · have := I.high i h1; omega
      have ho0 : hc[i]? = some hc[i] := List.getElem?_eq_getElem hi
      have h1 := I.same i _ ho0
      rw [h1] at ho; cases ho
      rw [renObj_wr] at hf
      rw [M.img i, E.stay i _ ho0 hf]; rfl
    · rw [M.out id h1 hn]; exact ho
  · intro id hid hn0
    rcases I.cases id with ⟨i, rfl⟩ | ⟨h1, hn⟩
    · have hi : i < hc.length := by
        rcases Nat.lt_or_ge i hc.length with h1 | h1
        · exact h1
        · have := I.high i h1; omega
      rw [M.img i, E.virt i hi hn0, List.getElem?_eq_getElem hi, I.same i _ (List.getElem?_eq_getElem hi)]; rfl
    · exact M.out id h1 hn
end Gh

/- Calls on a compacted heap: what they reach, and nothing else. -/
namespace Gh
open Go

mutual
/-- The numbers in a value. -/
noncomputable def gids : GVal → List Nat
  | .ptr (some (id, _)) => [id]
  | .slice (some (id, _)) _ _ _ => [id]
  | .map (some id) => [id]
  | .func f a c => (match f with
    | .yield l => [l]
    | _ => []) ++ (gidss a ++ gidss c)
  | .iface _ v => gids v
  | .agg l => gidss l
  | .tuple l => gidss l
  | _ => []
noncomputable def gidss : List GVal → List Nat
  | [] => []
  | v :: vs => gids v ++ gidss vs
end
noncomputable def eids : List (GVal × GVal) → List Nat
  | [] => []
  | (k, v) :: es => gids k ++ (gids v ++ eids es)
noncomputable def oids : GObj → List Nat
  | .cells cs _ => gidss cs
  | .map es _ => eids es
  | .loop _ _ tm _ _ _ => gidss tm
  | _ => []

mutual
theorem ren_back {ρ σ : Nat → Nat} : (v : GVal) → (∀ id ∈ gids v, ρ (σ id) = id) → ren ρ (ren σ v) = v
  | .undef, _ => rfl
  | .bool _, _ => rfl
  | .int _ _, _ => rfl
  | .str _, _ => rfl
  | .ptr none, _ => rfl
  | .ptr (some (id, off)), h => by simp only [ren]; rw [h id (by simp [gids])]
  | .slice none _ _ _, _ => rfl
  | .slice (some (id, off)) _ _ _, h => by simp only [ren]; rw [h id (by simp [gids])]
  | .map none, _ => rfl
  | .map (some id), h => by simp only [ren]; rw [h id (by simp [gids])]
  | .func f a c, h => by
    simp only [ren]
    rw [rens_back a fun id hid => h id (by simp [gids, hid]), rens_back c fun id hid => h id (by simp [gids, hid])]
    cases f with
    | yield l => simp only [renFn]; rw [h l (by simp [gids])]
    | _ => rfl
  | .nilFunc, _ => rfl
  | .iface t v, h => by simp only [ren]; rw [ren_back v fun id hid => h id (by simp [gids, hid])]
  | .nilIface, _ => rfl
  | .agg l, h => by simp only [ren]; rw [rens_back l fun id hid => h id (by simp [gids, hid])]
  | .tuple l, h => by simp only [ren]; rw [rens_back l fun id hid => h id (by simp [gids, hid])]
theorem rens_back {ρ σ : Nat → Nat} : (v : List GVal) → (∀ id ∈ gidss v, ρ (σ id) = id) → rens ρ (rens σ v) = v
  | [], _ => rfl
  | v :: vs, h => by
    simp only [rens]
    rw [ren_back v fun id hid => h id (by simp [gidss, hid]), rens_back vs fun id hid => h id (by simp [gidss, hid])]
end
theorem renEs_back {ρ σ : Nat → Nat} : (es : List (GVal × GVal)) → (∀ id ∈ eids es, ρ (σ id) = id) → renEs ρ (renEs σ es) = es
  | [], _ => rfl
  | (k, v) :: es, h => by
    simp only [renEs]
    rw [ren_back k fun id hid => h id (by simp [eids, hid]), ren_back v fun id hid => h id (by simp [eids, hid]), renEs_back es fun id hid => h id (by simp [eids, hid])]
theorem renObj_back {ρ σ : Nat → Nat} (o : GObj) (h : ∀ id ∈ oids o, ρ (σ id) = id) : renObj ρ (renObj σ o) = o := by
  cases o with
  | cells cs mode => simp only [renObj]; rw [rens_back cs h]
  | map es ro => simp only [renObj]; rw [renEs_back es h]
  | loop st pd tm ps as_ bd => simp only [renObj]; rw [rens_back tm h]
  | _ => rfl

/-! For the kernel. -/
noncomputable def lmem (x : Nat) (l : List Nat) : Bool := List.rec (motive := fun _ => Bool) false (fun y _ ih => bif Nat.beq x y then true else ih) l
noncomputable def lidx (x : Nat) (l : List Nat) : Nat := List.rec (motive := fun _ => Nat → Nat) (fun n => n) (fun y _ ih n => bif Nat.beq x y then n else ih (n + 1)) l 0
noncomputable def llen {α : Type} (l : List α) : Nat := List.rec (motive := fun _ => Nat) 0 (fun _ _ ih => ih + 1) l
theorem llen_eq {α : Type} (l : List α) : llen l = l.length := by
  induction l with
  | nil => rfl
  | cons x xs ih => exact congrArg (· + 1) ih
theorem lmem_iff (x : Nat) (l : List Nat) : lmem x l = true ↔ x ∈ l := by
  induction l with
  | nil => simp [lmem]
  | cons y ys ih =>
    show (bif Nat.beq x y then true else lmem x ys) = true ↔ _
    cases h : Nat.beq x y with
    | true => simp [Nat.eq_of_beq_eq_true h]
    | false => simp [ih, Nat.ne_of_beq_eq_false h]
theorem lidx_spec (x : Nat) : ∀ (l : List Nat), x ∈ l → lidx x l < l.length ∧ l[lidx x l]? = some x := by
  have gen : ∀ (l : List Nat) (n : Nat), x ∈ l → n ≤ (List.rec (motive := fun _ => Nat → Nat) (fun n => n) (fun y _ ih n => bif Nat.beq x y then n else ih (n + 1)) l n) ∧
      l[(List.rec (motive := fun _ => Nat → Nat) (fun n => n) (fun y _ ih n => bif Nat.beq x y then n else ih (n + 1)) l n) - n]? = some x := by
    intro l
    induction l with
    | nil => intro n h; simp at h
    | cons y ys ih =>
      intro n h
      show n ≤ (bif Nat.beq x y then n else _) ∧ (y :: ys)[(bif Nat.beq x y then n else _) - n]? = some x
      cases hb : Nat.beq x y with
      | true => simp [Nat.eq_of_beq_eq_true hb]
      | false =>
        have hne := Nat.ne_of_beq_eq_false hb
        have hm : x ∈ ys := by
          rcases List.mem_cons.1 h with h | h
          · exact absurd h hne
          · exact h
        obtain ⟨h1, h2⟩ := ih (n + 1) hm
        simp only [cond_false]
        refine ⟨by omega, ?_⟩
        have e : (List.rec (motive := fun _ => Nat → Nat) (fun n => n) (fun y _ ih n => bif Nat.beq x y then n else ih (n + 1)) ys (n + 1)) - n =
            (List.rec (motive := fun _ => Nat → Nat) (fun n => n) (fun y _ ih n => bif Nat.beq x y then n else ih (n + 1)) ys (n + 1)) - (n + 1) + 1 := by omega
        rw [e, List.getElem?_cons_succ]
        exact h2
  intro l h
  obtain ⟨_, h2⟩ := gen l 0 h
  have h2' : l[lidx x l]? = some x := by simpa [lidx] using h2
  exact ⟨(List.getElem?_eq_some_iff.1 h2').1, h2'⟩
end Gh

/- Calls on a compacted heap: the rule, with its checks. -/
namespace Gh
open Go

mutual
theorem ren_id {τ : Nat → Nat} : (v : GVal) → (∀ id ∈ gids v, τ id = id) → ren τ v = v
  | .undef, _ => rfl
  | .bool _, _ => rfl
  | .int _ _, _ => rfl
  | .str _, _ => rfl
  | .ptr none, _ => rfl
  | .ptr (some (id, off)), h => by simp only [ren]; rw [h id (by simp [gids])]
  | .slice none _ _ _, _ => rfl
  | .slice (some (id, off)) _ _ _, h => by simp only [ren]; rw [h id (by simp [gids])]
  | .map none, _ => rfl
  | .map (some id), h => by simp only [ren]; rw [h id (by simp [gids])]
  | .func f a c, h => by
    simp only [ren]
    rw [rens_id a fun id hid => h id (by simp [gids, hid]), rens_id c fun id hid => h id (by simp [gids, hid])]
    cases f with
    | yield l => simp only [renFn]; rw [h l (by simp [gids])]
    | _ => rfl
  | .nilFunc, _ => rfl
  | .iface t v, h => by simp only [ren]; rw [ren_id v fun id hid => h id (by simp [gids, hid])]
  | .nilIface, _ => rfl
  | .agg l, h => by simp only [ren]; rw [rens_id l fun id hid => h id (by simp [gids, hid])]
  | .tuple l, h => by simp only [ren]; rw [rens_id l fun id hid => h id (by simp [gids, hid])]
theorem rens_id {τ : Nat → Nat} : (v : List GVal) → (∀ id ∈ gidss v, τ id = id) → rens τ v = v
  | [], _ => rfl
  | v :: vs, h => by
    simp only [rens]
    rw [ren_id v fun id hid => h id (by simp [gidss, hid]), rens_id vs fun id hid => h id (by simp [gidss, hid])]
end
theorem renEs_id {τ : Nat → Nat} : (es : List (GVal × GVal)) → (∀ id ∈ eids es, τ id = id) → renEs τ es = es
  | [], _ => rfl
  | (k, v) :: es, h => by
    simp only [renEs]
    rw [ren_id k fun id hid => h id (by simp [eids, hid]), ren_id v fun id hid => h id (by simp [eids, hid]), renEs_id es fun id hid => h id (by simp [eids, hid])]
theorem renObj_id {τ : Nat → Nat} (o : GObj) (h : ∀ id ∈ oids o, τ id = id) : renObj τ o = o := by
  cases o with
  | cells cs mode => simp only [renObj]; rw [rens_id cs h]
  | map es ro => simp only [renObj]; rw [renEs_id es h]
  | loop st pd tm ps as_ bd => simp only [renObj]; rw [rens_id tm h]
  | _ => rfl

theorem Inside.rep {gl : Nat → Option Nat} {ρ : Nat → Nat} {hc h : GHeap} (I : Inside gl ρ hc h) {m : Mp} {w : World} (R : Rep gl m h w) : Rep gl (fun i => m (ρ i)) hc w := by
  have mlow : ∀ i L, m (ρ i) = some L → i < hc.length := by
    intro i L hL
    rcases Nat.lt_or_ge i hc.length with h1 | h1
    · exact h1
    · have h2 := R.dom _ L hL; have h3 := I.high i h1; omega
  refine ⟨mlow, fun i L hL => R.here _ L hL, ?_, ?_, ?_⟩
  · intro i L o hL ho
    obtain ⟨o', h1, h2⟩ := R.rel _ L _ hL (I.same i o ho)
    exact ⟨o', h1, (ORel_ren o o').1 h2⟩
  · intro i j L L' a b hi hj ha hb hwa hlb hbl
    exact I.inj i j (mlow i L hi) (mlow j L' hj) (R.inj _ _ L L' _ _ hi hj (I.same i a ha) (I.same j b hb) (by rw [renObj_wr]; exact hwa) (by rw [renObj_live]; exact hlb) hbl)
  · intro g id hg
    obtain ⟨L, h1, h2⟩ := R.glob g id hg
    exact ⟨L, by show m (ρ id) = _; rw [I.glob g id hg]; exact h1, h2⟩

/-! A picture of a part of a heap: a list of numbers. -/
noncomputable def hobj (h : GHeap) (id : Nat) : GObj := lget .dead h id
noncomputable def picOf (rl : List Nat) (n : Nat) (i : Nat) : Nat := if i < rl.length then rl.getD i 0 else n + (i - rl.length)
noncomputable def picHeap (rl : List Nat) (h : GHeap) : GHeap := rl.map fun id => renObj (fun id => lidx id rl) (hobj h id)
noncomputable def allIn (l rl : List Nat) : Bool := l.all fun id => lmem id rl
noncomputable def distinct : List Nat → Bool
  | [] => true
  | x :: xs => !lmem x xs && distinct xs
/-- Is the part closed, each number there and there once? -/
noncomputable def okPic (rl : List Nat) (h : GHeap) : Bool := distinct rl && rl.all (fun id => Nat.blt id (llen h) && allIn (oids (hobj h id)) rl)

theorem distinct_get : ∀ (l : List Nat), distinct l = true → ∀ (i j x : Nat), l[i]? = some x → l[j]? = some x → i = j
  | [], _, i, j, x, hi, _ => by simp at hi
  | y :: ys, h, i, j, x, hi, hj => by
    simp only [distinct, Bool.and_eq_true, Bool.not_eq_true'] at h
    have hn : ∀ (i : Nat), ys[i]? = some y → False := fun i hh => by
      have := (lmem_iff y ys).2 (List.mem_of_getElem? hh)
      rw [h.1] at this; cases this
    cases i with
    | zero =>
      cases j with
      | zero => rfl
      | succ j => simp at hi hj; subst hi; exact (hn j hj).elim
    | succ i =>
      cases j with
      | zero => simp at hi hj; subst hj; exact (hn i hi).elim
      | succ j => simp at hi hj; rw [distinct_get ys h.2 i j x hi hj]

theorem okPic_inside {gl : Nat → Option Nat} {rl : List Nat} {h : GHeap} (hgl : ∀ g id, gl g = some id → rl[id]? = some id) (hok : okPic rl h = true) :
    Inside gl (picOf rl h.length) (picHeap rl h) h ∧ (∀ id, id ∈ rl → picOf rl h.length (lidx id rl) = id) := by
  simp only [okPic, Bool.and_eq_true, List.all_eq_true] at hok
  obtain ⟨hd, hall⟩ := hok
  have hlen : (picHeap rl h).length = rl.length := by simp [picHeap]
  have hin : ∀ id, id ∈ rl → id < h.length := by
    intro id hid
    have := (hall id hid).1
    rw [llen_eq] at this
    rw [Nat.blt_eq] at this; exact this
  have hpic : ∀ i, i < rl.length → ∃ x, rl[i]? = some x ∧ picOf rl h.length i = x ∧ x ∈ rl := by
    intro i hi
    refine ⟨rl[i], List.getElem?_eq_getElem hi, ?_, List.getElem_mem hi⟩
    unfold picOf
    rw [if_pos hi, List.getD_eq_getElem?_getD, List.getElem?_eq_getElem hi]; rfl
  have hback : ∀ id, id ∈ rl → picOf rl h.length (lidx id rl) = id := by
    intro id hid
    obtain ⟨h1, h2⟩ := lidx_spec id rl hid
    obtain ⟨x, h3, h4, _⟩ := hpic _ h1
    rw [h2] at h3; cases h3; exact h4
  refine ⟨⟨?_, ?_, ?_, ?_, fun g id hg => by
    have h1 := hgl g id hg
    have h2 := (List.getElem?_eq_some_iff.1 h1).1
    unfold picOf
    rw [if_pos h2, List.getD_eq_getElem?_getD, h1]; rfl⟩, hback⟩
  · intro i j hi hj e
    rw [hlen] at hi hj
    obtain ⟨x, h1, h2, _⟩ := hpic i hi
    obtain ⟨y, h3, h4, _⟩ := hpic j hj
    rw [h2, h4] at e
    subst e
    exact distinct_get rl hd i j x h1 h3
  · intro i hi
    rw [hlen] at hi
    obtain ⟨x, h1, h2, h3⟩ := hpic i hi
    rw [h2]; exact hin x h3
  · intro i hi
    rw [hlen] at hi ⊢
    unfold picOf
    rw [if_neg (by omega)]
  · intro i o ho
    simp only [picHeap, List.getElem?_map, Option.map_eq_some_iff] at ho
    obtain ⟨id, h1, rfl⟩ := ho
    have hi : i < rl.length := (List.getElem?_eq_some_iff.1 h1).1
    obtain ⟨x, h2, h3, h4⟩ := hpic i hi
    rw [h1] at h2; cases h2
    rw [h3]
    have hlt := hin id h4
    have ho : h[id]? = some (hobj h id) := by
      unfold hobj
      rw [lget_eq, List.getD_eq_getElem?_getD, List.getElem?_eq_getElem hlt]; rfl
    rw [ho]
    congr 1
    symm
    refine renObj_back _ fun j hj => hback j ?_
    have := (hall id h4).2
    simp only [allIn, List.all_eq_true] at this
    exact (lmem_iff j rl).1 (this j hj)

/-- The call by the picture. -/
theorem CallsG.pic {P : Program} {gl : Nat → Option Nat} {f : FuncId} {args : List GVal} {h : GHeap} {rl : List Nat} {rc : GVal} {hc' : GHeap} (hgl : ∀ g id, gl g = some id → rl[id]? = some id) (hok : okPic rl h = true) (hargs : allIn (gidss args) rl = true)
    (hx : CallsG P gl f (rens (fun id => lidx id rl) args) (picHeap rl h) fun a b => (a, b) = (rc, hc')) :
    CallsG P gl f args h fun a b => (a, b) = (ren (picOf rl h.length) rc, putAll (picOf rl h.length) 0 hc' h) := by
  obtain ⟨I, hback⟩ := okPic_inside hgl hok
  have := hx.frame I
  rw [rens_back args fun id hid => hback id (by
    simp only [allIn, List.all_eq_true] at hargs
    exact (lmem_iff id rl).1 (hargs id hid))] at this
  refine this.mono fun r h' ⟨a, b, e, h1, h2, _⟩ => ?_
  cases e
  rw [h1, h2]
end Gh

/- The evaluator that calls on a compacted heap and drops what nobody reaches. -/
namespace Gh
open Go

theorem CallsG.shrink {P : Program} {gl : Nat → Option Nat} {f : FuncId} {args : List GVal} {hc : GHeap} {rc : GVal} {hc' : GHeap} {extra : List Nat} (hgl : ∀ g id, gl g = some id → id < hc.length)
    (hcl : ∀ (i : Nat) (o : GObj), hc[i]? = some o → ∀ id ∈ oids o, id < hc.length) (hok : okPic (List.range hc.length ++ extra) hc' = true) (hr : allIn (gids rc) (List.range hc.length ++ extra) = true)
    (hx : CallsG P gl f args hc fun a b => (a, b) = (rc, hc')) :
    CallsG P gl f args hc fun a b => (a, b) = (ren (fun id => lidx id (List.range hc.length ++ extra)) rc, picHeap (List.range hc.length ++ extra) hc') := by
  obtain ⟨I, hback⟩ := okPic_inside (fun g id hg => by rw [List.getElem?_append_left (by simpa using hgl g id hg), List.getElem?_range (hgl g id hg)]) hok
  generalize hrl : List.range hc.length ++ extra = rl at *
  have hfirst : ∀ i, i < hc.length → rl[i]? = some i := by
    intro i hi
    rw [← hrl, List.getElem?_append_left (by simpa using hi), List.getElem?_range hi]
  have hk : hc.length ≤ rl.length := by rw [← hrl]; simp
  have hd : distinct rl = true := by
    simp only [okPic, Bool.and_eq_true] at hok; exact hok.1
  have hτ : ∀ i, i < hc.length → lidx i rl = i := by
    intro i hi
    have h1 := hfirst i hi
    obtain ⟨_, h2⟩ := lidx_spec i rl (List.mem_of_getElem? h1)
    exact distinct_get rl hd _ _ i h2 h1
  have hρ : ∀ i, i < hc.length → picOf rl hc'.length i = i := by
    intro i hi
    have := hback i (List.mem_of_getElem? (hfirst i hi))
    rw [hτ i hi] at this; exact this
  have hplen : (picHeap rl hc').length = rl.length := by simp [picHeap]
  have hτo : ∀ (i : Nat) (o : GObj), hc[i]? = some o → renObj (fun id => lidx id rl) o = o := fun i o ho => renObj_id o fun id hid => hτ id (hcl i o ho id hid)
  have hget : ∀ (i : Nat) (o : GObj), i < hc.length → hc'[i]? = some o → (picHeap rl hc')[i]? = some (renObj (fun id => lidx id rl) o) := by
    intro i o hi ho
    simp only [picHeap, List.getElem?_map, hfirst i hi, Option.map_some]
    unfold hobj
    rw [lget_eq, List.getD_eq_getElem?_getD, ho]; rfl
  intro m w vs R hv
  refine (hx m w vs R hv).mono ?_
  rintro e w' ⟨r, v, h', m', rfl, q, q2, R', E⟩
  cases q
  refine ⟨_, v, _, fun i => m' (picOf rl hc'.length i), rfl, rfl, ?_, I.rep R', ?_⟩
  · refine (VR_ren (m := m') (ρ := picOf rl hc'.length) _ v).1 ?_
    rw [ren_back rc fun id hid => hback id (by
      simp only [allIn, List.all_eq_true] at hr
      exact (lmem_iff id rl).1 (hr id hid))]
    exact q2
  · refine ⟨E.size, E.os, E.out, by rw [hplen]; exact hk, fun id hid => ?_, ?_, E.keep, ?_, ?_⟩
    · show m' (picOf rl hc'.length id) = m id
      rw [hρ id hid]; exact E.mext id hid
    · intro id L hL
      rcases E.new _ L hL with h1 | h1
      · left
        have hidl : id < rl.length := by
          rcases Nat.lt_or_ge id rl.length with h | h
          · exact h
          · have h2 := I.high id (by rw [hplen]; exact h)
            have h3 := E.len
            omega
        have h2 : rl[id]? = some (picOf rl hc'.length id) := by
          unfold picOf
          rw [if_pos hidl, List.getD_eq_getElem?_getD, List.getElem?_eq_getElem hidl]; rfl
        have := distinct_get rl hd id _ _ h2 (hfirst _ h1)
        omega
      · exact .inr h1
    · intro id o ho hf
      have hid := (List.getElem?_eq_some_iff.1 ho).1
      rw [hget id o hid (E.stay id o ho hf), hτo id o ho]
    · intro id hid hn
      have ho : hc[id]? = some hc[id] := List.getElem?_eq_getElem hid
      have h1 := E.virt id hid hn
      rw [ho] at h1
      rw [hget id _ hid h1, hτo id _ ho, ho]

/-- The numbers that are reached. -/
noncomputable def reach (h : GHeap) : Nat → List Nat → List Nat → List Nat
  | 0, _, seen => seen
  | _ + 1, [], seen => seen
  | n + 1, id :: rest, seen => bif lmem id seen then reach h n rest seen else reach h n (oids (hobj h id) ++ rest) (seen ++ [id])
noncomputable def closedHeap (h : GHeap) (k : Nat) : Bool := h.all fun o => (oids o).all fun id => Nat.blt id k
noncomputable def putAllF (ρ : Nat → Nat) : Nat → List GObj → GHeap → GHeap
  | _, [], h => h
  | i, o :: os, h => putAllF ρ (i + 1) os (bif Nat.blt (ρ i) (llen h) then lset h (ρ i) (renObj ρ o) else h ++ [renObj ρ o])
theorem putAllF_eq (ρ : Nat → Nat) : ∀ (os : List GObj) (i : Nat) (h : GHeap), putAllF ρ i os h = putAll ρ i os h := by
  intro os
  induction os with
  | nil => intro i h; rfl
  | cons o os ih =>
    intro i h
    simp only [putAllF, putAll, ih, llen_eq, lset_eq]
    congr 1
    by_cases hlt : ρ i < h.length
    · rw [if_pos hlt]
      have : Nat.blt (ρ i) h.length = true := by rw [Nat.blt_eq]; exact hlt
      rw [this]; rfl
    · rw [if_neg hlt]
      have : Nat.blt (ρ i) h.length = false := by
        cases hb : Nat.blt (ρ i) h.length with
        | false => rfl
        | true => rw [Nat.blt_eq] at hb; exact absurd hb hlt
      rw [this]; rfl

noncomputable def shrunk (k0 : Nat) (call : FuncId → List GVal → GHeap → Ans) (f : FuncId) (args : List GVal) (hc : GHeap) : Ans :=
  match call f args hc with
  | some (rc, hc') =>
    (fun k => (fun rl => bif closedHeap hc k && okPic rl hc' && allIn (gids rc) rl && Nat.ble k0 k then some (ren (fun id => lidx id rl) rc, picHeap rl hc') else some (rc, hc'))
      (List.range k ++ (reach hc' 100000 (gids rc ++ List.range k) []).filter fun id => Nat.ble k id)) (llen hc)
  | none => none
/-- Do the first k stand first? -/
noncomputable def firsts (k : Nat) (rl : List Nat) : Bool := (List.range k).all fun i => Nat.beq (lget 0 rl i) i && Nat.blt i (llen rl)
theorem firsts_get {k : Nat} {rl : List Nat} (h : firsts k rl = true) : ∀ i, i < k → rl[i]? = some i := by
  intro i hi
  simp only [firsts, List.all_eq_true, Bool.and_eq_true] at h
  obtain ⟨h1, h2⟩ := h i (List.mem_range.2 hi)
  rw [llen_eq, Nat.blt_eq] at h2
  have h1 := Nat.eq_of_beq_eq_true h1
  rw [lget_eq, List.getD_eq_getElem?_getD, List.getElem?_eq_getElem h2] at h1
  rw [List.getElem?_eq_getElem h2]
  exact congrArg some h1
noncomputable def viaPic (k0 : Nat) (call : FuncId → List GVal → GHeap → Ans) (f : FuncId) (args : List GVal) (h : GHeap) : Ans :=
  bif Nat.ble (llen h) 24 then call f args h else
    (fun rl => bif okPic rl h && allIn (gidss args) rl && firsts k0 rl then
      match shrunk k0 call f (rens (fun id => lidx id rl) args) (picHeap rl h) with
      | some (rc, hc') => some (ren (picOf rl (llen h)) rc, putAllF (picOf rl (llen h)) 0 hc' h)
      | none => none
    else call f args h) (reach h 100000 (List.range k0 ++ gidss args) [])

section
variable {P : Program} {gl : Nat → Option Nat}
def CallOK (P : Program) (gl : Nat → Option Nat) (call : FuncId → List GVal → GHeap → Ans) : Prop :=
  ∀ f args h r, call f args h = some r → CallsG P gl f args h fun a b => (a, b) = r
theorem shrunk_ok {k0 : Nat} (hgl : ∀ g id, gl g = some id → id < k0) {call : FuncId → List GVal → GHeap → Ans} (hc : CallOK P gl call) : CallOK P gl (shrunk k0 call) := by
  intro f args h r hx
  unfold shrunk at hx
  cases ho : call f args h with
  | none => rw [ho] at hx; cases hx
  | some x =>
    obtain ⟨rc, hc'⟩ := x
    rw [ho] at hx
    have h0 := hc f args h _ ho
    simp only [llen_eq] at hx
    generalize hex : (reach hc' 100000 (gids rc ++ List.range h.length) []).filter (fun id => Nat.ble h.length id) = extra at hx
    cases hb : closedHeap h h.length && okPic (List.range h.length ++ extra) hc' && allIn (gids rc) (List.range h.length ++ extra) && Nat.ble k0 h.length with
    | false => rw [hb] at hx; cases hx; exact h0
    | true =>
      rw [hb] at hx; cases hx
      simp only [Bool.and_eq_true] at hb
      obtain ⟨⟨⟨h1, h2⟩, h3⟩, h4⟩ := hb
      have h4 := Nat.le_of_ble_eq_true h4
      refine h0.shrink (fun g id hg => Nat.lt_of_lt_of_le (hgl g id hg) h4) (fun i o hio id hid => ?_) h2 h3
      simp only [closedHeap, List.all_eq_true] at h1
      have := h1 o (List.mem_of_getElem? hio) id hid
      rw [Nat.blt_eq] at this; exact this
theorem viaPic_ok {k0 : Nat} (hgl : ∀ g id, gl g = some id → id < k0) {call : FuncId → List GVal → GHeap → Ans} (hc : CallOK P gl call) : CallOK P gl (viaPic k0 call) := by
  intro f args h r hx
  unfold viaPic at hx
  cases hb : Nat.ble (llen h) 24 with
  | true => rw [hb] at hx; exact hc f args h r hx
  | false =>
    rw [hb] at hx
    simp only [cond_false] at hx
    generalize reach h 100000 (List.range k0 ++ gidss args) [] = rl at hx
    cases hk : okPic rl h && allIn (gidss args) rl && firsts k0 rl with
    | false => rw [hk] at hx; exact hc f args h r hx
    | true =>
      rw [hk] at hx
      simp only [cond_true] at hx
      simp only [Bool.and_eq_true] at hk
      cases ho : shrunk k0 call f (rens (fun id => lidx id rl) args) (picHeap rl h) with
      | none => rw [ho] at hx; cases hx
      | some x =>
        obtain ⟨rc, hc'⟩ := x
        rw [ho] at hx
        cases hx
        rw [putAllF_eq, llen_eq]
        exact CallsG.pic (fun g id hg => firsts_get hk.2 id (hgl g id hg)) hk.1.1 hk.1.2 (shrunk_ok hgl hc _ _ _ _ ho)
end
end Gh

/- The evaluator, with contracts, on compacted heaps. -/
namespace Gh
open Go

section
variable (P : Program) (gl : Nat → Option Nat)
/-- A call, to a depth; some functions by their contracts. -/
noncomputable def gcallC (k0 : Nat) (prim : FuncId → List GVal → GHeap → Ans) (loops : Nat) : Nat → FuncId → List GVal → GHeap → Ans
  | 0, _, _, _ => none
  | n + 1, f, args, h =>
    match prim f args h with
    | some r => some r
    | none =>
    match P.funcs[f]? with
    | some fn => match fn.body with
      | some c => gfunc P gl (optAlg loops (viaPic k0 (gcallC k0 prim loops n)) (groundO n)) fn c args h fun r h => some (r, h)
      | none => none
    | none => none
where
  groundO : Nat → Nat → List GVal → GHeap → Ans
  | 0, _, _, _ => none
  | n + 1, l, args, h => ground P gl (optAlg loops (viaPic k0 (gcallC k0 prim loops n)) (groundO n)) l args h fun r h => some (r, h)
end

section
variable {P : Program} {gl : Nat → Option Nat}
theorem gcallC_groundO_sound {k0 : Nat} (hgl : ∀ g id, gl g = some id → id < k0) (hD : DrawSound P gl) {prim : FuncId → List GVal → GHeap → Ans} (hP : PrimOK P gl prim) (loops : Nat) : ∀ n,
    (∀ f args h r, gcallC P gl k0 prim loops n f args h = some r → CallsG P gl f args h fun a b => (a, b) = r) ∧
    (∀ f args h r, gcallC.groundO P gl k0 prim loops n f args h = some r → RoundG P gl f args h fun a b => (a, b) = r) := by
  intro n
  induction n with
  | zero => exact ⟨fun f args h r hx => by simp [gcallC] at hx, fun f args h r hx => by simp [gcallC.groundO] at hx⟩
  | succ n ih =>
    have H := fun R => opt_hom (P := P) (gl := gl) (loops := loops) R (viaPic_ok hgl ih.1) ih.2
    constructor
    · intro f args h r hx
      unfold gcallC at hx
      split at hx
      · rename_i r' hr'
        cases hx
        exact hP f args h r hr'
      split at hx
      · rename_i fn hfn
        split at hx
        · rename_i c hc
          refine gfunc_sound hD hfn hc ?_
          unfold gfunc at hx ⊢
          refine gcode_hom (H r) none c _ _ ?_ _ _ hx
          refine KHom.mk ?_ ?_ ?_
          · intro t h
            exact (H r).gm _ (fun a b => some (a, b)) (fun a b => (a, b) = r) fun v h hh => by cases hh; rfl
          · intro i t h
            exact (H r).fail _
          · intro t h
            exact (H r).gm _ (fun a b => some (a, b)) (fun a b => (a, b) = r) fun v h hh => by cases hh; rfl
        · cases hx
      · cases hx
    · intro l args h r hx
      unfold gcallC.groundO at hx
      refine ground_sound hD ?_
      unfold ground at hx ⊢
      split at hx
      · rename_i pd tm ps as_ bd hl
        split at hx
        · rename_i hsz
          rw [if_pos hsz]
          have hend : ∀ (jump : Option Code) (h : GHeap), gendRound (optAlg loops (viaPic k0 (gcallC P gl k0 prim loops n)) (gcallC.groundO P gl k0 prim loops n)) l jump (fun r h => some (r, h)) h = some r →
              gendRound (propAlg P gl) l jump (fun a b => (a, b) = r) h := by
            intro jump h hh
            unfold gendRound at hh ⊢
            split at hh
            · cases hh; rfl
            · cases hh
          refine gcode_hom (H r) (some l) as_ _ _ ?_ _ _ hx
          refine KHom.mk ?_ (fun i t h => (H r).fail _) (fun t h => (H r).fail _)
          intro t h hh
          dsimp only at hh ⊢
          split at hh
          · exact gcode_hom (H r) (some l) bd _ _ (KHom.mk (fun t h => hend none h) (fun i t h => hend _ h) (fun t h => hend _ h)) _ _ hh
          · exact ((H r).fail False hh).elim
        · exact ((H r).fail False hx).elim
      · exact ((H r).fail False hx).elim

theorem gcallC_sound {k0 : Nat} (hgl : ∀ g id, gl g = some id → id < k0) (hD : DrawSound P gl) {prim : FuncId → List GVal → GHeap → Ans} (hP : PrimOK P gl prim) {loops n : Nat} {f : FuncId} {args : List GVal} {h : GHeap} {r : GVal × GHeap} (hx : gcallC P gl k0 prim loops n f args h = some r) :
    CallsG P gl f args h fun a b => (a, b) = r := (gcallC_groundO_sound hgl hD hP loops n).1 f args h r hx


theorem CallsG.closedC (hD : DrawSound P gl) {prim : FuncId → List GVal → GHeap → Ans} (hP : PrimOK P gl prim) (hgl : ∀ g, gl g = none) {loops n : Nat} {f : FuncId} (hx : tells (gcallC P gl 0 prim loops n f [] []) = true) (h : GHeap) :
    CallsG P gl f [] h fun r h' => r = .bool true ∧ h' = h := by
  refine CallsG.anywhere (Q := fun r => r = .bool true) hgl ?_
  cases ho : gcallC P gl 0 prim loops n f [] [] with
  | none => rw [ho] at hx; cases hx
  | some r =>
    obtain ⟨v, h'⟩ := r
    rw [ho] at hx
    have hv : v = .bool true := by
      unfold tells at hx
      split at hx
      · rename_i hh; cases hh; rfl
      · cases hx
    subst hv
    refine (gcallC_sound (fun g id h => by rw [hgl] at h; cases h) hD hP ho).mono fun a b e => ?_
    cases e
    exact ⟨rfl, fun m v hv => hv⟩
end
end Gh

