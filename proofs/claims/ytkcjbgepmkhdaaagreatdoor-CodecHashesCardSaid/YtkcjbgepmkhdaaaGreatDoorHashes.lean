/- CodecHashes: the hashes and their specification give the same numbers, for all bytes and seeds, and the examples hold; no condition but the table that the card ties. -/
import Derived.Test.YtkcjbgepmkhdaaaGreatDoorRows
import Derived.Test.YtkcjbgepmkhdaaaGreatDoorCards
import Derived.Test.YtkcjbgepmkhdaaaGreatDoorTie
import Derived.Test.YtkcjbgepmkhdaaaGreatDoorQh
import Derived.Test.YtkcjbgepmkhdaaaGreatDoorAd
import Derived.Test.YtkcjbgepmkhdaaaGreatDoorGe
import Derived.WalkKit
import Derived.ProofKit
import Derived.OpenShut
import Derived.ShutString
import Derived.ChangeOld
import Derived.Below
import Derived.SizedLaws
import Derived.LaidMore
import Derived.Stop.Joined
import Derived.SevenTiedAt
set_option linter.defProp false
set_option linter.unusedSimpArgs false
set_option linter.unusedVariables false
set_option linter.unnecessarySimpa false
open Go Gh
namespace Go.Proofs.YtkcjbgepmkhdaaaGreatDoor.CodecHashes
open Go.ChangeShapes Go.WideShapes Go.ChangeAt Go.RowKit Gh
set_option maxRecDepth 100000
theorem own : ownKnob Tryz.prog.godebug = none := by kernel_rfl
theorem laidOut : laidOutB Tryz.prog = true := by kernel_rfl
theorem gChecks : Tryz.prog.globalNamed "bowline/codec.checks" = some 0 := by kernel_rfl
theorem tChecks : (Tryz.prog.globals[0]?).map (·.type) = some 126 := by kernel_rfl
theorem cells126 : Tryz.prog.cellsOf 126 = 4 := by kernel_rfl
theorem cells125 : Tryz.prog.cellsOf 125 = 2 := by kernel_rfl
theorem cells9 : Tryz.prog.cellsOf 9 = 1 := by kernel_rfl
theorem cells53 : Tryz.prog.cellsOf 53 = 1 := by kernel_rfl
theorem cells5 : Tryz.prog.cellsOf 5 = 1 := by kernel_rfl
/-- One row of the table. -/
theorem of_row {W : World} {m : Nat} {cs : List Value} {b0 b1 : UInt8} {r : List UInt8} {s : List UInt8} {f0 : FuncId} {y : DataW (List UInt8) × List MemPlace}
    (hone : ((List.range Tryz.prog.funcs.size).filter fun f => (Tryz.prog.funcs[f]?).any (·.name.toUTF8.data.toList == b0 :: r)) = [f0])
    (hy : y.1 = .agg [.lit (.string s), .held (b0 :: r)]) (h : DataW.trod (funcToken Tryz.prog) Tryz.prog W 0 (fun _ => true) true m 125 cs = some y) :
    cs = [.string ⟨s.toArray⟩, .func (.func f0) #[] #[]] := by
  obtain ⟨y0, y1, n, rfl, hl, h0, h1⟩ := trod_struct2 Tryz.underlying125 h
  rw [cells125] at hl
  match cs, hl with
  | [v0, v1], _ =>
    simp only [DataW.agg.injEq, List.cons.injEq, and_true] at hy
    obtain ⟨e0, e1⟩ := hy
    have h0' : DataW.trod (funcToken Tryz.prog) Tryz.prog W 0 (fun _ => true) true n 9 [v0] = some y0 := by simpa [cells9] using h0
    have h1' : DataW.trod (funcToken Tryz.prog) Tryz.prog W 0 (fun _ => true) true n 53 [v1] = some y1 := by simpa [cells53] using h1
    obtain ⟨sb, hs, hx, _⟩ := DataW.trod_string Tryz.underlying9 h0'
    have e2 : y1 = (.held (b0 :: r), y1.2) := by rw [← e1]
    rw [e2] at h1'
    have := func_of_trod Tryz.underlying53 hone h1'
    subst this
    simp only [List.cons.injEq, and_true] at hs
    subst hs
    rw [hx] at e0
    simp only [DataW.lit.injEq, Lit.string.injEq] at e0
    subst e0
    rfl
theorem of_laid {W : World} (h : laidMetH Tryz.prog [("bowline/codec.checks", Rows.laid_bowline_codec_checks)] W) : ∀ (i : Nat) (v : Value),
    [Value.string ⟨#[115, 117, 109]⟩, .func (.func 33) #[] #[], .string ⟨#[112, 111, 108, 121]⟩, .func (.func 30) #[] #[]][i]? = some v → W.cell? ⟨0, i, none⟩ = some v := by
  obtain ⟨g, t, cs, fuel, p, hg, ht, hv, hd⟩ := h.funcs (List.mem_singleton.2 rfl)
  obtain rfl := Option.some.inj (gChecks.symm.trans hg)
  obtain rfl := Option.some.inj (tChecks.symm.trans ht)
  have hd' : DataW.trod (funcToken Tryz.prog) Tryz.prog W 0 (fun _ => true) true fuel 126 cs.toList = some (.agg [.agg [.lit (.string [115, 117, 109]), .held [98, 111, 119, 108, 105, 110, 101, 47, 99, 111, 100, 101, 99, 46, 83, 117, 109]], .agg [.lit (.string [112, 111, 108, 121]), .held [98, 111, 119, 108, 105, 110, 101, 47, 99, 111, 100, 101, 99, 46, 80, 111, 108, 121]]], p) := hd
  obtain ⟨xs, m, rfl, hx, hlen, hxl, hel⟩ := DataW.trod_array Tryz.underlying126 hd'
  rw [cells126] at hlen
  match xs, hxl with
  | [x0, x1], _ =>
    simp only [List.map_cons, List.map_nil, Prod.mk.injEq, DataW.agg.injEq, List.cons.injEq, and_true] at hx
    obtain ⟨⟨e0, e1⟩, _⟩ := hx
    have h0 := hel 0 (by omega)
    have h1 := hel 1 (by omega)
    rw [cells125] at h0 h1
    have r0 := of_row (f0 := 33) (b1 := 0) (by kernel_rfl) e0.symm h0
    have r1 := of_row (f0 := 30) (b1 := 0) (by kernel_rfl) e1.symm h1
    intro i v hi
    rw [World.var?_cell hg hv i]
    obtain ⟨cl⟩ := cs
    have hcl : cl = [Value.string ⟨#[115, 117, 109]⟩, .func (.func 33) #[] #[], .string ⟨#[112, 111, 108, 121]⟩, .func (.func 30) #[] #[]] := by
      match cl, hlen with
      | [a, b, c, d], _ =>
        simp at r0 r1
        obtain ⟨rfl, rfl⟩ := r0
        obtain ⟨rfl, rfl⟩ := r1
        rfl
    subst hcl
    simpa using hi
theorem cell_block {W : World} {b i : Nat} {v : Value} (h : W.cell? ⟨b, i, none⟩ = some v) : ∃ c e fr, W.heap[b]? = some (.cells c e fr) ∧ c[i]? = some v := by
  unfold World.cell? at h
  split at h
  · rename_i c e fr hb
    exact ⟨c, e, fr, hb, by simpa using h⟩
  · cases h
theorem table_ok {W : World} (h : laidMetH Tryz.prog [("bowline/codec.checks", Rows.laid_bowline_codec_checks)] W) : ∃ p : Piece, p.ok W ∧ p.L.block = 0 ∧ p.L.base = 0 ∧ GObj.cells p.cs .ro = h00.getD 0 .dead := by
  have hc := of_laid h
  obtain ⟨c, e, fr, hb, _⟩ := cell_block (hc 0 _ rfl)
  have get : ∀ (i : Nat) (v : Value), [Value.string ⟨#[115, 117, 109]⟩, .func (.func 33) #[] #[], .string ⟨#[112, 111, 108, 121]⟩, .func (.func 30) #[] #[]][i]? = some v → c[i]? = some v := by
    intro i v hi
    obtain ⟨c', e', fr', hb', hv⟩ := cell_block (hc i v hi)
    rw [hb] at hb'; cases hb'
    exact hv
  have hsz : 4 ≤ c.size := by
    have := get 3 _ rfl
    have := (Array.getElem?_eq_some_iff.1 this).1
    omega
  refine ⟨⟨⟨0, 0, c.size⟩, [.str [115, 117, 109], .func (.func 33) [] [], .str [112, 111, 108, 121], .func (.func 30) [] []]⟩, ⟨c, e, fr, hb, rfl, by simpa using hsz, ?_⟩, rfl, rfl, rfl⟩
  intro j g hj
  match j, hj with
  | 0, hj => cases hj; exact ⟨_, by simpa using get 0 _ rfl, fun m => rfl⟩
  | 1, hj => cases hj; exact ⟨_, by simpa using get 1 _ rfl, fun m => ⟨.func 33, [], [], rfl, rfl, rfl, rfl⟩⟩
  | 2, hj => cases hj; exact ⟨_, by simpa using get 2 _ rfl, fun m => rfl⟩
  | 3, hj => cases hj; exact ⟨_, by simpa using get 3 _ rfl, fun m => ⟨.func 30, [], [], rfl, rfl, rfl, rfl⟩⟩
  | j + 4, hj => simp at hj
theorem pre0 {p : Piece} {ps : List Piece} (h : GObj.cells p.cs .ro = h00.getD 0 .dead) : ∀ (i : Nat) (o : GObj), h00[i]? = some o → (hOf (p :: ps))[i]? = some o := by
  intro i o ho
  match i, ho with
  | 0, ho =>
    have e : h00.getD 0 .dead = o := by simpa [h00] using ho
    rw [← e, ← h]; rfl
  | i + 1, ho => simp [h00] at ho
theorem gl_ok {p : Piece} {ps : List Piece} (hb : p.L.block = 0) (h0 : p.L.base = 0) : ∀ g id, gl1 g = some id → ∃ q, (p :: ps)[id]? = some q ∧ q.L.block = g ∧ q.L.base = 0 := by
  intro g id h
  unfold gl1 at h
  split at h
  · rename_i hg
    cases h
    exact ⟨p, rfl, hb.trans hg.symm, h0⟩
  · cases h
/-- The call, for a slice that is nil and for one of bytes. -/
theorem run_nil {W : World} (h : laidMetH Tryz.prog [("bowline/codec.checks", Rows.laid_bowline_codec_checks)] W) (seed : Int) :
    Calls Tryz.prog 8 #[.slice none 0 0, .int .u64 seed] W fun e W' => e = .returned (.bool true) ∧ StandsBy W W' := by
  obtain ⟨p, hp, hb, h0, hg⟩ := table_ok h
  refine roLaw (ps := [p]) (args := [.slice none 0 0 none, .int .u64 seed]) (vs := [.slice none 0 0, .int .u64 seed]) (fun q hq => by rw [List.mem_singleton.1 hq]; exact hp) (gl_ok hb h0) (law8 (fun g hpre => awake9 g hpre) (bs := []) rfl (Nat.le_refl _) Cells.nil (fun x hx => by cases hx) (pre0 hg) seed) ?_
  exact ⟨_, _, rfl, ⟨rfl, rfl⟩, _, _, rfl, rfl, rfl⟩
theorem run_bytes {W : World} (h : laidMetH Tryz.prog [("bowline/codec.checks", Rows.laid_bowline_codec_checks)] W) {b off len cap : Nat} {zs : List Int} {c : Array Value} {e : TypeId} {fr : Nat × Nat} (hl : len ≤ cap) (hz : zs.length = cap)
    (hb : W.heap[b]? = some (.cells c e fr)) (hc : ∀ i, i < cap → c[off + i]? = some (.int .u8 (zs.getD i 0))) (hw : ∀ n ∈ zs, 0 ≤ n ∧ n ≤ 255) (seed : Int) :
    Calls Tryz.prog 8 #[.slice (some ⟨b, off, none⟩) len cap, .int .u64 seed] W fun e W' => e = .returned (.bool true) ∧ StandsBy W W' := by
  obtain ⟨p, hp, hb0, h0, hg⟩ := table_ok h
  have hbase : (if cap = 0 then 0 else off) + cap ≤ c.size := by
    by_cases h0 : cap = 0
    · simp [h0]
    · rw [if_neg h0]
      have := (Array.getElem?_eq_some_iff.1 (hc (cap - 1) (by omega))).1
      omega
  have hp2 : (⟨⟨b, if cap = 0 then 0 else off, c.size⟩, zs.map (GVal.int .u8 ·)⟩ : Piece).ok W := by
    refine ⟨c, e, fr, hb, rfl, by simpa [hz] using hbase, fun j g hj => ?_⟩
    rw [List.getElem?_map, Option.map_eq_some_iff] at hj
    obtain ⟨x, hx, rfl⟩ := hj
    have hj : j < cap := by have := (List.getElem?_eq_some_iff.1 hx).1; omega
    refine ⟨.int .u8 x, ?_, fun m => rfl⟩
    show c[(if cap = 0 then 0 else off) + j]? = _
    rw [if_neg (by omega), hc j hj, List.getD_eq_getElem?_getD, hx]; rfl
  refine roLaw (ps := [p, ⟨⟨b, if cap = 0 then 0 else off, c.size⟩, zs.map (GVal.int .u8 ·)⟩]) (args := [.slice (some (1, 0)) len cap none, .int .u64 seed]) (vs := [.slice (some ⟨b, off, none⟩) len cap, .int .u64 seed])
    (fun q hq => ?_) (gl_ok hb0 h0) (law8 (fun g hpre => awake9 g hpre) (bs := zs.take len) (by simp; omega) hl ?_ (fun x hx => hw x (List.mem_of_mem_take hx)) (pre0 hg) seed) ?_
  · simp only [List.mem_cons, List.not_mem_nil, or_false] at hq
    rcases hq with rfl | rfl
    · exact hp
    · exact hp2
  · refine Cells.of (cs := zs.map (GVal.int .u8 ·)) (mode := .ro) rfl fun j v hj => ?_
    rw [List.getElem?_map, Option.map_eq_some_iff] at hj
    obtain ⟨x, hx, rfl⟩ := hj
    have hjl : j < len := by have := (List.getElem?_eq_some_iff.1 hx).1; simp at this; omega
    rw [List.getElem?_take_of_lt hjl] at hx
    rw [Nat.zero_add, List.getElem?_map, hx]; rfl
  · refine ⟨_, _, rfl, ⟨⟨b, if cap = 0 then 0 else off, c.size⟩, cap, off, rfl, rfl, fun h0 => by rw [if_neg (by omega)]; rfl, rfl⟩, _, _, rfl, rfl, rfl⟩
theorem has_block {W : World} {r : Reach} {base : Nat} {a : Addr} {e : TypeId} {n : Nat} (h : W.has Tryz.prog r base a e n) : a.spot = none ∧ ∃ c t fr, W.heap[a.block]? = some (.cells c t fr) := by
  obtain ⟨_, h1, row, cells, h2, _⟩ := h
  refine ⟨h1, ?_⟩
  unfold World.shape? at h2
  split at h2
  · rename_i c t fr hb
    exact ⟨c, t, fr, hb⟩
  · cases h2
theorem lifted (os : Os) (started : os.Started) (H : Type) (enc : TypeId × Value → H) :
    ReturnsInHanded {} Tryz.checked os 8 .any (fun w args => (Rows.codecHashesSpec.pre enc Tryz.prog Tryz.f8 [] false w args ∧ laidMetH Tryz.prog [("bowline/codec.checks", Rows.laid_bowline_codec_checks)] w) ∧ sizedMet enc Tryz.prog Tryz.f8 (OpenSpec.ofChange Rows.codecHashesSpec) false w args)
      (Rows.codecHashesSpec.post enc Tryz.prog Tryz.f8 false true false false) := by
  refine returnsInHanded_of_change_and (C := Tryz.checked) (X := fun w _ => laidMetH Tryz.prog [("bowline/codec.checks", Rows.laid_bowline_codec_checks)] w) (fun _ _ _ hh h => h.of_heap hh) own started (by kernel_rfl) Tryz.func8
    (ChangeSpec.witness_shaped (enc := enc) (C := Tryz.checked) (os := os) (X := fun w _ => laidMetH Tryz.prog [("bowline/codec.checks", Rows.laid_bowline_codec_checks)] w) false (World.doorLaid Tryz.prog 600 os) #[.slice none 0 0, .int .u64 0] 8 rfl (World.shaped_of_RefB (by kernel_rfl) (by kernel_rfl)) (by kernel_rfl) (by kernel_rfl) (by kernel_rfl)
      (laidMetH_of_parts3 (fuel := 8) (laidMet_of_run' 8 (by kernel_rfl) (by kernel_rfl)) (by kernel_rfl) (by kernel_rfl))) ?_
  intro W base args ds gs before hval0 hW _ _ hL _
  have hval : ∀ (j : Nat) t v, Tryz.f8.params[j]? = some t → args[j]? = some v → Value.okWide Tryz.prog W .any base t v := hval0
  have hW' := hW
  obtain ⟨p, q, hA0, hV, rfl, hfz, hnd⟩ := hW
  have hA : DataW.TrodAll enc Tryz.prog W 0 (fun _ => true) true Tryz.f8.params.toList args.toList ds p := hA0
  rw [Tryz.params8] at hA hval
  obtain ⟨v0, v1, d0, d1, p0, p1, rfl, rfl, rfl, h0, h1⟩ := trodAll_two hA
  obtain ⟨rfl, rfl⟩ := trodVars_none hV
  obtain ⟨seed, rfl, rfl, rfl, wx⟩ := open_int Tryz.underlying55 (hval 1 55 v1 rfl rfl) h1
  obtain ⟨a0, len, cap, rfl⟩ := okWide_slice Tryz.underlying31 (hval 0 31 v0 rfl rfl)
  have hok := hval 0 31 _ rfl rfl
  have h0k := h0
  obtain ⟨fuel, hf⟩ := h0
  clear hA0 hval0
  simp only [List.append_nil] at hW'
  have hlt : ∀ x ∈ p0, x.block < W.heap.size := fun x hx => by simpa using hW'.lt x (by simpa using hx)
  have close : ∀ e W', e = Ending.returned (.bool true) ∧ StandsBy W W' → ∃ v, e = Ending.returned v ∧ Rows.codecHashesSpec.post enc Tryz.prog Tryz.f8 false true false false W #[.slice a0 len cap, .int .u64 seed] v W' := by
    rintro e W' ⟨rfl, hs⟩
    refine ⟨_, rfl, _, _, _, [], _, [], hW', trodAll_mk1 (shut_bool Tryz.underlying4 _), trodAll_mk2 (StandsBy.trod laidOut (by kernel_rfl) (of_decide_eq_true (by kernel_rfl)) h0k hs hlt) (shut_int Tryz.underlying55 wx), rfl, hs.kept _, fun h => by cases h⟩
  rcases open_ints Tryz.underlying31 Tryz.underlying5 cells5 hf with ⟨hcs, hx⟩ | ⟨a, len', cap', zs, hcs, _, hl, hm, hz, hx, hcell, hwz⟩
  · simp [Value.cells] at hcs
    obtain ⟨rfl, rfl, rfl⟩ := hcs
    exact (run_nil hL seed).mono close
  · simp [Value.cells] at hcs
    obtain ⟨rfl, rfl, rfl⟩ := hcs
    simp only [if_true] at hz
    have hh : W.has Tryz.prog .any base a 5 cap := by
      have : len ≤ cap ∧ (cap : Int) ≤ IntKind.i64.max ∧ W.has Tryz.prog .any base a 5 cap := by
        have h1 := hok
        unfold Value.okWide at h1
        rw [Tryz.underlying31] at h1
        unfold Cell.okWide at h1
        rw [Tryz.underlying31] at h1
        unfold Cell.ok at h1
        rw [Tryz.underlying31] at h1
        exact h1
      exact this.2.2
    obtain ⟨hspot, c, t, fr, hb⟩ := has_block hh
    obtain ⟨b, off, spot⟩ := a
    simp only at hspot
    subst hspot
    refine (run_bytes hL hl hz hb (fun i hi => ?_) (fun n hn => ?_) seed).mono close
    · have := hcell i (by omega)
      rw [Gh.Addr.add_none] at this
      obtain ⟨c', e', fr', hb', hv⟩ := cell_block this
      simp only at hb hb'
      rw [hb] at hb'; cases hb'
      exact hv
    · have := hwz n hn
      simpa [Lit.wf, IntKind.min, IntKind.max, IntKind.signed, IntKind.bits] using this
theorem holds : Rows.CodecHashesSaid :=
  OpenClaim.holds_of_wide 8 Tryz.f8 rfl rfl rfl rfl rfl rfl rfl ⟨rfl, rfl, rfl, rfl, rfl⟩ rfl rfl rfl rfl rfl (by kernel_rfl) Tryz.func8 (by kernel_rfl)
    (of_decide_eq_true (by kernel_rfl)) (by unfold Func.isWrapper; first | (rw [if_pos (by decide +kernel)]; kernel_rfl) | (rw [if_neg (by decide +kernel)]; exact ⟨rfl, rfl⟩))
    (fun os started H enc _ => lifted os started H enc)
theorem card : Rows.CodecHashesCardSaid :=
  Claim7.holds_tied_plain_at .later [] [.funcs] true (true, "a9d998bf123600302bcc6d73abe8a395b6c2d0250c80433b6b32396887eb25fb") false holds (fun _ h => by cases h) (by kernel_rfl) (fun _ h => by cases h) codecHashes_row_tie rfl ⟨rfl, rfl⟩ (by kernel_rfl) rfl
    (fun f fn hf hfn => by
      obtain rfl : f = 8 := Option.some.inj ((show Tryz.prog.funcNamed "bowline/bowlinelaw39.CodecHashes" = some 8 by kernel_rfl).symm.trans hf) |>.symm
      obtain rfl : fn = Tryz.f8 := (Option.some.inj (Tryz.func8.symm.trans hfn)).symm
      exact ⟨by kernel_rfl, fun j t ht => by
        rw [Tryz.params8] at ht
        have hm : t ∈ [31, 55] := by simpa using Array.mem_of_getElem? ht
        have hall : ([31, 55].all fun u => !Tryz.prog.wantsStandIn u) = true := by kernel_rfl
        exact (show Tryz.prog.wantsStandIn t = false by simpa using List.all_eq_true.1 hall t hm)⟩)
    (by kernel_rfl)
end Go.Proofs.YtkcjbgepmkhdaaaGreatDoor.CodecHashes
namespace Go.Proofs.YtkcjbgepmkhdaaaGreatDoor
/-- The card, under a short name. -/
theorem codecHashes_holds : Rows.CodecHashesCardSaid := CodecHashes.card
end Go.Proofs.YtkcjbgepmkhdaaaGreatDoor
