/- Part 7 of the proof: the program logic and plain functions. Conditions: none. -/
import Derived.WideKeyArgs
import Derived.ChangeArms
import Derived.DataElems
import Derived.ChangeSame
import Derived.Test.YtbhkgogeoafjjaaGreatDoorG02
set_option linter.all false
set_option maxRecDepth 100000
set_option maxHeartbeats 1000000
namespace Fw
open Go
section
variable {H : Type} {enc : TypeId × Value → H} {P : Program} {W : World}
structure Bulk (bk : DataW H → Nat) (bka : List (DataW H) → Nat) : Prop where
 slice : ∀ es sp, bk (.slice es sp) = bka es + bka sp + 1
 agg : ∀ ps, bk (.agg ps) = bka ps + 1
 str : ∀ b, bk (.lit (.string b)) = b.length + 1
 nil : bka [] = 0
 cons : ∀ d r, bka (d :: r) = bk d + bka r
 pos : ∀ d, 1 ≤ bk d
variable {bk : DataW H → Nat} {bka : List (DataW H) → Nat}
theorem Bulk.len (hb : Bulk bk bka) : ∀ l, l.length ≤ bka l
 | [] => by simp
 | d :: r => by
  have h1 := hb.len r
  have h2 := hb.pos d
  rw [hb.cons]
  simp; omega
theorem Bulk.mem (hb : Bulk bk bka) {d : DataW H} : ∀ {l : List (DataW H)}, d ∈ l → bk d ≤ bka l
 | [], h => by simp at h
 | e :: r, h => by
  rw [hb.cons]
  rcases List.mem_cons.1 h with rfl | h
  ·omega
  ·have := hb.mem h
   omega
theorem Bulk.memF (hb : Bulk bk bka) {l : List (DataW H × List MemPlace)} {i : Nat} (hi : i < l.length) : bk (l[i]).1 ≤ bka (l.map (fun x => x.1)) :=
 hb.mem (List.mem_map.2 ⟨l[i], List.getElem_mem hi, rfl⟩)
abbrev Reads (enc : TypeId × Value → H) (P : Program) (W : World) (n : Nat) (t : TypeId) (cs : List Value) : Option (DataW H × List MemPlace) := DataW.trod enc P W 0 (fun _ => true) true n t cs
def Elem (enc : TypeId × Value → H) (P : Program) (W : World) (bk : DataW H → Nat) (t : TypeId) (sz : Nat) {α : Type} (E : PH → α → List Value → Prop) : Prop :=
 ∀ n cs x, Reads enc P W n t cs = some x → bk x.1 ≤ 1048576 → ∃ a, cs.length = sz ∧ E (PAll W) a cs
theorem elem_int {t : TypeId} (ht : P.underlying t = some (.int .i64)) : Elem enc P W bk t 1 intE := by
 intro n cs x h _
 obtain ⟨i, rfl, _, hw⟩ := DataW.trod_int ht h
 refine ⟨i, rfl, rfl, ?_⟩
 simp [Lit.wf, IntKind.min, IntKind.max, IntKind.signed, IntKind.bits] at hw
 exact ⟨by omega, by omega⟩
theorem elem_str (hb : Bulk bk bka) {t : TypeId} (ht : P.underlying t = some .string) : Elem enc P W bk t 1 strE := by
 intro n cs x h hx
 obtain ⟨s, rfl, rfl, _⟩ := DataW.trod_string ht h
 simp only [hb.str] at hx
 exact ⟨s.data.toList, rfl, rfl, by omega⟩
theorem elem_bool {t : TypeId} (ht : P.underlying t = some .bool) : Elem enc P W bk t 1 (fun _ (x : Bool) cs => cs = [.bool x]) := by
 intro n cs x h _
 obtain ⟨b, rfl, _⟩ := DataW.trod_bool ht h
 exact ⟨b, rfl, rfl⟩
theorem list_of {α : Type} {Q : Nat → α → Prop} : ∀ n, (∀ i, i < n → ∃ x, Q i x) → ∃ xs : List α, xs.length = n ∧ ∀ i x, xs[i]? = some x → Q i x
 | 0, _ => ⟨[], rfl, by simp⟩
 | n + 1, h => by
  obtain ⟨xs, h1, h2⟩ := list_of n (fun i hi => h i (by omega))
  obtain ⟨x, hx⟩ := h n (by omega)
  refine ⟨xs ++ [x], by simp [h1], fun i y hy => ?_⟩
  by_cases hi : i < n
  ·rw [List.getElem?_append_left (by omega)] at hy
   exact h2 i y hy
  ·rw [List.getElem?_append_right (by omega)] at hy
   have : i = n := by
    have := (List.getElem?_eq_some_iff.1 hy).1
    simp at this
    omega
   subst this
   simp [h1] at hy
   subst hy
   exact hx
theorem mapM_at {α β : Type} {f : α → Option β} : ∀ {l : List α} {r : List β}, l.mapM f = some r → ∀ (i : Nat) (x : α), l[i]? = some x → f x = r[i]?
 | [], r, h, i, x, hx => by simp at hx
 | y :: t, r, h, i, x, hx => by
  simp only [List.mapM_cons, Option.bind_eq_bind, Option.bind_eq_some_iff, Option.pure_def, Option.some.injEq] at h
  obtain ⟨z, h1, u, h2, rfl⟩ := h
  cases i with
  | zero => simp at hx; subst hx; simpa using h1
  | succ i => simp only [List.getElem?_cons_succ] at hx ⊢; exact mapM_at h2 i x hx
theorem pcell_of {b o : Nat} {v : Value} (h : W.cell? ⟨b, o, none⟩ = some v) : PCell (PAll W) b o v := by
 unfold World.cell? at h
 unfold PCell PAll
 split at h
 ·rename_i C e fz hb
  exact ⟨C, e, fz, hb, by simpa using h⟩
 ·cases h
theorem elem_slice {α : Type} {E : PH → α → List Value → Prop} (hb : Bulk bk bka) {t e : TypeId} {sz : Nat} (ht : P.underlying t = some (.slice e)) (hz : P.cellsOf e = sz) (hsz : 0 < sz) (hE : Elem enc P W bk e sz E) :
  ∀ n cs x, Reads enc P W n t cs = some x → bk x.1 ≤ 1048576 → ∃ v xs, cs = [v] ∧ RdS LIM E sz (PAll W) v xs := by
 intro n cs x h hx
 rcases DataW.trod_slice ht h with ⟨rfl, _⟩ | ⟨a, len, cap, elems, rest, m, _, rfl, rfl, _, h2, _, h4, h5, _, _⟩
 ·exact ⟨_, [], rfl, RdS.nil _ _ _⟩
 ·simp only [hb.slice] at hx
  rw [hz] at h5
  have hle := hb.len (elems.map (·.1))
  rw [List.length_map] at hle
  have hel : ∀ i, i < len → ∃ y : α, ∃ cs, cs.length = sz ∧ E (PAll W) y cs ∧ ∀ j v, cs[j]? = some v → W.cell? ((a.add (i * sz)).add j) = some v := by
   intro i hi
   have h6 := h5 i hi
   rw [List.getElem?_eq_getElem (by omega)] at h6
   obtain ⟨cs, k1, k2⟩ := Option.bind_eq_some_iff.1 h6
   obtain ⟨y, k3, k4⟩ := hE m cs _ k2 (Nat.le_trans (hb.memF (by omega)) (by omega))
   refine ⟨y, cs, k3, k4, fun j v hj => ?_⟩
   unfold World.cells? at k1
   split at k1
   ·have hjl := (List.getElem?_eq_some_iff.1 hj).1
    rw [← hj]
    exact mapM_at k1 j j (by rw [List.getElem?_range (by omega)])
   ·cases k1
  obtain ⟨xs, x1, x2⟩ := list_of len hel
  refine ⟨_, xs, rfl, some a, cap, by rw [x1], by omega, by simp only [LIM]; omega, ?_⟩
  by_cases h0 : len = 0
  ·exact .inl (List.eq_nil_of_length_eq_zero (by omega))
  ·right
   have hspot : a.spot = none := by
    obtain ⟨y, cs, y1, _, y2⟩ := hel 0 (by omega)
    have := World.cell?_spot (y2 0 cs[0] (by simp))
    simpa [Addr.add] using this
   obtain ⟨b, o, sp⟩ := a
   simp only at hspot
   subst hspot
   refine ⟨b, o, rfl, fun i y hy => ?_⟩
   obtain ⟨cs, c1, c2, c3⟩ := x2 i y hy
   refine ⟨cs, c1, c2, fun j v hj => pcell_of ?_⟩
   have := c3 j v hj
   rwa [Addr.add_lit, Addr.add_lit] at this
theorem struct_fields (hb : Bulk bk bka) {t : TypeId} {fs : Array Field} {k : Nat} (ht : P.underlying t = some (.struct fs)) (hk : P.cellsOf t = k) (hall : ∀ (i : Nat) (f : Field), fs[i]? = some f → f.offset = i ∧ P.cellsOf f.type = 1) :
  ∀ n cs x, Reads enc P W n t cs = some x → bk x.1 ≤ 1048576 → cs.length = k ∧ ∀ (i : Nat) (f : Field), fs[i]? = some f → i < k → ∃ v y m, cs[i]? = some v ∧ Reads enc P W m f.type [v] = some y ∧ bk y.1 ≤ 1048576 := by
 intro n cs x h hx
 obtain ⟨xs, m, _, rfl, h1, h2, h3⟩ := DataW.trod_struct ht h
 simp only [hb.agg] at hx
 rw [hk] at h1
 refine ⟨h1, fun i f hf hi => ?_⟩
 have hfi := (Array.getElem?_eq_some_iff.1 hf).1
 obtain ⟨ho, hc⟩ := hall i f hf
 have h4 := h3 i f hf
 rw [ho, hc, List.getElem?_eq_getElem (by omega)] at h4
 have e : (cs.drop i).take 1 = [cs[i]'(by omega)] := by
  rw [List.drop_eq_getElem_cons (by omega)]
  rfl
 rw [e] at h4
 exact ⟨_, _, m, List.getElem?_eq_getElem (by omega), h4, Nat.le_trans (hb.memF (by omega)) (by omega)⟩
theorem two_of {cs : List Value} {a b : Value} (h : cs.length = 2) (h0 : cs[0]? = some a) (h1 : cs[1]? = some b) : cs = [a, b] := by
 match cs, h with
 | [x, y], _ => simp at h0 h1; simp [h0, h1]
theorem three_of {cs : List Value} {a b c : Value} (h : cs.length = 3) (h0 : cs[0]? = some a) (h1 : cs[1]? = some b) (h2 : cs[2]? = some c) : cs = [a, b, c] := by
 match cs, h with
 | [x, y, z], _ => simp at h0 h1 h2; simp [h0, h1, h2]
variable {ti ts tb tis : TypeId}
theorem elem_held (hb : Bulk bk bka) {t : TypeId} {f0 f1 f2 : Field} (ht : P.underlying t = some (.struct #[f0, f1, f2])) (hk : P.cellsOf t = 3) (hall : ∀ (i : Nat) (f : Field), #[f0, f1, f2][i]? = some f → f.offset = i ∧ P.cellsOf f.type = 1)
  (e0 : f0.type = ti) (e1 : f1.type = tis) (e2 : f2.type = ti) (hi : P.underlying ti = some (.int .i64)) (his : P.underlying tis = some (.slice ti)) (hz : P.cellsOf ti = 1) : Elem enc P W bk t 3 heldE := by
 intro n cs x h hx
 obtain ⟨hl, hf⟩ := struct_fields hb ht hk hall n cs x h hx
 obtain ⟨v0, y0, m0, a0, b0, c0⟩ := hf 0 f0 rfl (by omega)
 obtain ⟨v1, y1, m1, a1, b1, c1⟩ := hf 1 f1 rfl (by omega)
 obtain ⟨v2, y2, m2, a2, b2, c2⟩ := hf 2 f2 rfl (by omega)
 rw [e0] at b0; rw [e1] at b1; rw [e2] at b2
 obtain ⟨i0, _, g0, g0'⟩ := elem_int (bk := bk) hi m0 _ _ b0 c0
 obtain ⟨i2, _, g2, g2'⟩ := elem_int (bk := bk) hi m2 _ _ b2 c2
 obtain ⟨v, xs, g1, g1'⟩ := elem_slice hb his hz (by omega) (elem_int hi) m1 _ _ b1 c1
 simp only [List.cons.injEq, and_true] at g0 g1 g2
 subst g0 g1 g2
 obtain ⟨a, c, rfl⟩ := g1'.shape
 exact ⟨⟨i0, xs, i2⟩, hl, _, _, _, three_of hl a0 a1 a2, g0', g1', g2'⟩
theorem elem_item (hb : Bulk bk bka) {t : TypeId} {f0 f1 f2 : Field} (ht : P.underlying t = some (.struct #[f0, f1, f2])) (hk : P.cellsOf t = 3) (hall : ∀ (i : Nat) (f : Field), #[f0, f1, f2][i]? = some f → f.offset = i ∧ P.cellsOf f.type = 1)
  (e0 : f0.type = ts) (e1 : f1.type = tb) (e2 : f2.type = tis) (hs : P.underlying ts = some .string) (hbo : P.underlying tb = some .bool) (hi : P.underlying ti = some (.int .i64)) (his : P.underlying tis = some (.slice ti)) (hz : P.cellsOf ti = 1) : Elem enc P W bk t 3 itemE := by
 intro n cs x h hx
 obtain ⟨hl, hf⟩ := struct_fields hb ht hk hall n cs x h hx
 obtain ⟨v0, y0, m0, a0, b0, c0⟩ := hf 0 f0 rfl (by omega)
 obtain ⟨v1, y1, m1, a1, b1, c1⟩ := hf 1 f1 rfl (by omega)
 obtain ⟨v2, y2, m2, a2, b2, c2⟩ := hf 2 f2 rfl (by omega)
 rw [e0] at b0; rw [e1] at b1; rw [e2] at b2
 obtain ⟨i0, _, g0, g0'⟩ := elem_str hb hs m0 _ _ b0 c0
 obtain ⟨i1, _, g1⟩ := elem_bool (bk := bk) hbo m1 _ _ b1 c1
 obtain ⟨v, xs, g2, g2'⟩ := elem_slice hb his hz (by omega) (elem_int hi) m2 _ _ b2 c2
 simp only [List.cons.injEq, and_true] at g0 g1 g2
 subst g0 g1 g2
 obtain ⟨a, c, rfl⟩ := g2'.shape
 exact ⟨⟨i0, i1, xs⟩, hl, _, _, _, three_of hl a0 a1 a2, g0', g2'⟩
theorem elem_snap (hb : Bulk bk bka) {t tit tits : TypeId} {f0 f1 : Field} (ht : P.underlying t = some (.struct #[f0, f1])) (hk : P.cellsOf t = 2) (hall : ∀ (i : Nat) (f : Field), #[f0, f1][i]? = some f → f.offset = i ∧ P.cellsOf f.type = 1)
  (e0 : f0.type = ts) (e1 : f1.type = tits) (hs : P.underlying ts = some .string) (his : P.underlying tits = some (.slice tit)) (hz : P.cellsOf tit = 3) (hit : Elem enc P W bk tit 3 itemE) : Elem enc P W bk t 2 snapE := by
 intro n cs x h hx
 obtain ⟨hl, hf⟩ := struct_fields hb ht hk hall n cs x h hx
 obtain ⟨v0, y0, m0, a0, b0, c0⟩ := hf 0 f0 rfl (by omega)
 obtain ⟨v1, y1, m1, a1, b1, c1⟩ := hf 1 f1 rfl (by omega)
 rw [e0] at b0; rw [e1] at b1
 obtain ⟨i0, _, g0, g0'⟩ := elem_str hb hs m0 _ _ b0 c0
 obtain ⟨v, xs, g1, g1'⟩ := elem_slice hb his hz (by omega) hit m1 _ _ b1 c1
 simp only [List.cons.injEq, and_true] at g0 g1
 subst g0 g1
 obtain ⟨a, c, rfl⟩ := g1'.shape
 exact ⟨⟨i0, xs⟩, hl, _, _, _, two_of hl a0 a1, g0', g1'⟩
theorem elem_disk (hb : Bulk bk bka) {t the thes tit tits tsn tsns : TypeId} {f0 f1 f2 : Field} (ht : P.underlying t = some (.struct #[f0, f1, f2])) (hk : P.cellsOf t = 3) (hall : ∀ (i : Nat) (f : Field), #[f0, f1, f2][i]? = some f → f.offset = i ∧ P.cellsOf f.type = 1)
  (e0 : f0.type = thes) (e1 : f1.type = tits) (e2 : f2.type = tsns) (h0 : P.underlying thes = some (.slice the)) (h1 : P.underlying tits = some (.slice tit)) (h2 : P.underlying tsns = some (.slice tsn)) (z0 : P.cellsOf the = 3) (z1 : P.cellsOf tit = 3) (z2 : P.cellsOf tsn = 2)
  (hh : Elem enc P W bk the 3 heldE) (hit : Elem enc P W bk tit 3 itemE) (hsn : Elem enc P W bk tsn 2 snapE) : Elem enc P W bk t 3 diskE := by
 intro n cs x h hx
 obtain ⟨hl, hf⟩ := struct_fields hb ht hk hall n cs x h hx
 obtain ⟨v0, y0, m0, a0, b0, c0⟩ := hf 0 f0 rfl (by omega)
 obtain ⟨v1, y1, m1, a1, b1, c1⟩ := hf 1 f1 rfl (by omega)
 obtain ⟨v2, y2, m2, a2, b2, c2⟩ := hf 2 f2 rfl (by omega)
 rw [e0] at b0; rw [e1] at b1; rw [e2] at b2
 obtain ⟨u0, x0, g0, g0'⟩ := elem_slice hb h0 z0 (by omega) hh m0 _ _ b0 c0
 obtain ⟨u1, x1, g1, g1'⟩ := elem_slice hb h1 z1 (by omega) hit m1 _ _ b1 c1
 obtain ⟨u2, x2, g2, g2'⟩ := elem_slice hb h2 z2 (by omega) hsn m2 _ _ b2 c2
 simp only [List.cons.injEq, and_true] at g0 g1 g2
 subst g0 g1 g2
 obtain ⟨a, c, rfl⟩ := g0'.shape
 obtain ⟨a', c', rfl⟩ := g1'.shape
 obtain ⟨a'', c'', rfl⟩ := g2'.shape
 exact ⟨⟨x0, x1, x2⟩, hl, _, _, _, _, _, _, _, _, _, three_of hl a0 a1 a2, g0', g1', g2'⟩
theorem same_of_ext {w w' : World} (h : Ext w w') {p : MemPlace} (hp : p.block < w.heap.size) : w.sameAt w' p := by
 have hb := h.block p.block hp
 cases p with
 | cell b off => simp only [World.sameAt, World.cell?]; simp only [MemPlace.block] at hb; rw [hb]
 | map b => simp only [World.sameAt]; simpa [MemPlace.block] using hb
end
end Fw
namespace Fw
open Go Go.ChangeShapes Go.WideShapes
section
variable {H : Type} {enc : TypeId × Value → H} {P : Program}
theorem trodAll_stays (hl : laidOutB P = true) {W W' : World} {sp' : Nat → Bool} : ∀ {ts : List TypeId} {vs : List Value} {ds : List (DataW H)} {ps : List MemPlace}, (∀ t, t ∈ ts → P.readableRec t = true ∧ t < P.types.size) →
  DataW.TrodAll enc P W 0 (fun _ => true) true ts vs ds ps → (∀ p ∈ ps, W.sameAt W' p) → (∀ p ∈ ps, sp' p.block = true) → DataW.TrodAll enc P W' 0 sp' true ts vs ds ps
 | [], _, _, _, _, h, _, _ => by
  obtain ⟨rfl, rfl, rfl⟩ := trodAll_nil h
  rfl
 | t :: ts, _, _, _, hr, h, hs, hq => by
  obtain ⟨v, vs1, d, ds1, a, b, rfl, rfl, rfl, h1, h2⟩ := trodAll_cons h
  exact ⟨a, b, WideElems.Trod_stays hl (hr t (by simp)).1 (hr t (by simp)).2 h1 (fun p hp => hs p (by simp [hp])) (fun p hp => hq p (by simp [hp])),
   trodAll_stays hl (fun t ht => hr t (by simp [ht])) h2 (fun p hp => hs p (by simp [hp])) (fun p hp => hq p (by simp [hp])), rfl⟩
theorem kept_of_ext {W W' : World} (h : Ext W W') (may : MemPlace → Prop) : W.keptBut W' may := by
 refine ⟨h.os, h.output, fun i hi => ?_⟩
 rw [h.block i hi]
 cases W.heap[i]? with
 | none => simp
 | some o => cases o <;> simp
theorem law_post {f : Func} {s : ChangeSpec} {apart fresh handsOn again : Bool} {W W' : World} {args : Array Value} {ds gs : List (DataW H)} {before : List MemPlace} (hl : laidOutB P = true) (hr : ∀ t, t ∈ f.params.toList → P.readableRec t = true ∧ t < P.types.size)
  (hv : s.vars = []) (hW : DataW.Whole enc P f.params.toList s.vars apart W args.toList ds gs before) (hx : Ext W W') (hfr : (s.fn H (ds ++ gs)).results = [.lit (.bool true)]) (hfa : (s.fn H (ds ++ gs)).args = ds) (hfv : (s.fn H (ds ++ gs)).vars = [])
  (hres : ∀ (b : Nat) (sp : Nat → Bool) (hd : Bool), DataW.TrodAll enc P W' b sp hd f.resultTypes.toList ((Value.bool true).resultList f.resultTypes.size) [.lit (.bool true)] [])
  (hok : ∀ (j : Nat) (t : TypeId) (r : Value), f.resultTypes[j]? = some t → ((Value.bool true).resultList f.resultTypes.size)[j]? = some r → Value.okWide P W' .any 0 t r) :
  s.post enc P f apart fresh handsOn again W args (.bool true) W' := by
 have hW' := hW
 obtain ⟨p, q, hA, hV, rfl, hz, hn⟩ := hW
 rw [hv] at hV
 have hgs : gs = [] ∧ q = [] := by
  cases gs with
  | nil => exact ⟨rfl, hV⟩
  | cons d r => exact hV.elim
 obtain ⟨rfl, rfl⟩ := hgs
 rw [List.append_nil] at hW' hz hn
 have hlt : ∀ m ∈ p, m.block < W.heap.size := fun m hm => hW'.lt m hm
 have hold : ∀ m ∈ p, (fun b => decide (b < W.heap.size)) m.block = true := fun m hm => by simpa using hlt m hm
 have hargs : ∀ sp : Nat → Bool, (∀ m ∈ p, sp m.block = true) → DataW.TrodAll enc P W' 0 sp true f.params.toList args.toList (s.fn H (ds ++ [])).args p := fun sp hsp => by
  rw [hfa]
  exact trodAll_stays hl hr hA (fun m hm => same_of_ext hx (hlt m hm)) hsp
 have hvars : ∀ sp : Nat → Bool, DataW.TrodVars enc P W' sp s.vars (s.fn H (ds ++ [])).vars [] := fun sp => by rw [hv, hfv]; rfl
 have hres' : ∀ (b : Nat) (sp : Nat → Bool) (hd : Bool), DataW.TrodAll enc P W' b sp hd f.resultTypes.toList ((Value.bool true).resultList f.resultTypes.size) (s.fn H (ds ++ [])).results [] := fun b sp hd => by rw [hfr]; exact hres b sp hd
 refine ⟨ds, [], p, [], p, [], hW', hres' _ _ _, hargs _ hold, hvars _, World.keptBut_mono (fun m hm => ⟨hm, Or.inr ?_⟩) (kept_of_ext hx (· ∈ p)), fun _ => ?_⟩
 ·simpa using hm
 ·refine ⟨hok, _, _, ([] ++ p) ++ [], ⟨[] ++ p, [], trodAll_append (hargs _ (fun _ _ => rfl)) (hres' _ _ _), hvars _, rfl, ?_, ?_⟩, ?_⟩
  ·intro b off hp
   have hp' : MemPlace.cell b off ∈ p := by simpa using hp
   have h1 := hz b off hp'
   have h2 := hx.block b (hlt _ hp')
   simp only [World.frozen?] at h1 ⊢
   rw [h2]
   exact h1
  ·intro ha
   simpa using hn ha
  ·intro m hm _
   simpa using hm
end
end Fw
namespace Fw
open Go Go.WideShapes
theorem agg_of {P : Program} {W : World} {b : Nat} {t : TypeId} {fs : Array Field} {v : Value} (ht : P.underlying t = some (.struct fs)) (h : Value.okWide P W .any b t v) : ∃ cs : List Value, v = .agg cs.toArray := by
 unfold Value.okWide at h
 rw [ht] at h
 obtain ⟨cs, rfl, _⟩ := h
 exact ⟨cs.toList, by simp⟩
end Fw
