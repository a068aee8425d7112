/- Part 4 of the proof: the program logic and plain functions. Conditions: none. -/
import Derived.Test.YtejelpcappbmiaaGreatDoorG03
import Derived.Test.YtejelpcappbmiaaGreatDoorG02
import Derived.KernelRfl
import Derived.Test.YtejelpcappbmiaaGreatDoorProg
import Derived.WalkKit
import Derived.LaidEql
import Derived.Stop.Asserts
import Derived.RowKitTokens
set_option linter.all false
set_option maxRecDepth 100000
set_option maxHeartbeats 1000000
namespace Sp
open Go Fw
theorem getH_mem {L : List BHeld} (nd : (L.map (·.id)).Nodup) {x : BHeld} (h : x ∈ L) : getH L x.id = x := by
 cases e : Sp.atH L x.id with
 | none => exact absurd (List.mem_map_of_mem h) (Fw.atH_none e)
 | some j =>
  obtain ⟨y, hy, hid⟩ := Fw.atH_some e
  rw [getH_some e hy]
  obtain ⟨i, hi⟩ := List.getElem?_of_mem h
  have h1 : (L.map (·.id))[i]? = some x.id := by simp [hi]
  have h2 : (L.map (·.id))[j]? = some x.id := by simp [hy, hid]
  obtain ⟨l1, e1⟩ := List.getElem?_eq_some_iff.1 h1
  obtain ⟨l2, e2⟩ := List.getElem?_eq_some_iff.1 h2
  have : i = j := by
   have hp := List.pairwise_iff_getElem.1 nd
   rcases Nat.lt_trichotomy i j with hlt | heq | hlt
   ·exact absurd (e1.trans e2.symm) (hp i j l1 l2 hlt)
   ·exact heq
   ·exact absurd (e2.trans e1.symm) (hp j i l2 l1 hlt)
  subst this
  rw [hi] at hy
  exact (Option.some.inj hy).symm
theorem at_mem {L : List BHeld} {a : Int} : (Sp.atH L a).isSome = true ↔ a ∈ L.map (·.id) := by
 constructor
 ·intro h
  obtain ⟨i, hi⟩ := Option.isSome_iff_exists.1 h
  obtain ⟨y, hy, rfl⟩ := Fw.atH_some hi
  exact List.mem_map_of_mem (List.mem_of_getElem? hy)
 ·intro h
  cases e : Sp.atH L a with
  | none => exact absurd h (Fw.atH_none e)
  | some i => rfl
theorem getH_not {L : List BHeld} {a : Int} (h : a ∉ L.map (·.id)) : getH L a = ⟨0, [], 0⟩ := by
 refine get_no ?_
 cases e : (Sp.atH L a).isSome with
 | false => rfl
 | true => exact absurd (at_mem.1 e) h
theorem getH_perm {L L' : List BHeld} (nd : (L.map (·.id)).Nodup) (hp : L.Perm L') (a : Int) : getH L' a = getH L a := by
 have hp2 : (L.map (·.id)).Perm (L'.map (·.id)) := hp.map _
 by_cases h : a ∈ L.map (·.id)
 ·obtain ⟨x, hx, rfl⟩ := List.mem_map.1 h
  rw [getH_mem nd hx, getH_mem (hp2.nodup_iff.1 nd) (hp.mem_iff.1 hx)]
 ·rw [getH_not h, getH_not (fun h' => h (hp2.mem_iff.2 h'))]
theorem getH_updH {L : List BHeld} (nd : (L.map (·.id)).Nodup) (y : BHeld) (a : Int) : getH (updH L y) a = if a = y.id then y else getH L a := by
 have hp := updH_perm nd y
 have hsub : ∀ x, x ∈ L.filter (fun x => decide (x.id ≠ y.id)) → x ∈ L ∧ x.id ≠ y.id := fun x hx => by simpa using List.mem_filter.1 hx
 have nd2 : ((y :: L.filter (fun x => decide (x.id ≠ y.id))).map (·.id)).Nodup := by
  rw [List.map_cons, List.nodup_cons]
  refine ⟨fun h => ?_, List.Nodup.sublist ((List.filter_sublist).map _) nd⟩
  obtain ⟨x, hx, e⟩ := List.mem_map.1 h
  exact (hsub x hx).2 e
 rw [getH_perm nd2 hp.symm]
 split
 ·next e => subst e; exact getH_mem nd2 (by simp)
 ·next e =>
  by_cases h : a ∈ L.map (·.id)
  ·obtain ⟨x, hx, rfl⟩ := List.mem_map.1 h
   rw [getH_mem nd hx]
   exact getH_mem nd2 (List.mem_cons_of_mem _ (List.mem_filter.2 ⟨hx, by simpa using e⟩))
  ·rw [getH_not h]
   refine getH_not (fun h' => ?_)
   simp only [List.map_cons, List.mem_cons] at h'
   rcases h' with h' | h'
   ·exact e h'
   ·obtain ⟨x, hx, rfl⟩ := List.mem_map.1 h'
    exact h (List.mem_map_of_mem (hsub x hx).1)
theorem getH_delH {L : List BHeld} (nd : (L.map (·.id)).Nodup) (id a : Int) : getH (delH L id) a = if a = id then ⟨0, [], 0⟩ else getH L a := by
 have hp := delH_perm nd id
 have hsub : ∀ x, x ∈ L.filter (fun x => decide (x.id ≠ id)) → x ∈ L ∧ x.id ≠ id := fun x hx => by simpa using List.mem_filter.1 hx
 have nd2 : ((L.filter (fun x => decide (x.id ≠ id))).map (·.id)).Nodup := List.Nodup.sublist ((List.filter_sublist).map _) nd
 rw [getH_perm nd2 hp.symm]
 split
 ·next e =>
  subst e
  refine getH_not (fun h' => ?_)
  obtain ⟨x, hx, e⟩ := List.mem_map.1 h'
  exact (hsub x hx).2 e
 ·next e =>
  by_cases h : a ∈ L.map (·.id)
  ·obtain ⟨x, hx, rfl⟩ := List.mem_map.1 h
   rw [getH_mem nd hx]
   exact getH_mem nd2 (List.mem_filter.2 ⟨hx, by simpa using e⟩)
  ·rw [getH_not h]
   refine getH_not (fun h' => ?_)
   obtain ⟨x, hx, rfl⟩ := List.mem_map.1 h'
   exact h (List.mem_map_of_mem (hsub x hx).1)
def us (L : List BHeld) (a : Int) : Int := (getH L a).uses
def by_ (L : List BHeld) (a : Int) : List Int := (getH L a).bytes
theorem us_nonneg {L : List BHeld} (hV : VH L) (a : Int) : 0 ≤ us L a := by
 unfold us
 cases h : (Sp.atH L a).isSome with
 | false => rw [get_no h]; simp
 | true => have := (get_ok hV h).2.2.1; omega
theorem us_pos {L : List BHeld} (hV : VH L) {a : Int} : 0 < us L a ↔ (Sp.atH L a).isSome = true := by
 unfold us
 cases h : (Sp.atH L a).isSome with
 | false => rw [get_no h]; simp
 | true => have := (get_ok hV h).2.2.1; simp; omega
theorem drop_step {L : List BHeld} (hV : VH L) {id : Int} (h : 0 < us L id) :
  ∃ L', StoreDrop L id = some L' ∧ VH L' ∧ ∀ a, us L' a = us L a - (if a = id then 1 else 0) ∧ (0 < us L' a → by_ L' a = by_ L a) := by
 have hs := (us_pos hV).1 h
 have hid := get_id hs
 by_cases hu : (getH L id).uses = 1
 ·obtain ⟨h1, h2⟩ := drop_get1 hV hs hu
  refine ⟨_, h1, h2, fun a => ?_⟩
  unfold us by_
  rw [getH_delH hV.nd]
  by_cases e : a = id
  ·subst e; simp [hu]
  ·simp [e]
 ·obtain ⟨h1, h2⟩ := drop_get2 hV hs hu
  refine ⟨_, h1, h2, fun a => ?_⟩
  unfold us by_
  rw [getH_updH hV.nd, ← hid]
  by_cases e : a = id
  ·subst e; simp
  ·simp [e]
theorem cnt1_cons (a x : Int) (r : List Int) : cnt1 a (x :: r) = (if a = x then 1 else 0) + cnt1 a r := by
 unfold cnt1
 rw [List.countP_cons]
 by_cases e : a = x
 ·subst e; simp; omega
 ·have : ¬ x = a := fun h => e h.symm
  simp [e, this]
theorem foldB_cons {α β : Type} {f : α → β → Option α} {b : β} {r : List β} {a a' : α} (h : f a b = some a') : foldB f (b :: r) (some a) = foldB f r (some a') := by
 simp [foldB, h]
theorem drops : ∀ (ids : List Int) {L : List BHeld}, VH L → (∀ a, (cnt1 a ids : Int) ≤ us L a) →
  ∃ L', foldB StoreDrop ids (some L) = some L' ∧ VH L' ∧ ∀ a, us L' a = us L a - (cnt1 a ids : Int) ∧ (0 < us L' a → by_ L' a = by_ L a)
 | [], L, hV, _ => ⟨L, rfl, hV, fun a => by simp [cnt1]⟩
 | x :: r, L, hV, h => by
  have hx := h x
  rw [cnt1_cons, if_pos rfl] at hx
  obtain ⟨L1, h1, h2, h3⟩ := drop_step hV (id := x) (by push_cast at hx; omega)
  obtain ⟨L2, g1, g2, g3⟩ := drops r h2 (fun a => by
   have h8 := h a
   rw [cnt1_cons] at h8
   have h4 := (h3 a).1
   by_cases e : a = x
   ·rw [if_pos e] at h8 h4; omega
   ·rw [if_neg e] at h8 h4; omega)
  refine ⟨L2, by rw [foldB_cons h1]; exact g1, g2, fun a => ?_⟩
  have h4 := h3 a
  have h5 := g3 a
  rw [cnt1_cons]
  refine ⟨?_, fun hp => ?_⟩
  ·have h8 := h4.1
   have h9 := h5.1
   by_cases e : a = x
   ·rw [if_pos e] at h8 ⊢; omega
   ·rw [if_neg e] at h8 ⊢; omega
  ·rw [h5.2 hp, h4.2 ?_]
   have := h5.1
   omega
theorem free_ok {L : List BHeld} (hV : VH L) {ids : List Int} (hl : l4Ids L ids = true) (h : ∀ a, (cnt1 a ids : Int) ≤ us L a) :
  ∃ L', FileFree L ids = some L' ∧ VH L' ∧ ∀ a, us L' a = us L a - (cnt1 a ids : Int) ∧ (0 < us L' a → by_ L' a = by_ L a) := by
 obtain ⟨L', h1, h2⟩ := drops ids hV h
 exact ⟨L', by simp [FileFree, valid_iff.2 hV, hl, h1], h2⟩
theorem keep_step {L : List BHeld} (hV : VH L) {id : Int} {L' : List BHeld} (h : StoreKeep L id = some L') : VH L' ∧ 0 < us L id ∧ ∀ a, us L' a = us L a + (if a = id then 1 else 0) ∧ by_ L' a = by_ L a := by
 have hs : (Sp.atH L id).isSome = true := by
  cases e : (Sp.atH L id).isSome with
  | true => rfl
  | false => rw [keep_no hV (.inl e)] at h; cases h
 have hu : (getH L id).uses < 999 := by
  by_cases h1 : (getH L id).uses < 999
  ·exact h1
  ·rw [keep_no hV (.inr (by omega))] at h; cases h
 obtain ⟨h1, h2⟩ := keep_get hV hs hu
 rw [h1] at h
 cases h
 have hid := get_id hs
 refine ⟨h2, (us_pos hV).2 hs, fun a => ?_⟩
 unfold us by_
 rw [getH_updH hV.nd, ← hid]
 by_cases e : a = id
 ·subst e; simp
 ·simp [e]
theorem put_step {L : List BHeld} (hV : VH L) {b : List Int} (hb : BlockValid b = true) {L' : List BHeld} {id : Int} (h : StorePut L b = some (L', id)) :
  VH L' ∧ (∀ a, us L' a = us L a + (if a = id then 1 else 0) ∧ (0 < us L a → by_ L' a = by_ L a)) ∧ by_ L' id = b := by
 cases e : like L b with
 | none =>
  by_cases hl : L.length < 16
  ·rw [put_new hV hb e hl] at h
   simp only [Option.some.injEq, Prod.mk.injEq] at h
   obtain ⟨rfl, rfl⟩ := h
   have hw := with_valid hV hb e hl
   have hf := (free_lt L).1
   obtain ⟨k, hk⟩ : ∃ k, freeId L = k + 1 := ⟨freeId L - 1, by omega⟩
   have hp := put_perm (L := L) b hk
   have hfi : (freeId L : Int) = (k : Int) + 1 := by omega
   have hg : ∀ a, getH (l3With L b) a = if a = (freeId L : Int) then ⟨(k : Int) + 1, b, 1⟩ else getH L a := fun a => by
    have hnd : ((updH L ⟨(k : Int) + 1, b, 1⟩).map (·.id)).Nodup := (hp.map (·.id)).nodup_iff.2 hw.nd
    rw [getH_perm hnd hp, getH_updH hV.nd, hfi]
   have h0 : getH L (freeId L : Int) = ⟨0, [], 0⟩ := getH_none (free_none L)
   refine ⟨hw, fun a => ?_, ?_⟩
   ·unfold us by_
    rw [hg]
    by_cases ea : a = (freeId L : Int)
    ·subst ea; simp [h0]
    ·simp [ea]
   ·unfold by_
    rw [hg, if_pos rfl]
  ·rw [put_full e (by omega)] at h; cases h
 | some i =>
  obtain ⟨hi, hp, _⟩ := List.findIdx?_eq_some_iff_getElem.1 e
  have hx : L[i]? = some L[i] := List.getElem?_eq_getElem hi
  rw [put_old hV hb e hx] at h
  obtain ⟨l, h1, h2⟩ := Option.map_eq_some_iff.1 h
  simp only [Prod.mk.injEq] at h2
  obtain ⟨rfl, rfl⟩ := h2
  obtain ⟨k1, k2, k3⟩ := keep_step hV h1
  refine ⟨k1, fun a => ⟨(k3 a).1, fun _ => (k3 a).2⟩, ?_⟩
  rw [(k3 _).2]
  unfold by_
  rw [getH_mem hV.nd (List.getElem_mem hi)]
  simpa [l2Same] using hp
end Sp
namespace Sp
open Go Fw
theorem puts : ∀ (bs : List (List Int)) {L : List BHeld} {acc : List Int} {s : List BHeld} {ids : List Int}, VH L → (∀ b, b ∈ bs → BlockValid b = true) → foldB put1 bs (some (L, acc)) = some (s, ids) →
  VH s ∧ ∃ new, ids = acc ++ new ∧ new.length = bs.length ∧ (∀ a, us s a = us L a + (cnt1 a new : Int) ∧ (0 < us L a → by_ s a = by_ L a)) ∧ ∀ (i : Nat) (id : Int), new[i]? = some id → some (by_ s id) = bs[i]?
 | [], L, acc, s, ids, hV, _, h => by
  simp only [foldB, List.foldl_nil, Option.some.injEq, Prod.mk.injEq] at h
  obtain ⟨rfl, rfl⟩ := h
  exact ⟨hV, [], by simp, rfl, fun a => by simp [cnt1], by simp⟩
 | b :: r, L, acc, s, ids, hV, hb, h => by
  cases e : StorePut L b with
  | none =>
   have : foldB put1 (b :: r) (some (L, acc)) = foldB put1 r none := by simp [foldB, put1, e]
   rw [this, foldB_none] at h
   cases h
  | some q =>
   obtain ⟨L1, id⟩ := q
   rw [foldB_cons (a' := (L1, acc ++ [id])) (by simp [put1, e])] at h
   obtain ⟨k1, k2, k3⟩ := put_step hV (hb b (by simp)) e
   obtain ⟨g1, new, g2, g3, g4, g5⟩ := puts r k1 (fun c hc => hb c (by simp [hc])) h
   refine ⟨g1, id :: new, by rw [g2]; simp, by simp [g3], fun a => ?_, fun i z hz => ?_⟩
   ·rw [cnt1_cons]
    have h8 := (k2 a).1
    have h9 := (g4 a).1
    have hn := us_nonneg hV a
    refine ⟨?_, fun hp => ?_⟩
    ·by_cases ea : a = id
     ·rw [if_pos ea] at h8 ⊢; omega
     ·rw [if_neg ea] at h8 ⊢; omega
    ·have h7 : us L a ≤ us L1 a := by
      by_cases ea : a = id
      ·rw [if_pos ea] at h8; omega
      ·rw [if_neg ea] at h8; omega
     rw [(g4 a).2 (by omega), (k2 a).2 hp]
   ·cases i with
    | zero =>
     simp only [List.getElem?_cons_zero, Option.some.injEq] at hz
     subst hz
     have h8 := (k2 id).1
     rw [if_pos rfl] at h8
     have hn := us_nonneg hV id
     rw [(g4 id).2 (by omega), k3]
     rfl
    | succ i =>
     simp only [List.getElem?_cons_succ] at hz ⊢
     exact g5 i z hz
theorem chunks_valid {b : List Int} (h : FileValid b = true) : ∀ c, c ∈ l4Cut b → BlockValid c = true := by
 intro c hc
 unfold l4Cut at hc
 obtain ⟨k, hk, rfl⟩ := List.mem_map.1 hc
 refine chunk_valid h ?_
 rw [chunk_len]
 have := List.mem_range.1 hk
 omega
theorem store_ok {L : List BHeld} (hV : VH L) {b : List Int} {s : List BHeld} {ids : List Int} (h : FileStore L b = some (s, ids)) :
  VH s ∧ ids.length = (l4Cut b).length ∧ (∀ a, us s a = us L a + (cnt1 a ids : Int) ∧ (0 < us L a → by_ s a = by_ L a)) ∧ ∀ (i : Nat) (id : Int), ids[i]? = some id → some (by_ s id) = (l4Cut b)[i]? := by
 unfold FileStore at h
 split at h
 ·rename_i hc
  simp only [Bool.and_eq_true] at hc
  obtain ⟨g1, new, g2, g3, g4, g5⟩ := puts (l4Cut b) hV (chunks_valid hc.2) h
  rw [List.nil_append] at g2
  subst g2
  exact ⟨g1, g3, g4, g5⟩
 ·cases h
theorem ids_stay {L s : List BHeld} (hV : VH L) (hs : VH s) (h : ∀ a, 0 < us L a → 0 < us s a ∧ by_ s a = by_ L a) {ids : List Int} (hl : l4Ids L ids = true) : l4Ids s ids = true := by
 refine ids_true (fun j hj => ?_) (ids_le hl)
 have hz : ids[j]? = some ids[j] := List.getElem?_eq_getElem hj
 have h1 : idsOk L ids j = true := by
  simp only [l4Ids, Bool.and_eq_true] at hl
  exact List.all_eq_true.1 hl.1 j (by simpa using hj)
 have hp : (Sp.atH L ids[j]).isSome = true := by
  cases e : (Sp.atH L ids[j]).isSome with
  | true => rfl
  | false => rw [idsOk_no hz e] at h1; cases h1
 have h2 := h _ ((us_pos hV).2 hp)
 rw [idsOk_get hz ((us_pos hs).1 h2.1)]
 rw [idsOk_get hz hp] at h1
 have h3 : (getH s ids[j]).bytes = (getH L ids[j]).bytes := h2.2
 rw [h3]
 exact h1
theorem ids_in {L : List BHeld} (hV : VH L) {ids : List Int} (hl : l4Ids L ids = true) {a : Int} (ha : a ∈ ids) : 0 < us L a := by
 obtain ⟨j, hz⟩ := List.getElem?_of_mem ha
 have hj := (List.getElem?_eq_some_iff.1 hz).1
 have h1 : idsOk L ids j = true := by
  simp only [l4Ids, Bool.and_eq_true] at hl
  exact List.all_eq_true.1 hl.1 j (by simpa using hj)
 refine (us_pos hV).2 ?_
 cases e : (Sp.atH L a).isSome with
 | true => rfl
 | false => rw [idsOk_no hz e] at h1; cases h1
theorem cnt1_pos {a : Int} {ids : List Int} : 0 < cnt1 a ids ↔ a ∈ ids := by
 unfold cnt1
 rw [List.countP_pos_iff]
 constructor
 ·rintro ⟨x, hx, e⟩
  have : x = a := by simpa using e
  exact this ▸ hx
 ·intro h
  exact ⟨a, h, by simp⟩
end Sp
namespace Sp
open Go Fw Fw.Nd
def cntL (l : List BItem) (a : Int) : Nat := (l.map (fun x => cnt1 a x.ids)).sum
theorem l11Count_eq (l : List BItem) (a : Int) : l11Count l a = cntL l a := by simp [l11Count, cntU, cntL]
theorem cntL_mem {l : List BItem} {x : BItem} (hx : x ∈ l) (a : Int) : cnt1 a x.ids ≤ cntL l a := by
 induction l with
 | nil => simp at hx
 | cons y r ih =>
  simp only [cntL, List.map_cons, List.sum_cons] at *
  rcases List.mem_cons.1 hx with rfl | hx
  ·omega
  ·have := ih hx; omega
theorem cntL_perm {l m : List BItem} (h : l.Perm m) (a : Int) : cntL l a = cntL m a := (h.map _).sum_nat
theorem cntL_cons (x : BItem) (l : List BItem) (a : Int) : cntL (x :: l) a = cnt1 a x.ids + cntL l a := by simp [cntL]
theorem cntL_zero {l : List BItem} {a : Int} (h : ∀ x, x ∈ l → a ∉ x.ids) : cntL l a = 0 := by
 induction l with
 | nil => rfl
 | cons y r ih =>
  rw [cntL_cons, ih (fun x hx => h x (by simp [hx]))]
  have := h y (by simp)
  rw [← cnt1_pos] at this
  omega
theorem vv_iff {u : BVol} : VolumeValid u = true ↔ VH u.store ∧ VT u.tree ∧ (∀ x, x ∈ u.tree → l4Ids u.store x.ids = true) ∧ ∀ a, us u.store a = (cntL u.tree a : Int) := by
 simp only [VolumeValid, Bool.and_eq_true, valid_iff, tvalid_iff]
 constructor
 ·rintro ⟨h1, ⟨h2, h3⟩, h4⟩
  have h4 : ∀ x, x ∈ u.tree → l4Ids u.store x.ids = true := fun x hx => List.all_eq_true.1 h4 x hx
  refine ⟨h2, h3, h4, fun a => ?_⟩
  by_cases ha : a ∈ u.store.map (·.id)
  ·obtain ⟨h, hh, rfl⟩ := List.mem_map.1 ha
   have := List.all_eq_true.1 h1 h hh
   simp only [usesOk, decide_eq_true_eq, l11Count_eq] at this
   rw [this, us, getH_mem h2.nd hh]
  ·rw [us, getH_not ha, cntL_zero]
   ·rfl
   ·intro x hx hax
    have := ids_in h2 (h4 x hx) hax
    rw [us, getH_not ha] at this
    exact absurd this (by simp)
 ·rintro ⟨h1, h2, h3, h4⟩
  refine ⟨List.all_eq_true.2 fun h hh => ?_, ⟨h1, h2⟩, List.all_eq_true.2 h3⟩
  simp only [usesOk, decide_eq_true_eq, l11Count_eq]
  rw [← h4, us, getH_mem h1.nd hh]
theorem item_file {p : Bs} {ids : List Int} (hp : PathValid p = true) (hl : ids.length ≤ 4) (h : ids.all (idOk false) = true) : l5Item ⟨p, false, ids⟩ = true := by
 simp [l5Item, hp, hl, h]
theorem nodup_paths {l : List BItem} (h : l.Pairwise ltp) : l.Nodup := by
 refine List.Pairwise.imp ?_ h
 intro a b hab e
 subst e
 exact absurd hab (by simp [ltp, lt_irrefl])
theorem put_perm2 {l t : List BItem} {x : BItem} (h : TreePut l x = some t) : VT l ∧ VT t ∧ l5Item x = true ∧ t.Perm (x :: l.filter (fun y => decide (y.path ≠ x.path))) := by
 unfold TreePut at h
 split at h
 ·rename_i hc
  simp only [Bool.and_eq_true] at hc
  have hv := tvalid_iff.1 hc.1
  simp at h
  obtain ⟨_, hp, rfl⟩ := h
  have hp := tvalid_iff.1 hp
  refine ⟨hv, hp, hc.2, ?_⟩
  have n1 := nodup_paths hp.asc
  have n2 : (x :: l.filter (fun y => decide (y.path ≠ x.path))).Nodup := by
   rw [List.nodup_cons]
   exact ⟨fun hm => by simpa using (List.mem_filter.1 hm).2, (nodup_paths hv.asc).sublist List.filter_sublist⟩
  rw [List.perm_ext_iff_of_nodup n1 n2]
  intro a
  rw [put_mem, List.mem_cons, List.mem_filter]
  simp
 ·cases h
theorem filter_none {l : List BItem} {p : Bs} (h : ∀ y, y ∈ l → y.path ≠ p) : l.filter (fun y => decide (y.path ≠ p)) = l := by
 rw [List.filter_eq_self]
 intro y hy
 simpa using h y hy
theorem filter_one {l : List BItem} (hs : l.Pairwise ltp) {x : BItem} (hx : x ∈ l) : l.Perm (x :: l.filter (fun y => decide (y.path ≠ x.path))) := by
 have n1 := nodup_paths hs
 have n2 : (x :: l.filter (fun y => decide (y.path ≠ x.path))).Nodup := by
  rw [List.nodup_cons]
  exact ⟨fun hm => by simpa using (List.mem_filter.1 hm).2, n1.sublist List.filter_sublist⟩
 rw [List.perm_ext_iff_of_nodup n1 n2]
 intro a
 rw [List.mem_cons, List.mem_filter]
 constructor
 ·intro ha
  by_cases e : a.path = x.path
  ·left
   obtain ⟨i, h1, h2⟩ := (uniq_at hs (p := x.path)).2.1 _ ha e
   obtain ⟨j, h3, h4⟩ := (uniq_at hs (p := x.path)).2.1 _ hx rfl
   rw [h1] at h3
   cases h3
   rw [h2] at h4
   exact Option.some.inj h4
  ·exact .inr ⟨ha, by simpa using e⟩
 ·rintro (rfl | ⟨h, _⟩)
  ·exact hx
  ·exact h
theorem ids_of_l11 {l : List BItem} (hs : l.Pairwise ltp) (p : Bs) : (l11Ids l p = [] ∧ ∀ y, y ∈ l → y.path = p → y.dir = true) ∨ ∃ x, x ∈ l ∧ x.path = p ∧ x.dir = false ∧ l11Ids l p = [x] := by
 unfold l11Ids
 cases e : atI l p with
 | none =>
  left
  refine ⟨rfl, fun y hy hp => ?_⟩
  obtain ⟨i, h1, _⟩ := (uniq_at hs (p := p)).2.1 _ hy hp
  rw [e] at h1; cases h1
 | some i =>
  obtain ⟨y, h1, h2⟩ := (uniq_at hs (p := p)).1 i e
  simp only [h1]
  cases hd : y.dir with
  | true =>
   left
   refine ⟨by simp, fun z hz hp => ?_⟩
   obtain ⟨j, g1, g2⟩ := (uniq_at hs (p := p)).2.1 _ hz hp
   rw [e] at g1
   cases g1
   rw [h1] at g2
   cases g2
   exact hd
  | false => exact .inr ⟨y, List.mem_of_getElem? h1, h2, hd, by simp⟩
theorem put_dir_no {l : List BItem} (hs : l.Pairwise ltp) {x y : BItem} (hy : y ∈ l) (hp : y.path = x.path) (hd : (y.dir || x.dir) = true) : TreePut l x = none := by
 obtain ⟨i, h1, h2⟩ := (uniq_at hs (p := x.path)).2.1 _ hy hp
 simp [TreePut, h1, h2, hd]
structure Hol (L : List BHeld) (t : List BItem) : Prop where
 vh : VH L
 vt : VT t
 ids : ∀ x, x ∈ t → l4Ids L x.ids = true
 le : ∀ a, (cntL t a : Int) ≤ us L a
theorem Hol.of_vol {u : BVol} (h : VolumeValid u = true) : Hol u.store u.tree := by
 obtain ⟨h1, h2, h3, h4⟩ := vv_iff.1 h
 exact ⟨h1, h2, h3, fun a => by rw [h4]; exact Int.le_refl _⟩
theorem Hol.vol {L : List BHeld} {t : List BItem} (h : Hol L t) (he : ∀ a, us L a = (cntL t a : Int)) : VolumeValid ⟨L, t⟩ = true := vv_iff.2 ⟨h.vh, h.vt, h.ids, he⟩
theorem ids_keep {s s' : List BHeld} (hs : VH s) (hs' : VH s') {ids : List Int} (h : ∀ a, a ∈ ids → 0 < us s' a ∧ by_ s' a = by_ s a) (hl : l4Ids s ids = true) : l4Ids s' ids = true := by
 refine ids_true (fun j hj => ?_) (ids_le hl)
 have hz : ids[j]? = some ids[j] := List.getElem?_eq_getElem hj
 have h1 : idsOk s ids j = true := by
  simp only [l4Ids, Bool.and_eq_true] at hl
  exact List.all_eq_true.1 hl.1 j (by simpa using hj)
 have hp : (Sp.atH s ids[j]).isSome = true := by
  cases e : (Sp.atH s ids[j]).isSome with
  | true => rfl
  | false => rw [idsOk_no hz e] at h1; cases h1
 have h2 := h ids[j] (List.getElem_mem hj)
 rw [idsOk_get hz ((us_pos hs').1 h2.1)]
 rw [idsOk_get hz hp] at h1
 have h3 : (getH s' ids[j]).bytes = (getH s ids[j]).bytes := h2.2
 rw [h3]
 exact h1
theorem stored_ids {L s : List BHeld} (hV : VH L) {b : List Int} {ids : List Int} (hst : FileStore L b = some (s, ids)) : l4Ids s ids = true := by
 obtain ⟨hs, hlen, hsu, hsb⟩ := store_ok hV hst
 refine ids_true (fun j hj => ?_) ?_
 ·have hz : ids[j]? = some ids[j] := List.getElem?_eq_getElem hj
  have hp : 0 < us s ids[j] := by
   have := (hsu ids[j]).1
   have := us_nonneg hV ids[j]
   have := cnt1_pos.2 (List.getElem_mem hj)
   omega
  rw [idsOk_get hz ((us_pos hs).1 hp)]
  have h5 := hsb j _ hz
  have h6 : (l4Cut b)[j]? = some (chunk b j) := by
   have hj' : j < (l4Cut b).length := by omega
   unfold l4Cut at hj' ⊢
   simp at hj'
   simp [hj']
  rw [h6] at h5
  have h7 : (getH s ids[j]).bytes = chunk b j := Option.some.inj h5
  rw [h7, chunk_len]
  have h8 : ids.length = (b.length + 7) / 8 := by rw [hlen]; simp [l4Cut]
  by_cases hlt : j + 1 < ids.length
  ·have : ¬ (min (8 * j + 8) b.length - 8 * j < 8) := by omega
   simp [this]
  ·simp [hlt]
 ·have : (l4Cut b).length ≤ 4 := by
   unfold FileStore at hst
   split at hst
   ·rename_i hc
    simp only [Bool.and_eq_true] at hc
    have := file_len hc.2
    simp [l4Cut]
    omega
   ·cases hst
  omega
theorem write_ok {L : List BHeld} {l : List BItem} (hu : Hol L l) {p : Bs} {b : List Int} {s : List BHeld} {ids : List Int} (hst : FileStore L b = some (s, ids)) {t : List BItem} (hpt : TreePut l ⟨p, false, ids⟩ = some t) :
  ∃ s', (∀ o, l11Ids l p = [o] → FileFree s o.ids = some s') ∧ (l11Ids l p = [] → s' = s) ∧ l11Write ⟨L, l⟩ p b = some ⟨s', t⟩ ∧ Hol s' t ∧
   ∀ a, us s' a = us L a + (cntL t a : Int) - (cntL l a : Int) ∧ (0 < us s' a → by_ s' a = by_ s a) := by
 obtain ⟨hs, hlen, hsu, hsb⟩ := store_ok hu.vh hst
 obtain ⟨_, ht, hx, hperm⟩ := put_perm2 hpt
 have hstay : ∀ a, 0 < us L a → 0 < us s a ∧ by_ s a = by_ L a := fun a ha => by
  have := hsu a
  exact ⟨by omega, this.2 ha⟩
 have hids := stored_ids hu.vh hst
 have hold : ∀ x, x ∈ t → l4Ids s x.ids = true := fun x hxt => by
  rcases List.mem_cons.1 (hperm.mem_iff.1 hxt) with rfl | hm
  ·exact hids
  ·exact ids_stay hu.vh hs hstay (hu.ids x (List.mem_filter.1 hm).1)
 have hall : ∀ s', VH s' → (∀ a, 0 < cntL t a → 0 < us s' a ∧ by_ s' a = by_ s a) → ∀ x, x ∈ t → l4Ids s' x.ids = true := fun s' hs' hk x hxt =>
  ids_keep hs hs' (fun a ha => hk a (Nat.lt_of_lt_of_le (cnt1_pos.2 ha) (cntL_mem hxt a))) (hold x hxt)
 have hcount : ∀ a, cntL t a = cnt1 a ids + cntL (l.filter (fun y => decide (y.path ≠ p))) a := fun a => by rw [cntL_perm hperm, cntL_cons]
 rcases ids_of_l11 hu.vt.asc p with ⟨h0, hno⟩ | ⟨o, ho, hop, hod, h1⟩
 ·have hne : ∀ y, y ∈ l → y.path ≠ p := fun y hy hp => by
   have := put_dir_no hu.vt.asc (x := ⟨p, false, ids⟩) hy hp (by simp [hno y hy hp])
   rw [this] at hpt; cases hpt
  have hc2 : ∀ a, us s a = us L a + (cntL t a : Int) - (cntL l a : Int) := fun a => by
   rw [hcount, filter_none hne, (hsu a).1]
   omega
  have hle2 : ∀ a, (cntL t a : Int) ≤ us s a := fun a => by have := hc2 a; have := hu.le a; omega
  refine ⟨s, fun o ho => (by rw [h0] at ho; cases ho), fun _ => rfl, ?_, ⟨hs, ht, hall s hs (fun a ha => ⟨by have := hle2 a; omega, rfl⟩), hle2⟩, fun a => ⟨hc2 a, fun _ => rfl⟩⟩
  simp [l11Write, hst, hpt, h0, freeOld]
 ·have hfo := filter_one hu.vt.asc ho
  rw [hop] at hfo
  have hco : ∀ a, cntL l a = cnt1 a o.ids + cntL (l.filter (fun y => decide (y.path ≠ p))) a := fun a => by rw [cntL_perm hfo, cntL_cons]
  have hle : ∀ a, (cnt1 a o.ids : Int) ≤ us s a := fun a => by
   have := (hsu a).1
   have := hu.le a
   have := hco a
   omega
  obtain ⟨s', g1, g2, g3⟩ := free_ok hs (ids_stay hu.vh hs hstay (hu.ids o ho)) hle
  have hc2 : ∀ a, us s' a = us L a + (cntL t a : Int) - (cntL l a : Int) := fun a => by
   have := (hsu a).1
   have := hco a
   have := (g3 a).1
   have := hcount a
   omega
  have hle2 : ∀ a, (cntL t a : Int) ≤ us s' a := fun a => by have := hc2 a; have := hu.le a; omega
  refine ⟨s', fun o' ho' => (by rw [h1] at ho'; cases ho'; exact g1), fun h => (by rw [h1] at h; cases h), ?_, ⟨g2, ht, hall s' g2 (fun a ha => by
    have h5 := hle2 a
    exact ⟨by omega, (g3 a).2 (by omega)⟩), hle2⟩, fun a => ⟨hc2 a, (g3 a).2⟩⟩
  simp [l11Write, hst, hpt, h1, freeOld, g1]
theorem write_valid {u : BVol} (hu : VolumeValid u = true) {p : Bs} {b : List Int} {u' : BVol} (h : l11Write u p b = some u') : VolumeValid u' = true := by
 cases e : FileStore u.store b with
 | none => simp [l11Write, e] at h
 | some r =>
  cases e2 : TreePut u.tree ⟨p, false, r.2⟩ with
  | none => simp [l11Write, e, e2] at h
  | some t =>
   obtain ⟨s', _, _, h3, h4, h5⟩ := write_ok (Hol.of_vol hu) (s := r.1) (ids := r.2) e e2
   rw [h3] at h
   cases h
   refine h4.vol (fun a => ?_)
   have := (h5 a).1
   have := (vv_iff.1 hu).2.2.2 a
   omega
theorem stored_item {L s : List BHeld} (hV : VH L) {p : Bs} (hp : PathValid p = true) {b : List Int} {ids : List Int} (hst : FileStore L b = some (s, ids)) : l5Item ⟨p, false, ids⟩ = true := by
 have h4 := stored_ids hV hst
 obtain ⟨hs, _⟩ := store_ok hV hst
 refine item_file hp (ids_le h4) (List.all_eq_true.2 fun a ha => ?_)
 have := (get_ok hs ((us_pos hs).1 (ids_in hs h4 ha))).1
 simp [idOk, l6In]
 omega
theorem free_nil {s : List BHeld} (h : VH s) : FileFree s [] = some s := by
 have : l4Ids s [] = true := ids_true (by simp) (by simp)
 simp [FileFree, valid_iff.2 h, this, foldB]
theorem write_fin {L : List BHeld} {l : List BItem} {T : Nd} {p : Bs} {b : List Int} {s : List BHeld} {ids : List Int} {nb : Nat} {T' : Nd} (hH : Hol L l) (hT : TOK T l) (hp : PathValid p = true) (hst : FileStore L b = some (s, ids))
  (hput : T.putN ⟨p, false, ids⟩ nb = some T') {fr : List Int} (hfr : (T.find p = none ∧ fr = []) ∨ ∃ d, T.find p = some d ∧ fr = d.ids) :
  ∃ s' t, FileFree s fr = some s' ∧ l11Write ⟨L, l⟩ p b = some ⟨s', t⟩ ∧ TOK T' t ∧ Hol s' t := by
 have hx := stored_item hH.vh hp hst
 obtain ⟨h1, h2⟩ := put_eq nb hT hx
 rw [hput] at h1
 obtain ⟨t, ht⟩ := Option.isSome_iff_exists.1 h1.symm
 have hT' := h2 T' hput
 rw [ht] at hT'
 obtain ⟨s', g1, g2, g3, g4, _⟩ := write_ok hH hst ht
 refine ⟨s', t, ?_, g3, hT', g4⟩
 have hs := (store_ok hH.vh hst).1
 have hfl := find_list hT p
 rcases hfr with ⟨hn, rfl⟩ | ⟨d, hd, rfl⟩
 ·rw [hn] at hfl
  have : l11Ids l p = [] := by
   unfold l11Ids
   cases e : atI l p with
   | none => rfl
   | some i =>
    rw [e] at hfl
    simp only [Option.map_none, Option.bind_some] at hfl
    simp only [← hfl]
  rw [g2 this]
  exact free_nil hs
 ·rw [hd] at hfl
  cases e : atI l p with
  | none => rw [e] at hfl; simp at hfl
  | some i =>
   rw [e] at hfl
   simp only [Option.map_some, Option.bind_some] at hfl
   have hl : l11Ids l p = if d.dir then [] else [⟨p, d.dir, d.ids⟩] := by
    unfold l11Ids
    simp only [e, ← hfl]
   cases hdd : d.dir with
   | true =>
    have := put_dir_no hH.vt.asc (x := ⟨p, false, ids⟩) (List.mem_of_getElem? hfl.symm) rfl (by simp [hdd])
    rw [this] at ht; cases ht
   | false =>
    rw [hdd] at hl
    exact g1 _ hl
theorem write_nop {L : List BHeld} {l : List BItem} {p : Bs} {b : List Int} (hp : PathValid p = false) : l11Write ⟨L, l⟩ p b = none := by
 unfold l11Write
 cases FileStore L b with
 | none => rfl
 | some r =>
  have : TreePut l ⟨p, false, r.2⟩ = none := by simp [TreePut, l5Item, hp]
  simp [this]
theorem write_no2 {L : List BHeld} {l : List BItem} {T : Nd} {p : Bs} {b : List Int} {s : List BHeld} {ids : List Int} {nb : Nat} (hH : Hol L l) (hT : TOK T l) (hp : PathValid p = true) (hst : FileStore L b = some (s, ids))
  (hput : (T.putN ⟨p, false, ids⟩ nb).isSome = false) : l11Write ⟨L, l⟩ p b = none := by
 have h1 := (put_eq nb hT (stored_item hH.vh hp hst)).1
 rw [hput] at h1
 have : TreePut l ⟨p, false, ids⟩ = none := by simpa using h1.symm
 simp [l11Write, hst, this]
end Sp
namespace Sp
open Go Fw Fw.Nd
theorem dir_ok {L : List BHeld} {l : List BItem} (hu : Hol L l) {p : Bs} {t : List BItem} (hpt : TreePut l ⟨p, true, []⟩ = some t) : Hol L t ∧ ∀ a, cntL t a = cntL l a := by
 obtain ⟨_, ht, hx, hperm⟩ := put_perm2 hpt
 have hne : ∀ y, y ∈ l → y.path ≠ p := fun y hy hp => by
  have := put_dir_no hu.vt.asc (x := ⟨p, true, []⟩) hy hp (by simp)
  rw [this] at hpt; cases hpt
 have hp2 : t.Perm (⟨p, true, []⟩ :: l) := by
  have h := hperm
  rw [filter_none hne] at h
  exact h
 have hc : ∀ a, cntL t a = cntL l a := fun a => by rw [cntL_perm hp2, cntL_cons]; simp [cnt1]
 refine ⟨⟨hu.vh, ht, fun x hx => ?_, fun a => by rw [hc]; exact hu.le a⟩, hc⟩
 rcases List.mem_cons.1 (hp2.mem_iff.1 hx) with rfl | h
 ·exact ids_true (by simp) (by simp)
 ·exact hu.ids x h
theorem dir_valid {u u' : BVol} {p : Bs} (h : VolumeDir u p = some u') : VolumeValid u' = true := by
 unfold VolumeDir at h
 split at h
 ·rename_i hv
  obtain ⟨t, ht, rfl⟩ := Option.map_eq_some_iff.1 h
  obtain ⟨h1, h2⟩ := dir_ok (Hol.of_vol hv) ht
  refine h1.vol (fun a => ?_)
  rw [(vv_iff.1 hv).2.2.2 a]
  have := h2 a
  omega
 ·cases h
def readF (L : List BHeld) (l : List BItem) (p : Bs) : Option (List Int) := match l11Ids l p with
 | [] => none
 | o :: _ => some (load L o.ids)
theorem chunk_eq (b : List Int) (k : Nat) : chunk b k = (b.drop (8 * k)).take 8 := by
 unfold chunk
 rw [List.take_eq_take_iff]
 simp
 omega
theorem cut_flatten (b : List Int) : (l4Cut b).flatten = b := by
 have key : ∀ n, ((List.range n).map (chunk b)).flatten = b.take (8 * n) := by
  intro n
  induction n with
  | zero => simp
  | succ n ih =>
   rw [List.range_succ, List.map_append, List.flatten_append, ih]
   simp only [List.map_cons, List.map_nil, List.flatten_cons, List.flatten_nil, List.append_nil]
   rw [chunk_eq, show 8 * (n + 1) = 8 * n + 8 by omega, List.take_add]
 unfold l4Cut
 rw [key, List.take_of_length_le (by omega)]
theorem load_cut {s : List BHeld} {ids : List Int} {c : List (List Int)} (hl : ids.length = c.length) (h : ∀ (i : Nat) (id : Int), ids[i]? = some id → some (by_ s id) = c[i]?) : load s ids = c.flatten := by
 unfold load
 congr 1
 refine List.ext_getElem? fun i => ?_
 rw [List.getElem?_map]
 cases e : ids[i]? with
 | none =>
  rw [List.getElem?_eq_none_iff] at e
  rw [List.getElem?_eq_none (by omega)]
  rfl
 | some id => exact h i id e
def l11Drop (L : List BHeld) (l : List BItem) (p : Bs) : Option BVol := match TreeDrop l p with
 | none => none
 | some t => some ⟨(FileFree L (((atI l p).bind (fun i => l[i]?)).map (·.ids) |>.getD [])).getD [], t⟩
theorem drop_eq2 (u : BVol) (p : Bs) : VolumeDrop u p = if VolumeValid u then l11Drop u.store u.tree p else none := rfl
theorem drop_perm2 {l t : List BItem} {p : Bs} (h : TreeDrop l p = some t) : VT l ∧ VT t ∧ ∃ x, x ∈ l ∧ x.path = p ∧ (atI l p).bind (fun i => l[i]?) = some x ∧ l.Perm (x :: t) := by
 unfold TreeDrop at h
 split at h
 ·rename_i hv
  have hv := tvalid_iff.1 hv
  cases e : atI l p with
  | none => simp [e] at h
  | some i =>
   simp only [e] at h
   split at h
   ·rename_i hp
    simp only [Option.some.injEq] at h
    subst h
    obtain ⟨x, h1, h2⟩ := (uniq_at hv.asc (p := p)).1 i e
    refine ⟨hv, tvalid_iff.1 hp, x, List.mem_of_getElem? h1, h2, by simp [h1], ?_⟩
    have := erase_perm h1
    rwa [List.eraseIdx_eq_take_drop_succ] at this
   ·cases h
 ·cases h
theorem drop_ok {L : List BHeld} {l : List BItem} (hu : Hol L l) {p : Bs} {t : List BItem} (hpt : TreeDrop l p = some t) :
  ∃ x s', x ∈ l ∧ (atI l p).bind (fun i => l[i]?) = some x ∧ FileFree L x.ids = some s' ∧ l11Drop L l p = some ⟨s', t⟩ ∧ Hol s' t ∧ l.Perm (x :: t) ∧ ∀ a, us s' a = us L a - (cnt1 a x.ids : Int) ∧ (0 < us s' a → by_ s' a = by_ L a) := by
 obtain ⟨_, ht, x, hx, hxp, hxa, hperm⟩ := drop_perm2 hpt
 have hc : ∀ a, cntL l a = cnt1 a x.ids + cntL t a := fun a => by rw [cntL_perm hperm, cntL_cons]
 obtain ⟨s', g1, g2, g3⟩ := free_ok hu.vh (hu.ids x hx) (fun a => by have := hu.le a; have := hc a; omega)
 have hle : ∀ a, (cntL t a : Int) ≤ us s' a := fun a => by have := hu.le a; have := hc a; have := (g3 a).1; omega
 refine ⟨x, s', hx, hxa, g1, by simp [l11Drop, hpt, hxa, g1], ⟨g2, ht, fun y hy => ?_, hle⟩, hperm, g3⟩
 refine ids_keep hu.vh g2 (fun a ha => ?_) (hu.ids y (hperm.mem_iff.2 (by simp [hy])))
 have h1 := cntL_mem hy a
 have h2 := cnt1_pos.2 ha
 have h3 := hle a
 exact ⟨by omega, (g3 a).2 (by omega)⟩
theorem drop_valid {u u' : BVol} {p : Bs} (h : VolumeDrop u p = some u') : VolumeValid u' = true := by
 rw [drop_eq2] at h
 split at h
 ·rename_i hv
  cases e : TreeDrop u.tree p with
  | none => simp [l11Drop, e] at h
  | some t =>
   obtain ⟨x, s', _, _, _, g2, g3, g4, g5⟩ := drop_ok (Hol.of_vol hv) e
   rw [g2] at h
   cases h
   refine g3.vol (fun a => ?_)
   have := (vv_iff.1 hv).2.2.2 a
   have h3 : cntL u.tree a = cnt1 a x.ids + cntL t a := by rw [cntL_perm g4, cntL_cons]
   have := (g5 a).1
   omega
 ·cases h
end Sp
namespace Sp
open Go Fw
theorem vwrite_valid {u u' : BVol} {p : Bs} {b : List Int} (h : VolumeWrite u p b = some u') : VolumeValid u' = true := by
 unfold VolumeWrite at h
 split at h
 ·rename_i hc
  simp only [Bool.and_eq_true] at hc
  exact write_valid hc.1 h
 ·cases h
theorem vol_len {o : Option BVol} (h : ∀ u', o = some u' → VolumeValid u' = true) : ((o.map (·.store)).getD []).length ≤ 16 := by
 cases o with
 | none => simp
 | some u => exact (vv_iff.1 (h u rfl)).1.len
end Sp
namespace Fw
open Go
def R1 (v v' : Value) : Prop := v' = v ∨ ∃ p q, v = .int .i64 p ∧ v' = .int .i64 q ∧ inI q
def GRel (G G' : PH) : Prop := ∀ b o v, PCell G b o v → ∃ v', PCell G' b o v' ∧ R1 v v'
def RL : List Value → List Value → Prop
 | [], [] => True
 | v :: r, v' :: r' => R1 v v' ∧ RL r r'
 | _, _ => False
theorem RL.len : ∀ {a b : List Value}, RL a b → b.length = a.length
 | [], [], _ => rfl
 | _ :: _, _ :: _, h => by simp [RL.len h.2]
 | [], _ :: _, h => h.elim
 | _ :: _, [], h => h.elim
theorem prow_rel {G G' : PH} (h : GRel G G') : ∀ (cs : List Value) (b o : Nat), PRow G b o cs → ∃ cs', PRow G' b o cs' ∧ RL cs cs'
 | [], b, o, _ => ⟨[], by intro j v h; simp at h, trivial⟩
 | c :: r, b, o, hr => by
  obtain ⟨c', h1, h2⟩ := h b o c (by simpa using hr 0 c rfl)
  obtain ⟨r', h3, h4⟩ := prow_rel h r b (o + 1) (fun j v hv => by
   have := hr (j + 1) v (by simpa using hv)
   rwa [show o + 1 + j = o + (j + 1) by omega])
  refine ⟨c' :: r', fun j v hv => ?_, h2, h4⟩
  cases j with
  | zero => simp at hv; subst hv; simpa using h1
  | succ j =>
   have := h3 j v (by simpa using hv)
   rwa [show o + (j + 1) = o + 1 + j by omega]
class StE {α : Type} (E : PH → α → List Value → Prop) : Prop where
 st : ∀ {G G' : PH} {x : α} {cs cs' : List Value}, GRel G G' → RL cs cs' → E G x cs → ∃ x', E G' x' cs'
theorem RdS.st {α : Type} {lim : Nat} {E : PH → α → List Value → Prop} [StE E] {sz : Nat} {G G' : PH} {v : Value} {xs : List α} (hg : GRel G G') (h : RdS lim E sz G v xs) : ∃ xs', xs'.length = xs.length ∧ RdS lim E sz G' v xs' := by
 obtain ⟨a, c, rfl, h2, h3, h4⟩ := h
 rcases h4 with rfl | ⟨b, o, rfl, h5⟩
 ·exact ⟨[], rfl, a, c, rfl, h2, h3, .inl rfl⟩
 ·have key : ∀ n, n ≤ xs.length → ∃ xs' : List α, xs'.length = n ∧ ∀ i x, xs'[i]? = some x → ∃ cs, cs.length = sz ∧ E G' x cs ∧ PRow G' b (o + i * sz) cs := by
   intro n
   induction n with
   | zero => intro _; exact ⟨[], rfl, by simp⟩
   | succ n ih =>
    intro hn
    obtain ⟨xs', k1, k2⟩ := ih (by omega)
    obtain ⟨cs, c1, c2, c3⟩ := h5 n xs[n] (by simp)
    obtain ⟨cs', d1, d2⟩ := prow_rel hg cs _ _ c3
    obtain ⟨x', hx'⟩ := StE.st hg d2 c2
    refine ⟨xs' ++ [x'], by simp [k1], fun i x hx => ?_⟩
    by_cases hi : i < n
    ·rw [List.getElem?_append_left (by omega)] at hx
     exact k2 i x hx
    ·rw [List.getElem?_append_right (by omega)] at hx
     have : i = n := by
      have := (List.getElem?_eq_some_iff.1 hx).1
      simp at this
      omega
     subst this
     simp [k1] at hx
     subst hx
     exact ⟨cs', by rw [d2.len]; exact c1, hx', d1⟩
  obtain ⟨xs', k1, k2⟩ := key xs.length (Nat.le_refl _)
  exact ⟨xs', k1, some ⟨b, o, none⟩, c, by rw [k1], by omega, by omega, .inr ⟨b, o, rfl, k2⟩⟩
theorem r1_int {p : Int} {v' : Value} (h : R1 (.int .i64 p) v') (hp : inI p) : ∃ q, v' = .int .i64 q ∧ inI q := by
 rcases h with rfl | ⟨_, q, _, rfl, hq⟩
 ·exact ⟨p, rfl, hp⟩
 ·exact ⟨q, rfl, hq⟩
theorem r1_slice {a : Option Addr} {m c : Nat} {v' : Value} (h : R1 (.slice a m c) v') : v' = .slice a m c := by
 rcases h with rfl | ⟨_, _, h, _⟩
 ·rfl
 ·cases h
theorem r1_str {s : Bs} {v' : Value} (h : R1 (str s) v') : v' = str s := by
 rcases h with rfl | ⟨_, _, h, _⟩
 ·rfl
 ·cases h
theorem r1_bool {b : Bool} {v' : Value} (h : R1 (.bool b) v') : v' = .bool b := by
 rcases h with rfl | ⟨_, _, h, _⟩
 ·rfl
 ·cases h
theorem rl1 {a : Value} {cs' : List Value} (h : RL [a] cs') : ∃ u, cs' = [u] ∧ R1 a u := by
 rcases cs' with _ | ⟨u, _ | ⟨z, r⟩⟩
 ·exact h.elim
 ·exact ⟨u, rfl, h.1⟩
 ·exact h.2.elim
theorem intE_st {G' : PH} {x : Int} {cs' : List Value} (hi : inI x) (hr : RL [.int .i64 x] cs') : ∃ x', intE G' x' cs' := by
 obtain ⟨u, rfl, k1⟩ := rl1 hr
 obtain ⟨q, rfl, hq⟩ := r1_int k1 hi
 exact ⟨q, rfl, hq⟩
instance : StE intE := ⟨fun {_ _ x cs cs'} _ hr h => by
 obtain ⟨h1, h2⟩ := h
 rw [h1] at hr
 exact intE_st h2 hr⟩
theorem rl3 {a b c : Value} {cs' : List Value} (h : RL [a, b, c] cs') : ∃ u v w, cs' = [u, v, w] ∧ R1 a u ∧ R1 b v ∧ R1 c w := by
 rcases cs' with _ | ⟨u, _ | ⟨v, _ | ⟨w, _ | ⟨z, r⟩⟩⟩⟩
 ·exact h.elim
 ·exact h.2.elim
 ·exact h.2.2.elim
 ·exact ⟨u, v, w, rfl, h.1, h.2.1, h.2.2.1⟩
 ·exact h.2.2.2.elim
theorem heldE_st {G G' : PH} {x : BHeld} {a : Option Addr} {m c : Nat} {u v w : Value} (hg : GRel G G') (h1 : inI x.id) (h2 : RdI G (.slice a m c) x.bytes) (h3 : inI x.uses)
  (k1 : R1 (.int .i64 x.id) u) (k2 : R1 (.slice a m c) v) (k3 : R1 (.int .i64 x.uses) w) : ∃ x', heldE G' x' [u, v, w] := by
 obtain ⟨p, rfl, hp⟩ := r1_int k1 h1
 obtain ⟨q, rfl, hq⟩ := r1_int k3 h3
 have e := r1_slice k2
 subst e
 obtain ⟨ys, _, hy⟩ := RdS.st hg h2
 exact ⟨⟨p, ys, q⟩, a, m, c, rfl, hp, hy, hq⟩
instance : StE heldE := ⟨fun {_ _ x cs cs'} hg hr h => by
 obtain ⟨a, m, c, rfl, h1, h2, h3⟩ := h
 obtain ⟨u, v, w, rfl, k1, k2, k3⟩ := rl3 hr
 exact heldE_st hg h1 h2 h3 k1 k2 k3⟩
instance : StE itemE := ⟨fun {_ _ x cs cs'} hg hr h => by
 obtain ⟨a, m, c, rfl, h1, h2⟩ := h
 obtain ⟨u, v, w, rfl, k1, k2, k3⟩ := rl3 hr
 obtain rfl := r1_str k1
 obtain rfl := r1_bool k2
 obtain rfl := r1_slice k3
 obtain ⟨ys, _, hy⟩ := h2.st hg
 exact ⟨⟨x.path, x.dir, ys⟩, a, m, c, rfl, h1, hy⟩⟩
section
variable {w0 w : World} {G0 G : PH} {S : List Nat} {B : List Res}
theorem Hp.unkeep (H : Hp w0 G0 S w G B) (h0 : PSub G0 w0) {b : Nat} {l : List Value} {e : TypeId} (hb : G b = some (cl l e)) (hn : w0.heap.size ≤ b) : Hp w0 G0 S w (fun c => if c = b then none else G c) (blk b (cl l e) :: B) := by
 refine ⟨H.os, H.tape, H.output, H.size, H.ext, ?_, ?_, ?_, ?_, ?_⟩
 ·intro c o hc
  by_cases e : c = b
  ·simp [e] at hc
  ·simp [e] at hc; exact H.sub c o hc
 ·intro c o hc
  have : c ≠ b := fun e => by
   have := h0.lt hc
   omega
  simp [this, H.le c o hc]
 ·intro c hc hnone
  by_cases e : c = b
  ·simp [e]
  ·simp [e, H.old c hc hnone]
 ·intro r hr
  rcases List.mem_cons.1 hr with rfl | hr
  ·exact ⟨H.sub _ _ hb, fun c hc => by simp [blk] at hc; subst hc; exact ⟨by simp, .inr hn⟩⟩
  ·refine ⟨(H.own r hr).1, fun c hc => ⟨?_, ((H.own r hr).2 c hc).2⟩⟩
   by_cases e : c = b
   ·simp [e]
   ·simp [e, ((H.own r hr).2 c hc).1]
 ·show ([b] ++ fps B).Nodup
  refine List.nodup_append.2 ⟨by simp, H.nd, ?_⟩
  intro a ha c hc e
  subst e
  simp at ha
  subst ha
  obtain ⟨r, hr, hb2⟩ := List.mem_flatMap.1 hc
  have := ((H.own r hr).2 a hb2).1
  rw [hb] at this
  cases this
end
section ops
variable {P : Program} {n : Nat} {ops : Array Oper} {Q : Post} {rest : List Oper} {L : Slots} {ds : List Deferred} {w w0 : World} {G0 : PH} {S : List Nat} {G : PH} {B : List Res}
variable {ty : TypeId} {ps : String} {af : Array Edge}
theorem o_store_P (H : Hp w0 G0 S w G B) (h0 : PSub G0 w0) {t : TypeId} {x y : Operand} {b o : Nat} {l : List Value} {e : TypeId} {p q : Int} (hS : ∀ w, (Go.sizeOf t).run P w = .ok 1 w) (hx : od L x = some (.pointer (some ⟨b, o, none⟩))) (hy : od L y = some (.int .i64 q)) (hq : inI q)
  (hb : G b = some (cl l e)) (hc : l[o]? = some (.int .i64 p)) (hn : w0.heap.size ≤ b) (hS2 : b ∉ S)
  (next : ∀ w' G', GRel G G' → Hp w0 G0 S w' G' B → R P n ops Q rest L ds w') : R P n ops Q (⟨none, .store t x y, ty, ps, af, none⟩ :: rest) L ds w := by
 have ho := (List.getElem?_eq_some_iff.1 hc).1
 have H1 := H.unkeep h0 hb hn
 obtain ⟨w', hr, H2⟩ := run_storeCells_blk (P := P) [.int .i64 q] 0 l w (o := o) H1 (k := 0) rfl (by simp; omega) (by simp [Value.oneCell'])
 have H2' : Hp w0 G0 S w' (fun c => if c = b then none else G c) (blk b (cl (setCs l (o + 0) [.int .i64 q]) e) :: B) := H2
 obtain ⟨H3, h3⟩ := H2'.keep (k := 0) rfl (by simpa [blk] using hS2)
 refine R_skip (w' := w') (fun a ha => ?_) (next w' _ ?_ H3)
 ·have : (Value.int .i64 q).cells = #[.int .i64 q] := rfl
  simp [execOp, Instr.storeAt, ha.eval hx, ha.eval hy, Instr.sureAddr, storeVar, hS, this, hr]
 ·intro c off v hv
  obtain ⟨C, e2, fz, h4, h5⟩ := hv
  by_cases ec : c = b
  ·subst ec
   have h6 : PPlus (fun c' => if c' = c then none else G c') w' (blk c (cl (setCs l (o + 0) [.int .i64 q]) e)).fp c = some (cl (setCs l (o + 0) [.int .i64 q]) e) := h3
   rw [hb] at h4
   simp only [Option.some.injEq, Obj.cells.injEq] at h4
   obtain ⟨rfl, rfl, rfl⟩ := h4
   have h7 : l[off]? = some v := by simpa using h5
   by_cases eo : off = o
   ·subst eo
    rw [hc] at h7
    cases h7
    refine ⟨.int .i64 q, ⟨_, _, _, h6, ?_⟩, .inr ⟨p, q, rfl, rfl, hq⟩⟩
    simp [setCs, setN_eq, ho]
   ·refine ⟨v, ⟨_, _, _, h6, ?_⟩, .inl rfl⟩
    have : ¬ o = off := fun h => eo h.symm
    simp [setCs, setN_eq, this, h7]
  ·refine ⟨v, ⟨C, e2, fz, PPlus.le _ _ _ _ _ (by simp [ec, h4]), h5⟩, .inl rfl⟩
end ops
def Mine (w0 : World) (G : PH) (v : Value) : Prop := ∀ b o m c, v = .slice (some ⟨b, o, none⟩) m c → w0.heap.size ≤ b ∧ ∃ l e, G b = some (cl l e)
theorem Mine.up {w0 : World} {G G' : PH} {v : Value} (h : Mine w0 G v) (hle : PLe G G') : Mine w0 G' v := fun b o m c e => by
 obtain ⟨h1, l, e, h2⟩ := h b o m c e
 exact ⟨h1, l, e, hle _ _ h2⟩
theorem Mine.nil {w0 : World} {G : PH} : Mine w0 G (.slice none 0 0) := fun b o m c e => by simp at e
theorem acc_fpb {e : TypeId} {sz : Nat} {v : Value} {n : Nat} {cells : List Value} {b o m c} (h : v = .slice (some ⟨b, o, none⟩) m c) : b ∈ (acc e sz v n cells).fp := by
 subst h
 exact List.mem_singleton.2 rfl
section
variable {w0 w : World} {G0 G : PH} {B : List Res}
theorem Hp.shutP {α : Type} {E : PH → α → List Value → Prop} [MonoE E] {b : Nat} {o : Obj} (H : Hp w0 G0 [b] w G B) {k j : Nat} {e : TypeId} {sz : Nat} {v : Value} {n : Nat} {cells : List Value} {xs : List α} (hk : nth B k = some (acc e sz v n cells)) (hj : nth (delN B k) j = some (blk b o))
  (hc : Chk E sz G cells xs) (hn : n = xs.length) (hl : xs.length ≤ 1099511627776) :
  ∃ G', Hp w0 G0 [b] w G' (delN B k) ∧ PLe G G' ∧ RdS LIM E sz G' v xs ∧ Mine w0 G' v := by
 have hnb : ∀ c, c ∈ (acc e sz v n cells).fp → c ∉ [b] := fun c hc hcb => by
  simp only [List.mem_singleton] at hcb
  subst hcb
  obtain ⟨B1, B2, h1, _, h3⟩ := fps_split hk
  have hpm : List.Perm B (acc e sz v n cells :: (B1 ++ B2)) := by rw [h1]; exact List.perm_middle
  have h2 : ((acc e sz v n cells).fp ++ fps (B1 ++ B2)).Nodup := (List.Perm.flatMap_right _ hpm).nodup_iff.1 H.nd
  rw [h3] at hj
  exact (List.nodup_append.1 h2).2.2 c hc c (fps_nth hj (by simp [blk])) rfl
 have hown := (H.own _ (by rw [nth_eq] at hk; exact List.mem_of_getElem? hk)).2
 obtain ⟨H', hp⟩ := H.keep hk hnb
 refine ⟨_, H', PPlus.le _ _ _, acc_rd hp (hc.up (PPlus.le _ _ _)) hn hl, ?_⟩
 obtain ⟨_, hp2⟩ := hp
 intro b' o' m' c' ev
 have hmem : b' ∈ (acc e sz v n cells).fp := acc_fpb ev
 refine ⟨(hown b' hmem).2.resolve_left (hnb b' hmem), ?_⟩
 rcases hp2 with ⟨h1, _⟩ | ⟨b2, cap, C, h1, h2, _⟩
 ·rw [ev] at h1; cases h1
 ·rw [ev] at h1
  cases h1
  exact ⟨C.toList, e, h2⟩
end
section ops
variable {P : Program} {n : Nat} {ops : Array Oper} {Q : Post} {rest : List Oper} {L : Slots} {ds : List Deferred} {w w0 : World} {G0 : PH} {S : List Nat} {G : PH} {B : List Res}
variable {ty : TypeId} {ps : String} {af : Array Edge}
theorem o_store_mine (H : Hp w0 G0 S w G B) (h0 : PSub G0 w0) {t : TypeId} {x y : Operand} {a : Option Addr} {m c b o off rb : Nat} {ob : Obj} {p q : Int} (hm : Mine w0 G (.slice a m c)) (ha : a = some ⟨b, o, none⟩) (hS : ∀ w, (Go.sizeOf t).run P w = .ok 1 w) (hx : od L x = some (.pointer (some ⟨b, off, none⟩))) (hy : od L y = some (.int .i64 q)) (hq : inI q)
  (hc : PCell G b off (.int .i64 p)) (hrb : w0.heap[rb]? = some ob) (hS2 : S = [rb])
  (next : ∀ w' G', GRel G G' → Hp w0 G0 S w' G' B → R P n ops Q rest L ds w') : R P n ops Q (⟨none, .store t x y, ty, ps, af, none⟩ :: rest) L ds w := by
 subst ha
 obtain ⟨h1, l, e, h2⟩ := hm b o m c rfl
 obtain ⟨C, e2, fz, h3, h4⟩ := hc
 rw [h2] at h3
 simp only [Option.some.injEq, Obj.cells.injEq] at h3
 obtain ⟨rfl, rfl, rfl⟩ := h3
 have hlt := (Array.getElem?_eq_some_iff.1 hrb).1
 exact o_store_P H h0 hS hx hy hq h2 (by simpa using h4) h1 (by subst hS2; simp; omega) next
end ops
theorem PLe.none {G : PH} : PLe (fun _ => none) G := fun _ _ h => by cases h
theorem W_drawN {P : Program} {n : Nat} {l : List Oper} {Q : Post} {L : Slots} {ds : List Deferred} {w : World} {id : Nat} {w0 : World} {G0 : PH} {SS : List Nat} {G : PH} {B : List Res} (ks : List Nat) (m : Nat) (H : Hp w0 G0 SS w G B) (hm : P.follows .mixedOrders = true) (hl : Nat.beq l.length m = true)
  (h : ∀ w', Hp w0 G0 SS w' G B → RD P n l Q (fun w => Kn w (fun _ => none) (sel ks B)) m (Array.replicate m false) L ds w') : W P n Q (.region id l.toArray true) L ds w :=
 W_draw _ m H hm hl (fun _ H' => Kn.of H' PLe.none (fun _ hr => sel_mem hr)) h
section ops
variable {P : Program} {n : Nat} {ops : Array Oper} {Q : Post} {rest : List Oper} {L : Slots} {ds : List Deferred} {w : World} {ty : TypeId} {ps : String} {af : Array Edge}
theorem o_beql_same {d : Nat} {x y : Operand} {t u : TypeId} {p : Bool} (hT : P.underlying t = some .bool) (hd : Nat.blt d n = true) (hx : od L x = some (.bool p)) (hy : od L y = some (.bool p))
  (next : R P n ops Q rest ((d, .bool true) :: L) ds w) : R P n ops Q (⟨some d, .binOp .eql t x y u, ty, ps, af, none⟩ :: rest) L ds w :=
 o_beql hT hd hx hy (by simpa using next)
end ops
end Fw
namespace Sp
open Fw
open Nd
section
variable {v u : BVol} {p : Bs} {b : List Int}
end
end Sp
namespace Fw
open Go
section
variable {P : Program} {n : Nat} {ops : Array Oper} {Q : Post} {rest : List Oper} {L : Slots} {ds : List Deferred} {w : World}
variable {ty : TypeId} {ps : String} {af : Array Edge}
theorem o_makefn2 {d : Nat} {f : FuncId} {x y : Operand} {v u : Value} (hd : Nat.blt d n = true) (hx : od L x = some v) (hy : od L y = some u)
  (next : R P n ops Q rest ((d, .func (.func f) #[] #[v, u]) :: L) ds w) : R P n ops Q (⟨some d, .makeFunc (.func f) #[] #[x, y], ty, ps, af, none⟩ :: rest) L ds w :=
 R_run hd (fun a ha => by simp [execOp, Instr.makeFunc, ha.eval hx, ha.eval hy]) next
theorem o_callc2 {d : Nat} {f : FuncId} {c : Operand} {xs : List Operand} {ts : Array TypeId} {vs : List Value} {cv cu : Value} {C : Ending → World → Prop} (hf : ∀ args w, (callFunc f args).run P w = .ok (.enter f args) w) (hd : Nat.blt d n = true)
  (hc0 : od L c = some (.func (.func f) #[] #[cv, cu])) (hx : ods L xs = some vs) (hc : Calls P f (vs ++ [cv, cu]).toArray w C) (next : ∀ e w', C e w' → ∃ v, e = .returned v ∧ R P n ops Q rest ((d, v) :: L) ds w') :
  R P n ops Q (⟨some d, .call ⟨.value c, xs.toArray, ts⟩, ty, ps, af, none⟩ :: rest) L ds w := by
 intro a ha
 refine wpList_plain rfl fun K hK => ?_
 have e : xs.map a.eval = vs := ha.evals xs vs hx
 have hr : (execOp a.eval ⟨some d, .call ⟨.value c, xs.toArray, ts⟩, ty, ps, af, none⟩).run P w = .ok (.enter f (vs ++ [cv, cu]).toArray) w := by
  simp [execOp, resolve, invoke, ha.eval hc0, Deferred.ofValue, e, hf]
 unfold Oper.wp
 rw [hr, Oper.upon_enter]
 refine hc.mono fun e w' hC => ?_
 obtain ⟨v, rfl, h⟩ := next e w' hC
 exact hK _ _ (h _ (ha.put hd v))
end
end Fw
namespace Sp
open Fw Nd
theorem keeps : ∀ (ids : List Int) {L L' : List BHeld}, VH L → foldB StoreKeep ids (some L) = some L' → VH L' ∧ ∀ a, us L' a = us L a + (cnt1 a ids : Int) ∧ by_ L' a = by_ L a
 | [], L, L', hV, h => by
  have : L = L' := by simpa [foldB] using h
  subst this
  exact ⟨hV, fun a => by simp [cnt1]⟩
 | x :: r, L, L', hV, h => by
  have h' : foldB StoreKeep r (StoreKeep L x) = some L' := h
  cases e : StoreKeep L x with
  | none => rw [e, foldB_none] at h'; cases h'
  | some L1 =>
   rw [e] at h'
   obtain ⟨k1, _, k3⟩ := keep_step hV e
   obtain ⟨g1, g2⟩ := keeps r k1 h'
   refine ⟨g1, fun a => ?_⟩
   have h3 := k3 a
   have h4 := g2 a
   rw [cnt1_cons]
   refine ⟨?_, h4.2.trans h3.2⟩
   by_cases ea : a = x
   ·rw [if_pos ea] at h3 ⊢; omega
   ·rw [if_neg ea] at h3 ⊢; omega
theorem keepTs : ∀ (t : List BItem) {L L' : List BHeld}, VH L → l12Keep L t = some L' → VH L' ∧ ∀ a, us L' a = us L a + (cntL t a : Int) ∧ by_ L' a = by_ L a
 | [], L, L', hV, h => by
  have : L = L' := by simpa [l12Keep, foldB] using h
  subst this
  exact ⟨hV, fun a => by simp [cntL]⟩
 | x :: r, L, L', hV, h => by
  have h' : foldB keepT r (keepT L x) = some L' := h
  cases e : keepT L x with
  | none => rw [e, foldB_none] at h'; cases h'
  | some L1 =>
   rw [e] at h'
   obtain ⟨k1, k3⟩ := keeps x.ids hV e
   obtain ⟨g1, g2⟩ := keepTs r k1 h'
   refine ⟨g1, fun a => ?_⟩
   have h3 := k3 a
   have h4 := g2 a
   rw [cntL_cons]
   exact ⟨by omega, h4.2.trans h3.2⟩
def freeF (s : List BHeld) (x : BItem) : Option (List BHeld) := FileFree s x.ids
def freeTs (s : List BHeld) (l : List BItem) : Option (List BHeld) := foldB freeF l (some s)
def l12Free (s : List BHeld) (l : List BItem) : List BHeld := l.foldl (fun s x => (FileFree s x.ids).getD []) s
theorem frees : ∀ (t : List BItem) {L : List BHeld}, VH L → (∀ x, x ∈ t → l4Ids L x.ids = true) → (∀ a, (cntL t a : Int) ≤ us L a) →
  ∃ L', freeTs L t = some L' ∧ l12Free L t = L' ∧ VH L' ∧ ∀ a, us L' a = us L a - (cntL t a : Int) ∧ (0 < us L' a → by_ L' a = by_ L a)
 | [], L, hV, _, _ => ⟨L, rfl, rfl, hV, fun a => by simp [cntL]⟩
 | x :: r, L, hV, hi, hl => by
  obtain ⟨L1, k1, k2, k3⟩ := free_ok hV (hi x (by simp)) (fun a => by
   have := hl a
   rw [cntL_cons] at this
   omega)
  have hc : ∀ a, (cntL r a : Int) ≤ us L1 a := fun a => by
   have := hl a
   have := (k3 a).1
   rw [cntL_cons] at *
   omega
  obtain ⟨L', g1, g2, g3, g4⟩ := frees r k2 (fun y hy => ids_keep hV k2 (fun a ha => by
   have h1 : 0 < cnt1 a y.ids := cnt1_pos.2 ha
   have h2 := cntL_mem hy a
   have h3 := hc a
   have h4 : 0 < us L1 a := by omega
   exact ⟨h4, (k3 a).2 h4⟩) (hi y (by simp [hy]))) hc
  refine ⟨L', ?_, ?_, g3, fun a => ?_⟩
  ·show foldB freeF (x :: r) (some L) = some L'
   rw [foldB_cons (show freeF L x = some L1 from k1)]
   exact g1
  ·simp only [l12Free, List.foldl_cons, k1, Option.getD_some]
   exact g2
  ·have h1 := k3 a
   have h2 := g4 a
   rw [cntL_cons]
   refine ⟨by omega, fun h => (h2.2 h).trans (h1.2 (by omega))⟩
def trees (d : BDisk) : List (List BItem) := d.tree :: d.snaps.map (·.tree)
def cntD (ts : List (List BItem)) (a : Int) : Nat := (ts.map (fun t => cntL t a)).sum
theorem cntD_cons (t : List BItem) (ts : List (List BItem)) (a : Int) : cntD (t :: ts) a = cntL t a + cntD ts a := by simp [cntD]
theorem cntD_mem {ts : List (List BItem)} {t : List BItem} (h : t ∈ ts) (a : Int) : cntL t a ≤ cntD ts a := by
 induction ts with
 | nil => cases h
 | cons y r ih =>
  rw [cntD_cons]
  rcases List.mem_cons.1 h with rfl | h
  ·omega
  ·have := ih h; omega
theorem cntD_zero {ts : List (List BItem)} {a : Int} (h : ∀ t, t ∈ ts → ∀ x, x ∈ t → a ∉ x.ids) : cntD ts a = 0 := by
 induction ts with
 | nil => rfl
 | cons y r ih => rw [cntD_cons, ih (fun t ht => h t (by simp [ht])), cntL_zero (h y (by simp))]
theorem cntD_le {ts : List (List BItem)} (h : ∀ t, t ∈ ts → VT t) (a : Int) : cntD ts a ≤ 48 * ts.length := by
 induction ts with
 | nil => simp [cntD]
 | cons y r ih =>
  rw [cntD_cons, List.length_cons]
  have h1 := ih (fun t ht => h t (by simp [ht]))
  have h2 := l11Count_le (id := a) (tvalid_iff.2 (h y (by simp)))
  rw [l11Count_eq] at h2
  omega
theorem l12Count_eq (d : BDisk) (a : Int) : l12Count d a = cntD (trees d) a := by
 simp [l12Count, cntS, trees, l11Count_eq, cntD, Function.comp_def]
structure DHol (L : List BHeld) (ts : List (List BItem)) : Prop where
 vh : VH L
 vt : ∀ t, t ∈ ts → VT t
 ids : ∀ t, t ∈ ts → ∀ x, x ∈ t → l4Ids L x.ids = true
 use : ∀ a, us L a = (cntD ts a : Int)
def NamesOK (l : List BSnap) : Prop := l.length ≤ 6 ∧ ∀ (k : Nat) (s : BSnap), l[k]? = some s → l1Word s.name = true ∧ (k : Int) ≤ l12At l s.name
theorem dd_iff {d : BDisk} : DiskValid d = true ↔ NamesOK d.snaps ∧ DHol d.store (trees d) := by
 rw [dv_parts, valid_iff, tvalid_iff]
 have hf : ∀ l : List BItem, l11Files d.store l = true ↔ ∀ x, x ∈ l → l4Ids d.store x.ids = true := fun l => by
  unfold l11Files
  rw [List.all_eq_true]
  exact Iff.rfl
 constructor
 ·rintro ⟨h1, h2, h3, h4, ⟨h5, h6⟩, h7⟩
  have hi : ∀ t, t ∈ trees d → ∀ x, x ∈ t → l4Ids d.store x.ids = true := fun t ht => by
   rcases List.mem_cons.1 ht with rfl | ht
   ·exact (hf _).1 h5
   ·obtain ⟨s, hs, rfl⟩ := List.mem_map.1 ht
    obtain ⟨k, hk⟩ := List.getElem?_of_mem hs
    exact (hf _).1 (h6 k s hk)
  refine ⟨⟨h3, fun k s hs => ⟨(h4 k s hs).1, (h4 k s hs).2.1⟩⟩, ⟨h1, fun t ht => ?_, hi, fun a => ?_⟩⟩
  ·rcases List.mem_cons.1 ht with rfl | ht
   ·exact h2
   ·obtain ⟨s, hs, rfl⟩ := List.mem_map.1 ht
    obtain ⟨k, hk⟩ := List.getElem?_of_mem hs
    exact tvalid_iff.1 (h4 k s hk).2.2
  ·by_cases ha : a ∈ d.store.map (·.id)
   ·obtain ⟨h, hh, rfl⟩ := List.mem_map.1 ha
    have := List.all_eq_true.1 h7 h hh
    simp only [usesD, decide_eq_true_eq, l12Count_eq] at this
    rw [this, us, getH_mem h1.nd hh]
   ·rw [us, getH_not ha, cntD_zero]
    ·rfl
    ·intro t ht x hx hax
     have := ids_in h1 (hi t ht x hx) hax
     rw [us, getH_not ha] at this
     exact absurd this (by simp)
 ·rintro ⟨⟨h3, h4⟩, ⟨h1, h2, hi, hu⟩⟩
  have hm : ∀ (k : Nat) (s : BSnap), d.snaps[k]? = some s → s.tree ∈ trees d := fun k s hs => List.mem_cons.2 (.inr (List.mem_map.2 ⟨s, List.mem_of_getElem? hs, rfl⟩))
  refine ⟨h1, h2 _ (by simp [trees]), h3, fun k s hs => ⟨(h4 k s hs).1, (h4 k s hs).2, tvalid_iff.2 (h2 _ (hm k s hs))⟩, ⟨(hf _).2 (hi _ (by simp [trees])), fun k s hs => (hf _).2 (hi _ (hm k s hs))⟩, List.all_eq_true.2 fun h hh => ?_⟩
  simp only [usesD, decide_eq_true_eq, l12Count_eq]
  rw [← hu, us, getH_mem h1.nd hh]
def SnapBack (d : BDisk) (n : Bs) : Option BDisk := match atS d.snaps n with
 | none => none
 | some i => if DiskValid d then (l12Keep d.store (((d.snaps[i]?).map (·.tree)).getD [])).map (fun s => ⟨l12Free s d.tree, ((d.snaps[i]?).map (·.tree)).getD [], d.snaps⟩) else none
def DiskWrite (d : BDisk) (p : Bs) (b : List Int) : Option BDisk := if DiskValid d && FileValid b then (l11Write ⟨d.store, d.tree⟩ p b).map (fun v => ⟨v.store, v.tree, d.snaps⟩) else none
theorem at_some {l : List BSnap} {n : Bs} {i : Nat} (h : atS l n = some i) : ∃ s, l[i]? = some s ∧ s.name = n ∧ i < l.length ∧ ∀ j s', j < i → l[j]? = some s' → s'.name ≠ n := by
 obtain ⟨h1, h2, h3⟩ := List.findIdx?_eq_some_iff_getElem.1 h
 refine ⟨l[i], by simp [h1], by simpa using h2, h1, fun j s' hj hs e => ?_⟩
 have := h3 j hj
 obtain ⟨hj2, hs2⟩ := List.getElem?_eq_some_iff.1 hs
 rw [hs2] at this
 simp [e] at this
section
variable {d d1 : BDisk} {n : Bs}
theorem take_get (h : SnapTake d n = some d1) : DiskValid d = true ∧ l1Word n = true ∧ atS d.snaps n = none ∧ d.snaps.length < 6 ∧ ∃ s, l12Keep d.store d.tree = some s ∧ d1 = ⟨s, d.tree, d.snaps ++ [⟨n, d.tree⟩]⟩ := by
 unfold SnapTake at h
 split at h
 ·rename_i hc
  simp only [Bool.and_eq_true, decide_eq_true_eq] at hc
  obtain ⟨⟨⟨c1, c2⟩, c3⟩, c4⟩ := hc
  obtain ⟨s, h1, rfl⟩ := Option.map_eq_some_iff.1 h
  have := (dd_iff.1 c1).1.1
  exact ⟨c1, c2, by simpa using c3, by omega, s, h1, rfl⟩
 ·cases h
theorem back_get (h : SnapBack d n = some d1) : DiskValid d = true ∧ ∃ i s st, atS d.snaps n = some i ∧ d.snaps[i]? = some s ∧ s.name = n ∧ l12Keep d.store s.tree = some st ∧ d1 = ⟨l12Free st d.tree, s.tree, d.snaps⟩ := by
 unfold SnapBack at h
 split at h
 ·cases h
 ·rename_i i e
  split at h
  ·rename_i hc
   obtain ⟨s, h1, h2, _⟩ := at_some e
   rw [h1] at h
   obtain ⟨st, h3, h4⟩ := Option.map_eq_some_iff.1 h
   exact ⟨hc, i, s, st, e, h1, h2, h3, h4.symm⟩
  ·cases h
theorem snap_in {i : Nat} {s : BSnap} (h : d.snaps[i]? = some s) : s.tree ∈ trees d := List.mem_cons.2 (.inr (List.mem_map.2 ⟨s, List.mem_of_getElem? h, rfl⟩))
theorem DHol.le {L : List BHeld} {ts : List (List BItem)} (h : DHol L ts) (hl : ts.length ≤ 7) (a : Int) : us L a ≤ 336 := by
 have := h.use a
 have := cntD_le h.vt a
 omega
theorem keep_hol {L L' : List BHeld} {ts : List (List BItem)} (h : DHol L ts) {t : List BItem} (ht : t ∈ ts) (hk : l12Keep L t = some L') : DHol L' (t :: ts) ∧ ∀ a, us L' a = us L a + (cntL t a : Int) ∧ by_ L' a = by_ L a := by
 obtain ⟨k1, k2⟩ := keepTs t h.vh hk
 have hst : ∀ a, 0 < us L a → 0 < us L' a ∧ by_ L' a = by_ L a := fun a ha => ⟨by have := (k2 a).1; omega, (k2 a).2⟩
 have hi : ∀ u, u ∈ ts → ∀ x, x ∈ u → l4Ids L' x.ids = true := fun u hu x hx => ids_stay h.vh k1 hst (h.ids u hu x hx)
 refine ⟨⟨k1, fun u hu => ?_, fun u hu => ?_, fun a => ?_⟩, k2⟩
 ·rcases List.mem_cons.1 hu with rfl | hu
  ·exact h.vt _ ht
  ·exact h.vt _ hu
 ·rcases List.mem_cons.1 hu with rfl | hu
  ·exact hi _ ht
  ·exact hi _ hu
 ·rw [(k2 a).1, h.use a, cntD_cons]
  omega
theorem free_hol {L : List BHeld} {ts : List (List BItem)} {t : List BItem} (h : DHol L (t :: ts)) :
  ∃ L', freeTs L t = some L' ∧ l12Free L t = L' ∧ DHol L' ts ∧ ∀ a, us L' a = us L a - (cntL t a : Int) ∧ (0 < us L' a → by_ L' a = by_ L a) := by
 obtain ⟨L', g1, g2, g3, g4⟩ := frees t h.vh (h.ids t (by simp)) (fun a => by
  have := h.use a
  rw [cntD_cons] at this
  omega)
 have hu : ∀ a, us L' a = (cntD ts a : Int) := fun a => by
  have := h.use a
  have := (g4 a).1
  rw [cntD_cons] at *
  omega
 refine ⟨L', g1, g2, ⟨g3, fun u hu => h.vt u (by simp [hu]), fun u hu2 x hx => ids_keep h.vh g3 (fun a ha => ?_) (h.ids u (by simp [hu2]) x hx), hu⟩, g4⟩
 have h1 : 0 < cnt1 a x.ids := cnt1_pos.2 ha
 have h2 := cntL_mem hx a
 have h3 := cntD_mem hu2 a
 have h4 := hu a
 have h5 : 0 < us L' a := by omega
 exact ⟨h5, (g4 a).2 h5⟩
theorem DHol.perm {L : List BHeld} {ts us' : List (List BItem)} (h : DHol L ts) (hp : ts.Perm us') : DHol L us' :=
 ⟨h.vh, fun t ht => h.vt t (hp.mem_iff.2 ht), fun t ht => h.ids t (hp.mem_iff.2 ht), fun a => by rw [h.use a]; exact congrArg _ ((hp.map _).sum_nat)⟩
theorem take_valid (h : SnapTake d n = some d1) : DiskValid d1 = true := by
 obtain ⟨hd, hw, hn, hl, s, hk, rfl⟩ := take_get h
 obtain ⟨hN, hH⟩ := dd_iff.1 hd
 obtain ⟨g1, _⟩ := keep_hol hH (t := d.tree) (by simp [trees]) hk
 refine dd_iff.2 ⟨⟨by simp; omega, fun k s' hs => ?_⟩, g1.perm ?_⟩
 ·simp only [l12At, atS, List.findIdx?_append]
  by_cases hkl : k < d.snaps.length
  ·rw [List.getElem?_append_left hkl] at hs
   obtain ⟨h1, h2⟩ := hN.2 k s' hs
   refine ⟨h1, ?_⟩
   simp only [l12At, atS] at h2
   cases e : d.snaps.findIdx? (fun x => decide (x.name = s'.name)) with
   | none =>
    rw [e] at h2
    simp [optI] at h2
    omega
   | some i => rw [e] at h2; simpa using h2
  ·rw [List.getElem?_append_right (by omega)] at hs
   have hk0 : k = d.snaps.length := by
    have := (List.getElem?_eq_some_iff.1 hs).1
    simp at this
    omega
   subst hk0
   simp at hs
   subst hs
   refine ⟨hw, ?_⟩
   have : d.snaps.findIdx? (fun x => decide (x.name = n)) = none := hn
   simp [this, optI]
 ·simp only [trees, List.map_append, List.map_cons, List.map_nil]
  refine List.Perm.trans (List.Perm.swap _ _ _) (List.Perm.cons _ ?_)
  exact (List.perm_append_comm (l₁ := [d.tree])).trans (List.Perm.refl _)
end
end Sp
namespace Sp
open Fw
theorem l12Free_succ {l : List BItem} {k : Nat} {x : BItem} {s : List BHeld} (h : l[k]? = some x) : l12Free s (l.take (k + 1)) = (FileFree (l12Free s (l.take k)) x.ids).getD [] := by
 unfold l12Free
 rw [take_succ' h, List.foldl_append]
 rfl
theorem free_len (s : List BHeld) (ids : List Int) : ((FileFree s ids).getD []).length ≤ s.length := by
 cases e : FileFree s ids with
 | none => simp
 | some r =>
  unfold FileFree at e
  split at e
  ·exact foldB_inv (P := fun r : List BHeld => r.length ≤ s.length) (f := StoreDrop) (fun a b a' h1 h2 => Nat.le_trans (drop_len h2) h1) _ _ _ (Nat.le_refl _) e
  ·cases e
end Sp
namespace Sp
open Fw Nd
theorem names_nodup {l : List BSnap} : (∀ (k : Nat) (s : BSnap), l[k]? = some s → (k : Int) ≤ l12At l s.name) ↔ (l.map (·.name)).Nodup := by
 constructor
 ·intro h
  rw [List.nodup_iff_pairwise_ne, List.pairwise_map, List.pairwise_iff_getElem]
  intro i j hi hj hij e
  have h1 := h j l[j] (by simp)
  simp only [l12At] at h1
  cases e2 : atS l l[j].name with
  | none => rw [e2] at h1; simp [optI] at h1; omega
  | some m =>
   rw [e2] at h1
   obtain ⟨_, _, _, _, h4⟩ := at_some e2
   simp only [optI] at h1
   exact h4 i l[i] (by omega) (by simp) e
 ·intro h k s hs
  obtain ⟨hk, hk2⟩ := List.getElem?_eq_some_iff.1 hs
  simp only [l12At]
  cases e2 : atS l s.name with
  | none =>
   have := List.findIdx?_eq_none_iff.1 e2 s (List.mem_of_getElem? hs)
   simp at this
  | some m =>
   obtain ⟨s', h1, h2, h3, _⟩ := at_some e2
   simp only [optI]
   by_cases hm : m < k
   ·rw [List.nodup_iff_pairwise_ne, List.pairwise_map, List.pairwise_iff_getElem] at h
    obtain ⟨_, h1'⟩ := List.getElem?_eq_some_iff.1 h1
    exact absurd (by rw [h1', hk2, h2]) (h m k h3 hk hm)
   ·omega
theorem namesOK_iff {l : List BSnap} : NamesOK l ↔ l.length ≤ 6 ∧ (∀ s, s ∈ l → l1Word s.name = true) ∧ (l.map (·.name)).Nodup := by
 rw [← names_nodup]
 constructor
 ·rintro ⟨h1, h2⟩
  refine ⟨h1, fun s hs => ?_, fun k s hs => (h2 k s hs).2⟩
  obtain ⟨k, hk⟩ := List.getElem?_of_mem hs
  exact (h2 k s hk).1
 ·rintro ⟨h1, h2, h3⟩
  exact ⟨h1, fun k s hs => ⟨h2 s (List.mem_of_getElem? hs), h3 k s hs⟩⟩
theorem NamesOK.sub {l m : List BSnap} (h : NamesOK l) (hs : m.Sublist l) : NamesOK m := by
 obtain ⟨h1, h2, h3⟩ := namesOK_iff.1 h
 exact namesOK_iff.2 ⟨Nat.le_trans hs.length_le h1, fun s hm => h2 s (hs.subset hm), (hs.map _).nodup h3⟩
section
variable {d d1 : BDisk} {n : Bs} {p : Bs} {b : List Int}
theorem split_at {α : Type} {l : List α} {i : Nat} {x : α} (h : l[i]? = some x) : l = l.take i ++ x :: l.drop (i + 1) := by
 have := List.take_append_drop i l
 rw [drop_at h] at this
 exact this.symm
theorem back_hol (hd : DiskValid d = true) {i : Nat} {s : BSnap} {st : List BHeld} (hs : d.snaps[i]? = some s) (hk : l12Keep d.store s.tree = some st) :
  ∃ L', freeTs st d.tree = some L' ∧ l12Free st d.tree = L' ∧ DHol L' (s.tree :: d.snaps.map (·.tree)) ∧ ∀ a, us L' a = us d.store a + (cntL s.tree a : Int) - (cntL d.tree a : Int) ∧ (0 < us L' a → by_ L' a = by_ d.store a) := by
 obtain ⟨hN, hH⟩ := dd_iff.1 hd
 obtain ⟨g1, g2⟩ := keep_hol hH (snap_in hs) hk
 obtain ⟨L', k1, k2, k3, k4⟩ := free_hol (t := d.tree) (ts := s.tree :: d.snaps.map (·.tree)) (g1.perm (List.Perm.swap _ _ _))
 exact ⟨L', k1, k2, k3, fun a => ⟨by have := (g2 a).1; have := (k4 a).1; omega, fun ha => ((k4 a).2 ha).trans (g2 a).2⟩⟩
theorem back_valid (h : SnapBack d n = some d1) : DiskValid d1 = true := by
 obtain ⟨hd, i, s, st, hi, hs, hsn, hk, rfl⟩ := back_get h
 obtain ⟨L', _, k2, k3, _⟩ := back_hol hd hs hk
 refine dd_iff.2 ⟨(dd_iff.1 hd).1, ?_⟩
 show DHol (l12Free st d.tree) _
 rw [k2]
 exact k3
theorem dwrite_get (h : DiskWrite d p b = some d1) : DiskValid d = true ∧ FileValid b = true ∧ ∃ v, l11Write ⟨d.store, d.tree⟩ p b = some v ∧ d1 = ⟨v.store, v.tree, d.snaps⟩ := by
 unfold DiskWrite at h
 split at h
 ·rename_i hc
  simp only [Bool.and_eq_true] at hc
  obtain ⟨v, h1, h2⟩ := Option.map_eq_some_iff.1 h
  exact ⟨hc.1, hc.2, v, h1, h2.symm⟩
 ·cases h
theorem DHol.hol {L : List BHeld} {t : List BItem} {ts : List (List BItem)} (h : DHol L (t :: ts)) : Hol L t :=
 ⟨h.vh, h.vt t (by simp), h.ids t (by simp), fun a => by have := h.use a; rw [cntD_cons] at this; omega⟩
theorem dwrite_valid (h : DiskWrite d p b = some d1) : DiskValid d1 = true := by
 obtain ⟨hd, hb, v, hv, rfl⟩ := dwrite_get h
 obtain ⟨hN, hH⟩ := dd_iff.1 hd
 refine dd_iff.2 ⟨hN, ?_⟩
 show DHol v.store (v.tree :: d.snaps.map (·.tree))
 unfold l11Write at hv
 split at hv
 ·cases hv
 ·rename_i r hst
  obtain ⟨s, ids⟩ := r
  split at hv
  ·cases hv
  ·rename_i t ht
   obtain ⟨s', _, _, g1, g2, g3⟩ := write_ok (DHol.hol (ts := d.snaps.map (·.tree)) hH) hst ht
   obtain ⟨_, _, hsu, _⟩ := store_ok hH.vh hst
   have hv' : l11Write ⟨d.store, d.tree⟩ p b = some v := by
    simp only [l11Write, hst, ht]
    exact hv
   rw [g1] at hv'
   cases hv'
   have hu : ∀ a, us s' a = (cntD (t :: d.snaps.map (·.tree)) a : Int) := fun a => by
    have h1 := hH.use a
    have h2 : us s' a = us d.store a + (cntL t a : Int) - (cntL d.tree a : Int) := (g3 a).1
    simp only [trees, cntD_cons] at h1
    rw [cntD_cons]
    omega
   refine ⟨g2.vh, fun u hu2 => ?_, fun u hu2 x hx => ?_, hu⟩
   ·rcases List.mem_cons.1 hu2 with rfl | hu2
    ·exact g2.vt
    ·exact hH.vt u (List.mem_cons.2 (.inr hu2))
   ·rcases List.mem_cons.1 hu2 with rfl | hu2
    ·exact g2.ids x hx
    ·refine ids_keep hH.vh g2.vh (fun a ha => ?_) (hH.ids u (List.mem_cons.2 (.inr hu2)) x hx)
     have h1 : 0 < cnt1 a x.ids := cnt1_pos.2 ha
     have h2 := cntL_mem hx a
     have h3 := cntD_mem hu2 a
     have h4 := hu a
     rw [cntD_cons] at h4
     have h5 : 0 < us s' a := by omega
     have h6 := hH.use a
     simp only [trees, cntD_cons] at h6
     exact ⟨h5, ((g3 a).2 h5).trans ((hsu a).2 (by omega))⟩
end
end Sp
namespace Fw
open Go
section ops
variable {P : Program} {n : Nat} {ops : Array Oper} {Q : Post} {rest : List Oper} {L : Slots} {ds : List Deferred} {w w0 : World} {G0 : PH} {S : List Nat} {G : PH} {B : List Res}
variable {ty : TypeId} {ps : String} {af : Array Edge}
end ops
theorem All2.del {α β : Type} {R : α → β → Prop} {l : List α} {m : List β} (h : All2 R l m) : ∀ (i : Nat), All2 R (l.take i ++ l.drop (i + 1)) (m.take i ++ m.drop (i + 1)) := by
 induction h with
 | nil => intro i; simp; exact .nil
 | cons h t ih =>
  intro i
  cases i with
  | zero => simpa using t
  | succ i => simpa using .cons h (ih i)
end Fw
namespace Fw
open Sp
end Fw
namespace Sp
open Fw
section
variable {d d1 : BDisk} {n : Bs} {p : Bs} {b : List Int}
theorem back_isv (h : SnapBack d n = some d1) : DiskValid d = true := (back_get h).1
theorem dwrite_isv (h : DiskWrite d p b = some d1) : DiskValid d = true := (dwrite_get h).1
theorem back_eq (hd : DiskValid d = true) {i : Nat} {s : BSnap} (hi : atS d.snaps n = some i) (hs : d.snaps[i]? = some s) : SnapBack d n = (l12Keep d.store s.tree).map (fun st => ⟨l12Free st d.tree, s.tree, d.snaps⟩) := by
 unfold SnapBack
 rw [hi]
 simp only [hd, if_true, hs, Option.map_some, Option.getD_some]
theorem back_noat (h : optI (atS d.snaps n) < 0) : SnapBack d n = none := by
 cases e : atS d.snaps n with
 | none => unfold SnapBack; rw [e]
 | some i => rw [e] at h; simp only [optI] at h; omega
theorem back_nov (h : DiskValid d = false) : SnapBack d n = none := by
 cases e : SnapBack d n with
 | none => rfl
 | some q => rw [back_isv e] at h; cases h
theorem dk_lim {o : Option BDisk} (h : ∀ d1, o = some d1 → DiskValid d1 = true) : ((o.map (·.snaps)).getD []).length ≤ 6 := by
 cases o with
 | none => simp
 | some d1 => exact (dv_parts.1 (h d1 rfl)).2.2.1
end
end Sp
namespace Sp
open Fw
theorem l12Free_len : ∀ (l : List BItem) (s : List BHeld), (l12Free s l).length ≤ s.length
 | [], s => by simp [l12Free]
 | x :: r, s => by
  have h1 := free_len s x.ids
  have h2 := l12Free_len r ((FileFree s x.ids).getD [])
  have : l12Free s (x :: r) = l12Free ((FileFree s x.ids).getD []) r := by simp [l12Free]
  rw [this]
  omega
end Sp
namespace Sp
open Fw
theorem freeOld_len (s : List BHeld) (l : List BItem) : (freeOld s l).length ≤ s.length := by
 cases l with
 | nil => exact Nat.le_refl _
 | cons x r => exact free_len s x.ids
theorem l11Write_slen (v : BVol) (p : Bs) (b : List Int) : (((l11Write v p b).map (·.store)).getD []).length ≤ 16 := by
 have h := fileStore_len v.store b
 unfold l11Write
 cases e : FileStore v.store b with
 | none => simp
 | some r =>
  rw [e] at h
  simp only [Option.map_some, Option.getD_some] at h
  have h2 := freeOld_len r.1 (l11Ids v.tree p)
  cases e2 : TreePut v.tree ⟨p, false, r.2⟩ with
  | none => simp [e2]
  | some t => simp [e2]; omega
end Sp
namespace Sp
open Fw
end Sp
namespace Fw
open Go
end Fw
namespace Fw
open Go
end Fw
namespace Sp
open Fw Nd
def FileLoad (L : List BHeld) (ids : List Int) : Option (List Int) := if StoreValid L && l4Ids L ids then some (load L ids) else none
def TreeFind (l : List BItem) (p : Bs) : Option BItem := if TreeValid l then (atI l p).bind (fun i => l[i]?) else none
def readT (d : BDisk) (p : Bs) : Option (List Int) := match TreeFind d.tree p with
 | none => none
 | some x => if x.dir then none else FileLoad d.store x.ids
theorem readT_eq {d : BDisk} (hv : DiskValid d = true) (p : Bs) : readT d p = readF d.store d.tree p := by
 obtain ⟨hN, hH⟩ := dd_iff.1 hv
 have ht := tvalid_iff.2 (hH.vt d.tree (by simp [trees]))
 unfold readT TreeFind readF l11Ids
 rw [if_pos ht]
 cases e : atI d.tree p with
 | none => rfl
 | some i =>
  simp only [Option.bind_some]
  cases e2 : d.tree[i]? with
  | none => rfl
  | some x =>
   have hi := hH.ids d.tree (by simp [trees]) x (List.mem_of_getElem? e2)
   have hs := valid_iff.2 hH.vh
   by_cases hd : x.dir = true
   ·simp [hd]
   ·simp [hd, FileLoad, hs, hi]
theorem tree_pos {L : List BHeld} {ts : List (List BItem)} (h : DHol L ts) {t : List BItem} (ht : t ∈ ts) {x : BItem} (hx : x ∈ t) {a : Int} (ha : a ∈ x.ids) : 0 < us L a := by
 have h1 : 0 < cnt1 a x.ids := cnt1_pos.2 ha
 have h2 := cntL_mem hx a
 have h3 := cntD_mem ht a
 have h4 := h.use a
 omega
theorem write_read2 {u : BVol} (hu : Hol u.store u.tree) {p : Bs} {b : List Int} {u' : BVol} (h : l11Write u p b = some u') :
  readF u'.store u'.tree p = some b ∧ ∀ a, 0 < us u.store a → 0 < us u'.store a → by_ u'.store a = by_ u.store a := by
 cases e : FileStore u.store b with
 | none => simp [l11Write, e] at h
 | some r =>
  cases e2 : TreePut u.tree ⟨p, false, r.2⟩ with
  | none => simp [l11Write, e, e2] at h
  | some t =>
   obtain ⟨s', _, _, h3, h4, h5⟩ := write_ok hu (s := r.1) (ids := r.2) e e2
   rw [h3] at h
   cases h
   obtain ⟨hs, hlen, hsu, hsb⟩ := store_ok hu.vh (s := r.1) (ids := r.2) e
   obtain ⟨_, ht, hx, hperm⟩ := put_perm2 e2
   have hm : (⟨p, false, r.2⟩ : BItem) ∈ t := hperm.mem_iff.2 (by simp)
   obtain ⟨i, g1, g2⟩ := (uniq_at ht.asc (p := p)).2.1 _ hm rfl
   have hl : l11Ids t p = [⟨p, false, r.2⟩] := by simp [l11Ids, g1, g2]
   refine ⟨?_, fun a ha ha' => ((h5 a).2 ha').trans ((hsu a).2 ha)⟩
   unfold readF
   simp only [hl]
   rw [load_cut hlen (fun i id hi => ?_), cut_flatten]
   have hpos : 0 < us s' id := by
    have h6 := h4.le id
    have h7 : cnt1 id r.2 ≤ cntL t id := cntL_mem hm id
    have h8 := cnt1_pos.2 (List.mem_of_getElem? hi)
    omega
   rw [(h5 id).2 hpos]
   exact hsb i id hi
theorem dwrite_read {d d1 : BDisk} {p : Bs} {b : List Int} (h : DiskWrite d p b = some d1) : readT d1 p = some b := by
 rw [readT_eq (dwrite_valid h)]
 obtain ⟨hd, hb, v, hv, rfl⟩ := dwrite_get h
 exact (write_read2 (DHol.hol (ts := d.snaps.map (·.tree)) (dd_iff.1 hd).2) hv).1
end Sp
namespace Sp
open Fw Nd
end Sp
namespace Sp
open Fw
end Sp
namespace Fw
open Go
section
variable {P : Program} {n : Nat} {Q : Post} {L : Slots} {ds : List Deferred} {w : World}
def JP (n : Nat) (ds : List Deferred) (Lf : Slots) (J : Slots → World → Prop) : Post := fun e a w => e = .normal ∧ ∃ M, FrL n (M ++ Lf) ds a ∧ J M w
theorem W_join {x y : Code} (Lf : Slots) (J : Slots → World → Prop) (hf : Sub Lf L) (first : W P n (JP n ds Lf J) x L ds w) (second : ∀ M w, J M w → W P n Q y (M ++ Lf) ds w) : W P n Q (.seq x y) L ds w :=
 W_seq (fun a ha => wp_mono (first a ha) (fun e a' w' hq => by
  obtain ⟨he, M, hF, hJ⟩ := hq
  subst he
  exact second M w' hJ a' hF))
theorem N_J {Lf : Slots} {J : Slots → World → Prop} {M : Slots} (hJ : J M w) (hM : Sub M L := by (repeat (first | exact Sub.nil | refine Sub.cons rfl ?_))) (hf : Sub Lf L := by (repeat (first | exact Sub.nil | refine Sub.cons rfl ?_))) : N n (JP n ds Lf J) .normal L ds w :=
 fun _ ha => ⟨rfl, M, ha.sub (hM.app hf), hJ⟩
end
end Fw
namespace Sp
open Fw Nd
theorem ids_at {L : List BHeld} (hS : StoreValid L = true) {ids : List Int} (hl : l4Ids L ids = true) {k : Nat} {a : Int} (hk : ids[k]? = some a) : ∃ j : Nat, l3At L a = (j : Int) ∧ j < L.length ∧ L[j]? = some (getH L a) := by
 have hV := valid_iff.1 hS
 obtain ⟨i, h1, h2, _⟩ := get_some ((us_pos hV).1 (ids_in hV hl (List.mem_of_getElem? hk)))
 refine ⟨i, ?_, (List.getElem?_eq_some_iff.1 h2).1, h2⟩
 unfold l3At
 rw [h1]
 rfl
theorem dv_store {d : BDisk} (hd : DiskValid d = true) : StoreValid d.store = true := valid_iff.2 (dd_iff.1 hd).2.vh
end Sp
namespace Sp
open Fw Nd
def ids (L : List BHeld) : List Int := L.map (·.id)
end Sp
namespace Fw
structure BOp where
 kind : Int
 path : Bs
 bytes : List Int
end Fw
namespace Sp
open Fw Nd
section
variable {d d1 : BDisk} {p : Bs} {o : BOp}
end
end Sp
namespace Sp
open Fw Nd
end Sp
namespace Fw
structure BPart where
 kind : Int
 path : Bs
 dir : Bool
 bytes : List Int
end Fw
namespace Sp
open Fw Nd
section
variable {d d1 : BDisk} {x : BPart}
end
end Sp
namespace Sp
open Fw Nd
theorem dv_tree {d : BDisk} (h : DiskValid d = true) : VT d.tree := (dd_iff.1 h).2.vt d.tree (by simp [trees])
section
variable {d d1 : BDisk} {x : BPart}
end
end Sp
namespace Sp
open Fw Nd
end Sp
namespace Sp
open Fw Nd
end Sp
namespace Sp
open Fw Nd
end Sp
namespace Sp
open Fw Nd
def seen (L : List BHeld) (x : BItem) : Bs × Bool × List Int := (x.path, x.dir, load L x.ids)
end Sp
namespace Sp
open Fw Nd
def l1Within (p dir : Bs) : Bool := decide (dir = []) || decide (p = dir) || (dir ++ [47]).isPrefixOf p
def PathWithin (p dir : Bs) : Bool := PathValid p && (decide (dir = []) || PathValid dir) && l1Within p dir
section
variable {d d1 : BDisk} {f t : Bs}
theorem readF_mem {L : List BHeld} {l : List BItem} (hl : l.Pairwise ltp) {x : BItem} (hx : x ∈ l) : readF L l x.path = if x.dir then none else some (load L x.ids) := by
 obtain ⟨i, h1, h2⟩ := (uniq_at hl (p := x.path)).2.1 x hx rfl
 unfold readF l11Ids
 rw [h1]
 simp only [h2]
 cases x.dir <;> simp
end
end Sp
namespace Fw
structure BQuota where
 dir : Bs
 most : Int
end Fw
namespace Sp
open Fw Nd
def dirValid (dir : Bs) : Bool := decide (dir = []) || PathValid dir
def okQ (l : List BQuota) (i : Nat) : Bool := match l[i]? with
 | some q => dirValid q.dir && l6In q.most 0 999 && (decide (i = 0) || match l[i - 1]? with
  | some g => lt g.dir q.dir
  | none => false)
 | none => false
def QuotasValid (l : List BQuota) : Bool := (List.range l.length).all (okQ l) && decide (l.length ≤ 6)
def usedIn (dir but : Bs) (x : BItem) : Bool := l1Within x.path dir && !decide (x.path = but)
def usedB (L : List BHeld) (l : List BItem) (dir but : Bs) : Nat := ((l.filter (usedIn dir but)).map (fun x => (load L x.ids).length)).sum
def QuotaUsed (d : BDisk) (dir : Bs) : Int := if DiskValid d && dirValid dir then (usedB d.store d.tree dir [] : Int) else -1
def breaks (d : BDisk) (p : Bs) (n : Int) (q : BQuota) : Bool := l1Within p q.dir && decide (q.most < (usedB d.store d.tree q.dir p : Int) + n)
def QuotasAllow (d : BDisk) (l : List BQuota) (p : Bs) (n : Int) : Bool := (DiskValid d && QuotasValid l && PathValid p && l6In n 0 32) && l.all (fun q => !breaks d p n q)
theorem usedB_perm {L : List BHeld} {l m : List BItem} (h : l.Perm m) (dir but : Bs) : usedB L l dir but = usedB L m dir but := ((h.filter _).map _).sum_nat
theorem path_ne {x : BItem} (h : l5Item x = true) : x.path ≠ [] := fun e => by
 have := item_path h
 rw [e] at this
 revert this; decide
theorem used_write {d d1 : BDisk} {p : Bs} {b : List Int} (h : DiskWrite d p b = some d1) (dir : Bs) : usedB d1.store d1.tree dir [] = usedB d.store d.tree dir p + (if l1Within p dir then b.length else 0) := by
 have hv1 := dwrite_valid h
 have hrd := dwrite_read h
 obtain ⟨hd, hb, v, hv, rfl⟩ := dwrite_get h
 obtain ⟨_, hH⟩ := dd_iff.1 hd
 obtain ⟨_, hH1⟩ := dd_iff.1 hv1
 have hby := (write_read2 (DHol.hol (ts := d.snaps.map (·.tree)) hH) hv).2
 have vt1 := dv_tree hv1
 rw [readT_eq hv1] at hrd
 unfold l11Write at hv
 split at hv
 ·cases hv
 ·rename_i r hst
  obtain ⟨s, ids⟩ := r
  split at hv
  ·cases hv
  ·rename_i t ht
   cases hv
   obtain ⟨vt, _, hx, hp⟩ := put_perm2 ht
   have hin : (⟨p, false, ids⟩ : BItem) ∈ t := hp.mem_iff.2 (by simp)
   have h1 := readF_mem (L := freeOld s (l11Ids d.tree p)) vt1.asc hin
   simp only at h1 hrd
   rw [h1] at hrd
   simp only [Bool.false_eq_true, if_false, Option.some.injEq] at hrd
   show usedB (freeOld s (l11Ids d.tree p)) t dir [] = _
   rw [usedB_perm hp]
   have hne : p ≠ [] := path_ne hx
   have hrest : usedB (freeOld s (l11Ids d.tree p)) (d.tree.filter (fun y => decide (y.path ≠ p))) dir [] = usedB d.store d.tree dir p := by
    unfold usedB
    rw [List.filter_filter]
    have e : d.tree.filter (fun x => usedIn dir [] x && decide (x.path ≠ p)) = d.tree.filter (usedIn dir p) := List.filter_congr (fun x hx => by
     have := path_ne (vt.ok x hx)
     by_cases e : x.path = p <;> simp [usedIn, this, e])
    rw [e]
    congr 1
    refine List.map_congr_left (fun x hx => ?_)
    obtain ⟨hx1, hx2⟩ := List.mem_filter.1 hx
    have hxp : x.path ≠ p := by
     simp only [usedIn, Bool.and_eq_true, Bool.not_eq_true', decide_eq_false_iff_not] at hx2
     exact hx2.2
    have hx3 : x ∈ t := hp.mem_iff.2 (List.mem_cons.2 (.inr (List.mem_filter.2 ⟨hx1, by simpa using hxp⟩)))
    congr 1
    unfold load
    congr 1
    refine List.map_congr_left (fun a ha => hby a (tree_pos hH (t := d.tree) (by simp [trees]) hx1 ha) ?_)
    exact tree_pos hH1 (t := t) (by simp [trees]) hx3 ha
   have hcons : usedB (freeOld s (l11Ids d.tree p)) (⟨p, false, ids⟩ :: d.tree.filter (fun y => decide (y.path ≠ p))) dir [] = (if l1Within p dir then b.length else 0) + usedB (freeOld s (l11Ids d.tree p)) (d.tree.filter (fun y => decide (y.path ≠ p))) dir [] := by
    unfold usedB
    rw [List.filter_cons]
    cases hw : l1Within p dir with
    | true => rw [if_pos (by simp [usedIn, hw, hne])]; simp [hrd]
    | false => rw [if_neg (by simp [usedIn, hw])]; simp
   rw [hcons, hrest]
   omega
theorem within_eq {p dir : Bs} (hp : PathValid p = true) (hd : dirValid dir = true) : PathWithin p dir = l1Within p dir := by
 unfold dirValid at hd
 unfold PathWithin
 rw [hp, hd]
 simp
theorem quota_dir {l : List BQuota} (h : QuotasValid l = true) {q : BQuota} (hq : q ∈ l) : dirValid q.dir = true := by
 simp only [QuotasValid, Bool.and_eq_true, List.all_eq_true, List.mem_range, decide_eq_true_eq] at h
 obtain ⟨i, hi⟩ := List.getElem?_of_mem hq
 have := h.1 i (List.getElem?_eq_some_iff.1 hi).1
 unfold okQ at this
 rw [hi] at this
 simp only [Bool.and_eq_true] at this
 exact this.1.1
theorem write_path {d d1 : BDisk} {p : Bs} {b : List Int} (h : DiskWrite d p b = some d1) : PathValid p = true ∧ FileValid b = true := by
 obtain ⟨hd, hb, v, hv, _⟩ := dwrite_get h
 refine ⟨?_, hb⟩
 cases e : PathValid p with
 | true => rfl
 | false => rw [write_nop e] at hv; cases hv
section
variable {d x : BDisk} {l : List BQuota} {p : Bs} {n : Int} {b : List Int}
theorem used_after (hw : DiskWrite d p b = some x) (hb : (b.length : Int) = n) {q : BQuota} (hqd : dirValid q.dir = true) (hin : PathWithin p q.dir = true) : QuotaUsed x q.dir = (usedB d.store d.tree q.dir p : Int) + n ∧ l1Within p q.dir = true := by
 have hp := (write_path hw).1
 have h1 : l1Within p q.dir = true := by rw [← within_eq hp hqd]; exact hin
 refine ⟨?_, h1⟩
 unfold QuotaUsed
 rw [if_pos (by simp [dwrite_valid hw, hqd]), used_write hw, if_pos h1, ← hb]
 omega
theorem allow_ok (h : QuotasAllow d l p n = true) (hw : DiskWrite d p b = some x) (hb : (b.length : Int) = n) {q : BQuota} (hq : q ∈ l) (hin : PathWithin p q.dir = true) : QuotaUsed x q.dir ≤ q.most := by
 simp only [QuotasAllow, Bool.and_eq_true, List.all_eq_true] at h
 obtain ⟨h1, h2⟩ := used_after hw hb (quota_dir h.1.1.1.2 hq) hin
 have := h.2 q hq
 simp only [breaks, h2, Bool.true_and, Bool.not_eq_true', decide_eq_false_iff_not] at this
 omega
theorem allow_not (h : QuotasAllow d l p n = false) (hv : QuotasValid l = true) (hw : DiskWrite d p b = some x) (hb : (b.length : Int) = n) : ∃ q, q ∈ l ∧ PathWithin p q.dir = true ∧ q.most < QuotaUsed x q.dir := by
 obtain ⟨hp, hf⟩ := write_path hw
 obtain ⟨hd, _, _⟩ := dwrite_get hw
 have hn : l6In n 0 32 = true := by
  simp only [FileValid, Bool.and_eq_true, decide_eq_true_eq] at hf
  simp only [l6In, Bool.and_eq_true, decide_eq_true_eq]
  omega
 unfold QuotasAllow at h
 rw [hd, hv, hp, hn] at h
 simp only [Bool.and_self, Bool.true_and] at h
 rw [List.all_eq_false] at h
 obtain ⟨q, hq, hb2⟩ := h
 simp only [Bool.not_eq_true', breaks, Bool.not_eq_false, Bool.and_eq_true, decide_eq_true_eq] at hb2
 have hqd := quota_dir hv hq
 have hin : PathWithin p q.dir = true := by rw [within_eq hp hqd]; exact hb2.1
 obtain ⟨h1, _⟩ := used_after hw hb hqd hin
 exact ⟨q, hq, hin, by omega⟩
end
end Sp
namespace Sp
open Fw Nd
end Sp
namespace Sp
open Fw Nd
end Sp
namespace Sp
open Fw Nd
section
variable {L : List BHeld} {k : Nat} {h : BHeld} (e : L[k]? = some h)
include e
end
end Sp
namespace Sp
open Fw Nd
end Sp
namespace Sp
open Fw Nd
theorem pre_eq (p s : Bs) : p.isPrefixOf s = (decide (p.length ≤ s.length) && decide (s.take p.length = p)) := by
 rw [Bool.eq_iff_iff]
 simp only [List.isPrefixOf_iff_prefix, Bool.and_eq_true, decide_eq_true_eq]
 constructor
 ·rintro ⟨r, rfl⟩
  simp
 ·rintro ⟨_, h⟩
  exact ⟨s.drop p.length, (congrArg (· ++ s.drop p.length) h.symm).trans (List.take_append_drop _ _)⟩
theorem used_step {L : List BHeld} {t : List BItem} (vt : TreeValid t = true) {k : Nat} {x : BItem} (e : t[k]? = some x) {dir : Bs} (hd : dirValid dir = true) :
  usedB L (t.take (k + 1)) dir [] = usedB L (t.take k) dir [] + (if PathWithin x.path dir then (load L x.ids).length else 0) := by
 have h5 := (tree_at vt e).1
 have h1 := path_ne h5
 have h2 := item_path h5
 have h3 : (decide (dir = []) || PathValid dir) = true := hd
 have h4 : PathWithin x.path dir = usedIn dir [] x := by simp [PathWithin, h2, h3, usedIn, h1]
 unfold usedB
 rw [take_succ' e, List.filter_append, List.map_append, List.sum_append, h4]
 cases hu : usedIn dir [] x <;> simp [List.filter_cons, hu]
theorem load_len8 {L : List BHeld} (hV : VH L) : ∀ ids : List Int, (load L ids).length ≤ 8 * ids.length
 | [] => by simp [load]
 | a :: r => by
  have h1 := load_len8 hV r
  have h2 := get_len hV a
  simp only [load, List.map_cons, List.flatten_cons, List.length_append, List.length_cons] at h1 ⊢
  omega
theorem used_bnd {L : List BHeld} (hV : VH L) {t : List BItem} (vt : TreeValid t = true) {dir : Bs} (hd : dirValid dir = true) : ∀ k, k ≤ t.length → usedB L (t.take k) dir [] ≤ 32 * k
 | 0, _ => by simp [usedB]
 | k + 1, hk => by
  have h1 := used_bnd hV vt hd k (by omega)
  have e : t[k]? = some t[k] := List.getElem?_eq_getElem (by omega)
  rw [used_step vt e hd]
  have h2 := load_len8 hV t[k].ids
  have h3 := (tree_at vt e).2
  split <;> omega
theorem quota_no {d : BDisk} {dir : Bs} (h : DiskValid d = false ∨ dirValid dir = false) : QuotaUsed d dir = -1 := by
 rcases h with h | h <;> simp [QuotaUsed, h]
theorem quota_yes {d : BDisk} {dir : Bs} (h : DiskValid d = true) (h2 : dirValid dir = true) : QuotaUsed d dir = (usedB d.store d.tree dir [] : Int) := by simp [QuotaUsed, h, h2]
end Sp
namespace Sp
open Fw Nd
end Sp
namespace Sp
open Fw Nd
end Sp
namespace Sp
open Fw Nd
end Sp
namespace Fw
open Go
inductive RunSeg (T : TypeId) (G : PH) : Value → List (Int × Int) → Value → Prop
 | nil (v : Value) : RunSeg T G v [] v
 | cons {b : Nat} {m x : Int} {v e : Value} {r : List (Int × Int)} (h : G b = some (cl [.int .i64 m, .int .i64 x, v] T)) (hm : inI m) (hx : inI x) (hr : RunSeg T G v r e) : RunSeg T G (.pointer (some ⟨b, 0, none⟩)) ((m, x) :: r) e
theorem RunSeg.up {T : TypeId} {G G' : PH} {v e : Value} {r : List (Int × Int)} (h : RunSeg T G v r e) (hle : PLe G G') : RunSeg T G' v r e := by
 induction h with
 | nil v => exact .nil v
 | cons h hm hx _ ih => exact .cons (hle _ _ h) hm hx ih
theorem RunSeg.snoc {T : TypeId} {G : PH} {v : Value} {r : List (Int × Int)} {b : Nat} {m x : Int} {e : Value} (h : RunSeg T G v r (.pointer (some ⟨b, 0, none⟩))) (hb : G b = some (cl [.int .i64 m, .int .i64 x, e] T)) (hm : inI m) (hx : inI x) : RunSeg T G v (r ++ [(m, x)]) e := by
 generalize hp : Value.pointer (some ⟨b, 0, none⟩) = p at h
 induction h with
 | nil v => subst hp; exact .cons hb hm hx (.nil e)
 | cons h hm' hx' _ ih => exact .cons h hm' hx' (ih hp)
def RunP (T : TypeId) (G : PH) (v : Value) (r : List (Int × Int)) : Prop := RunSeg T G v r (.pointer none)
theorem RunP.up {T : TypeId} {G G' : PH} {v : Value} {r : List (Int × Int)} (h : RunP T G v r) (hle : PLe G G') : RunP T G' v r := RunSeg.up h hle
theorem RunP.nil {T : TypeId} {G : PH} : RunP T G (.pointer none) [] := RunSeg.nil _
theorem RunP.open {T : TypeId} {G : PH} {v : Value} {r : List (Int × Int)} (h : RunP T G v r) : (v = .pointer none ∧ r = []) ∨ ∃ b m x v' r', v = .pointer (some ⟨b, 0, none⟩) ∧ r = (m, x) :: r' ∧ G b = some (cl [.int .i64 m, .int .i64 x, v'] T) ∧ inI m ∧ inI x ∧ RunP T G v' r' := by
 unfold RunP at h
 cases h with
 | nil => exact .inl ⟨rfl, rfl⟩
 | cons h hm hx hr => exact .inr ⟨_, _, _, _, _, rfl, rfl, h, hm, hx, hr⟩
end Fw
namespace Fw
open Go
section
variable {P : Program} {n : Nat} {ops : Array Oper} {Q : Post} {rest : List Oper} {L : Slots} {ds : List Deferred} {w w0 : World} {G0 : PH} {S : List Nat} {G : PH} {B : List Res} {ty : TypeId} {ps : String} {af : Array Edge}
theorem RunP.shape {T : TypeId} {G : PH} {v : Value} {r : List (Int × Int)} (h : RunP T G v r) : ∃ p, v = .pointer p := by
 rcases h.open with ⟨rfl, _⟩ | ⟨b, m, x, v', r', rfl, _⟩ <;> exact ⟨_, rfl⟩
theorem RunP.over {T : TypeId} {G : PH} {p : Option Addr} {r : List (Int × Int)} (h : RunP T G (.pointer p) r) (hp : p.isNone = true) : r = [] := by
 rcases h.open with ⟨_, h2⟩ | ⟨b, m, x, v', r', h1, _⟩
 ·exact h2
 ·cases h1; simp at hp
end
end Fw
namespace Fw
open Go
section
variable {P : Program} {n : Nat} {ops : Array Oper} {Q : Post} {rest : List Oper} {L : Slots} {ds : List Deferred} {w : World} {ty : TypeId} {ps : String} {af : Array Edge}
end
end Fw
namespace Fw
open Go
theorem nrm : (∀ (p : Prop) [Decidable p], (decide p = true) = p) ∧ (∀ (p : Prop) [Decidable p], (decide p = false) ↔ ¬p) ∧ (∀ {b : Bool}, ((!b) = true) = (b = false)) ∧ (∀ {b : Bool}, ((!b) = false) = (b = true)) ∧
  (∀ {a b : Bool}, ((!a) = b) ↔ (a = !b)) ∧ ((!true) = false) ∧ ((!false) = true) ∧ (∀ {a b : Int}, (¬ a < b) ↔ b ≤ a) ∧ (∀ {a b : Int}, (¬ a ≤ b) ↔ b < a) ∧ (∀ (x y : Bool), ((x && y) = true) = (x = true ∧ y = true)) ∧ (∀ (x y : Bool), ((x || y) = true) = (x = true ∨ y = true)) ∧
  (∀ (x y : Bool), ((x && y) = false) = (x = false ∨ y = false)) ∧ (∀ (x y : Bool), ((x || y) = false) = (x = false ∧ y = false)) ∧ (∀ {α : Type} [BEq α] [LawfulBEq α] {a b : α}, ((a == b) = true) ↔ a = b) ∧ (∀ {α : Type} [BEq α] [LawfulBEq α] {x y : α}, ((x == y) = false) ↔ x ≠ y) ∧ (∀ (b : Bool), decide (b = true) = b) := by
 refine ⟨?_, ?_, ?_, ?_, ?_, ?_, ?_, ?_, ?_, ?_, ?_, ?_, ?_, ?_, ?_, ?_⟩ <;> intros <;> first | rfl | (simp only [decide_eq_true_eq, decide_eq_false_iff_not, Bool.not_eq_true', Bool.not_eq_false', Bool.not_eq_eq_eq_not, Bool.not_true, Bool.not_false, Int.not_lt, Int.not_le, Bool.and_eq_true, Bool.or_eq_true, Bool.and_eq_false_iff, Bool.or_eq_false_iff, beq_iff_eq, beq_eq_false_iff_ne, Bool.decide_eq_true]) | simp
section
variable {P : Program} {n : Nat} {Q : Post} {L : Slots} {ds : List Deferred} {w : World} {ops : Array Oper} {y c : Code} {id : Nat} {l : List Oper}
theorem q1 (h : R P n l.toArray (K P y Q) l L ds w) : R P n ops (K P (.seq (.region id l.toArray false) y) Q) [] L ds w := R_nil (N_K (W_seq (W_region h)))
theorem q2 (h : R P n l.toArray (K P y Q) l L ds w) : W P n Q (.seq (.region id l.toArray false) y) L ds w := W_seq (W_region h)
theorem q3 (h : W P n Q c L ds w) : R P n ops (K P c Q) [] L ds w := R_nil (N_K h)
variable {d : Nat} {op : Op} {ty : TypeId} {ps : String} {af : Array Edge} {S : World → Prop} {f : Nat} {ls : Array Bool} {v : Value} {j : Nat} {b : Bool}
def rdy (l : List Oper) (ls : Array Bool) (i : Nat) : Bool := Region.noSelect l.toArray && Region.free .any l.toArray ls i && (Region.ready .any l.toArray ls).contains i
theorem RD_t (i : Nat) (hi : nth l i = some ⟨some d, op, ty, ps, af, none⟩) (hb : rdy l ls i = true) (hd : Nat.blt d n = true) (hv : ∀ w, S w → VAL P n L ds w ⟨some d, op, ty, ps, af, none⟩ v)
  (h : RD P n l Q S f (ls.setIfInBounds i true) ((d, v) :: L) ds w) : RD P n l Q S (f + 1) ls L ds w := by
 simp only [rdy, Bool.and_eq_true] at hb
 exact RD_take i hi hb.1.1 hb.1.2 hb.2 hd hv h
theorem RD_tg (i : Nat) (hi : nth l i = some ⟨some d, op, ty, ps, af, some (j, b)⟩) (hb : rdy l ls i = true) (hd : Nat.blt d n = true) (hy : ∀ a, FrL n L ds a → yielded l.toArray a.tmps j = some b) (hv : ∀ w, S w → VAL P n L ds w ⟨some d, op, ty, ps, af, none⟩ v)
  (h : RD P n l Q S f (ls.setIfInBounds i true) ((d, v) :: L) ds w) : RD P n l Q S (f + 1) ls L ds w := by
 simp only [rdy, Bool.and_eq_true] at hb
 exact RD_takeg i hi hb.1.1 hb.1.2 hb.2 hd hy hv h
end
theorem Z.{u} {α : Sort u} {a : α} : a = a := rfl
theorem kR {p : Prop} (h : p := by kernel_rfl) : p := h
theorem oM {p : Prop} (h : p := by omega) : p := h
theorem oO {a b : Prop} (h : (a ∧ b) := by exact ⟨by omega, by omega⟩) : a ∧ b := h
theorem aN {p : Prop} (h : p := by first | assumption | rfl | (simp; done) | (simp; omega) | omega) : p := h
def odl (n d : Nat) (L : Slots) (x : Operand) : Option Value := cond (Nat.blt d n) (od L x) none
theorem odl_some {n d : Nat} {L : Slots} {x : Operand} {v : Value} (h : odl n d L x = some v) : Nat.blt d n = true ∧ od L x = some v := by
 unfold odl at h
 cases e : Nat.blt d n with
 | true => rw [e] at h; exact ⟨rfl, h⟩
 | false => rw [e] at h; cases h
def guardOk (l : List Oper) (L : Slots) (i : Nat) (c : Bool) : Bool := match gs l i with
 | some t => (match lk L t with | some (.bool b) => (b == c) | _ => false)
 | none => false
section
variable {P : Program} {n : Nat} {Q : Post} {L : Slots} {ds : List Deferred} {w : World} {ops : Array Oper} {l rest : List Oper} {ty : TypeId} {ps : String} {af : Array Edge} {d : Nat} {x : Operand} {v : Value} {op : Op} {i : Nat} {b : Bool} {S : World → Prop} {f : Nat} {ls : Array Bool}
theorem mV (h : odl n d L x = some v) (next : R P n ops Q rest ((d, v) :: L) ds w) : R P n ops Q (⟨some d, .move x, ty, ps, af, none⟩ :: rest) L ds w := o_move (odl_some h).1 (odl_some h).2 next
theorem aG (h : odl n d L x = some v) (next : R P n ops Q rest ((d, v) :: L) ds w) : R P n ops Q (⟨some d, .assign x, ty, ps, af, none⟩ :: rest) L ds w := o_assign (odl_some h).1 (odl_some h).2 next
theorem gR {dd : Option Nat} (h : guardOk l L i b = true) (next : R P n l.toArray Q (⟨dd, op, ty, ps, af, none⟩ :: rest) L ds w) : R P n l.toArray Q (⟨dd, op, ty, ps, af, some (i, b)⟩ :: rest) L ds w := by
 unfold guardOk at h
 cases e : gs l i with
 | none => rw [e] at h; cases h
 | some t =>
  rw [e] at h
  simp only at h
  split at h
  ·rename_i c e2
   obtain rfl : c = b := by simpa using h
   exact R_guard (yl e e2) next
  ·cases h
end
section
variable {n : Nat} {P : Program} {Q : Post} {L : Slots} {ds : List Deferred} {w : World} {fn : Func} {C : Ending → World → Prop}
theorem rt1 {t : Nat} {v : Value} (hr : fn.results = #[.tmp t]) (h : lk L t = some v) (hR : C (.returned (tupleOf [v])) w) : N n (bodyPost P fn C) .ret L [] w := ret_gen (rs := [.tmp t]) (vs := [v]) hr ⟨h, trivial⟩ hR
theorem rt2 {t t2 : Nat} {v v2 : Value} (hr : fn.results = #[.tmp t, .tmp t2]) (h : lk L t = some v) (h2 : lk L t2 = some v2) (hR : C (.returned (tupleOf [v, v2])) w) : N n (bodyPost P fn C) .ret L [] w := ret_gen (rs := [.tmp t, .tmp t2]) (vs := [v, v2]) hr ⟨h, h2, trivial⟩ hR
theorem W_lp {c : Code} (Lf : Slots) (J : Slots → World → Nat → Prop) (M0 : Slots) (m0 : Nat) (hf : Sub Lf L) (h0 : J M0 w m0)
  (round : ∀ M w m, J M w m → W P n (LP n ds Lf J m Q) c (M ++ Lf) ds w) (hM : Sub M0 L := by repeat (first | exact Sub.nil | refine Sub.cons rfl ?_)) : W P n Q (.loop c) L ds w := W_loop Lf J M0 m0 hf hM h0 round
theorem N_lp {Lf : Slots} {J : Slots → World → Nat → Prop} {m : Nat} {M : Slots} {m' : Nat} (hJ : J M w m') (hm : m' < m) (hM : Sub M L := by repeat (first | exact Sub.nil | refine Sub.cons rfl ?_)) (hf : Sub Lf L := by repeat (first | exact Sub.nil | refine Sub.cons rfl ?_)) : N n (LP n ds Lf J m Q) .normal L ds w := N_LP hJ hM hf hm
end
end Fw
namespace Fw
open Go
class UL (P : Program) (t : TypeId) (u : outParam TypeDesc) : Prop where h : P.underlying t = some u
class SZ (P : Program) (t : TypeId) (n : outParam Nat) : Prop where h : ∀ w, (Go.sizeOf t).run P w = .ok n w
class AG (P : Program) (t : TypeId) (b : outParam Bool) : Prop where h : ∀ w, (isAgg t).run P w = .ok b w
class FA (P : Program) (t : TypeId) (i : Nat) (o : outParam Nat) : Prop where h : ∃ fields f sz, (∀ w, (underlying t).run P w = .ok (.struct fields) w) ∧ fields[i]? = some f ∧ (∀ w, (Go.sizeOf f.type).run P w = .ok (sz + 1) w) ∧ Nat.beq f.offset o = true
class CF (P : Program) (f : FuncId) : Prop where h : ∀ args w, (callFunc f args).run P w = .ok (.enter f args) w
class ZV (P : Program) (t : TypeId) (l : outParam (List Value)) : Prop where h : ∃ zv, (∀ w, (zeroValue t).run P w = .ok zv w) ∧ lit (vc zv) = some l
def evCmp (b : BinOp) (k k' : IntKind) (p q : Int) : Option Value := if k = k' then (match b with
 | .lss => some (.bool (decide (p < q)))
 | .leq => some (.bool (decide (p ≤ q)))
 | .gtr => some (.bool (decide (q < p)))
 | .geq => some (.bool (decide (q ≤ p)))
 | .eql => some (.bool (decide (p = q)))
 | .neq => some (.bool (!decide (p = q)))
 | _ => none) else none
def evOp (L : Slots) : Op → Option Value
 | .move x => od L x
 | .assign x => od L x
 | .nilCheck x => match od L x with
  | some (.pointer (some p)) => some (.pointer (some p))
  | _ => none
 | .extract x i => match od L x with
  | some (.tuple vs) => vs[i]?
  | _ => none
 | .unOp .not _ x => match od L x with
  | some (.bool p) => some (.bool (!p))
  | _ => none
 | .pick c x y => match od L c with
  | some (.bool true) => od L x
  | some (.bool false) => od L y
  | _ => none
 | .binOp b _ x y _ => match od L x, od L y with
  | some (.int k p), some (.int k' q) => evCmp b k k' p q
  | _, _ => none
 | _ => none
section
variable {P : Program} {n : Nat} {L : Slots} {ds : List Deferred} {w : World} {ty : TypeId} {ps : String} {af : Array Edge}
theorem evOp_val {d : Nat} {op : Op} {v : Value} (h : evOp L op = some v) : VAL P n L ds w ⟨some d, op, ty, ps, af, none⟩ v := by
 unfold evOp at h
 split at h
 ·exact v_move h
 ·exact v_assign h
 ·split at h
  ·rename_i x p e; cases h; exact v_nilCheck e
  ·cases h
 ·split at h
  ·rename_i x i vs e; exact v_extract e h
  ·cases h
 ·split at h
  ·rename_i x p e; cases h; exact v_not e
  ·cases h
 ·split at h
  ·rename_i e; exact v_pick_t e h
  ·rename_i e; exact v_pick_f e h
  ·cases h
 ·split at h
  ·rename_i b _ x y _ _ _ k p k' q e1 e2
   unfold evCmp at h
   split at h
   ·rename_i hk; subst hk
    split at h <;> first | (cases h; first | exact v_lss e1 e2 | exact v_leq e1 e2 | exact v_gtr e1 e2 | exact v_geq e1 e2 | exact v_eql e1 e2 | exact v_neq e1 e2) | cases h
   ·cases h
  ·cases h
 ·cases h
def evG (ol : List Oper) (L : Slots) (op : Op) : Option (Nat × Bool) → Option Value
 | none => evOp L op
 | some (j, b) => match gs ol j with
  | some t => (match lk L t with
   | some (.bool c) => (match c, b with
    | true, true => evOp L op
    | false, false => evOp L op
    | _, _ => some undef)
   | _ => none)
  | none => none
theorem evG_or {ol : List Oper} {op : Op} {g : Option (Nat × Bool)} {v : Value} (h : evG ol L op g = some v) :
  (g = none ∧ evOp L op = some v) ∨ (∃ j b t, g = some (j, b) ∧ gs ol j = some t ∧ lk L t = some (.bool b) ∧ evOp L op = some v) ∨ (∃ j b t c, g = some (j, b) ∧ gs ol j = some t ∧ lk L t = some (.bool c) ∧ (c == b) = false ∧ v = undef) := by
 unfold evG at h
 split at h
 ·exact .inl ⟨rfl, h⟩
 ·rename_i j b
  split at h
  ·rename_i t e1
   split at h
   ·rename_i c e2
    split at h
    ·exact .inr (.inl ⟨j, _, t, rfl, e1, e2, h⟩)
    ·exact .inr (.inl ⟨j, _, t, rfl, e1, e2, h⟩)
    ·rename_i h1 h2
     refine .inr (.inr ⟨j, b, t, c, rfl, e1, e2, ?_, by cases h; rfl⟩)
     cases c <;> cases b <;> simp_all
   ·cases h
  ·cases h
def evO (n : Nat) (ol : List Oper) (L : Slots) (o : Oper) : Option Slots := match o.dst with
 | some d => (match Nat.blt d n, evG ol L o.op o.guard with
  | true, some v => some ((d, v) :: L)
  | _, _ => none)
 | none => none
def evK (n : Nat) (ol : List Oper) : Nat → List Oper → Slots → Option (List Oper × Slots)
 | 0, l, L => some (l, L)
 | _ + 1, [], _ => none
 | k + 1, o :: r, L => match evO n ol L o with
  | some L' => evK n ol k r L'
  | none => none
variable {ol : List Oper} {Q : Post} {rest : List Oper}
theorem evO_R {o : Oper} {L' : Slots} (h : evO n ol L o = some L') (next : R P n ol.toArray Q rest L' ds w) : R P n ol.toArray Q (o :: rest) L ds w := by
 obtain ⟨dst, op, ty, ps, af, g⟩ := o
 unfold evO at h
 simp only at h
 split at h
 ·rename_i d
  split at h
  ·rename_i v hd hv
   cases h
   rcases evG_or hv with ⟨rfl, h1⟩ | ⟨j, b, t, rfl, h1, h2, h3⟩ | ⟨j, b, t, c, rfl, h1, h2, h3, rfl⟩
   ·exact R_run hd (evOp_val h1) next
   ·exact R_guard (yl h1 h2) (R_run hd (evOp_val h3) next)
   ·exact R_pass hd (yl_ne h1 h2 h3) next
  ·cases h
 ·cases h
theorem pe (k : Nat) {l : List Oper} {L' : Slots} (h : evK n ol k l L = some (rest, L')) (next : R P n ol.toArray Q rest L' ds w) : R P n ol.toArray Q l L ds w := by
 induction k generalizing l L with
 | zero => unfold evK at h; cases h; exact next
 | succ k ih =>
  cases l with
  | nil => unfold evK at h; cases h
  | cons o r =>
   unfold evK at h
   split at h
   ·rename_i L1 h1
    exact evO_R h1 (ih h)
   ·cases h
end
theorem Z2.{u, v} {α : Sort u} {β : Sort v} {a : α} {b : β} : a = a ∧ b = b := ⟨rfl, rfl⟩
theorem Z3.{u, v, x} {α : Sort u} {β : Sort v} {γ : Sort x} {a : α} {b : β} {c : γ} : a = a ∧ b = b ∧ c = c := ⟨rfl, rfl, rfl⟩
theorem Z4.{u, v, x, y} {α : Sort u} {β : Sort v} {γ : Sort x} {δ : Sort y} {a : α} {b : β} {c : γ} {d : δ} : a = a ∧ b = b ∧ c = c ∧ d = d := ⟨rfl, rfl, rfl, rfl⟩
theorem Z7 {α1 α2 α3 α4 α5 α6 α7 : Type} {a1 : α1} {a2 : α2} {a3 : α3} {a4 : α4} {a5 : α5} {a6 : α6} {a7 : α7} : a1 = a1 ∧ a2 = a2 ∧ a3 = a3 ∧ a4 = a4 ∧ a5 = a5 ∧ a6 = a6 ∧ a7 = a7 := ⟨rfl, rfl, rfl, rfl, rfl, rfl, rfl⟩
theorem Z8 {α1 α2 α3 α4 α5 α6 α7 α8 : Type} {a1 : α1} {a2 : α2} {a3 : α3} {a4 : α4} {a5 : α5} {a6 : α6} {a7 : α7} {a8 : α8} : a1 = a1 ∧ a2 = a2 ∧ a3 = a3 ∧ a4 = a4 ∧ a5 = a5 ∧ a6 = a6 ∧ a7 = a7 ∧ a8 = a8 := ⟨rfl, rfl, rfl, rfl, rfl, rfl, rfl, rfl⟩
section
variable {P : Program} {n : Nat} {ops : Array Oper} {Q : Post} {rest : List Oper} {L : Slots} {ds : List Deferred} {w w0 : World} {G0 : PH} {S : List Nat} {G : PH} {B : List Res} {ty : TypeId} {ps : String} {af : Array Edge}
theorem fA (off : Nat) {d i : Nat} {t : TypeId} {x : Operand} {b o : Nat} (h : odl n d L x = some (.pointer (some ⟨b, o, none⟩))) (next : R P n ops Q rest ((d, .pointer (some ⟨b, o + off, none⟩)) :: L) ds w) [hF : FA P t i off] : R P n ops Q (⟨some d, .fieldAddr t x i, ty, ps, af, none⟩ :: rest) L ds w := by
 obtain ⟨fields, f, sz, h1, h2, h3, h4⟩ := hF.h
 exact o_fieldAddr off h1 h2 h3 h4 (odl_some h).1 (odl_some h).2 next
theorem lB (k : Nat) (H : Hp w0 G0 S w G B) {d : Nat} {t : TypeId} {x : Operand} {b o : Nat} {l : List Value} {e : TypeId} {v : Value} (h : odl n d L x = some (.pointer (some ⟨b, o, none⟩)) ∧ nth B k = some (blk b (cl l e)) ∧ nth l o = some v) (next : R P n ops Q rest ((d, v) :: L) ds w) [hA : AG P t false] : R P n ops Q (⟨some d, .load t x, ty, ps, af, none⟩ :: rest) L ds w :=
 o_load_B k H hA.h (odl_some h.1).1 (odl_some h.1).2 h.2.1 h.2.2 next
theorem lA (k sz : Nat) (H : Hp w0 G0 S w G B) {d : Nat} {t : TypeId} {x : Operand} {b o : Nat} {l l' : List Value} {e : TypeId} (h : odl n d L x = some (.pointer (some ⟨b, o, none⟩)) ∧ nth B k = some (blk b (cl l e)) ∧ lit (slc l o sz) = some l' ∧ Nat.beq l'.length sz = true) (next : R P n ops Q rest ((d, .agg l'.toArray) :: L) ds w) [hA : AG P t true] [hS : SZ P t sz] : R P n ops Q (⟨some d, .load t x, ty, ps, af, none⟩ :: rest) L ds w :=
 o_loadagg_B k H hA.h hS.h (odl_some h.1).1 (odl_some h.1).2 h.2.1 h.2.2.1 h.2.2.2 next
theorem lP (H : Hp w0 G0 S w G B) {b o : Nat} {l : List Value} (hr : PRow G b o l) (j : Nat) {d : Nat} {t : TypeId} {x : Operand} {v : Value} (h : nth l j = some v ∧ odl n d L x = some (.pointer (some ⟨b, o + j, none⟩))) (next : R P n ops Q rest ((d, v) :: L) ds w) [hA : AG P t false] : R P n ops Q (⟨some d, .load t x, ty, ps, af, none⟩ :: rest) L ds w :=
 o_load_P H hA.h (odl_some h.2).1 (odl_some h.2).2 (hr j v (by rw [← nth_eq]; exact h.1)) next
theorem lN {d : Nat} {x : Operand} {t e : TypeId} {a : Option Addr} {m c : Nat} (h : odl n d L x = some (.slice a m c)) (next : R P n ops Q rest ((d, .int .i64 m) :: L) ds w) [hT : UL P t (.slice e)] : R P n ops Q (⟨some d, .call ⟨.builtin .len, #[x], #[t]⟩, ty, ps, af, none⟩ :: rest) L ds w := o_len_slice hT.h (odl_some h).1 (odl_some h).2 next
theorem lS {d : Nat} {x : Operand} {t : TypeId} {p : List UInt8} (h : odl n d L x = some (str p)) (next : R P n ops Q rest ((d, .int .i64 p.length) :: L) ds w) [hT : UL P t .string] : R P n ops Q (⟨some d, .call ⟨.builtin .len, #[x], #[t]⟩, ty, ps, af, none⟩ :: rest) L ds w := o_len_str hT.h (odl_some h).1 (odl_some h).2 next
theorem aD {d : Nat} {x y : Operand} {t u : TypeId} {p q : Int} (h : odl n d L x = some (.int .i64 p) ∧ od L y = some (.int .i64 q)) (next : R P n ops Q rest ((d, .int .i64 (p + q)) :: L) ds w) (hr : inI (p + q) := by exact ⟨by omega, by omega⟩) : R P n ops Q (⟨some d, .binOp .add t x y u, ty, ps, af, none⟩ :: rest) L ds w := o_add (odl_some h.1).1 (odl_some h.1).2 h.2 hr next
theorem iP {α : Type} {lim : Nat} {E : PH → α → List Value → Prop} {d : Nat} {t e : TypeId} {x y : Operand} {a : Option Addr} {xs : List α} {m c sz : Nat} {k : Int} (i : Nat) (hr : RdS lim E sz G (.slice a m c) xs) (h : Nat.blt d n = true ∧ od L x = some (.slice a m c) ∧ od L y = some (.int .i64 k)) (hk : k = (i : Int))
  (next : ∀ b o z cs, xs[i]? = some z → E G z cs → PRow G b o cs → R P n ops Q rest ((d, .pointer (some ⟨b, o, none⟩)) :: L) ds w) [hU : UL P t (.slice e)] [hS : SZ P e sz] (hi : i < xs.length := by first | omega | (simp; omega)) : R P n ops Q (⟨some d, .indexAddr t x y, ty, ps, af, none⟩ :: rest) L ds w :=
 o_index_P i hr hU.h hS.h h.1 h.2.1 h.2.2 hk hi next
theorem xal (H : Hp w0 G0 S w G B) {d : Nat} {e : TypeId} {l : List Value} [hz : ZV P e l] (hd : Nat.blt d n = true)
  (next : ∀ b w', w.heap.size ≤ b → Hp w0 G0 S w' G (blk b (cl l e) :: B) → R P n ops Q rest ((d, .pointer (some ⟨b, 0, none⟩)) :: L) ds w') : R P n ops Q (⟨some d, .alloc e, ty, ps, af, none⟩ :: rest) L ds w := by
 obtain ⟨zv, h1, h2⟩ := hz.h
 exact o_alloc H h1 hd h2 next
theorem xst (k : Nat) (H : Hp w0 G0 S w G B) {t : TypeId} {x y : Operand} {b o sz : Nat} {l : List Value} {e : TypeId} {v : Value} [hS : SZ P t sz] {l' : List Value} {B' : List Res} (h : od L x = some (.pointer (some ⟨b, o, none⟩)) ∧ od L y = some v ∧ nth B k = some (blk b (cl l e)) ∧ Nat.beq (vc v).length sz = true ∧ Nat.ble (o + (vc v).length) l.length = true ∧ ((vc v).all fun u => u.oneCell') = true ∧ lit (setCs l o (vc v)) = some l' ∧ lit (setN B k (blk b (cl l' e))) = some B')
  (next : ∀ w', Hp w0 G0 S w' G B' → R P n ops Q rest L ds w') : R P n ops Q (⟨none, .store t x y, ty, ps, af, none⟩ :: rest) L ds w := by
 obtain ⟨h1, h2, h3, h4, h5, h6, h7, h8⟩ := h
 exact o_store_B k H hS.h h1 h2 h3 h4 h5 h6 h7 h8 next
theorem xbs (H : Hp w0 G0 S w G B) {d : Nat} {t e : TypeId} {m sz : Nat} {xs : List (Nat × Operand)} {pvs : List (Nat × Value)} {z l' : List Value} [hU : UL P t (.slice e)] [hS : SZ P e sz] [hz : ZV P e z]
  (h : Nat.beq z.length sz = true ∧ Nat.blt 0 sz = true ∧ Nat.ble (m * sz) 16777216 = true ∧ Nat.blt d n = true ∧ odps L xs = some pvs ∧ (pvs.all fun x => Nat.blt x.1 m) = true ∧ (fillL (plS m 0 sz) (rep m z) pvs).bind lit = some l')
  (next : ∀ b w', w.heap.size ≤ b → Hp w0 G0 S w' G (blk b (cl l' e) :: B) → R P n ops Q rest ((d, .slice (some ⟨b, 0, none⟩) m m) :: L) ds w') : R P n ops Q (⟨some d, .buildSlice t m xs.toArray, ty, ps, af, none⟩ :: rest) L ds w := by
 obtain ⟨zv, g1, g2⟩ := hz.h
 obtain ⟨h1, h2, h3, h4, h5, h6, h7⟩ := h
 exact o_buildSlice H hU.h hS.h (fun w => ⟨zv, g1 w, (lit_eq g2).symm⟩) h1 h2 h3 h4 h5 h6 h7 next
theorem xr {d : Nat} {f : FuncId} {xs : List Operand} {ts : Array TypeId} {vs : List Value} {v : Value} (H : Hp w0 G0 S w G B) (h : Nat.blt d n = true ∧ ods L xs = some vs) (hc : Calls P f vs.toArray w (Rets w v))
  (next : ∀ w', Hp w0 G0 S w' G B → R P n ops Q rest ((d, v) :: L) ds w') [hf : CF P f] : R P n ops Q (⟨some d, .call ⟨.value (.func f), xs.toArray, ts⟩, ty, ps, af, none⟩ :: rest) L ds w :=
 o_call hf.h h.1 h.2 hc (fun e w' h => ⟨v, h.1, next w' (H.step h.2)⟩)
theorem xc {d : Nat} {f : FuncId} {xs : List Operand} {ts : Array TypeId} {vs : List Value} {C : Ending → World → Prop} (h : Nat.blt d n = true ∧ ods L xs = some vs) (hc : Calls P f vs.toArray w C) (next : ∀ e w', C e w' → ∃ v, e = .returned v ∧ R P n ops Q rest ((d, v) :: L) ds w') [hf : CF P f] :
  R P n ops Q (⟨some d, .call ⟨.value (.func f), xs.toArray, ts⟩, ty, ps, af, none⟩ :: rest) L ds w := o_call hf.h h.1 h.2 hc next
variable {l : List Oper} {K : World → Prop} {f : Nat} {ls : Array Bool} {G' : PH} {B' Bs : List Res}
theorem q4 {i : Nat} (H : Hp w0 G0 S w G' B') (hle : PLe G G') (h : RD P n l Q (fun w => Kn w G Bs) f (ls.setIfInBounds i true) L ds w)
  (hs : SubL Bs B' := by repeat (first | exact SubL.nil | refine SubL.cons 0 rfl ?_ | refine SubL.cons 1 rfl ?_ | refine SubL.cons 2 rfl ?_ | refine SubL.cons 3 rfl ?_ | refine SubL.cons 4 rfl ?_ | refine SubL.cons 5 rfl ?_ | refine SubL.cons 6 rfl ?_ | refine SubL.cons 7 rfl ?_ | refine SubL.cons 8 rfl ?_ | refine SubL.cons 9 rfl ?_ | refine SubL.cons 10 rfl ?_)) :
  R P n ops (DK P l Q (fun w => Kn w G Bs) f ls i) [] L ds w := R_nil (N_DK (Kn.of' H hle hs) h)
theorem r1 (i : Nat) {o : Oper} (hi : nth l i = some o) (h : R P n l.toArray (DK P l Q K f ls i) [o] L ds w) (hr : Region.ready .any l.toArray ls = [i] := by kernel_rfl) : RD P n l Q K (f + 1) ls L ds w := RD_run [i] hr rfl (RDs.cons hi h RDs.nil)
theorem r2 (i j : Nat) {o o' : Oper} (hi : nth l i = some o ∧ nth l j = some o') (h : R P n l.toArray (DK P l Q K f ls i) [o] L ds w) (h' : R P n l.toArray (DK P l Q K f ls j) [o'] L ds w) (hr : Region.ready .any l.toArray ls = [i, j] := by kernel_rfl) : RD P n l Q K (f + 1) ls L ds w := RD_run [i, j] hr rfl (RDs.cons hi.1 h (RDs.cons hi.2 h' RDs.nil))
theorem rz (h : N n Q .normal L ds w) (hr : Region.ready .any l.toArray ls = [] := by kernel_rfl) : RD P n l Q K f ls L ds w := RD_done hr h
def gOK (l : List Oper) (L : Slots) : Option (Nat × Bool) → Bool
 | none => true
 | some (j, b) => guardOk l L j b
def odg (n d : Nat) (l : List Oper) (L : Slots) (g : Option (Nat × Bool)) (x : Operand) : Option Value := cond (Nat.blt d n && gOK l L g) (od L x) none
theorem odg_some {n d : Nat} {l : List Oper} {L : Slots} {g : Option (Nat × Bool)} {x : Operand} {v : Value} (h : odg n d l L g x = some v) : Nat.blt d n = true ∧ gOK l L g = true ∧ od L x = some v := by
 unfold odg at h
 cases e : (Nat.blt d n && gOK l L g) with
 | true => rw [e] at h; simp only [Bool.and_eq_true] at e; exact ⟨e.1, e.2, h⟩
 | false => rw [e] at h; cases h
theorem RD_gv {i d : Nat} {op : Op} {g : Option (Nat × Bool)} {v : Value} (hi : nth l i = some ⟨some d, op, ty, ps, af, g⟩) (hd : Nat.blt d n = true) (hg : gOK l L g = true) (hv : ∀ w, K w → VAL P n L ds w ⟨some d, op, ty, ps, af, none⟩ v) (h : RD P n l Q K f (ls.setIfInBounds i true) ((d, v) :: L) ds w) (hb : rdy l ls i = true) : RD P n l Q K (f + 1) ls L ds w := by
 cases g with
 | none => exact RD_t i hi hb hd hv h
 | some jb =>
  obtain ⟨j, b⟩ := jb
  unfold gOK guardOk at hg
  simp only at hg
  split at hg
  ·rename_i t e
   split at hg
   ·rename_i c e2
    obtain rfl : c = b := by simpa using hg
    exact RD_tg i hi hb hd (yl e e2) hv h
   ·cases hg
  ·cases hg
theorem dE (i : Nat) {d : Nat} {op : Op} {g : Option (Nat × Bool)} {v : Value} (h : nth l i = some ⟨some d, op, ty, ps, af, g⟩ ∧ cond (Nat.blt d n) (evG l L op g) none = some v) (next : RD P n l Q K f (ls.setIfInBounds i true) ((d, v) :: L) ds w) (hb : rdy l ls i = true := by kernel_rfl) : RD P n l Q K (f + 1) ls L ds w := by
 obtain ⟨hi, he⟩ := h
 have hd : Nat.blt d n = true := by
  cases e : Nat.blt d n with
  | true => rfl
  | false => rw [e] at he; cases he
 rw [hd] at he
 rcases evG_or he with ⟨rfl, h1⟩ | ⟨j, b, t, rfl, h1, h2, h3⟩ | ⟨j, b, t, c, rfl, h1, h2, h3, rfl⟩
 ·exact RD_t i hi hb hd (fun _ _ => evOp_val h1) next
 ·exact RD_tg i hi hb hd (yl h1 h2) (fun _ _ => evOp_val h3) next
 ·simp only [rdy, Bool.and_eq_true] at hb
  exact RD_pass i hi hb.1.1 hb.1.2 hb.2 hd (yl_ne h1 h2 h3) next
theorem dF (i off : Nat) {d k : Nat} {t : TypeId} {x : Operand} {g : Option (Nat × Bool)} {b o : Nat} (h : nth l i = some ⟨some d, .fieldAddr t x k, ty, ps, af, g⟩ ∧ odg n d l L g x = some (.pointer (some ⟨b, o, none⟩))) (next : RD P n l Q K f (ls.setIfInBounds i true) ((d, .pointer (some ⟨b, o + off, none⟩)) :: L) ds w) [hF : FA P t k off] (hb : rdy l ls i = true := by kernel_rfl) : RD P n l Q K (f + 1) ls L ds w := by
 obtain ⟨h1, h2, h3⟩ := odg_some h.2
 obtain ⟨fields, f, sz, g1, g2, g3, g4⟩ := hF.h
 exact RD_gv h.1 h1 h2 (fun _ _ => v_fieldAddr off g1 g2 g3 g4 h3) next hb
theorem dN (i : Nat) {d : Nat} {t e : TypeId} {x : Operand} {g : Option (Nat × Bool)} {a : Option Addr} {m c : Nat} (h : nth l i = some ⟨some d, .call ⟨.builtin .len, #[x], #[t]⟩, ty, ps, af, g⟩ ∧ odg n d l L g x = some (.slice a m c)) (next : RD P n l Q K f (ls.setIfInBounds i true) ((d, .int .i64 m) :: L) ds w) [hT : UL P t (.slice e)] (hb : rdy l ls i = true := by kernel_rfl) : RD P n l Q K (f + 1) ls L ds w := by
 obtain ⟨h1, h2, h3⟩ := odg_some h.2
 exact RD_gv h.1 h1 h2 (fun _ _ => v_len_slice hT.h h3) next hb
theorem dI {b o : Nat} {a : Option Addr} (i sz j : Nat) (ha : a = some ⟨b, o, none⟩) {d : Nat} {t e : TypeId} {x y : Operand} {g : Option (Nat × Bool)} {m c : Nat} {k : Int} (h : nth l i = some ⟨some d, .indexAddr t x y, ty, ps, af, g⟩ ∧ odg n d l L g x = some (.slice a m c) ∧ od L y = some (.int .i64 k)) (hk : k = (j : Int)) (next : RD P n l Q K f (ls.setIfInBounds i true) ((d, .pointer (some ⟨b, o + j * sz, none⟩)) :: L) ds w) [hU : UL P t (.slice e)] [hS : SZ P e sz] (hi : j < m := by omega) (hb : rdy l ls i = true := by kernel_rfl) : RD P n l Q K (f + 1) ls L ds w := by
 obtain ⟨h1, h2, h3⟩ := odg_some h.2.1
 exact RD_gv h.1 h1 h2 (fun _ _ => v_index_P ha hU.h hS.h h3 h.2.2 hk hi) next hb
theorem dP {b o : Nat} {cl : List Value} (i : Nat) (hr : PRow G b o cl) (j : Nat) {d : Nat} {t : TypeId} {x : Operand} {g : Option (Nat × Bool)} {v : Value} (h : nth l i = some ⟨some d, .load t x, ty, ps, af, g⟩ ∧ nth cl j = some v ∧ odg n d l L g x = some (.pointer (some ⟨b, o + j, none⟩))) (next : RD P n l Q (fun w => Kn w G Bs) f (ls.setIfInBounds i true) ((d, v) :: L) ds w) [hA : AG P t false] (hb : rdy l ls i = true := by kernel_rfl) : RD P n l Q (fun w => Kn w G Bs) (f + 1) ls L ds w := by
 obtain ⟨h1, h2, h3⟩ := odg_some h.2.2
 exact RD_gv h.1 h1 h2 (fun _ hK => v_load_P hK hA.h h3 (hr j v (by rw [← nth_eq]; exact h.2.1))) next hb
theorem dB (i k : Nat) {d : Nat} {t : TypeId} {x : Operand} {g : Option (Nat × Bool)} {b o : Nat} {c : List Value} {e : TypeId} {v : Value} (h : nth l i = some ⟨some d, .load t x, ty, ps, af, g⟩ ∧ odg n d l L g x = some (.pointer (some ⟨b, o, none⟩)) ∧ nth Bs k = some (blk b (Fw.cl c e)) ∧ nth c o = some v) (next : RD P n l Q (fun w => Kn w G Bs) f (ls.setIfInBounds i true) ((d, v) :: L) ds w) [hA : AG P t false] (hb : rdy l ls i = true := by kernel_rfl) : RD P n l Q (fun w => Kn w G Bs) (f + 1) ls L ds w := by
 obtain ⟨h1, h2, h3⟩ := odg_some h.2.1
 exact RD_gv h.1 h1 h2 (fun _ hK => v_load_B k hK hA.h h3 h.2.2.1 h.2.2.2) next hb
end
theorem Hp.tF {w0 w : World} {G0 G : PH} {S : List Nat} {B : List Res} (H : Hp w0 G0 S w G B) (k : Nat) {r : Res} (hk : nth B k = some r := by exact rfl) : Hp w0 G0 S w G (r :: delN B k) := H.toFront hk
theorem Hp.dl {w0 w : World} {G0 G : PH} {S : List Nat} {B : List Res} (H : Hp w0 G0 S w G B) (k : Nat) {r : Res} (hk : nth B k = some r := by exact rfl) : Hp w0 G0 S w G (delN B k) := H.del hk
theorem opH {G : PH} {x : BHeld} {cs : List Value} (h : heldE G x cs) : ∃ a m c, cs = [.int .i64 x.id, .slice a m c, .int .i64 x.uses] ∧ inI x.id ∧ RdI G (.slice a m c) x.bytes ∧ inI x.uses ∧ m = x.bytes.length ∧ x.bytes.length ≤ 1099511627776 := by
 obtain ⟨a, m, c, e, h1, h2, h3⟩ := h
 exact ⟨a, m, c, e, h1, h2, h3, h2.len, h2.lim⟩
theorem opI {G : PH} {x : BItem} {cs : List Value} (h : itemE G x cs) : ∃ a m c, cs = [str x.path, .bool x.dir, .slice a m c] ∧ x.path.length ≤ 16777216 ∧ RdI G (.slice a m c) x.ids ∧ m = x.ids.length ∧ x.ids.length ≤ 1099511627776 := by
 obtain ⟨a, m, c, e, h1, h2⟩ := h
 exact ⟨a, m, c, e, h1, h2, h2.len, h2.lim⟩
theorem opS {G : PH} {x : BSnap} {cs : List Value} (h : snapE G x cs) : ∃ a m c, cs = [str x.name, .slice a m c] ∧ x.name.length ≤ 16777216 ∧ RdItems G (.slice a m c) x.tree ∧ m = x.tree.length ∧ x.tree.length ≤ 1099511627776 := by
 obtain ⟨a, m, c, e, h1, h2⟩ := h
 exact ⟨a, m, c, e, h1, h2, h2.len, h2.lim⟩
theorem opD {G : PH} {x : BDisk} {cs : List Value} (h : diskE G x cs) : ∃ a m c a' m' c' a'' m'' c'', cs = [.slice a m c, .slice a' m' c', .slice a'' m'' c''] ∧ RdH G (.slice a m c) x.store ∧ RdItems G (.slice a' m' c') x.tree ∧ RdSn G (.slice a'' m'' c'') x.snaps ∧ (m = x.store.length ∧ x.store.length ≤ 1099511627776) ∧ (m' = x.tree.length ∧ x.tree.length ≤ 1099511627776) ∧ m'' = x.snaps.length ∧ x.snaps.length ≤ 1099511627776 := by
 obtain ⟨a, m, c, a', m', c', a'', m'', c'', e, h1, h2, h3⟩ := h
 exact ⟨a, m, c, a', m', c', a'', m'', c'', e, h1, h2, h3, ⟨h1.len, h1.lim⟩, ⟨h2.len, h2.lim⟩, h3.len, h3.lim⟩
theorem opV {G : PH} {x : BVol} {cs : List Value} (h : volE G x cs) : ∃ a m c a' m' c', cs = [.slice a m c, .slice a' m' c'] ∧ RdH G (.slice a m c) x.store ∧ RdItems G (.slice a' m' c') x.tree ∧ (m = x.store.length ∧ x.store.length ≤ 1099511627776) ∧ m' = x.tree.length ∧ x.tree.length ≤ 1099511627776 := by
 obtain ⟨a, m, c, a', m', c', e, h1, h2⟩ := h
 exact ⟨a, m, c, a', m', c', e, h1, h2, ⟨h1.len, h1.lim⟩, h2.len, h2.lim⟩
class OpE {α : Type} (E : PH → α → List Value → Prop) (R : outParam (PH → α → List Value → Prop)) : Prop where op : ∀ {G x cs}, E G x cs → R G x cs
theorem ox {α : Type} {E R : PH → α → List Value → Prop} {G : PH} {x : α} {cs : List Value} (h : E G x cs) [i : OpE E R] : R G x cs := i.op h
instance : OpE heldE (fun G (x : BHeld) cs => ∃ a m c, cs = [.int .i64 x.id, .slice a m c, .int .i64 x.uses] ∧ inI x.id ∧ RdI G (.slice a m c) x.bytes ∧ inI x.uses ∧ m = x.bytes.length ∧ x.bytes.length ≤ 1099511627776) := ⟨opH⟩
instance : OpE itemE (fun G (x : BItem) cs => ∃ a m c, cs = [str x.path, .bool x.dir, .slice a m c] ∧ x.path.length ≤ 16777216 ∧ RdI G (.slice a m c) x.ids ∧ m = x.ids.length ∧ x.ids.length ≤ 1099511627776) := ⟨opI⟩
instance : OpE snapE (fun G (x : BSnap) cs => ∃ a m c, cs = [str x.name, .slice a m c] ∧ x.name.length ≤ 16777216 ∧ RdItems G (.slice a m c) x.tree ∧ m = x.tree.length ∧ x.tree.length ≤ 1099511627776) := ⟨opS⟩
instance : OpE volE (fun G (x : BVol) cs => ∃ a m c a' m' c', cs = [.slice a m c, .slice a' m' c'] ∧ RdH G (.slice a m c) x.store ∧ RdItems G (.slice a' m' c') x.tree ∧ (m = x.store.length ∧ x.store.length ≤ 1099511627776) ∧ m' = x.tree.length ∧ x.tree.length ≤ 1099511627776) := ⟨opV⟩
instance : OpE diskE (fun G (x : BDisk) cs => ∃ a m c a' m' c' a'' m'' c'', cs = [.slice a m c, .slice a' m' c', .slice a'' m'' c''] ∧ RdH G (.slice a m c) x.store ∧ RdItems G (.slice a' m' c') x.tree ∧ RdSn G (.slice a'' m'' c'') x.snaps ∧ (m = x.store.length ∧ x.store.length ≤ 1099511627776) ∧ (m' = x.tree.length ∧ x.tree.length ≤ 1099511627776) ∧ m'' = x.snaps.length ∧ x.snaps.length ≤ 1099511627776) := ⟨opD⟩
end Fw
namespace Fw
open Go
def quotaE : PH → BQuota → List Value → Prop := fun _ x cs => cs = [str x.dir, .int .i64 x.most] ∧ x.dir.length ≤ 16777216 ∧ inI x.most
instance : MonoE quotaE := ⟨fun _ h => h⟩
abbrev RdQ := RdS LIM quotaE 2
theorem rl2 {a b : Value} {cs' : List Value} (h : RL [a, b] cs') : ∃ u v, cs' = [u, v] ∧ R1 a u ∧ R1 b v := by
 rcases cs' with _ | ⟨u, _ | ⟨v, _ | ⟨w, r⟩⟩⟩
 ·exact h.elim
 ·exact h.2.elim
 ·exact ⟨u, v, rfl, h.1, h.2.1⟩
 ·exact h.2.2.elim
instance : StE quotaE := ⟨fun {_ _ x cs cs'} hg hr h => by
 obtain ⟨rfl, h1, h2⟩ := h
 obtain ⟨u, v, rfl, k1, k2⟩ := rl2 hr
 obtain rfl := r1_str k1
 obtain ⟨p, rfl, hp⟩ := r1_int k2 h2
 exact ⟨⟨x.dir, p⟩, rfl, h1, hp⟩⟩
end Fw
namespace Sp
open Fw Nd
theorem within_eqs {p dir : Bs} (h : dir = [] ∨ p = dir) : l1Within p dir = true := by
 rcases h with h | h <;> simp [l1Within, h]
theorem within_far {p dir : Bs} (h1 : dir ≠ []) (h2 : p ≠ dir) : l1Within p dir = (decide (dir.length < p.length) && decide (p.take dir.length = dir) && decide (p[dir.length]? = some 47)) := by
 unfold l1Within
 rw [pre_eq, List.length_append, List.length_singleton, decide_eq_false h1, decide_eq_false h2, Bool.false_or, Bool.false_or, Bool.eq_iff_iff]
 simp only [Bool.and_eq_true, decide_eq_true_eq]
 constructor
 ·rintro ⟨h3, h4⟩
  have h5 : p = (dir ++ [47]) ++ p.drop (dir.length + 1) := by
   conv => lhs; rw [← List.take_append_drop (dir.length + 1) p, h4]
  refine ⟨⟨by omega, ?_⟩, ?_⟩
  ·rw [h5]; simp
  ·rw [h5]; simp
 ·rintro ⟨⟨h3, h4⟩, h5⟩
  refine ⟨by omega, ?_⟩
  rw [take_succ' h5, h4]
theorem within_hit {p dir : Bs} {c : UInt8} (h1 : dir ≠ []) (h2 : p ≠ dir) (h3 : dir.length < p.length) (h4 : p.take dir.length = dir) (h5 : p[dir.length]? = some c) : l1Within p dir = decide ((c.toNat : Int) = 47) := by
 rw [within_far h1 h2, decide_eq_true h3, decide_eq_true h4, h5, Bool.true_and, Bool.true_and, Bool.eq_iff_iff]
 simp only [decide_eq_true_eq, Option.some.injEq]
 constructor
 ·rintro rfl; rfl
 ·intro h; exact UInt8.toNat.inj (by show c.toNat = 47; omega)
theorem used_step2 {L : List BHeld} {t : List BItem} {k : Nat} {x : BItem} (e : t[k]? = some x) (dir but : Bs) :
  usedB L (t.take (k + 1)) dir but = usedB L (t.take k) dir but + (if usedIn dir but x = true then (load L x.ids).length else 0) := by
 unfold usedB
 rw [take_succ' e, List.filter_append, List.map_append, List.sum_append]
 cases hu : usedIn dir but x <;> simp [List.filter_cons, hu]
theorem used_bnd2 {L : List BHeld} (hV : VH L) {t : List BItem} (vt : TreeValid t = true) (dir but : Bs) : ∀ k, k ≤ t.length → usedB L (t.take k) dir but ≤ 32 * k
 | 0, _ => by simp [usedB]
 | k + 1, hk => by
  have h1 := used_bnd2 hV vt dir but k (by omega)
  have e : t[k]? = some t[k] := List.getElem?_eq_getElem (by omega)
  rw [used_step2 e]
  have h2 := load_len8 hV t[k].ids
  have h3 := (tree_at vt e).2
  split <;> omega
end Sp
namespace Sp
open Fw Nd
theorem dv_ids {d : BDisk} (hd : DiskValid d = true) {j : Nat} {x : BItem} (hx : d.tree[j]? = some x) : l4Ids d.store x.ids = true := by
 obtain ⟨_, hH⟩ := dd_iff.1 hd
 exact hH.ids d.tree (by simp [trees]) x (List.mem_of_getElem? hx)
end Sp
namespace Sp
open Fw Nd
def prevQ (l : List BQuota) (i : Nat) (q : BQuota) : Bool := decide (i = 0) || match l[i - 1]? with
 | some g => lt g.dir q.dir
 | none => false
theorem okQ_at {l : List BQuota} {k : Nat} {q : BQuota} (h : l[k]? = some q) : okQ l k = (dirValid q.dir && l6In q.most 0 999 && prevQ l k q) := by
 simp only [okQ, h, prevQ] <;> cases l[k - 1]? <;> rfl
end Sp
namespace Sp
open Fw Nd
theorem used_none {L : List BHeld} {l : List BItem} {p : Bs} (hv : VT l) (h : ∀ y, y ∈ l → y.path ≠ p) (dir : Bs) : usedB L l dir [] = usedB L l dir p := by
 unfold usedB
 rw [List.filter_congr (fun x hx => show usedIn dir [] x = usedIn dir p x by simp [usedIn, path_ne (hv.ok x hx), h x hx])]
theorem used_one {L : List BHeld} {l : List BItem} {x : BItem} (hv : VT l) (hx : x ∈ l) (dir : Bs) : usedB L l dir [] = usedB L l dir x.path + (if l1Within x.path dir = true then (load L x.ids).length else 0) := by
 rw [usedB_perm (filter_one hv.asc hx)]
 have hne := path_ne (hv.ok x hx)
 have hrest : usedB L (l.filter (fun y => decide (y.path ≠ x.path))) dir [] = usedB L l dir x.path := by
  unfold usedB
  rw [List.filter_filter]
  have e : l.filter (fun y => usedIn dir [] y && decide (y.path ≠ x.path)) = l.filter (usedIn dir x.path) := List.filter_congr (fun y hy => by
   have := path_ne (hv.ok y hy)
   by_cases e : y.path = x.path <;> simp [usedIn, this, e, hne])
  rw [e]
 have hc : usedB L (x :: l.filter (fun y => decide (y.path ≠ x.path))) dir [] = (if l1Within x.path dir = true then (load L x.ids).length else 0) + usedB L (l.filter (fun y => decide (y.path ≠ x.path))) dir [] := by
  unfold usedB
  rw [List.filter_cons]
  cases hw : l1Within x.path dir with
  | true => rw [if_pos (by simp [usedIn, hw, hne])]; simp
  | false => rw [if_neg (by simp [usedIn, hw])]; simp
 rw [hc, hrest]
 omega
theorem find_used_no {L : List BHeld} {T : Nd} {l : List BItem} {p : Bs} (hT : TOK T l) (hv : VT l) (hf : T.find p = none) (dir : Bs) : usedB L l dir [] = usedB L l dir p := by
 refine used_none hv ((uniq_at hv.asc).2.2 ?_) dir
 have h := find_list hT p
 rw [hf] at h
 cases e : atI l p with
 | none => rfl
 | some i =>
  obtain ⟨y, hy, _⟩ := (uniq_at hv.asc).1 i e
  rw [e] at h
  simp [hy] at h
theorem find_used_yes {L : List BHeld} {T k : Nd} {l : List BItem} {p : Bs} (hT : TOK T l) (hv : VT l) (hf : T.find p = some k) (dir : Bs) : usedB L l dir [] = usedB L l dir p + (if l1Within p dir = true then (load L k.ids).length else 0) := by
 have h := find_list hT p
 rw [hf] at h
 cases e : atI l p with
 | none => rw [e] at h; simp at h
 | some i =>
  rw [e] at h
  simp only [Option.map_some, Option.bind_some] at h
  exact used_one (x := ⟨p, k.dir, k.ids⟩) hv (List.mem_of_getElem? h.symm) dir
section
variable {d : BDisk} {p : Bs} {n m : Int} {q : BQuota}
theorem brk_no (hp : PathValid p = true) (hq : dirValid q.dir = true) (h : PathWithin p q.dir = false) : breaks d p n q = false := by
 rw [within_eq hp hq] at h
 simp [breaks, h]
theorem brk_eq (hp : PathValid p = true) (hq : dirValid q.dir = true) (h : PathWithin p q.dir = true) (hu : (usedB d.store d.tree q.dir [] : Int) + m = (usedB d.store d.tree q.dir p : Int) + n) : breaks d p n q = decide (q.most < (usedB d.store d.tree q.dir [] : Int) + m) := by
 rw [within_eq hp hq] at h
 simp [breaks, h, hu]
theorem more_no {T : Nd} (hT : TOK T d.tree) (hv : VT d.tree) (hf : T.find p = none) : (usedB d.store d.tree q.dir [] : Int) + n = (usedB d.store d.tree q.dir p : Int) + n := by
 rw [find_used_no hT hv hf]
theorem more_yes {T k : Nd} (hT : TOK T d.tree) (hv : VT d.tree) (hf : T.find p = some k) (hp : PathValid p = true) (hq : dirValid q.dir = true) (h : PathWithin p q.dir = true) :
  (usedB d.store d.tree q.dir [] : Int) + (n - ((load d.store k.ids).length : Int)) = (usedB d.store d.tree q.dir p : Int) + n := by
 rw [within_eq hp hq] at h
 rw [find_used_yes hT hv hf, if_pos h]
 omega
variable {l : List BQuota}
theorem qallow_no (h : DiskValid d = false ∨ QuotasValid l = false ∨ PathValid p = false ∨ n < 0 ∨ 32 < n) : QuotasAllow d l p n = false := by
 unfold QuotasAllow
 rcases h with h | h | h | h | h
 ·simp [h]
 ·simp [h]
 ·simp [h]
 ·simp [l6In, show ¬ 0 ≤ n by omega]
 ·simp [l6In, show ¬ n ≤ 32 by omega]
theorem qallow_brk {k : Nat} (h1 : l[k]? = some q) (h2 : breaks d p n q = true) : QuotasAllow d l p n = false := by
 unfold QuotasAllow
 rw [Bool.and_eq_false_iff]
 refine .inr (List.all_eq_false.2 ⟨q, List.mem_of_getElem? h1, ?_⟩)
 simp [h2]
theorem qallow_yes (h1 : DiskValid d = true) (h2 : QuotasValid l = true) (h3 : PathValid p = true) (h4 : 0 ≤ n) (h5 : n ≤ 32) (h : l.all (fun q => !breaks d p n q) = true) : QuotasAllow d l p n = true := by
 unfold QuotasAllow
 rw [h1, h2, h3, h]
 simp [l6In, h4, h5]
end
end Sp
namespace Sp
open Fw Nd
theorem find_ids {T k : Nd} {l : List BItem} {p : Bs} (hT : TOK T l) (hv : TreeValid l = true) (hf : T.find p = some k) : k.ids.length ≤ 4 := by
 have h := find_list hT p
 rw [hf] at h
 cases e : atI l p with
 | none => rw [e] at h; simp at h
 | some i =>
  rw [e] at h
  simp only [Option.map_some, Option.bind_some] at h
  exact (tree_at hv h.symm).2
end Sp
namespace Sp
open Fw Nd
theorem qallow_size {d : BDisk} {l : List BQuota} {p : Bs} {n : Int} (h : QuotasAllow d l p n = true) : 0 ≤ n ∧ n ≤ 32 := by
 simp only [QuotasAllow, Bool.and_eq_true, l6In, decide_eq_true_eq] at h
 exact h.1.2
end Sp
namespace Go.Proofs.Tst
open Go Fw Tryz
theorem bf27 : BuildFact Tryz.prog 27 [(0, 1), (1, 1), (2, 1)] [.slice none 0 0, .slice none 0 0, .slice none 0 0] := buildFact zeroValue27 runUnderlying27 (fun w => by simp [sizeOf23, sizeOf24, sizeOf25])
theorem bf35 : BuildFact Tryz.prog 35 [(0, 1), (1, 1), (2, 1)] [str [], .bool false, .slice none 0 0] := buildFact zeroValue35 runUnderlying35 (fun w => by simp [sizeOf4, sizeOf9, sizeOf33])
theorem bf47 : BuildFact Tryz.prog 47 [(0, 1), (1, 1)] [str [], .int .i64 0] := buildFact zeroValue47 runUnderlying47 (fun w => by simp [sizeOf3, sizeOf9])
theorem bf107 : BuildFact Tryz.prog 107 [(0, 1), (1, 1)] [str [], .slice none 0 0] := buildFact zeroValue107 runUnderlying107 (fun w => by simp [sizeOf9, sizeOf24])
theorem bf123 : BuildFact Tryz.prog 123 [(0, 1), (1, 1)] [.map none, .pointer none] := buildFact zeroValue123 runUnderlying123 (fun w => by simp [sizeOf119, sizeOf121])
theorem bf133 : BuildFact Tryz.prog 133 [(0, 2), (2, 2), (4, 1)] [.int .i32 0, .int .u32 0, .map none, .pointer none, .slice none 0 0] := buildFact zeroValue133 runUnderlying133 (fun w => by simp [sizeOf123, sizeOf130, sizeOf131])
theorem bf138 : BuildFact Tryz.prog 138 [(0, 1), (1, 1), (2, 1), (3, 1)] [str [], .bool false, .slice none 0 0, .slice none 0 0] := buildFact zeroValue138 runUnderlying138 (fun w => by simp [sizeOf4, sizeOf9, sizeOf33, sizeOf136])
theorem bf153 : BuildFact Tryz.prog 153 [(0, 1), (1, 1), (2, 1)] [.int .i64 0, .slice none 0 0, .int .i64 0] := buildFact zeroValue153 runUnderlying153 (fun w => by simp [sizeOf3, sizeOf33])
theorem bf192 : BuildFact Tryz.prog 192 [(0, 1), (1, 1)] [.slice none 0 0, .int .i64 0] := buildFact zeroValue192 runUnderlying192 (fun w => by simp [sizeOf3, sizeOf22])
theorem bf194 : BuildFact Tryz.prog 194 [(0, 1), (1, 1)] [.slice none 0 0, .slice none 0 0] := buildFact zeroValue194 runUnderlying194 (fun w => by simp [sizeOf23, sizeOf24])
theorem bf199 : BuildFact Tryz.prog 199 [(0, 1), (1, 1)] [str [], .pointer none] := buildFact zeroValue199 runUnderlying199 (fun w => by simp [sizeOf9, sizeOf119])
theorem bf299 : BuildFact Tryz.prog 299 [(0, 1), (1, 1)] [.slice none 0 0, .int .i64 0] := buildFact zeroValue299 runUnderlying299 (fun w => by simp [sizeOf3, sizeOf33])
end Go.Proofs.Tst



namespace Go.Proofs.Tst
open Go Fw
instance : CF Tryz.prog 100 := ⟨Tryz.call100⟩
instance : CF Tryz.prog 101 := ⟨Tryz.call101⟩
instance : CF Tryz.prog 104 := ⟨Tryz.call104⟩
instance : CF Tryz.prog 107 := ⟨Tryz.call107⟩
instance : CF Tryz.prog 108 := ⟨Tryz.call108⟩
instance : CF Tryz.prog 109 := ⟨Tryz.call109⟩
instance : CF Tryz.prog 110 := ⟨Tryz.call110⟩
instance : CF Tryz.prog 114 := ⟨Tryz.call114⟩
instance : CF Tryz.prog 118 := ⟨Tryz.call118⟩
instance : CF Tryz.prog 119 := ⟨Tryz.call119⟩
instance : CF Tryz.prog 120 := ⟨Tryz.call120⟩
instance : CF Tryz.prog 121 := ⟨Tryz.call121⟩
instance : CF Tryz.prog 122 := ⟨Tryz.call122⟩
instance : CF Tryz.prog 123 := ⟨Tryz.call123⟩
instance : CF Tryz.prog 124 := ⟨Tryz.call124⟩
instance : CF Tryz.prog 125 := ⟨Tryz.call125⟩
instance : CF Tryz.prog 126 := ⟨Tryz.call126⟩
instance : CF Tryz.prog 127 := ⟨Tryz.call127⟩
instance : CF Tryz.prog 128 := ⟨Tryz.call128⟩
instance : CF Tryz.prog 129 := ⟨Tryz.call129⟩
instance : CF Tryz.prog 130 := ⟨Tryz.call130⟩
instance : CF Tryz.prog 131 := ⟨Tryz.call131⟩
instance : CF Tryz.prog 132 := ⟨Tryz.call132⟩
instance : CF Tryz.prog 133 := ⟨Tryz.call133⟩
instance : CF Tryz.prog 134 := ⟨Tryz.call134⟩
instance : CF Tryz.prog 135 := ⟨Tryz.call135⟩
instance : CF Tryz.prog 136 := ⟨Tryz.call136⟩
instance : CF Tryz.prog 137 := ⟨Tryz.call137⟩
instance : CF Tryz.prog 138 := ⟨Tryz.call138⟩
instance : CF Tryz.prog 139 := ⟨Tryz.call139⟩
instance : CF Tryz.prog 140 := ⟨Tryz.call140⟩
instance : CF Tryz.prog 141 := ⟨Tryz.call141⟩
instance : CF Tryz.prog 142 := ⟨Tryz.call142⟩
instance : CF Tryz.prog 143 := ⟨Tryz.call143⟩
instance : CF Tryz.prog 144 := ⟨Tryz.call144⟩
instance : CF Tryz.prog 145 := ⟨Tryz.call145⟩
instance : CF Tryz.prog 146 := ⟨Tryz.call146⟩
instance : CF Tryz.prog 147 := ⟨Tryz.call147⟩
instance : CF Tryz.prog 148 := ⟨Tryz.call148⟩
instance : CF Tryz.prog 149 := ⟨Tryz.call149⟩
instance : CF Tryz.prog 150 := ⟨Tryz.call150⟩
instance : CF Tryz.prog 151 := ⟨Tryz.call151⟩
instance : CF Tryz.prog 152 := ⟨Tryz.call152⟩
instance : CF Tryz.prog 155 := ⟨Tryz.call155⟩
instance : CF Tryz.prog 156 := ⟨Tryz.call156⟩
instance : CF Tryz.prog 157 := ⟨Tryz.call157⟩
instance : CF Tryz.prog 158 := ⟨Tryz.call158⟩
instance : CF Tryz.prog 161 := ⟨Tryz.call161⟩
instance : CF Tryz.prog 162 := ⟨Tryz.call162⟩
instance : CF Tryz.prog 163 := ⟨Tryz.call163⟩
instance : CF Tryz.prog 164 := ⟨Tryz.call164⟩
instance : CF Tryz.prog 165 := ⟨Tryz.call165⟩
instance : CF Tryz.prog 166 := ⟨Tryz.call166⟩
instance : CF Tryz.prog 167 := ⟨Tryz.call167⟩
instance : CF Tryz.prog 168 := ⟨Tryz.call168⟩
instance : CF Tryz.prog 169 := ⟨Tryz.call169⟩
instance : CF Tryz.prog 17 := ⟨Tryz.call17⟩
instance : CF Tryz.prog 170 := ⟨Tryz.call170⟩
instance : CF Tryz.prog 171 := ⟨Tryz.call171⟩
instance : CF Tryz.prog 172 := ⟨Tryz.call172⟩
instance : CF Tryz.prog 175 := ⟨Tryz.call175⟩
instance : CF Tryz.prog 176 := ⟨Tryz.call176⟩
instance : CF Tryz.prog 177 := ⟨Tryz.call177⟩
instance : CF Tryz.prog 178 := ⟨Tryz.call178⟩
instance : CF Tryz.prog 179 := ⟨Tryz.call179⟩
instance : CF Tryz.prog 184 := ⟨Tryz.call184⟩
instance : CF Tryz.prog 185 := ⟨Tryz.call185⟩
instance : CF Tryz.prog 186 := ⟨Tryz.call186⟩
instance : CF Tryz.prog 187 := ⟨Tryz.call187⟩
instance : CF Tryz.prog 188 := ⟨Tryz.call188⟩
instance : CF Tryz.prog 189 := ⟨Tryz.call189⟩
instance : CF Tryz.prog 190 := ⟨Tryz.call190⟩
instance : CF Tryz.prog 191 := ⟨Tryz.call191⟩
instance : CF Tryz.prog 192 := ⟨Tryz.call192⟩
instance : CF Tryz.prog 193 := ⟨Tryz.call193⟩
instance : CF Tryz.prog 194 := ⟨Tryz.call194⟩
instance : CF Tryz.prog 195 := ⟨Tryz.call195⟩
instance : CF Tryz.prog 196 := ⟨Tryz.call196⟩
instance : CF Tryz.prog 197 := ⟨Tryz.call197⟩
instance : CF Tryz.prog 198 := ⟨Tryz.call198⟩
instance : CF Tryz.prog 199 := ⟨Tryz.call199⟩
instance : CF Tryz.prog 200 := ⟨Tryz.call200⟩
instance : CF Tryz.prog 203 := ⟨Tryz.call203⟩
instance : CF Tryz.prog 204 := ⟨Tryz.call204⟩
instance : CF Tryz.prog 205 := ⟨Tryz.call205⟩
instance : CF Tryz.prog 206 := ⟨Tryz.call206⟩
instance : CF Tryz.prog 209 := ⟨Tryz.call209⟩
instance : CF Tryz.prog 21 := ⟨Tryz.call21⟩
instance : CF Tryz.prog 210 := ⟨Tryz.call210⟩
instance : CF Tryz.prog 211 := ⟨Tryz.call211⟩
instance : CF Tryz.prog 212 := ⟨Tryz.call212⟩
instance : CF Tryz.prog 213 := ⟨Tryz.call213⟩
instance : CF Tryz.prog 214 := ⟨Tryz.call214⟩
instance : CF Tryz.prog 215 := ⟨Tryz.call215⟩
instance : CF Tryz.prog 216 := ⟨Tryz.call216⟩
instance : CF Tryz.prog 217 := ⟨Tryz.call217⟩
instance : CF Tryz.prog 22 := ⟨Tryz.call22⟩
instance : CF Tryz.prog 220 := ⟨Tryz.call220⟩
instance : CF Tryz.prog 221 := ⟨Tryz.call221⟩
instance : CF Tryz.prog 222 := ⟨Tryz.call222⟩
instance : CF Tryz.prog 223 := ⟨Tryz.call223⟩
instance : CF Tryz.prog 227 := ⟨Tryz.call227⟩
instance : CF Tryz.prog 228 := ⟨Tryz.call228⟩
instance : CF Tryz.prog 229 := ⟨Tryz.call229⟩
instance : CF Tryz.prog 23 := ⟨Tryz.call23⟩
instance : CF Tryz.prog 230 := ⟨Tryz.call230⟩
instance : CF Tryz.prog 231 := ⟨Tryz.call231⟩
instance : CF Tryz.prog 232 := ⟨Tryz.call232⟩
instance : CF Tryz.prog 233 := ⟨Tryz.call233⟩
instance : CF Tryz.prog 234 := ⟨Tryz.call234⟩
instance : CF Tryz.prog 24 := ⟨Tryz.call24⟩
instance : CF Tryz.prog 243 := ⟨Tryz.call243⟩
instance : CF Tryz.prog 244 := ⟨Tryz.call244⟩
instance : CF Tryz.prog 245 := ⟨Tryz.call245⟩
instance : CF Tryz.prog 246 := ⟨Tryz.call246⟩
instance : CF Tryz.prog 247 := ⟨Tryz.call247⟩
instance : CF Tryz.prog 248 := ⟨Tryz.call248⟩
instance : CF Tryz.prog 249 := ⟨Tryz.call249⟩
instance : CF Tryz.prog 25 := ⟨Tryz.call25⟩
instance : CF Tryz.prog 250 := ⟨Tryz.call250⟩
instance : CF Tryz.prog 251 := ⟨Tryz.call251⟩
instance : CF Tryz.prog 252 := ⟨Tryz.call252⟩
instance : CF Tryz.prog 253 := ⟨Tryz.call253⟩
instance : CF Tryz.prog 255 := ⟨Tryz.call255⟩
instance : CF Tryz.prog 256 := ⟨Tryz.call256⟩
instance : CF Tryz.prog 259 := ⟨Tryz.call259⟩
instance : CF Tryz.prog 26 := ⟨Tryz.call26⟩
instance : CF Tryz.prog 265 := ⟨Tryz.call265⟩
instance : CF Tryz.prog 27 := ⟨Tryz.call27⟩
instance : CF Tryz.prog 273 := ⟨Tryz.call273⟩
instance : CF Tryz.prog 274 := ⟨Tryz.call274⟩
instance : CF Tryz.prog 275 := ⟨Tryz.call275⟩
instance : CF Tryz.prog 276 := ⟨Tryz.call276⟩
instance : CF Tryz.prog 277 := ⟨Tryz.call277⟩
instance : CF Tryz.prog 278 := ⟨Tryz.call278⟩
instance : CF Tryz.prog 279 := ⟨Tryz.call279⟩
instance : CF Tryz.prog 28 := ⟨Tryz.call28⟩
instance : CF Tryz.prog 286 := ⟨Tryz.call286⟩
instance : CF Tryz.prog 287 := ⟨Tryz.call287⟩
instance : CF Tryz.prog 33 := ⟨Tryz.call33⟩
instance : CF Tryz.prog 36 := ⟨Tryz.call36⟩
instance : CF Tryz.prog 38 := ⟨Tryz.call38⟩
instance : CF Tryz.prog 55 := ⟨Tryz.call55⟩
instance : CF Tryz.prog 56 := ⟨Tryz.call56⟩
instance : CF Tryz.prog 57 := ⟨Tryz.call57⟩
instance : CF Tryz.prog 58 := ⟨Tryz.call58⟩
instance : CF Tryz.prog 59 := ⟨Tryz.call59⟩
instance : CF Tryz.prog 60 := ⟨Tryz.call60⟩
instance : CF Tryz.prog 61 := ⟨Tryz.call61⟩
instance : CF Tryz.prog 62 := ⟨Tryz.call62⟩
instance : CF Tryz.prog 63 := ⟨Tryz.call63⟩
instance : CF Tryz.prog 64 := ⟨Tryz.call64⟩
instance : CF Tryz.prog 65 := ⟨Tryz.call65⟩
instance : CF Tryz.prog 66 := ⟨Tryz.call66⟩
instance : CF Tryz.prog 67 := ⟨Tryz.call67⟩
instance : CF Tryz.prog 68 := ⟨Tryz.call68⟩
instance : CF Tryz.prog 69 := ⟨Tryz.call69⟩
instance : CF Tryz.prog 70 := ⟨Tryz.call70⟩
instance : CF Tryz.prog 71 := ⟨Tryz.call71⟩
instance : CF Tryz.prog 73 := ⟨Tryz.call73⟩
instance : CF Tryz.prog 74 := ⟨Tryz.call74⟩
instance : CF Tryz.prog 75 := ⟨Tryz.call75⟩
instance : CF Tryz.prog 76 := ⟨Tryz.call76⟩
instance : CF Tryz.prog 77 := ⟨Tryz.call77⟩
instance : CF Tryz.prog 78 := ⟨Tryz.call78⟩
instance : CF Tryz.prog 79 := ⟨Tryz.call79⟩
instance : CF Tryz.prog 80 := ⟨Tryz.call80⟩
instance : CF Tryz.prog 81 := ⟨Tryz.call81⟩
instance : CF Tryz.prog 82 := ⟨Tryz.call82⟩
instance : CF Tryz.prog 83 := ⟨Tryz.call83⟩
instance : CF Tryz.prog 84 := ⟨Tryz.call84⟩
instance : CF Tryz.prog 85 := ⟨Tryz.call85⟩
instance : CF Tryz.prog 86 := ⟨Tryz.call86⟩
instance : CF Tryz.prog 87 := ⟨Tryz.call87⟩
instance : CF Tryz.prog 88 := ⟨Tryz.call88⟩
instance : CF Tryz.prog 89 := ⟨Tryz.call89⟩
instance : CF Tryz.prog 90 := ⟨Tryz.call90⟩
instance : CF Tryz.prog 91 := ⟨Tryz.call91⟩
instance : CF Tryz.prog 92 := ⟨Tryz.call92⟩
instance : CF Tryz.prog 93 := ⟨Tryz.call93⟩
instance : CF Tryz.prog 94 := ⟨Tryz.call94⟩
instance : FA Tryz.prog 107 0 0 := ⟨_, _, _, Tryz.runUnderlying107, rfl, Tryz.sizeOf9, rfl⟩
instance : FA Tryz.prog 107 1 1 := ⟨_, _, _, Tryz.runUnderlying107, rfl, Tryz.sizeOf24, rfl⟩
instance : FA Tryz.prog 123 0 0 := ⟨_, _, _, Tryz.runUnderlying123, rfl, Tryz.sizeOf121, rfl⟩
instance : FA Tryz.prog 123 1 1 := ⟨_, _, _, Tryz.runUnderlying123, rfl, Tryz.sizeOf119, rfl⟩
instance : FA Tryz.prog 133 0 0 := ⟨_, _, _, Tryz.runUnderlying133, rfl, Tryz.sizeOf130, rfl⟩
instance : FA Tryz.prog 133 1 2 := ⟨_, _, _, Tryz.runUnderlying133, rfl, Tryz.sizeOf123, rfl⟩
instance : FA Tryz.prog 133 2 4 := ⟨_, _, _, Tryz.runUnderlying133, rfl, Tryz.sizeOf131, rfl⟩
instance : FA Tryz.prog 138 0 0 := ⟨_, _, _, Tryz.runUnderlying138, rfl, Tryz.sizeOf9, rfl⟩
instance : FA Tryz.prog 138 1 1 := ⟨_, _, _, Tryz.runUnderlying138, rfl, Tryz.sizeOf4, rfl⟩
instance : FA Tryz.prog 138 2 2 := ⟨_, _, _, Tryz.runUnderlying138, rfl, Tryz.sizeOf33, rfl⟩
instance : FA Tryz.prog 138 3 3 := ⟨_, _, _, Tryz.runUnderlying138, rfl, Tryz.sizeOf136, rfl⟩
instance : FA Tryz.prog 153 0 0 := ⟨_, _, _, Tryz.runUnderlying153, rfl, Tryz.sizeOf3, rfl⟩
instance : FA Tryz.prog 153 1 1 := ⟨_, _, _, Tryz.runUnderlying153, rfl, Tryz.sizeOf33, rfl⟩
instance : FA Tryz.prog 153 2 2 := ⟨_, _, _, Tryz.runUnderlying153, rfl, Tryz.sizeOf3, rfl⟩
instance : FA Tryz.prog 192 0 0 := ⟨_, _, _, Tryz.runUnderlying192, rfl, Tryz.sizeOf22, rfl⟩
instance : FA Tryz.prog 192 1 1 := ⟨_, _, _, Tryz.runUnderlying192, rfl, Tryz.sizeOf3, rfl⟩
instance : FA Tryz.prog 194 0 0 := ⟨_, _, _, Tryz.runUnderlying194, rfl, Tryz.sizeOf23, rfl⟩
instance : FA Tryz.prog 194 1 1 := ⟨_, _, _, Tryz.runUnderlying194, rfl, Tryz.sizeOf24, rfl⟩
instance : FA Tryz.prog 199 0 0 := ⟨_, _, _, Tryz.runUnderlying199, rfl, Tryz.sizeOf9, rfl⟩
instance : FA Tryz.prog 199 1 1 := ⟨_, _, _, Tryz.runUnderlying199, rfl, Tryz.sizeOf119, rfl⟩
instance : FA Tryz.prog 243 0 0 := ⟨_, _, _, Tryz.runUnderlying243, rfl, Tryz.sizeOf3, rfl⟩
instance : FA Tryz.prog 243 1 1 := ⟨_, _, _, Tryz.runUnderlying243, rfl, Tryz.sizeOf33, rfl⟩
instance : FA Tryz.prog 243 2 2 := ⟨_, _, _, Tryz.runUnderlying243, rfl, Tryz.sizeOf3, rfl⟩
instance : FA Tryz.prog 245 0 0 := ⟨_, _, _, Tryz.runUnderlying245, rfl, Tryz.sizeOf9, rfl⟩
instance : FA Tryz.prog 245 1 1 := ⟨_, _, _, Tryz.runUnderlying245, rfl, Tryz.sizeOf4, rfl⟩
instance : FA Tryz.prog 245 2 2 := ⟨_, _, _, Tryz.runUnderlying245, rfl, Tryz.sizeOf33, rfl⟩
instance : FA Tryz.prog 248 0 0 := ⟨_, _, _, Tryz.runUnderlying248, rfl, Tryz.sizeOf9, rfl⟩
instance : FA Tryz.prog 248 1 1 := ⟨_, _, _, Tryz.runUnderlying248, rfl, Tryz.sizeOf71, rfl⟩
instance : FA Tryz.prog 27 0 0 := ⟨_, _, _, Tryz.runUnderlying27, rfl, Tryz.sizeOf23, rfl⟩
instance : FA Tryz.prog 27 1 1 := ⟨_, _, _, Tryz.runUnderlying27, rfl, Tryz.sizeOf24, rfl⟩
instance : FA Tryz.prog 27 2 2 := ⟨_, _, _, Tryz.runUnderlying27, rfl, Tryz.sizeOf25, rfl⟩
instance : FA Tryz.prog 299 0 0 := ⟨_, _, _, Tryz.runUnderlying299, rfl, Tryz.sizeOf33, rfl⟩
instance : FA Tryz.prog 299 1 1 := ⟨_, _, _, Tryz.runUnderlying299, rfl, Tryz.sizeOf3, rfl⟩
instance : FA Tryz.prog 35 0 0 := ⟨_, _, _, Tryz.runUnderlying35, rfl, Tryz.sizeOf9, rfl⟩
instance : FA Tryz.prog 35 1 1 := ⟨_, _, _, Tryz.runUnderlying35, rfl, Tryz.sizeOf4, rfl⟩
instance : FA Tryz.prog 35 2 2 := ⟨_, _, _, Tryz.runUnderlying35, rfl, Tryz.sizeOf33, rfl⟩
instance : FA Tryz.prog 47 0 0 := ⟨_, _, _, Tryz.runUnderlying47, rfl, Tryz.sizeOf9, rfl⟩
instance : FA Tryz.prog 47 1 1 := ⟨_, _, _, Tryz.runUnderlying47, rfl, Tryz.sizeOf3, rfl⟩
instance : FA Tryz.prog 74 0 0 := ⟨_, _, _, Tryz.runUnderlying74, rfl, Tryz.sizeOf70, rfl⟩
instance : FA Tryz.prog 74 1 1 := ⟨_, _, _, Tryz.runUnderlying74, rfl, Tryz.sizeOf71, rfl⟩
instance : FA Tryz.prog 74 2 2 := ⟨_, _, _, Tryz.runUnderlying74, rfl, Tryz.sizeOf72, rfl⟩
instance : AG Tryz.prog 107 true := ⟨Tryz.isAgg107⟩
instance : AG Tryz.prog 119 false := ⟨Tryz.isAgg119⟩
instance : AG Tryz.prog 121 false := ⟨Tryz.isAgg121⟩
instance : AG Tryz.prog 123 true := ⟨Tryz.isAgg123⟩
instance : AG Tryz.prog 131 false := ⟨Tryz.isAgg131⟩
instance : AG Tryz.prog 136 false := ⟨Tryz.isAgg136⟩
instance : AG Tryz.prog 140 false := ⟨Tryz.isAgg140⟩
instance : AG Tryz.prog 153 true := ⟨Tryz.isAgg153⟩
instance : AG Tryz.prog 194 true := ⟨Tryz.isAgg194⟩
instance : AG Tryz.prog 199 true := ⟨Tryz.isAgg199⟩
instance : AG Tryz.prog 22 false := ⟨Tryz.isAgg22⟩
instance : AG Tryz.prog 23 false := ⟨Tryz.isAgg23⟩
instance : AG Tryz.prog 24 false := ⟨Tryz.isAgg24⟩
instance : AG Tryz.prog 243 true := ⟨Tryz.isAgg243⟩
instance : AG Tryz.prog 245 true := ⟨Tryz.isAgg245⟩
instance : AG Tryz.prog 248 true := ⟨Tryz.isAgg248⟩
instance : AG Tryz.prog 25 false := ⟨Tryz.isAgg25⟩
instance : AG Tryz.prog 27 true := ⟨Tryz.isAgg27⟩
instance : AG Tryz.prog 3 false := ⟨Tryz.isAgg3⟩
instance : AG Tryz.prog 33 false := ⟨Tryz.isAgg33⟩
instance : AG Tryz.prog 35 true := ⟨Tryz.isAgg35⟩
instance : AG Tryz.prog 4 false := ⟨Tryz.isAgg4⟩
instance : AG Tryz.prog 47 true := ⟨Tryz.isAgg47⟩
instance : AG Tryz.prog 5 false := ⟨Tryz.isAgg5⟩
instance : AG Tryz.prog 70 false := ⟨Tryz.isAgg70⟩
instance : AG Tryz.prog 71 false := ⟨Tryz.isAgg71⟩
instance : AG Tryz.prog 72 false := ⟨Tryz.isAgg72⟩
instance : AG Tryz.prog 9 false := ⟨Tryz.isAgg9⟩
instance : SZ Tryz.prog 107 2 := ⟨Tryz.sizeOf107⟩
instance : SZ Tryz.prog 119 1 := ⟨Tryz.sizeOf119⟩
instance : SZ Tryz.prog 121 1 := ⟨Tryz.sizeOf121⟩
instance : SZ Tryz.prog 123 2 := ⟨Tryz.sizeOf123⟩
instance : SZ Tryz.prog 130 2 := ⟨Tryz.sizeOf130⟩
instance : SZ Tryz.prog 131 1 := ⟨Tryz.sizeOf131⟩
instance : SZ Tryz.prog 136 1 := ⟨Tryz.sizeOf136⟩
instance : SZ Tryz.prog 153 3 := ⟨Tryz.sizeOf153⟩
instance : SZ Tryz.prog 194 2 := ⟨Tryz.sizeOf194⟩
instance : SZ Tryz.prog 199 2 := ⟨Tryz.sizeOf199⟩
instance : SZ Tryz.prog 22 1 := ⟨Tryz.sizeOf22⟩
instance : SZ Tryz.prog 23 1 := ⟨Tryz.sizeOf23⟩
instance : SZ Tryz.prog 24 1 := ⟨Tryz.sizeOf24⟩
instance : SZ Tryz.prog 243 3 := ⟨Tryz.sizeOf243⟩
instance : SZ Tryz.prog 245 3 := ⟨Tryz.sizeOf245⟩
instance : SZ Tryz.prog 248 2 := ⟨Tryz.sizeOf248⟩
instance : SZ Tryz.prog 25 1 := ⟨Tryz.sizeOf25⟩
instance : SZ Tryz.prog 27 3 := ⟨Tryz.sizeOf27⟩
instance : SZ Tryz.prog 3 1 := ⟨Tryz.sizeOf3⟩
instance : SZ Tryz.prog 33 1 := ⟨Tryz.sizeOf33⟩
instance : SZ Tryz.prog 35 3 := ⟨Tryz.sizeOf35⟩
instance : SZ Tryz.prog 4 1 := ⟨Tryz.sizeOf4⟩
instance : SZ Tryz.prog 47 2 := ⟨Tryz.sizeOf47⟩
instance : SZ Tryz.prog 5 1 := ⟨Tryz.sizeOf5⟩
instance : SZ Tryz.prog 70 1 := ⟨Tryz.sizeOf70⟩
instance : SZ Tryz.prog 71 1 := ⟨Tryz.sizeOf71⟩
instance : SZ Tryz.prog 72 1 := ⟨Tryz.sizeOf72⟩
instance : SZ Tryz.prog 9 1 := ⟨Tryz.sizeOf9⟩
instance : UL Tryz.prog 131 (.slice 199) := ⟨Tryz.underlying131⟩
instance : UL Tryz.prog 136 (.slice 119) := ⟨Tryz.underlying136⟩
instance : UL Tryz.prog 147 .string := ⟨Tryz.underlying147⟩
instance : UL Tryz.prog 22 (.slice 5) := ⟨Tryz.underlying22⟩
instance : UL Tryz.prog 23 (.slice 153) := ⟨Tryz.underlying23⟩
instance : UL Tryz.prog 24 (.slice 35) := ⟨Tryz.underlying24⟩
instance : UL Tryz.prog 25 (.slice 107) := ⟨Tryz.underlying25⟩
instance : UL Tryz.prog 303 (.slice 33) := ⟨Tryz.underlying303⟩
instance : UL Tryz.prog 33 (.slice 3) := ⟨Tryz.underlying33⟩
instance : UL Tryz.prog 40 (.slice 47) := ⟨Tryz.underlying40⟩
instance : UL Tryz.prog 70 (.slice 243) := ⟨Tryz.underlying70⟩
instance : UL Tryz.prog 71 (.slice 245) := ⟨Tryz.underlying71⟩
instance : UL Tryz.prog 72 (.slice 248) := ⟨Tryz.underlying72⟩
instance : UL Tryz.prog 9 .string := ⟨Tryz.underlying9⟩
instance : UL Tryz.prog 95 (.slice 9) := ⟨Tryz.underlying95⟩
instance : ZV Tryz.prog 107 [str [], .slice none 0 0] := ⟨_, Tryz.zeroValue107, rfl⟩
instance : ZV Tryz.prog 119 [.pointer none] := ⟨_, Tryz.zeroValue119, rfl⟩
instance : ZV Tryz.prog 123 [.map none, .pointer none] := ⟨_, Tryz.zeroValue123, rfl⟩
instance : ZV Tryz.prog 153 [.int .i64 0, .slice none 0 0, .int .i64 0] := ⟨_, Tryz.zeroValue153, rfl⟩
instance : ZV Tryz.prog 194 [.slice none 0 0, .slice none 0 0] := ⟨_, Tryz.zeroValue194, rfl⟩
instance : ZV Tryz.prog 199 [str [], .pointer none] := ⟨_, Tryz.zeroValue199, rfl⟩
instance : ZV Tryz.prog 27 [.slice none 0 0, .slice none 0 0, .slice none 0 0] := ⟨_, Tryz.zeroValue27, rfl⟩
instance : ZV Tryz.prog 3 [.int .i64 0] := ⟨_, Tryz.zeroValue3, rfl⟩
instance : ZV Tryz.prog 33 [.slice none 0 0] := ⟨_, Tryz.zeroValue33, rfl⟩
instance : ZV Tryz.prog 35 [str [], .bool false, .slice none 0 0] := ⟨_, Tryz.zeroValue35, rfl⟩
instance : ZV Tryz.prog 47 [str [], .int .i64 0] := ⟨_, Tryz.zeroValue47, rfl⟩
instance : ZV Tryz.prog 5 [.int .u8 0] := ⟨_, Tryz.zeroValue5, rfl⟩
instance : ZV Tryz.prog 9 [str []] := ⟨_, Tryz.zeroValue9, rfl⟩
end Go.Proofs.Tst
namespace Go.Proofs.Tst
open Go Fw Go.RowKit Go.Extern.Stop Go.Stop Go.Extern Tryz
theorem is_typeOf (v : Value) (w : World) : (ReflectliteType.typeOf #[.iface 366 v]).run Tryz.prog w = .ok (.iface 261 (.agg #[.pointer (some ⟨7, 366, none⟩)])) w := by kernel_rfl
def compF : Array Value → Sem Value := ReflectliteType.method fun t => do Rtype.noPackHeld "Comparable" t; pure (.bool (← typeInfo t).comparable)
theorem is_comparable (w : World) : (compF #[.agg #[.pointer (some ⟨7, 366, none⟩)]]).run Tryz.prog w = .ok (.bool true) w := by kernel_rfl
theorem is_mComparable (v : Value) (w : World) : (Go.method 499 261 v "Comparable").run Tryz.prog w = .ok (348, v) w := by kernel_rfl
theorem is_comp : Option.map (fun a => a.comparable) (Tryz.prog.info? 366) = some true := by kernel_rfl
theorem is_size : Option.map (fun a => a.size) (Tryz.prog.info? 388) = some 1 := by kernel_rfl
theorem is_same (a : Addr) (w : World) :
  Calls Tryz.prog 80 #[.iface 366 (.pointer (some a)), .iface 366 (.pointer (some a))] w fun e w' => e = .returned (.bool true) ∧ w' = w := by
 obtain ⟨_, hi, hcmp⟩ := Option.map_eq_some_iff.1 is_comp
 obtain ⟨_, hj, _⟩ := Option.map_eq_some_iff.1 is_size
 have h8 := @run_callFunc_extern Tryz.prog 159 _ ReflectliteType.typeOf func159 kR kR kR kR
 have h32 := @run_callFunc_extern Tryz.prog 348 _ compF func348 kR kR kR kR
 have tT := is_typeOf
 have cT := is_comparable
 have mR := is_mComparable
 have heq := run_eql_iface_ptr_same (P := Tryz.prog) w a underlying140 underlying366 hi hcmp hj
 go_enter func80, ntmps80
 go_wp2
 refine wp_loop_rounds 1 ?_
 rw [rounds_succ]
 go_wp2
 go_ret
 exact ⟨Z, Z⟩
theorem is_nil (b : Addr) (w : World) :
  Calls Tryz.prog 80 #[.nilIface, .iface 366 (.pointer (some b))] w fun e w' => e = .returned (.bool false) ∧ w' = w := by
 have hn := run_eql_iface_nil_left (P := Tryz.prog) w 366 (.pointer (some b)) underlying140
 go_enter func80, ntmps80
 go_wp2
 go_ret
 exact ⟨Z, Z⟩
def errV (a : Addr) (c : Bool) : Value := cond c (.iface 366 (.pointer (some a))) .nilIface
theorem errV_t {a : Addr} {c : Bool} (h : c = true) : Value.iface 366 (.pointer (some a)) = errV a c := by rw [h]; rfl
theorem errV_f {a : Addr} {c : Bool} (h : c = false) : Value.nilIface = errV a c := by rw [h]; rfl
def BrkG (a : Addr) (G : PH) : Prop := PCell G 0 0 (.iface 366 (.pointer (some a)))
theorem BrkG.up {a : Addr} {G G' : PH} (h : BrkG a G) (hle : PLe G G') : BrkG a G' := PCell.mono h hle
theorem is_brk (w0 : World) (G0 : PH) (hG : PSub G0 w0) (a : Addr) (c : Bool) : Calls Tryz.prog 80 #[errV a c, .iface 366 (.pointer (some a))] w0 (Rets w0 (.bool c)) := by
 cases c
 ·refine (is_nil a w0).mono ?_
  rintro e w' ⟨rfl, rfl⟩
  exact ⟨Z, Ext.refl _⟩
 refine (is_same a w0).mono ?_
 rintro e w' ⟨rfl, rfl⟩
 exact ⟨Z, Ext.refl _⟩
end Go.Proofs.Tst

namespace Go.Proofs.Tst
open Go Fw Tryz
theorem l6In_c (w0 : World) (n : Int) (lo : Int) (hi : Int)  :
  Calls Tryz.prog 82 #[.int .i64 n, .int .i64 lo, .int .i64 hi] w0 (Rets w0 (.bool (Sp.l6In n lo hi))) := by
 have H := Hp.init0 w0
 refine calls_of_W (l := [.int .i64 n, .int .i64 lo, .int .i64 hi]) func82 Z ntmps82 Z (q2 (aG Z (q1 (pe 4 Z ?_))))
 refine R_case (t := 10) Z ?_ ?_
 ·intro hc1
  try simp only [nrm] at hc1
  refine pe 5 Z (q3 (W_ret (rt1 results82 Z ?_)))
  exact H.rets (congrArg Value.bool (by unfold Sp.l6In; rw [Bool.eq_iff_iff]; simp; omega))
 intro hc1'
 try simp only [nrm] at hc1'
 refine pe 5 Z (q3 (W_ret (rt1 results82 Z ?_)))
 exact H.rets (congrArg Value.bool (by unfold Sp.l6In; rw [Bool.eq_iff_iff]; simp; omega))
theorem l1Word_c (w0 : World) (s : Bs) (hs : s.length ≤ 16777216)  :
  Calls Tryz.prog 63 #[str s] w0 (Rets w0 (.bool (Sp.l1Word s))) := by
 have H := Hp.init0 w0
 refine calls_of_W (l := [str s]) func63 Z ntmps63 Z (q2 (aG Z (q3 (W_seq (q2 (aG Z (q3 (W_block ?_))))))))
 refine W_lp (hf := (Sub.cons (t := 0) Z Sub.nil)) (J := fun M w m => ∃ (k : Nat) (G : PH), M = [(3, .int .i64 (k : Int))] ∧ PLe (fun _ => none) G ∧ Hp w0 (fun _ => none) [] w G [] ∧ (k ≤ s.length ∧ (s.take k).all Sp.low = true) ∧ m = (s.length - k)) (h0 := ⟨0, _, Z, PLe.refl _, H, ?inv, Z⟩) (round := ?round)
 case inv => exact ⟨by omega, by simp⟩
 case round =>
  rintro _ _ _ ⟨k, _, rfl, hle1, H, hinv1, rfl⟩
  obtain ⟨_, hall⟩ := hinv1
  refine W_seq (q2 (pe 2 Z (lS Z (pe 1 Z (q3 ?_)))))
  refine W_cond Z ?_ ?_
  ·intro hc2
   try simp only [nrm] at hc2
   refine W_skip (N_K (W_seq (W_block (q2 (pe 2 Z (o_index_str underlying9 Z Z Z Z oM ?_)))))); intro ch3 hch3; have hlt3 := ch3.toNat_lt
   refine pe 2 Z ?_
   refine R_case (t := 14) Z ?_ ?_
   ·intro hc4
    try simp only [nrm] at hc4
    refine pe 5 Z (q3 (W_true Z (q2 (aG Z (q3 (W_ret (N_B_ret (N_K_ret (N_LP_ret (N_B_ret (N_K_ret (rt1 results63 Z ?_))))))))))))
    exact H.rets (congrArg Value.bool (by rw [Sp.l1Word, Sp.all_false hch3 (by simp [Sp.low]; omega)]; rfl))
   intro hc4'
   try simp only [nrm] at hc4'
   refine pe 2 Z (gR Z (o_index_str underlying9 Z Z Z Z oM ?_)); intro ch5 hch5; have hlt5 := ch5.toNat_lt
   obtain rfl : ch5 = ch3 := Option.some.inj (hch5.symm.trans hch3)
   refine pe 2 Z (q3 ?_)
   refine W_cond Z ?_ ?_
   ·intro hc6
    try simp only [nrm] at hc6
    refine q2 (aG Z (q3 (W_ret (N_B_ret (N_K_ret (N_LP_ret (N_B_ret (N_K_ret (rt1 results63 Z ?_)))))))))
    exact H.rets (congrArg Value.bool (by rw [Sp.l1Word, Sp.all_false hch5 (by simp [Sp.low]; omega)]; rfl))
   intro hc6'
   try simp only [nrm] at hc6'
   refine W_skip (N_B (N_K (W_region (mV Z (aD Z2 (aG Z (R_nil ?_)))))))
   refine N_lp (hJ := ⟨k + 1, _, Z, hle1, H, ?inv, Z⟩) (hm := ?hm)
   case hm => omega
   case inv => exact ⟨by omega, Sp.all_take hall hch5 (by simp [Sp.low]; omega)⟩
  intro hc2'
  try simp only [nrm] at hc2'
  refine W_exit (N_K_exit (N_LP_exit (N_B_same (N_K (q2 (mV Z (lS Z (xr H Z2 (l6In_c _ _ _ _ ) ?_)))))))); intro _ H
  refine aG Z (q3 (W_ret (rt1 results63 Z ?_)))
  obtain rfl : k = s.length := by omega
  rw [List.take_length] at hall
  exact H.rets (congrArg Value.bool (by simp only [Sp.l1Word, Sp.l6In, hall]; rw [Bool.eq_iff_iff]; simp; omega))
theorem l1Cut_c (w0 : World) (G0 : PH) (hG : PSub G0 w0) (s : Bs) (hs : s.length ≤ 16777216)  :
  Calls Tryz.prog 161 #[str s] w0 (RetP w0 G0 (fun G v => RdT G v (Sp.cut s))) := by
 have H := Hp.init hG
 refine calls_of_W (l := [str s]) func161 Z ntmps161 Z (q2 (aG Z (q1 (xbs H Z7 ?_)))); intro _ _ _ H
 have H := H.blkAcc 1 (k := 0) (n := 0) rfl rfl (by decide)
 refine aG Z (q1 (aG Z (q3 (W_seq (q2 (aG Z (q3 (W_block ?_))))))))
 refine W_lp (hf := (Sub.cons (t := 0) Z (Sub.cons (t := 2) Z Sub.nil))) (J := fun M w m => ∃ (v : Value) (n : Nat) (cs : List Value) (xs : List (Bs)) (f k : Nat) (G : PH), M = [(4, .int .i64 (f : Int)), (5, .int .i64 (k : Int)), (3, v)] ∧ PLe G0 G ∧ Hp w0 G0 [] w G [acc 9 1 v n cs] ∧ (Chk strE 1 G cs xs ∧ n = xs.length ∧ f ≤ k ∧ k ≤ s.length ∧ xs.length ≤ k ∧ xs ++ Sp.cut (s.drop f) = Sp.cut s ∧ ∀ j, f ≤ j → j < k → s[j]? ≠ some 47) ∧ m = (s.length - k)) (h0 := ⟨_, _, _, [], 0, 0, _, Z, PLe.refl _, H, ?inv, Z⟩) (round := ?round)
 case inv => exact ⟨(Chk.nil (E := strE) (sz := 1) (G := G0)),  by first | rfl | simp | (simp; omega) | omega, (by simp)⟩
 case round =>
  rintro _ _ _ ⟨v, n, cs, xs, f, k, _, rfl, hle2, H, hinv2, rfl⟩
  obtain ⟨hchk2_0, _, hinv2⟩ := hinv2
  obtain ⟨_, _, rfl⟩ := H.accShape (k := 0) rfl
  obtain ⟨h1, _, _, h4, h5⟩ := hinv2
  refine W_seq (q2 (pe 2 Z (lS Z (pe 1 Z (q3 ?_)))))
  refine W_cond Z ?_ ?_
  ·intro hc3
   try simp only [nrm] at hc3
   refine W_skip (N_K (W_seq (W_block (q2 (pe 2 Z (o_index_str underlying9 Z Z Z Z oM ?_)))))); intro ch4 hch4; have hlt4 := ch4.toNat_lt
   refine pe 1 Z (q3 ?_)
   refine W_cond Z ?_ ?_
   ·intro hc5
    try simp only [nrm] at hc5
    refine q2 (pe 4 Z (o_slice_str underlying9 Z Z Z Z oM oM oM (xbs H Z7 ?_))); intro _ _ _ H
    refine o_append1 0 H (sz := 1) (bytes := 16) underlying95 typeInfo9 ⟨_, Z, Z⟩ Z Z Z Z Z Z Z Z Z Z oM Z ?_; intro _ _ H
    have hchk8 := hchk2_0.snoc (show strE _ ((s.drop f).take (k - f)) _ from ⟨rfl, (by (first | assumption | (refine Sp.l5Parent_lim ?_; assumption) | (simp; done) | (simp; omega) | omega))⟩) rfl
    obtain ⟨_, _, rfl⟩ := H.accShape (k := 0) rfl
    refine aG Z (q3 (W_region (mV Z (aD Z2 (aG Z (R_nil (N_B (N_K (W_region (mV Z (aD Z2 (aG Z (R_nil ?_)))))))))))))
    refine N_lp (hJ := ⟨_, _, _, (xs ++ [((s.drop f).take (k - f))]), k + 1, k + 1, _, Z, hle2, H, ?inv, Z⟩) (hm := ?hm)
    case hm => omega
    case inv => exact ⟨hchk8, aN, (by exact ⟨by omega, by omega, by simp; omega, Sp.cut_step h4 h1 (hch4 ▸ congrArg some (Sp.is47 oM)) h5, fun j g1 g2 => by omega⟩)⟩
   intro hc5'
   try simp only [nrm] at hc5'
   refine W_skip (N_B (N_K (W_region (mV Z (aD Z2 (aG Z (R_nil ?_)))))))
   refine N_lp (hJ := ⟨_, _, _, xs, f, k + 1, _, Z, hle2, H, ?inv, Z⟩) (hm := ?hm)
   case hm => omega
   case inv => exact ⟨hchk2_0, aN, (by exact ⟨by omega, by omega, by omega, h4, Sp.noslash_succ h5 (hch4 ▸ Sp.not47 oM)⟩)⟩
  intro hc3'
  try simp only [nrm] at hc3'
  refine W_exit (N_K_exit (N_LP_exit (N_B_same (N_K (q2 (pe 3 Z (o_slice_str_from underlying9 Z Z Z oM oM (xbs H Z7 ?_)))))))); intro _ _ _ H
  refine o_append1 0 H (sz := 1) (bytes := 16) underlying95 typeInfo9 ⟨_, Z, Z⟩ Z Z Z Z Z Z Z Z Z Z oM Z ?_; intro _ _ H
  have hchk14 := hchk2_0.snoc (show strE _ (s.drop f) _ from ⟨rfl, (by (first | assumption | (refine Sp.l5Parent_lim ?_; assumption) | (simp; done) | (simp; omega) | omega))⟩) rfl
  obtain ⟨_, _, rfl⟩ := H.accShape (k := 0) rfl
  refine aG Z (q3 (W_ret (rt1 results161 Z ?_)))
  obtain ⟨_, H, hsg515, hsr515⟩ := H.shut' (k := 0) rfl hchk14 aN aN
  exact H.retP (by rw [← Sp.cut_end h4 h5 oM]; exact hsr515)
theorem PathValid_c (w0 : World) (G0 : PH) (hG : PSub G0 w0) (path : Bs) (hpath : path.length ≤ 16777216)  :
  Calls Tryz.prog 81 #[str path] w0 (Rets w0 (.bool (Sp.PathValid path))) := by
 have H := Hp.init hG
 refine calls_of_W (l := [str path]) func81 Z ntmps81 Z (q2 (aG Z (q1 (mV Z (xc Z2 (l1Cut_c _ _ H.sub _ hpath ) ?_)))))
 rintro _ _ ⟨G1, _, g1, rfl, hr1_0⟩
 have H := H.grow g1
 obtain ⟨_, _, rfl⟩ := hr1_0.shape; have hx_hr1_0 : _ ≤ 1099511627776 := hr1_0.lim
 refine ⟨_, Z, ?_⟩
 refine aG Z (q3 (W_seq (q2 (aG Z (q3 (W_block ?_))))))
 refine W_lp (hf := (Sub.cons (t := 3) Z Sub.nil)) (J := fun M w m => ∃ (k : Nat) (G : PH), M = [(4, .int .i64 (k : Int))] ∧ PLe G1 G ∧ Hp w0 G0 [] w G [] ∧ (k ≤ (Sp.cut path).length ∧ ((Sp.cut path).take k).all Sp.l1Word = true) ∧ m = ((Sp.cut path).length - k)) (h0 := ⟨0, _, Z, PLe.refl _, H, ?inv, Z⟩) (round := ?round)
 case inv => simp
 case round =>
  rintro _ _ _ ⟨k, _, rfl, hle2, H, hinv2, rfl⟩
  have hr1_0 := hr1_0.up hle2
  obtain ⟨_, hall⟩ := hinv2
  refine W_seq (q2 (pe 2 Z (lN Z (pe 1 Z (q3 ?_)))))
  refine W_cond Z ?_ ?_
  ·intro hc3
   try simp only [nrm] at hc3
   refine W_skip (N_K (W_seq (W_block (q2 (pe 2 Z (iP k hr1_0 Z3 Z ?_)))))); intro _ _ _ _ hz4 hE4 hrow4
   obtain ⟨rfl, hi4⟩ := hE4; have hy_hi4 : _ ≤ 16777216 := hi4
   refine lP H hrow4 0 Z2 (xr H Z2 (l1Word_c _ _ hi4 ) ?_); intro _ H
   refine pe 1 Z (q3 ?_)
   refine W_cond Z ?_ ?_
   ·intro hc6
    try simp only [nrm] at hc6
    refine q2 (aG Z (q3 (W_ret (N_B_ret (N_K_ret (N_LP_ret (N_B_ret (N_K_ret (rt1 results81 Z ?_)))))))))
    exact H.rets (congrArg Value.bool (by rw [Sp.PathValid, Sp.all_false hz4 hc6]; rfl))
   intro hc6'
   try simp only [nrm] at hc6'
   refine W_skip (N_B (N_K (W_region (mV Z (aD Z2 (aG Z (R_nil ?_)))))))
   refine N_lp (hJ := ⟨k + 1, _, Z, hle2, H, ?inv, Z⟩) (hm := ?hm)
   case hm => omega
   case inv => exact ⟨by omega, Sp.all_take hall hz4 hc6'⟩
  intro hc3'
  try simp only [nrm] at hc3'
  refine W_exit (N_K_exit (N_LP_exit (N_B_same (N_K (q2 (mV Z (lN Z (pe 2 Z (q3 (W_ret (rt1 results81 Z ?_)))))))))))
  obtain rfl : k = (Sp.cut path).length := by omega
  rw [List.take_length] at hall
  exact H.rets (congrArg Value.bool (by simp only [Sp.PathValid, hall, Bool.true_and]; rw [Bool.eq_iff_iff]; simp; omega))
theorem l1Last_c (w0 : World) (path : Bs) (hpath : path.length ≤ 16777216)  :
  Calls Tryz.prog 253 #[str path] w0 (Rets w0 (.int .i64 (Sp.l1Last path))) := by
 have H := Hp.init0 w0
 refine calls_of_W (l := [str path]) func253 Z ntmps253 Z (q2 (aG Z (q1 (aG Z (q3 (W_seq (q2 (aG Z (q3 (W_block ?_))))))))))
 refine W_lp (hf := (Sub.cons (t := 0) Z (Sub.cons (t := 2) Z Sub.nil))) (J := fun M w m => ∃ (k : Nat) (o : Option Nat) (G : PH), M = [(3, .int .i64 (Sp.optI o)), (4, .int .i64 (k : Int))] ∧ PLe (fun _ => none) G ∧ Hp w0 (fun _ => none) [] w G [] ∧ (k ≤ path.length ∧ o = (List.range k).foldl (Sp.lastF path) none) ∧ m = (path.length - k)) (h0 := ⟨0, none, _, Z, PLe.refl _, H, ?inv, Z⟩) (round := ?round)
 case inv => exact ⟨by omega, rfl⟩
 case round =>
  rintro _ _ _ ⟨k, o, _, rfl, hle1, H, hinv1, rfl⟩
  obtain ⟨_, hall⟩ := hinv1
  refine W_seq (q2 (pe 2 Z (lS Z (pe 1 Z (q3 ?_)))))
  refine W_cond Z ?_ ?_
  ·intro hc2
   try simp only [nrm] at hc2
   refine W_skip (N_K (W_seq (W_block (q2 (pe 2 Z (o_index_str underlying9 Z Z Z Z oM ?_)))))); intro ch3 hch3; have hlt3 := ch3.toNat_lt
   refine pe 1 Z (q3 ?_)
   refine W_cond Z ?_ ?_
   ·intro hc4
    try simp only [nrm] at hc4
    refine W_region (pe 2 Z (R_nil (N_B (N_K (W_region (mV Z (aD Z2 (aG Z (R_nil ?_)))))))))
    refine N_lp (hJ := ⟨k + 1, some k, _, Z, hle1, H, ?inv, Z⟩) (hm := ?hm)
    case hm => omega
    case inv => exact ⟨by omega, by rw [Sp.last_succ, ← hall, Sp.lastF, hch3, if_pos (congrArg some (Sp.is47 oM))]⟩
   intro hc4'
   try simp only [nrm] at hc4'
   refine W_skip (N_B (N_K (W_region (mV Z (aD Z2 (aG Z (R_nil ?_)))))))
   refine N_lp (hJ := ⟨k + 1, o, _, Z, hle1, H, ?inv, Z⟩) (hm := ?hm)
   case hm => omega
   case inv => exact ⟨by omega, by rw [Sp.last_succ, ← hall, Sp.lastF, hch3, if_neg (Sp.not47 oM)]⟩
  intro hc2'
  try simp only [nrm] at hc2'
  refine W_exit (N_K_exit (N_LP_exit (N_B_same (N_K (q2 (pe 2 Z (q3 (W_ret (rt1 results253 Z ?_)))))))))
  obtain rfl : k = path.length := by omega
  exact H.rets (congrArg (Value.int .i64) (by rw [hall]; rfl))
theorem l5Parent_c (w0 : World) (path : Bs) (hpath : path.length ≤ 16777216)  :
  Calls Tryz.prog 217 #[str path] w0 (Rets w0 (str (Sp.l5Parent path))) := by
 have hl := Sp.l1Last_le path
 have H := Hp.init0 w0
 refine calls_of_W (l := [str path]) func217 Z ntmps217 Z (q2 (aG Z (q1 (pe 2 Z (xr H Z2 (l1Last_c _ _ hpath ) ?_))))); intro _ H
 refine o_max Z Z Z (o_slice_str_to underlying9 Z Z Z oM oM (aG Z (q3 (W_ret (rt1 results217 Z ?_)))))
 exact H.rets Z
theorem l5At_c (w0 : World) (G0 : PH) (hG : PSub G0 w0) (vlist : Value) (list : List (BItem)) (hlist : RdItems G0 vlist list) (path : Bs) (hpath : path.length ≤ 16777216)  :
  Calls Tryz.prog 100 #[vlist, str path] w0 (Rets w0 (.int .i64 (Sp.l5At list path))) := by
 obtain ⟨alist, klist, rfl⟩ := hlist.shape
 have hlimlist : list.length ≤ 1099511627776 := hlist.lim
 have H := Hp.init hG
 refine calls_of_W (l := [.slice alist list.length klist, str path]) func100 Z ntmps100 Z (q2 (aG Z (q3 (W_seq (q2 (aG Z (q3 (W_block ?_))))))))
 refine W_lp (hf := (Sub.cons (t := 0) Z (Sub.cons (t := 1) Z Sub.nil))) (J := fun M w m => ∃ (k : Nat) (G : PH), M = [(5, .int .i64 (k : Int))] ∧ PLe G0 G ∧ Hp w0 G0 [] w G [] ∧ (k ≤ list.length ∧ (∀ j, j < k → ∀ y, list[j]? = some y → decide (y.path = path) = false)) ∧ m = (list.length - k)) (h0 := ⟨0, _, Z, PLe.refl _, H, ?inv, Z⟩) (round := ?round)
 case inv => exact ⟨by omega, fun j hj => by omega⟩
 case round =>
  rintro _ _ _ ⟨k, _, rfl, hle1, H, hinv1, rfl⟩
  have hlist := hlist.up hle1
  obtain ⟨_, hall⟩ := hinv1
  refine W_seq (q2 (pe 2 Z (lN Z (pe 1 Z (q3 ?_)))))
  refine W_cond Z ?_ ?_
  ·intro hc2
   try simp only [nrm] at hc2
   refine W_skip (N_K (W_seq (W_block (q2 (pe 2 Z (iP k hlist Z3 Z ?_)))))); intro _ _ _ _ hz3 hE3 hrow3
   obtain ⟨_, _, _, rfl, _, _, _, _⟩ := ox hE3
   refine fA 0 Z (lP H hrow3 0 Z2 (mV Z (o_seql Z Z Z (q3 ?_))))
   refine W_cond Z ?_ ?_
   ·intro hc4
    try simp only [nrm] at hc4
    refine q2 (pe 2 Z (q3 (W_ret (N_B_ret (N_K_ret (N_LP_ret (N_B_ret (N_K_ret (rt1 results100 Z ?_)))))))))
    exact H.rets (congrArg (Value.int .i64) (by rw [Sp.l5At, Sp.atI, Sp.find_at hall hz3 (by simp; exact hc4)]; rfl))
   intro hc4'
   try simp only [nrm] at hc4'
   refine W_skip (N_B (N_K (W_region (mV Z (aD Z2 (aG Z (R_nil ?_)))))))
   refine N_lp (hJ := ⟨k + 1, _, Z, hle1, H, ?inv, Z⟩) (hm := ?hm)
   case hm => omega
   case inv => exact ⟨by omega, Sp.none_succ hall hz3 (by simp; exact hc4')⟩
  intro hc2'
  try simp only [nrm] at hc2'
  refine W_exit (N_K_exit (N_LP_exit (N_B_same (N_K (q2 (aG Z (q3 (W_ret (rt1 results100 Z ?_)))))))))
  exact H.rets (congrArg (Value.int .i64) (by rw [Sp.l5At, Sp.atI, Sp.find_none hall oM]; rfl))
theorem l5Home_c (w0 : World) (G0 : PH) (hG : PSub G0 w0) (vlist : Value) (list : List (BItem)) (hlist : RdItems G0 vlist list) (path : Bs) (hpath : path.length ≤ 16777216)  :
  Calls Tryz.prog 169 #[vlist, str path] w0 (Rets w0 (.bool (Sp.l5Home list path))) := by
 obtain ⟨alist, klist, rfl⟩ := hlist.shape
 have hlimlist : list.length ≤ 1099511627776 := hlist.lim
 have H := Hp.init hG
 refine calls_of_W (l := [.slice alist list.length klist, str path]) func169 Z ntmps169 Z (q2 (aG Z (q1 (mV Z (xr H Z2 (l5Parent_c _ _ hpath ) ?_))))); intro _ H
 refine aG Z (q1 (pe 2 Z ?_))
 refine xr H Z2 (l5At_c _ _ H.sub _ _ hlist _ (by (first | assumption | (refine Sp.l5Parent_lim ?_; assumption) | (simp; done) | (simp; omega) | omega)) ) ?_; intro _ H
 refine aG Z (q1 (mV Z (o_seql Z Z Z (mV Z ?_))))
 refine R_case (t := 14) Z ?_ ?_
 ·intro hc3
  try simp only [nrm] at hc3
  refine pe 3 Z (R_pass Z (yl_un Z Z) (R_pass Z (yl_un Z Z) (R_pass Z (yl_un Z Z) (R_pass Z (yl_un Z Z) (R_pass Z (yl_un Z Z) (pe 3 Z (q3 (W_ret (rt1 results169 Z ?_)))))))))
  exact H.rets (congrArg Value.bool (by simp [Sp.l5Home, hc3]))
 intro hc3'
 try simp only [nrm] at hc3'
 refine pe 3 Z ?_
 refine R_case (t := 17) Z ?_ ?_
 ·intro hc4
  try simp only [nrm] at hc4
  obtain ⟨i, _, hi1, hi2, _, _, hi5⟩ := Sp.at_nat hc4
  refine pe 2 Z (gR Z (iP i hlist Z3 hi2 ?_)); intro _ _ _ _ hz5 hE5 hrow5
  obtain ⟨_, _, _, rfl, hi5, _, _, _⟩ := ox hE5
  refine gR Z (fA 1 Z (gR Z (lP H hrow5 1 Z2 (pe 3 Z (q3 (W_ret (rt1 results169 Z ?_)))))))
  exact H.rets (congrArg Value.bool (by simp [Sp.l5Home, hc3', Sp.atI, hi1, hz5]))
 intro hc4'
 try simp only [nrm] at hc4'
 refine pe 8 Z (q3 (W_ret (rt1 results169 Z ?_)))
 exact H.rets (congrArg Value.bool (by simp [Sp.l5Home, hc3', Sp.atI, Sp.at_none hc4']))
theorem l5Item_c (w0 : World) (G0 : PH) (hG : PSub G0 w0) (cx : List Value) (x : BItem) (hx : itemE G0 x cx)  :
  Calls Tryz.prog 168 #[.agg cx.toArray] w0 (Rets w0 (.bool (Sp.l5Item x))) := by
 obtain ⟨_, _, _, rfl, hi1, hr1, _, _⟩ := ox hx
 have H := Hp.init hG
 refine calls_of_W (l := [_]) func168 Z ntmps168 Z (q2 (o_box H Z Z Z ?_)); intro b2 _ _ H
 refine aG Z (q3 (W_seq (q2 (aG Z (q3 (W_block ?_))))))
 obtain ⟨ln3, hln3, H⟩ := H.name (k := 0) rfl
 refine W_lp (hf := (Sub.cons (t := 1) Z Sub.nil)) (J := fun M w m => ∃ (k : Nat) (G : PH), M = [(3, .int .i64 (k : Int))] ∧ PLe G0 G ∧ Hp w0 G0 [] w G [blk b2 (cl ln3 35)] ∧ (k ≤ x.ids.length ∧ (x.ids.take k).all (Sp.idOk x.dir) = true) ∧ m = (x.ids.length - k)) (h0 := ⟨0, _, Z, PLe.refl _, H, ?inv, Z⟩) (round := ?round)
 case inv => exact ⟨by omega, by simp⟩
 case round =>
  rintro _ _ _ ⟨k, _, rfl, hle4, H, hinv4, rfl⟩
  subst hln3
  have hr1 := hr1.up hle4
  obtain ⟨_, hall⟩ := hinv4
  refine W_seq (q2 (mV Z (fA 2 Z (lB 0 H Z3 (lN Z (pe 1 Z (q3 ?_)))))))
  refine W_cond Z ?_ ?_
  ·intro hc5
   try simp only [nrm] at hc5
   refine W_skip (N_K (W_seq (W_block (q2 (fA 1 Z (lB 0 H Z3 (mV Z ?_)))))))
   refine R_case (t := 13) Z ?_ ?_
   ·intro hc6
    try simp only [nrm] at hc6
    refine pe 8 Z (q3 (W_true Z (q2 (aG Z (q3 (W_ret (N_B_ret (N_K_ret (N_LP_ret (N_B_ret (N_K_ret (rt1 results168 Z ?_))))))))))))
    exact H.rets (congrArg Value.bool (by rw [Sp.l5Item, Sp.all_false (c := x.ids[k]) (List.getElem?_eq_getElem oM) (by simp [Sp.idOk, hc6])]; rfl))
   intro hc6'
   try simp only [nrm] at hc6'
   refine gR Z (fA 2 Z (gR Z (lB 0 H Z3 (pe 1 Z (gR Z (iP k hr1 Z3 Z ?_)))))); intro _ _ _ _ hz7 hE7 hrow7
   obtain ⟨rfl, _⟩ := hE7
   refine gR Z (lP H hrow7 0 Z2 (gR Z (xr H Z2 (l6In_c _ _ _ _ ) ?_))); intro _ H
   refine pe 2 Z (q3 ?_)
   refine W_cond Z ?_ ?_
   ·intro hc9
    try simp only [nrm] at hc9
    refine q2 (aG Z (q3 (W_ret (N_B_ret (N_K_ret (N_LP_ret (N_B_ret (N_K_ret (rt1 results168 Z ?_)))))))))
    exact H.rets (congrArg Value.bool (by rw [Sp.l5Item, Sp.all_false hz7 (by simp [Sp.idOk, *])]; rfl))
   intro hc9'
   try simp only [nrm] at hc9'
   refine W_skip (N_B (N_K (W_region (mV Z (aD Z2 (aG Z (R_nil ?_)))))))
   refine N_lp (hJ := ⟨k + 1, _, Z, hle4, H, ?inv, Z⟩) (hm := ?hm)
   case hm => omega
   case inv => exact ⟨by omega, Sp.all_take hall hz7 (by simp [Sp.idOk, *])⟩
  intro hc5'
  try simp only [nrm] at hc5'
  refine W_exit (N_K_exit (N_LP_exit (N_B_same (N_K (q2 (fA 0 Z (lB 0 H Z3 (xr H Z2 (PathValid_c _ _ H.sub _ hi1 ) ?_)))))))); intro _ H
  refine mV Z ?_
  refine R_case (t := 25) Z ?_ ?_
  ·intro hc12
   try simp only [nrm] at hc12
   refine gR Z (fA 2 Z (gR Z (lB 0 H Z3 (gR Z (lN Z (pe 3 Z (q3 (W_ret (rt1 results168 Z ?_)))))))))
   obtain rfl : k = x.ids.length := by omega
   rw [List.take_length] at hall
   exact H.rets (congrArg Value.bool (by simp only [Sp.l5Item, hall, hc12, Bool.true_and]; rw [Bool.eq_iff_iff]; simp; omega))
  intro hc12'
  try simp only [nrm] at hc12'
  refine pe 6 Z (q3 (W_ret (rt1 results168 Z ?_)))
  exact H.rets (congrArg Value.bool (by simp [Sp.l5Item, hc12']))
theorem TreeValid_c (w0 : World) (G0 : PH) (hG : PSub G0 w0) (vlist : Value) (list : List (BItem)) (hlist : RdItems G0 vlist list)  :
  Calls Tryz.prog 90 #[vlist] w0 (Rets w0 (.bool (Sp.TreeValid list))) := by
 obtain ⟨alist, klist, rfl⟩ := hlist.shape
 have hlimlist : list.length ≤ 1099511627776 := hlist.lim
 have H := Hp.init hG
 refine calls_of_W (l := [.slice alist list.length klist]) func90 Z ntmps90 Z (q2 (aG Z (q3 (W_seq (q2 (aG Z (q3 (W_block ?_))))))))
 refine W_lp (hf := (Sub.cons (t := 0) Z Sub.nil)) (J := fun M w m => ∃ (k : Nat) (G : PH), M = [(3, .int .i64 (k : Int))] ∧ PLe G0 G ∧ Hp w0 G0 [] w G [] ∧ (k ≤ list.length ∧ ∀ j, j < k → Sp.okT list j = true) ∧ m = (list.length - k)) (h0 := ⟨0, _, Z, PLe.refl _, H, ?inv, Z⟩) (round := ?round)
 case inv => exact ⟨by omega, fun j hj => by omega⟩
 case round =>
  rintro _ _ _ ⟨k, G1, rfl, hle1, H, hinv1, rfl⟩
  have hlist := hlist.up hle1
  obtain ⟨_, hall⟩ := hinv1
  refine W_seq (q2 (pe 2 Z (lN Z (pe 1 Z (q3 ?_)))))
  refine W_cond Z ?_ ?_
  ·intro hc2
   try simp only [nrm] at hc2
   refine W_skip (N_K (W_seq (W_block (W_seq (W_drawK [] 34 H kR Z ?_))))); intro _ H; have hd3 := PLe.refl G1
   refine dE 0 Z2 (dE 1 Z2 ?_)
   have hl4 := hlist.len
   obtain ⟨_, _, z4, q4, ha4, hz4, hq4, hE4, hrow4, _⟩ := hlist.at (i := k) oM
   clear hq4
   obtain ⟨_, _, _, rfl, hi4, hr4, _, _⟩ := ox hE4
   refine dI 2 3 k ha4 Z3 Z (RD_t 3 Z kR Z (fun _ hK => v_loadagg_P hK isAgg35 sizeOf35 Z hrow4 Z) (r1 4 Z (xr H Z2 (l5Item_c _ _ H.sub _ _ ⟨_, _, _, Z, hi4, hr4⟩ ) ?_))); intro _ H
   refine q4 H hd3 (dE 5 Z2 (dE 6 Z2 ?_))
   refine RD_case (t := 16) Z ?_ ?_
   ·intro hc6
    try simp only [nrm] at hc6
    refine dE 7 Z2 (dE 8 Z2 (dE 9 Z2 (RD_pass 10 Z kR kR kR Z (yl_un Z Z) (RD_pass 11 Z kR kR kR Z (yl_un Z Z) (RD_pass 12 Z kR kR kR Z (yl_un Z Z) (RD_pass 13 Z kR kR kR Z (yl_un Z Z) (RD_pass 14 Z kR kR kR Z (yl_un Z Z) (RD_pass 15 Z kR kR kR Z (yl_un Z Z) (RD_pass 16 Z kR kR kR Z (yl_un Z Z) (RD_pass 17 Z kR kR kR Z (yl_un Z Z) (RD_pass 18 Z kR kR kR Z (yl_un Z Z) (RD_pass 19 Z kR kR kR Z (yl_un Z Z) (RD_pass 20 Z kR kR kR Z (yl_un Z Z) (RD_pass 21 Z kR kR kR Z (yl_un Z Z) (dE 22 Z2 ?_)))))))))))))))
    refine dE 23 Z2 (dE 24 Z2 (dE 25 Z2 (dE 26 Z2 (dE 27 Z2 (dE 28 Z2 (dE 29 Z2 (dE 30 Z2 (dE 31 Z2 (dE 32 Z2 (dE 33 Z2 (rz (N_K (W_true Z (q2 (aG Z ?_)))))))))))))))
    refine q3 (W_ret (N_B_ret (N_K_ret (N_LP_ret (N_B_ret (N_K_ret (rt1 results90 Z ?_)))))))
    exact H.rets (congrArg Value.bool (by rw [Sp.TreeValid, Sp.not_all_range (k := k) oM (by rw [Sp.okT_at hz4]; simp [Sp.prevLt, *])]; rfl))
   intro hc6'
   try simp only [nrm] at hc6'
   refine dE 7 Z2 (dE 8 Z2 (dE 9 Z2 ?_))
   refine RD_case (t := 19) Z ?_ ?_
   ·intro hc7
    try simp only [nrm] at hc7
    have hk0 : k ≠ 0 := by omega
    refine dE 10 Z2 (dE 11 Z2 (RD_tg 12 Z kR Z (yl Z Z) (fun _ hK => v_sub Z Z oO) ?_))
    have hl9 := hlist.len
    obtain ⟨_, _, _, _, ha9, _, hq9, hE9, hrow9, _⟩ := hlist.at (i := (k - 1)) oM
    clear hq9
    obtain ⟨_, _, _, rfl, _, _, _, _⟩ := ox hE9
    refine dI 13 3 (k - 1) ha9 Z3 oM (dF 14 0 Z2 (dP 15 hrow9 0 Z3 (dE 16 Z2 (dE 17 Z2 ?_))))
    have hl10 := hlist.len
    obtain ⟨_, _, z10, _, ha10, hz10, hq10, hE10, hrow10, _⟩ := hlist.at (i := k) oM
    clear hq10
    obtain ⟨_, _, _, rfl, _, _, _, _⟩ := ox hE10
    have hzz10 : z4 = z10 := Option.some.inj (hz4.symm.trans hz10)
    subst hzz10
    refine dI 18 3 k ha10 Z3 Z (dF 19 0 Z2 (dP 20 hrow10 0 Z3 (RD_tg 21 Z kR Z (yl Z Z) (fun _ hK => v_sgeq Z Z) (dE 22 Z2 (dE 23 Z2 (dE 24 Z2 ?_))))))
    refine RD_case (t := 34) Z ?_ ?_
    ·intro hc11
     try simp only [nrm] at hc11
     refine dE 25 Z2 (dE 26 Z2 (dE 27 Z2 (dE 28 Z2 (dE 29 Z2 (dE 30 Z2 (dE 31 Z2 (dE 32 Z2 (dE 33 Z2 (rz (N_K (W_true Z (q2 (aG Z (q3 (W_ret ?_)))))))))))))))
     refine N_B_ret (N_K_ret (N_LP_ret (N_B_ret (N_K_ret (rt1 results90 Z ?_)))))
     exact H.rets (congrArg Value.bool (by rw [Sp.TreeValid, Sp.not_all_range (k := k) oM (by rw [Sp.okT_at hz4]; simp [Sp.prevLt, *])]; rfl))
    intro hc11'
    try simp only [nrm] at hc11'
    refine dE 25 Z2 (dE 26 Z2 (dE 27 Z2 ?_))
    have hl12 := hlist.len
    obtain ⟨_, _, z12, _, ha12, hz12, hq12, hE12, hrow12, _⟩ := hlist.at (i := k) oM
    clear hq12
    obtain ⟨_, _, _, rfl, hi12, _, _, _⟩ := ox hE12
    have hzz12 : z4 = z12 := Option.some.inj (hz4.symm.trans hz12)
    subst hzz12
    refine dI 28 3 k ha12 Z3 Z (dF 29 0 Z2 (dP 30 hrow12 0 Z3 (r1 31 Z (gR Z (xr H Z2 (l5Home_c _ _ H.sub _ _ hlist _ hi12 ) ?_))))); intro _ H
    refine q4 H hd3 (dE 32 Z2 (dE 33 Z2 (rz (N_K ?_))))
    refine W_cond Z ?_ ?_
    ·intro hc14
     try simp only [nrm] at hc14
     refine q2 (aG Z (q3 (W_ret (N_B_ret (N_K_ret (N_LP_ret (N_B_ret (N_K_ret (rt1 results90 Z ?_)))))))))
     exact H.rets (congrArg Value.bool (by rw [Sp.TreeValid, Sp.not_all_range (k := k) oM (by rw [Sp.okT_at hz4]; simp [Sp.prevLt, *])]; rfl))
    intro hc14'
    try simp only [nrm] at hc14'
    refine W_skip (N_B (N_K (W_region (mV Z (aD Z2 (aG Z (R_nil ?_)))))))
    refine N_lp (hJ := ⟨k + 1, _, Z, hle1, H, ?inv, Z⟩) (hm := ?hm)
    case hm => omega
    case inv => exact ⟨by omega, Sp.upto_succ hall (by rw [Sp.okT_at hz4]; simp [Sp.prevLt, *])⟩
   intro hc7'
   try simp only [nrm] at hc7'
   have hk0 : k = 0 := by omega
   refine dE 10 Z2 (dE 11 Z2 (dE 12 Z2 (dE 13 Z2 (dE 14 Z2 (dE 15 Z2 (dE 16 Z2 (dE 17 Z2 (dE 18 Z2 (dE 19 Z2 (dE 20 Z2 (dE 21 Z2 (dE 22 Z2 (dE 23 Z2 (dE 24 Z2 (dE 25 Z2 ?_)))))))))))))))
   refine dE 26 Z2 (dE 27 Z2 ?_)
   have hl16 := hlist.len
   obtain ⟨_, _, z16, _, ha16, hz16, hq16, hE16, hrow16, _⟩ := hlist.at (i := k) oM
   clear hq16
   obtain ⟨_, _, _, rfl, hi16, _, _, _⟩ := ox hE16
   have hzz16 : z4 = z16 := Option.some.inj (hz4.symm.trans hz16)
   subst hzz16
   refine dI 28 3 k ha16 Z3 Z (dF 29 0 Z2 (dP 30 hrow16 0 Z3 (r1 31 Z (gR Z (xr H Z2 (l5Home_c _ _ H.sub _ _ hlist _ hi16 ) ?_))))); intro _ H
   refine q4 H hd3 (dE 32 Z2 (dE 33 Z2 (rz (N_K ?_))))
   refine W_cond Z ?_ ?_
   ·intro hc18
    try simp only [nrm] at hc18
    refine q2 (aG Z (q3 (W_ret (N_B_ret (N_K_ret (N_LP_ret (N_B_ret (N_K_ret (rt1 results90 Z ?_)))))))))
    exact H.rets (congrArg Value.bool (by rw [Sp.TreeValid, Sp.not_all_range (k := k) oM (by rw [Sp.okT_at hz4]; simp [Sp.prevLt, *])]; rfl))
   intro hc18'
   try simp only [nrm] at hc18'
   refine W_skip (N_B (N_K (W_region (mV Z (aD Z2 (aG Z (R_nil ?_)))))))
   refine N_lp (hJ := ⟨k + 1, _, Z, hle1, H, ?inv, Z⟩) (hm := ?hm)
   case hm => omega
   case inv => exact ⟨by omega, Sp.upto_succ hall (by rw [Sp.okT_at hz4]; simp [Sp.prevLt, *])⟩
  intro hc2'
  try simp only [nrm] at hc2'
  refine W_exit (N_K_exit (N_LP_exit (N_B_same (N_K (q2 (mV Z (lN Z (pe 2 Z (q3 (W_ret (rt1 results90 Z ?_)))))))))))
  exact H.rets (congrArg Value.bool (by rw [Sp.TreeValid, Sp.all_range (fun j hj => hall j oM), Bool.true_and]; rw [Bool.eq_iff_iff]; simp; omega))
theorem l2Same_c (w0 : World) (G0 : PH) (hG : PSub G0 w0) (va : Value) (a : List (Int)) (ha : RdI G0 va a) (vb : Value) (b : List (Int)) (hb : RdI G0 vb b)  :
  Calls Tryz.prog 167 #[va, vb] w0 (Rets w0 (.bool (Sp.l2Same a b))) := by
 obtain ⟨aa, ka, rfl⟩ := ha.shape
 have hlima : a.length ≤ 1099511627776 := ha.lim
 obtain ⟨ab, kb, rfl⟩ := hb.shape
 have hlimb : b.length ≤ 1099511627776 := hb.lim
 have H := Hp.init hG
 refine calls_of_W (l := [.slice aa a.length ka, .slice ab b.length kb]) func167 Z ntmps167 Z (q2 (aG Z (q3 (W_seq (q2 (mV Z (lN Z (mV Z (lN Z (pe 1 Z (q3 ?_)))))))))))
 refine W_cond Z ?_ ?_
 ·intro hc1
  try simp only [nrm] at hc1
  refine q2 (aG Z (q3 (W_ret (N_K_ret (rt1 results167 Z ?_)))))
  exact H.rets (congrArg Value.bool (by unfold Sp.l2Same; exact Sp.ne_len oM))
 intro hc1'
 try simp only [nrm] at hc1'
 refine W_skip (N_K (W_seq (q2 (aG Z (q3 (W_block ?_))))))
 refine W_lp (hf := (Sub.cons (t := 0) Z (Sub.cons (t := 1) Z Sub.nil))) (J := fun M w m => ∃ (k : Nat) (G : PH), M = [(5, .int .i64 (k : Int))] ∧ PLe G0 G ∧ Hp w0 G0 [] w G [] ∧ (k ≤ a.length ∧ a.take k = b.take k) ∧ m = (a.length - k)) (h0 := ⟨0, _, Z, PLe.refl _, H, ?inv, Z⟩) (round := ?round)
 case inv => exact ⟨by omega, by simp⟩
 case round =>
  rintro _ _ _ ⟨k, G2, rfl, hle2, H, hinv2, rfl⟩
  have ha := ha.up hle2
  have hb := hb.up hle2
  obtain ⟨_, hall⟩ := hinv2
  refine W_seq (q2 (pe 2 Z (lN Z (pe 1 Z (q3 ?_)))))
  refine W_cond Z ?_ ?_
  ·intro hc3
   try simp only [nrm] at hc3
   refine W_skip (N_K (W_seq (W_block (W_seq (W_drawK [] 9 H kR Z ?_))))); intro _ H; have hd4 := PLe.refl G2
   refine dE 0 Z2 (dE 1 Z2 ?_)
   have hl5 := ha.len
   obtain ⟨_, _, _, _, ha5, hz5, hq5, hE5, hrow5, _⟩ := ha.at (i := k) oM
   clear hq5
   obtain ⟨rfl, _⟩ := hE5
   refine dI 2 1 k ha5 Z3 Z (dP 3 hrow5 0 Z3 (dE 4 Z2 (dE 5 Z2 ?_)))
   have hl6 := hb.len
   obtain ⟨_, _, _, _, ha6, hz6, hq6, hE6, hrow6, _⟩ := hb.at (i := k) oM
   clear hq6
   obtain ⟨rfl, _⟩ := hE6
   refine dI 6 1 k ha6 Z3 Z (dP 7 hrow6 0 Z3 (dE 8 Z2 (rz (N_K ?_))))
   refine W_cond Z ?_ ?_
   ·intro hc7
    try simp only [nrm] at hc7
    refine q2 (aG Z (q3 (W_ret (N_B_ret (N_K_ret (N_LP_ret (N_B_ret (N_K_ret (rt1 results167 Z ?_)))))))))
    exact H.rets (congrArg Value.bool (by unfold Sp.l2Same; exact Sp.ne_at hz5 hz6 oM))
   intro hc7'
   try simp only [nrm] at hc7'
   refine W_skip (N_B (N_K (W_region (mV Z (aD Z2 (aG Z (R_nil ?_)))))))
   refine N_lp (hJ := ⟨k + 1, _, Z, hle2, H, ?inv, Z⟩) (hm := ?hm)
   case hm => omega
   case inv => exact ⟨by omega, Sp.take_eq hall hz5 (by rw [hz6]; congr 1; omega)⟩
  intro hc3'
  try simp only [nrm] at hc3'
  refine W_exit (N_K_exit (N_LP_exit (N_B_same (N_K (q2 (aG Z (q3 (W_ret (rt1 results167 Z ?_)))))))))
  exact H.rets (congrArg Value.bool (by unfold Sp.l2Same; exact Sp.eq_all hall oM oM))
theorem BlockValid_c (w0 : World) (G0 : PH) (hG : PSub G0 w0) (vbytes : Value) (bytes : List (Int)) (hbytes : RdI G0 vbytes bytes)  :
  Calls Tryz.prog 166 #[vbytes] w0 (Rets w0 (.bool (Sp.BlockValid bytes))) := by
 obtain ⟨abytes, kbytes, rfl⟩ := hbytes.shape
 have hlimbytes : bytes.length ≤ 1099511627776 := hbytes.lim
 have H := Hp.init hG
 refine calls_of_W (l := [.slice abytes bytes.length kbytes]) func166 Z ntmps166 Z (q2 (aG Z (q3 (W_seq (q2 (aG Z (q3 (W_block ?_))))))))
 refine W_lp (hf := (Sub.cons (t := 0) Z Sub.nil)) (J := fun M w m => ∃ (k : Nat) (G : PH), M = [(3, .int .i64 (k : Int))] ∧ PLe G0 G ∧ Hp w0 G0 [] w G [] ∧ (k ≤ bytes.length ∧ (bytes.take k).all Sp.byteOk = true) ∧ m = (bytes.length - k)) (h0 := ⟨0, _, Z, PLe.refl _, H, ?inv, Z⟩) (round := ?round)
 case inv => exact ⟨by omega, by simp⟩
 case round =>
  rintro _ _ _ ⟨k, _, rfl, hle1, H, hinv1, rfl⟩
  have hbytes := hbytes.up hle1
  obtain ⟨_, hall⟩ := hinv1
  refine W_seq (q2 (pe 2 Z (lN Z (pe 1 Z (q3 ?_)))))
  refine W_cond Z ?_ ?_
  ·intro hc2
   try simp only [nrm] at hc2
   refine W_skip (N_K (W_seq (W_block (q2 (pe 2 Z (iP k hbytes Z3 Z ?_)))))); intro _ _ _ _ hz3 hE3 hrow3
   obtain ⟨rfl, _⟩ := hE3
   refine lP H hrow3 0 Z2 (xr H Z2 (l6In_c _ _ _ _ ) ?_); intro _ H
   refine pe 1 Z (q3 ?_)
   refine W_cond Z ?_ ?_
   ·intro hc5
    try simp only [nrm] at hc5
    refine q2 (aG Z (q3 (W_ret (N_B_ret (N_K_ret (N_LP_ret (N_B_ret (N_K_ret (rt1 results166 Z ?_)))))))))
    exact H.rets (congrArg Value.bool (by rw [Sp.BlockValid, Sp.all_false hz3 (by simp [Sp.byteOk, *])]; rfl))
   intro hc5'
   try simp only [nrm] at hc5'
   refine W_skip (N_B (N_K (W_region (mV Z (aD Z2 (aG Z (R_nil ?_)))))))
   refine N_lp (hJ := ⟨k + 1, _, Z, hle1, H, ?inv, Z⟩) (hm := ?hm)
   case hm => omega
   case inv => exact ⟨by omega, Sp.all_take hall hz3 (by simp [Sp.byteOk, *])⟩
  intro hc2'
  try simp only [nrm] at hc2'
  refine W_exit (N_K_exit (N_LP_exit (N_B_same (N_K (q2 (mV Z (lN Z (xr H Z2 (l6In_c _ _ _ _ ) ?_)))))))); intro _ H
  refine aG Z (q3 (W_ret (rt1 results166 Z ?_)))
  obtain rfl : k = bytes.length := by omega
  rw [List.take_length] at hall
  exact H.rets (congrArg Value.bool (by simp only [Sp.BlockValid, hall, Bool.true_and]))
theorem FileValid_c (w0 : World) (G0 : PH) (hG : PSub G0 w0) (vbytes : Value) (bytes : List (Int)) (hbytes : RdI G0 vbytes bytes)  :
  Calls Tryz.prog 175 #[vbytes] w0 (Rets w0 (.bool (Sp.FileValid bytes))) := by
 obtain ⟨abytes, kbytes, rfl⟩ := hbytes.shape
 have hlimbytes : bytes.length ≤ 1099511627776 := hbytes.lim
 have H := Hp.init hG
 refine calls_of_W (l := [.slice abytes bytes.length kbytes]) func175 Z ntmps175 Z (q2 (aG Z (q3 (W_seq (q2 (aG Z (q3 (W_block ?_))))))))
 refine W_lp (hf := (Sub.cons (t := 0) Z Sub.nil)) (J := fun M w m => ∃ (k : Nat) (G : PH), M = [(3, .int .i64 (k : Int))] ∧ PLe G0 G ∧ Hp w0 G0 [] w G [] ∧ (k ≤ bytes.length ∧ (bytes.take k).all Sp.byteOk = true) ∧ m = (bytes.length - k)) (h0 := ⟨0, _, Z, PLe.refl _, H, ?inv, Z⟩) (round := ?round)
 case inv => exact ⟨by omega, by simp⟩
 case round =>
  rintro _ _ _ ⟨k, _, rfl, hle1, H, hinv1, rfl⟩
  have hbytes := hbytes.up hle1
  obtain ⟨_, hall⟩ := hinv1
  refine W_seq (q2 (pe 2 Z (lN Z (pe 1 Z (q3 ?_)))))
  refine W_cond Z ?_ ?_
  ·intro hc2
   try simp only [nrm] at hc2
   refine W_skip (N_K (W_seq (W_block (q2 (pe 2 Z (iP k hbytes Z3 Z ?_)))))); intro _ _ _ _ hz3 hE3 hrow3
   obtain ⟨rfl, _⟩ := hE3
   refine lP H hrow3 0 Z2 (xr H Z2 (l6In_c _ _ _ _ ) ?_); intro _ H
   refine pe 1 Z (q3 ?_)
   refine W_cond Z ?_ ?_
   ·intro hc5
    try simp only [nrm] at hc5
    refine q2 (aG Z (q3 (W_ret (N_B_ret (N_K_ret (N_LP_ret (N_B_ret (N_K_ret (rt1 results175 Z ?_)))))))))
    exact H.rets (congrArg Value.bool (by rw [Sp.FileValid, Sp.all_false hz3 (by simp [Sp.byteOk, *])]; rfl))
   intro hc5'
   try simp only [nrm] at hc5'
   refine W_skip (N_B (N_K (W_region (mV Z (aD Z2 (aG Z (R_nil ?_)))))))
   refine N_lp (hJ := ⟨k + 1, _, Z, hle1, H, ?inv, Z⟩) (hm := ?hm)
   case hm => omega
   case inv => exact ⟨by omega, Sp.all_take hall hz3 (by simp [Sp.byteOk, *])⟩
  intro hc2'
  try simp only [nrm] at hc2'
  refine W_exit (N_K_exit (N_LP_exit (N_B_same (N_K (q2 (mV Z (lN Z (pe 2 Z (q3 (W_ret (rt1 results175 Z ?_)))))))))))
  obtain rfl : k = bytes.length := by omega
  rw [List.take_length] at hall
  exact H.rets (congrArg Value.bool (by simp only [Sp.FileValid, hall, Bool.true_and]; rw [Bool.eq_iff_iff]; simp; omega))
theorem StoreValid_c (w0 : World) (G0 : PH) (hG : PSub G0 w0) (vlist : Value) (list : List (BHeld)) (hlist : RdH G0 vlist list)  :
  Calls Tryz.prog 89 #[vlist] w0 (Rets w0 (.bool (Sp.StoreValid list))) := by
 obtain ⟨alist, klist, rfl⟩ := hlist.shape
 have hlimlist : list.length ≤ 1099511627776 := hlist.lim
 have H := Hp.init hG
 refine calls_of_W (l := [.slice alist list.length klist]) func89 Z ntmps89 Z (q2 (aG Z (q3 (W_seq (q2 (aG Z (q3 (W_block ?_))))))))
 refine W_lp (hf := (Sub.cons (t := 0) Z Sub.nil)) (J := fun M w m => ∃ (k : Nat) (G : PH), M = [(3, .int .i64 (k : Int))] ∧ PLe G0 G ∧ Hp w0 G0 [] w G [] ∧ (k ≤ list.length ∧ ∀ j, j < k → Sp.okH list j = true) ∧ m = (list.length - k)) (h0 := ⟨0, _, Z, PLe.refl _, H, ?inv, Z⟩) (round := ?round)
 case inv => exact ⟨by omega, fun j hj => by omega⟩
 case round =>
  rintro _ _ _ ⟨k, G1, rfl, hle1, H, hinv1, rfl⟩
  have hlist := hlist.up hle1
  obtain ⟨_, hall⟩ := hinv1
  refine W_seq (q2 (pe 2 Z (lN Z (pe 1 Z (q3 ?_)))))
  refine W_cond Z ?_ ?_
  ·intro hc2
   try simp only [nrm] at hc2
   refine W_skip (N_K (W_seq (W_block (q2 (pe 2 Z (iP k hlist Z3 Z ?_)))))); intro _ _ z3 _ hz3 hE3 hrow3
   obtain ⟨_, _, _, rfl, _, hr3, _, _, _⟩ := ox hE3
   refine o_loadagg_P H isAgg153 sizeOf153 Z Z hrow3 Z (xal H Z ?_); intro b4 _ _ H
   refine xst 0 H Z8 ?_; intro _ H
   refine q3 (W_seq (W_seq (W_drawK [0] 31 H kR Z ?_))); intro _ H; have hd6 := PLe.refl G1
   refine dF 0 0 Z2 (dB 1 0 Z4 (r1 2 Z (xr H Z2 (l6In_c _ _ _ _ ) ?_))); intro _ H
   refine q4 H hd6 (dE 3 Z2 (dE 4 Z2 ?_))
   refine RD_case (t := 20) Z ?_ ?_
   ·intro hc8
    try simp only [nrm] at hc8
    refine dE 5 Z2 (dE 6 Z2 (dE 7 Z2 (dE 8 Z2 (dE 9 Z2 (dE 10 Z2 (dE 11 Z2 (dE 12 Z2 (dE 13 Z2 (dE 14 Z2 (dE 15 Z2 (dE 16 Z2 (dE 17 Z2 (dE 18 Z2 (dE 19 Z2 (RD_pass 20 Z kR kR kR Z (yl_un Z Z) ?_)))))))))))))))
    refine RD_pass 21 Z kR kR kR Z (yl_un Z Z) (RD_pass 22 Z kR kR kR Z (yl_un Z Z) (RD_pass 23 Z kR kR kR Z (yl_un Z Z) (RD_pass 24 Z kR kR kR Z (yl_un Z Z) (RD_pass 25 Z kR kR kR Z (yl_un Z Z) (RD_pass 26 Z kR kR kR Z (yl_un Z Z) (RD_pass 27 Z kR kR kR Z (yl_un Z Z) (RD_pass 28 Z kR kR kR Z (yl_un Z Z) (dE 29 Z2 (dE 30 Z2 (rz (N_K (W_true Z (q2 (aG Z (q3 ?_)))))))))))))))
    refine W_ret (N_K_ret (N_B_ret (N_K_ret (N_LP_ret (N_B_ret (N_K_ret (rt1 results89 Z ?_)))))))
    exact H.rets (congrArg Value.bool (by rw [Sp.StoreValid, Sp.not_all_range (k := k) oM (by rw [Sp.okH_at hz3]; simp [Sp.prevId, *])]; rfl))
   intro hc8'
   try simp only [nrm] at hc8'
   refine dF 5 1 Z2 (dB 6 0 Z4 (r1 7 Z (gR Z (xr H Z2 (BlockValid_c _ _ H.sub _ _ hr3 ) ?_)))); intro _ H
   refine q4 H hd6 (dE 8 Z2 (dE 9 Z2 (dE 10 Z2 ?_)))
   refine RD_case (t := 26) Z ?_ ?_
   ·intro hc10
    try simp only [nrm] at hc10
    refine dE 11 Z2 (dE 12 Z2 (dE 13 Z2 (dE 14 Z2 (dE 15 Z2 (dE 16 Z2 (dE 17 Z2 (dE 18 Z2 (dE 19 Z2 (RD_pass 20 Z kR kR kR Z (yl_un Z Z) (RD_pass 21 Z kR kR kR Z (yl_un Z Z) (RD_pass 22 Z kR kR kR Z (yl_un Z Z) (RD_pass 23 Z kR kR kR Z (yl_un Z Z) (RD_pass 24 Z kR kR kR Z (yl_un Z Z) (RD_pass 25 Z kR kR kR Z (yl_un Z Z) (RD_pass 26 Z kR kR kR Z (yl_un Z Z) ?_)))))))))))))))
    refine RD_pass 27 Z kR kR kR Z (yl_un Z Z) (RD_pass 28 Z kR kR kR Z (yl_un Z Z) (dE 29 Z2 (dE 30 Z2 (rz (N_K (W_true Z (q2 (aG Z (q3 (W_ret (N_K_ret (N_B_ret (N_K_ret (N_LP_ret (N_B_ret ?_)))))))))))))))
    refine N_K_ret (rt1 results89 Z ?_)
    exact H.rets (congrArg Value.bool (by rw [Sp.StoreValid, Sp.not_all_range (k := k) oM (by rw [Sp.okH_at hz3]; simp [Sp.prevId, *])]; rfl))
   intro hc10'
   try simp only [nrm] at hc10'
   refine dF 11 2 Z2 (dB 12 0 Z4 (r1 13 Z (gR Z (xr H Z2 (l6In_c _ _ _ _ ) ?_)))); intro _ H
   refine q4 H hd6 (dE 14 Z2 (dE 15 Z2 (dE 16 Z2 ?_)))
   refine RD_case (t := 32) Z ?_ ?_
   ·intro hc12
    try simp only [nrm] at hc12
    refine dE 17 Z2 (dE 18 Z2 (dE 19 Z2 (RD_pass 20 Z kR kR kR Z (yl_un Z Z) (RD_pass 21 Z kR kR kR Z (yl_un Z Z) (RD_pass 22 Z kR kR kR Z (yl_un Z Z) (RD_pass 23 Z kR kR kR Z (yl_un Z Z) (RD_pass 24 Z kR kR kR Z (yl_un Z Z) (RD_pass 25 Z kR kR kR Z (yl_un Z Z) (RD_pass 26 Z kR kR kR Z (yl_un Z Z) (RD_pass 27 Z kR kR kR Z (yl_un Z Z) (RD_pass 28 Z kR kR kR Z (yl_un Z Z) (dE 29 Z2 (dE 30 Z2 (rz (N_K ?_)))))))))))))))
    refine W_true Z (q2 (aG Z (q3 (W_ret (N_K_ret (N_B_ret (N_K_ret (N_LP_ret (N_B_ret (N_K_ret (rt1 results89 Z ?_)))))))))))
    exact H.rets (congrArg Value.bool (by rw [Sp.StoreValid, Sp.not_all_range (k := k) oM (by rw [Sp.okH_at hz3]; simp [Sp.prevId, *])]; rfl))
   intro hc12'
   try simp only [nrm] at hc12'
   refine dE 17 Z2 (dE 18 Z2 (dE 19 Z2 ?_))
   refine RD_case (t := 35) Z ?_ ?_
   ·intro hc13
    try simp only [nrm] at hc13
    have hk0 : k ≠ 0 := by omega
    refine dE 20 Z2 (dE 21 Z2 (RD_tg 22 Z kR Z (yl Z Z) (fun _ hK => v_sub Z Z oO) ?_))
    have hl15 := hlist.len
    obtain ⟨_, _, _, _, ha15, _, hq15, hE15, hrow15, _⟩ := hlist.at (i := (k - 1)) oM
    clear hq15
    obtain ⟨_, _, _, rfl, _, hr15, _, _, _⟩ := ox hE15
    refine dI 23 3 (k - 1) ha15 Z3 oM (dF 24 0 Z2 (dP 25 hrow15 0 Z3 (dF 26 0 Z2 (dB 27 0 Z4 (dE 28 Z2 (dE 29 Z2 (dE 30 Z2 (rz (N_K ?_)))))))))
    refine W_cond Z ?_ ?_
    ·intro hc16
     try simp only [nrm] at hc16
     refine q2 (aG Z (q3 (W_ret (N_K_ret (N_B_ret (N_K_ret (N_LP_ret (N_B_ret (N_K_ret (rt1 results89 Z ?_))))))))))
     exact H.rets (congrArg Value.bool (by rw [Sp.StoreValid, Sp.not_all_range (k := k) oM (by rw [Sp.okH_at hz3]; simp [Sp.prevId, *]; intro _; omega)]; rfl))
    intro hc16'
    try simp only [nrm] at hc16'
    refine W_skip (N_K (q2 (aG Z (q3 (W_block ?_)))))
    obtain ⟨ln17, hln17, H⟩ := H.name (k := 0) rfl
    refine W_lp (hf := (Sub.cons (t := 0) Z (Sub.cons (t := 3) Z (Sub.cons (t := 4) Z Sub.nil)))) (J := fun M w m => ∃ (i : Nat) (G : PH), M = [(5, .int .i64 (i : Int))] ∧ PLe G1 G ∧ Hp w0 G0 [] w G [blk b4 (cl ln17 153)] ∧ (i ≤ k ∧ (list.take i).all (fun g => !Sp.l2Same g.bytes z3.bytes) = true) ∧ m = (k - i)) (h0 := ⟨0, _, Z, PLe.refl _, H, ?inv, Z⟩) (round := ?round)
    case inv => exact ⟨by omega, by simp⟩
    case round =>
     rintro _ _ _ ⟨i, G18, rfl, hle18, H, hinv18, rfl⟩
     subst hln17
     have hlist := hlist.up hle18
     have hr3 := hr3.up hle18
     have hle1 := hle1.trans hle18
     obtain ⟨hi, hall2⟩ := hinv18
     refine W_seq (q2 (pe 3 Z (q3 ?_)))
     refine W_cond Z ?_ ?_
     ·intro hc19
      try simp only [nrm] at hc19
      refine W_skip (N_K (W_seq (W_block (W_seq (W_drawK [0] 8 H kR Z ?_))))); intro _ H; have hd20 := PLe.refl G18
      refine dE 0 Z2 (dE 1 Z2 ?_)
      have hl21 := hlist.len
      obtain ⟨_, _, _, _, ha21, hz21, hq21, hE21, hrow21, _⟩ := hlist.at (i := i) oM
      clear hq21
      obtain ⟨_, _, _, rfl, _, hr21, _, _, _⟩ := ox hE21
      refine dI 2 3 i ha21 Z3 Z (dF 3 1 Z2 (dP 4 hrow21 1 Z3 (dF 5 1 Z2 (dB 6 0 Z4 (r1 7 Z (xr H Z2 (l2Same_c _ _ H.sub _ _ hr21 _ _ hr3 ) ?_)))))); intro _ H
      refine q4 H hd20 (rz (N_K ?_))
      refine W_cond Z ?_ ?_
      ·intro hc23
       try simp only [nrm] at hc23
       refine q2 (aG Z (q3 (W_ret (N_B_ret (N_K_ret (N_LP_ret (N_B_ret (N_B_ret (N_K_ret (N_LP_ret (N_B_ret (N_K_ret (rt1 results89 Z ?_)))))))))))))
       exact H.rets (congrArg Value.bool (by rw [Sp.StoreValid, Sp.not_all_range (k := k) oM (by rw [Sp.okH_at hz3, Sp.all_false (l := list.take k) (k := i) (by rw [List.getElem?_take, if_pos oM]; exact hz21) (by simp [*])]; simp)]; rfl))
      intro hc23'
      try simp only [nrm] at hc23'
      refine W_skip (N_B (N_K (W_region (mV Z (aD Z2 (aG Z (R_nil ?_)))))))
      refine N_lp (hJ := ⟨i + 1, _, Z, hle18, H, ?inv, Z⟩) (hm := ?hm)
      case hm => omega
      case inv => exact ⟨by omega, Sp.all_take hall2 hz21 (by simp [*])⟩
     intro hc19'
     try simp only [nrm] at hc19'
     refine W_exit (N_K_exit (N_LP_exit (N_B_same (N_B (N_K (W_region (mV Z (aD Z2 (aG Z (R_nil ?_))))))))))
     have H := H.dl 0
     refine N_lp (hJ := ⟨k + 1, _, Z, hle1, H, ?inv, Z⟩) (hm := ?hm)
     case hm => omega
     case inv => exact ⟨by omega, Sp.upto_succ hall (by (obtain rfl : i = k := by omega); rw [Sp.okH_at hz3, hall2]; simp [Sp.prevId, *])⟩
   intro hc13'
   try simp only [nrm] at hc13'
   have hk0 : k = 0 := by omega
   refine dE 20 Z2 (dE 21 Z2 (dE 22 Z2 (dE 23 Z2 (dE 24 Z2 (dE 25 Z2 (dE 26 Z2 (dE 27 Z2 (dE 28 Z2 (dE 29 Z2 (dE 30 Z2 (rz (N_K (W_false Z (W_skip (N_K ?_)))))))))))))))
   refine q2 (aG Z (q3 (W_block ?_)))
   obtain ⟨ln26, hln26, H⟩ := H.name (k := 0) rfl
   refine W_lp (hf := (Sub.cons (t := 0) Z (Sub.cons (t := 3) Z (Sub.cons (t := 4) Z Sub.nil)))) (J := fun M w m => ∃ (i : Nat) (G : PH), M = [(5, .int .i64 (i : Int))] ∧ PLe G1 G ∧ Hp w0 G0 [] w G [blk b4 (cl ln26 153)] ∧ (i ≤ k ∧ (list.take i).all (fun g => !Sp.l2Same g.bytes z3.bytes) = true) ∧ m = (k - i)) (h0 := ⟨0, _, Z, PLe.refl _, H, ?inv, Z⟩) (round := ?round)
   case inv => exact ⟨by omega, by simp⟩
   case round =>
    rintro _ _ _ ⟨i, G27, rfl, hle27, H, hinv27, rfl⟩
    subst hln26
    have hlist := hlist.up hle27
    have hr3 := hr3.up hle27
    have hle1 := hle1.trans hle27
    obtain ⟨hi, hall2⟩ := hinv27
    refine W_seq (q2 (pe 3 Z (q3 ?_)))
    refine W_cond Z ?_ ?_
    ·intro hc28
     try simp only [nrm] at hc28
     refine W_skip (N_K (W_seq (W_block (W_seq (W_drawK [0] 8 H kR Z ?_))))); intro _ H; have hd29 := PLe.refl G27
     refine dE 0 Z2 (dE 1 Z2 ?_)
     have hl30 := hlist.len
     obtain ⟨_, _, _, _, ha30, hz30, hq30, hE30, hrow30, _⟩ := hlist.at (i := i) oM
     clear hq30
     obtain ⟨_, _, _, rfl, _, hr30, _, _, _⟩ := ox hE30
     refine dI 2 3 i ha30 Z3 Z (dF 3 1 Z2 (dP 4 hrow30 1 Z3 (dF 5 1 Z2 (dB 6 0 Z4 (r1 7 Z (xr H Z2 (l2Same_c _ _ H.sub _ _ hr30 _ _ hr3 ) ?_)))))); intro _ H
     refine q4 H hd29 (rz (N_K ?_))
     refine W_cond Z ?_ ?_
     ·intro hc32
      try simp only [nrm] at hc32
      refine q2 (aG Z (q3 (W_ret (N_B_ret (N_K_ret (N_LP_ret (N_B_ret (N_B_ret (N_K_ret (N_LP_ret (N_B_ret (N_K_ret (rt1 results89 Z ?_)))))))))))))
      exact H.rets (congrArg Value.bool (by rw [Sp.StoreValid, Sp.not_all_range (k := k) oM (by rw [Sp.okH_at hz3, Sp.all_false (l := list.take k) (k := i) (by rw [List.getElem?_take, if_pos oM]; exact hz30) (by simp [*])]; simp)]; rfl))
     intro hc32'
     try simp only [nrm] at hc32'
     refine W_skip (N_B (N_K (W_region (mV Z (aD Z2 (aG Z (R_nil ?_)))))))
     refine N_lp (hJ := ⟨i + 1, _, Z, hle27, H, ?inv, Z⟩) (hm := ?hm)
     case hm => omega
     case inv => exact ⟨by omega, Sp.all_take hall2 hz30 (by simp [*])⟩
    intro hc28'
    try simp only [nrm] at hc28'
    refine W_exit (N_K_exit (N_LP_exit (N_B_same (N_B (N_K (W_region (mV Z (aD Z2 (aG Z (R_nil ?_))))))))))
    have H := H.dl 0
    refine N_lp (hJ := ⟨k + 1, _, Z, hle1, H, ?inv, Z⟩) (hm := ?hm)
    case hm => omega
    case inv => exact ⟨by omega, Sp.upto_succ hall (by (obtain rfl : i = k := by omega); rw [Sp.okH_at hz3, hall2]; simp [Sp.prevId, *])⟩
  intro hc2'
  try simp only [nrm] at hc2'
  refine W_exit (N_K_exit (N_LP_exit (N_B_same (N_K (q2 (mV Z (lN Z (pe 2 Z (q3 (W_ret (rt1 results89 Z ?_)))))))))))
  exact H.rets (congrArg Value.bool (by rw [Sp.StoreValid, Sp.all_range (fun j hj => hall j oM), Bool.true_and]; rw [Bool.eq_iff_iff]; simp; omega))
theorem l3At_c (w0 : World) (G0 : PH) (hG : PSub G0 w0) (vlist : Value) (list : List (BHeld)) (hlist : RdH G0 vlist list) (id : Int)  :
  Calls Tryz.prog 205 #[vlist, .int .i64 id] w0 (Rets w0 (.int .i64 (Sp.l3At list id))) := by
 obtain ⟨alist, klist, rfl⟩ := hlist.shape
 have hlimlist : list.length ≤ 1099511627776 := hlist.lim
 have H := Hp.init hG
 refine calls_of_W (l := [.slice alist list.length klist, .int .i64 id]) func205 Z ntmps205 Z (q2 (aG Z (q3 (W_seq (q2 (aG Z (q3 (W_block ?_))))))))
 refine W_lp (hf := (Sub.cons (t := 0) Z (Sub.cons (t := 1) Z Sub.nil))) (J := fun M w m => ∃ (k : Nat) (G : PH), M = [(5, .int .i64 (k : Int))] ∧ PLe G0 G ∧ Hp w0 G0 [] w G [] ∧ (k ≤ list.length ∧ (∀ j, j < k → ∀ y, list[j]? = some y → decide (y.id = id) = false)) ∧ m = (list.length - k)) (h0 := ⟨0, _, Z, PLe.refl _, H, ?inv, Z⟩) (round := ?round)
 case inv => exact ⟨by omega, fun j hj => by omega⟩
 case round =>
  rintro _ _ _ ⟨k, _, rfl, hle1, H, hinv1, rfl⟩
  have hlist := hlist.up hle1
  obtain ⟨_, hall⟩ := hinv1
  refine W_seq (q2 (pe 2 Z (lN Z (pe 1 Z (q3 ?_)))))
  refine W_cond Z ?_ ?_
  ·intro hc2
   try simp only [nrm] at hc2
   refine W_skip (N_K (W_seq (W_block (q2 (pe 2 Z (iP k hlist Z3 Z ?_)))))); intro _ _ _ _ hz3 hE3 hrow3
   obtain ⟨_, _, _, rfl, _, _, _, _, _⟩ := ox hE3
   refine fA 0 Z (lP H hrow3 0 Z2 (pe 2 Z (q3 ?_)))
   refine W_cond Z ?_ ?_
   ·intro hc4
    try simp only [nrm] at hc4
    refine q2 (pe 2 Z (q3 (W_ret (N_B_ret (N_K_ret (N_LP_ret (N_B_ret (N_K_ret (rt1 results205 Z ?_)))))))))
    exact H.rets (congrArg (Value.int .i64) (by rw [Sp.l3At, Sp.atH, Sp.find_at hall hz3 (by simp; omega)]; rfl))
   intro hc4'
   try simp only [nrm] at hc4'
   refine W_skip (N_B (N_K (W_region (mV Z (aD Z2 (aG Z (R_nil ?_)))))))
   refine N_lp (hJ := ⟨k + 1, _, Z, hle1, H, ?inv, Z⟩) (hm := ?hm)
   case hm => omega
   case inv => exact ⟨by omega, Sp.none_succ hall hz3 (by simp; omega)⟩
  intro hc2'
  try simp only [nrm] at hc2'
  refine W_exit (N_K_exit (N_LP_exit (N_B_same (N_K (q2 (aG Z (q3 (W_ret (rt1 results205 Z ?_)))))))))
  exact H.rets (congrArg (Value.int .i64) (by rw [Sp.l3At, Sp.atH, Sp.find_none hall oM]; rfl))
theorem l3Like_c (w0 : World) (G0 : PH) (hG : PSub G0 w0) (vlist : Value) (list : List (BHeld)) (hlist : RdH G0 vlist list) (vbytes : Value) (bytes : List (Int)) (hbytes : RdI G0 vbytes bytes)  :
  Calls Tryz.prog 277 #[vlist, vbytes] w0 (Rets w0 (.int .i64 (Sp.l3Like list bytes))) := by
 obtain ⟨alist, klist, rfl⟩ := hlist.shape
 have hlimlist : list.length ≤ 1099511627776 := hlist.lim
 obtain ⟨abytes, kbytes, rfl⟩ := hbytes.shape
 have hlimbytes : bytes.length ≤ 1099511627776 := hbytes.lim
 have H := Hp.init hG
 refine calls_of_W (l := [.slice alist list.length klist, .slice abytes bytes.length kbytes]) func277 Z ntmps277 Z (q2 (aG Z (q3 (W_seq (q2 (aG Z (q3 (W_block ?_))))))))
 refine W_lp (hf := (Sub.cons (t := 0) Z (Sub.cons (t := 1) Z Sub.nil))) (J := fun M w m => ∃ (k : Nat) (G : PH), M = [(5, .int .i64 (k : Int))] ∧ PLe G0 G ∧ Hp w0 G0 [] w G [] ∧ (k ≤ list.length ∧ (∀ j, j < k → ∀ y, list[j]? = some y → Sp.l2Same y.bytes bytes = false)) ∧ m = (list.length - k)) (h0 := ⟨0, _, Z, PLe.refl _, H, ?inv, Z⟩) (round := ?round)
 case inv => exact ⟨by omega, fun j hj => by omega⟩
 case round =>
  rintro _ _ _ ⟨k, _, rfl, hle1, H, hinv1, rfl⟩
  have hlist := hlist.up hle1
  have hbytes := hbytes.up hle1
  obtain ⟨_, hall⟩ := hinv1
  refine W_seq (q2 (pe 2 Z (lN Z (pe 1 Z (q3 ?_)))))
  refine W_cond Z ?_ ?_
  ·intro hc2
   try simp only [nrm] at hc2
   refine W_skip (N_K (W_seq (W_block (q2 (pe 2 Z (iP k hlist Z3 Z ?_)))))); intro _ _ _ _ hz3 hE3 hrow3
   obtain ⟨_, _, _, rfl, _, hr3, _, _, _⟩ := ox hE3
   refine fA 1 Z (lP H hrow3 1 Z2 (mV Z (xr H Z2 (l2Same_c _ _ H.sub _ _ hr3 _ _ hbytes ) ?_))); intro _ H
   refine q3 ?_
   refine W_cond Z ?_ ?_
   ·intro hc5
    try simp only [nrm] at hc5
    refine q2 (pe 2 Z (q3 (W_ret (N_B_ret (N_K_ret (N_LP_ret (N_B_ret (N_K_ret (rt1 results277 Z ?_)))))))))
    exact H.rets (congrArg (Value.int .i64) (by rw [Sp.l3Like, Sp.like, Sp.find_at hall hz3 hc5]; rfl))
   intro hc5'
   try simp only [nrm] at hc5'
   refine W_skip (N_B (N_K (W_region (mV Z (aD Z2 (aG Z (R_nil ?_)))))))
   refine N_lp (hJ := ⟨k + 1, _, Z, hle1, H, ?inv, Z⟩) (hm := ?hm)
   case hm => omega
   case inv => exact ⟨by omega, Sp.none_succ hall hz3 hc5'⟩
  intro hc2'
  try simp only [nrm] at hc2'
  refine W_exit (N_K_exit (N_LP_exit (N_B_same (N_K (q2 (aG Z (q3 (W_ret (rt1 results277 Z ?_)))))))))
  exact H.rets (congrArg (Value.int .i64) (by rw [Sp.l3Like, Sp.like, Sp.find_none hall oM]; rfl))
theorem l3Copy_c (w0 : World) (G0 : PH) (hG : PSub G0 w0) (vlist : Value) (list : List (BHeld)) (hlist : RdH G0 vlist list)  :
  Calls Tryz.prog 146 #[vlist] w0 (RetO w0 G0 (AccOf heldE 3 153 list)) := by
 obtain ⟨alist, klist, rfl⟩ := hlist.shape
 have hlimlist : list.length ≤ 1099511627776 := hlist.lim
 have H := Hp.init hG
 refine calls_of_W (l := [.slice alist list.length klist]) func146 Z ntmps146 Z (q2 (aG Z (q1 (xbs H Z7 ?_)))); intro _ _ _ H
 have H := H.blkAcc 3 (k := 0) (n := 0) rfl rfl (by decide)
 refine aG Z (q3 (W_seq (q2 (aG Z (q3 (W_block ?_))))))
 refine W_lp (hf := (Sub.cons (t := 0) Z (Sub.cons (t := 2) Z Sub.nil))) (J := fun M w m => ∃ (v : Value) (n : Nat) (cs : List Value) (xs : List (BHeld)) (k : Nat) (G : PH), M = [(4, .int .i64 (k : Int)), (3, v)] ∧ PLe G0 G ∧ Hp w0 G0 [] w G [acc 153 3 v n cs] ∧ (Chk heldE 3 G cs xs ∧ n = xs.length ∧ k ≤ list.length ∧ xs.length = k ∧ xs = list.take k) ∧ m = (list.length - k)) (h0 := ⟨_, _, _, [], 0, _, Z, PLe.refl _, H, ?inv, Z⟩) (round := ?round)
 case inv => exact ⟨(Chk.nil (E := heldE) (sz := 3) (G := G0)),  by first | rfl | simp | (simp; omega) | omega, (by simp)⟩
 case round =>
  rintro _ _ _ ⟨v, n, cs, xs, k, G2, rfl, hle2, H, hinv2, rfl⟩
  have hlist := hlist.up hle2
  obtain ⟨hchk2_0, _, hinv2⟩ := hinv2
  obtain ⟨_, _, rfl⟩ := H.accShape (k := 0) rfl
  obtain ⟨_, hxl, hxs⟩ := hinv2
  refine W_seq (q2 (pe 2 Z (lN Z (pe 1 Z (q3 ?_)))))
  refine W_cond Z ?_ ?_
  ·intro hc3
   try simp only [nrm] at hc3
   refine W_skip (N_K (W_seq (W_block (q2 (pe 2 Z (iP k hlist Z3 Z ?_)))))); intro _ _ z4 _ hz4 hE4 hrow4
   obtain ⟨_, _, _, rfl, _, hr4, _, _, _⟩ := ox hE4
   refine o_loadagg_P H isAgg153 sizeOf153 Z Z hrow4 Z (xal H Z ?_); intro _ _ _ H
   refine xst 0 H Z8 ?_; intro _ H
   refine q1 (xbs H Z7 ?_); intro _ _ _ H
   have H := H.blkAcc 1 (k := 0) (n := 0) rfl rfl (by decide)
   refine fA 1 Z (lB 1 H Z3 ?_)
   refine o_append_P 0 H hr4 (by intro _ cs hz _ hu; obtain ⟨rfl, _⟩ := hz; simp at hu; subst hu; rfl) (sz := 1) (bytes := 8) underlying33 typeInfo3 ⟨_, rfl, rfl⟩ rfl rfl rfl rfl rfl rfl rfl oM rfl ?_; intro _ _ css8 hcl8 hcs8 H
   have hchk8 : Chk intE 1 G2 ([] ++ css8.flatten) _ := ⟨css8, rfl, hcl8, hcs8⟩
   obtain ⟨_, _, rfl⟩ := H.accShape (k := 0) rfl
   refine fA 1 Z (xst 1 H Z8 ?_); intro _ H
   refine q3 (W_region (mV Z (lA 1 3 H Z4 (xbs H Z7 ?_)))); intro _ _ _ H
   refine o_append1 2 H (sz := 3) (bytes := 40) underlying23 typeInfo153 ⟨_, Z, Z⟩ Z Z Z Z Z Z Z Z Z Z oM Z ?_; intro _ _ H
   obtain ⟨_, H, hsg12, hsr12⟩ := H.shut' (k := 0) rfl hchk8 aN aN
   have hchk2_0 := hchk2_0.up hsg12
   have hle2 := hle2.trans hsg12
   have hchk11 := hchk2_0.snoc (show heldE _ z4 _ from ⟨_, _, _, rfl, ⟨by first | omega | (dsimp only; omega), by first | omega | (dsimp only; omega)⟩, hsr12, ⟨by first | omega | (dsimp only; omega), by first | omega | (dsimp only; omega)⟩⟩) rfl
   obtain ⟨_, _, rfl⟩ := H.accShape (k := 1) rfl
   refine aG Z (R_nil (N_B (N_K (W_region (mV Z (aD Z2 (aG Z (R_nil ?_))))))))
   have H := H.dl 0
   refine N_lp (hJ := ⟨_, _, _, (xs ++ [z4]), k + 1, _, Z, hle2, H, ?inv, Z⟩) (hm := ?hm)
   case hm => omega
   case inv => exact ⟨hchk11, aN, (by exact ⟨by omega, by simp [hxl], by rw [Sp.take_succ' hz4, hxs]⟩)⟩
  intro hc3'
  try simp only [nrm] at hc3'
  refine W_exit (N_K_exit (N_LP_exit (N_B_same (N_K (q2 (pe 2 Z (q3 (W_ret (rt1 results146 Z ?_)))))))))
  obtain rfl : k = list.length := by omega
  rw [List.take_length] at hxs
  subst hxs
  exact H.retO (k := 0) rfl (AccOf.mk (by assumption) hchk2_0) (acc_nd _ _ _ _ _)
theorem l12At_c (w0 : World) (G0 : PH) (hG : PSub G0 w0) (vlist : Value) (list : List (BSnap)) (hlist : RdSn G0 vlist list) (name : Bs) (hname : name.length ≤ 16777216)  :
  Calls Tryz.prog 64 #[vlist, str name] w0 (Rets w0 (.int .i64 (Sp.l12At list name))) := by
 obtain ⟨alist, klist, rfl⟩ := hlist.shape
 have hlimlist : list.length ≤ 1099511627776 := hlist.lim
 have H := Hp.init hG
 refine calls_of_W (l := [.slice alist list.length klist, str name]) func64 Z ntmps64 Z (q2 (aG Z (q3 (W_seq (q2 (aG Z (q3 (W_block ?_))))))))
 refine W_lp (hf := (Sub.cons (t := 0) Z (Sub.cons (t := 1) Z Sub.nil))) (J := fun M w m => ∃ (k : Nat) (G : PH), M = [(5, .int .i64 (k : Int))] ∧ PLe G0 G ∧ Hp w0 G0 [] w G [] ∧ (k ≤ list.length ∧ (∀ j, j < k → ∀ y, list[j]? = some y → decide (y.name = name) = false)) ∧ m = (list.length - k)) (h0 := ⟨0, _, Z, PLe.refl _, H, ?inv, Z⟩) (round := ?round)
 case inv => exact ⟨by omega, fun j hj => by omega⟩
 case round =>
  rintro _ _ _ ⟨k, _, rfl, hle1, H, hinv1, rfl⟩
  have hlist := hlist.up hle1
  obtain ⟨_, hall⟩ := hinv1
  refine W_seq (q2 (pe 2 Z (lN Z (pe 1 Z (q3 ?_)))))
  refine W_cond Z ?_ ?_
  ·intro hc2
   try simp only [nrm] at hc2
   refine W_skip (N_K (W_seq (W_block (q2 (pe 2 Z (iP k hlist Z3 Z ?_)))))); intro _ _ _ _ hz3 hE3 hrow3
   obtain ⟨_, _, _, rfl, _, _, _, _⟩ := ox hE3
   refine fA 0 Z (lP H hrow3 0 Z2 (mV Z (o_seql Z Z Z (q3 ?_))))
   refine W_cond Z ?_ ?_
   ·intro hc4
    try simp only [nrm] at hc4
    refine q2 (pe 2 Z (q3 (W_ret (N_B_ret (N_K_ret (N_LP_ret (N_B_ret (N_K_ret (rt1 results64 Z ?_)))))))))
    exact H.rets (congrArg (Value.int .i64) (by rw [Sp.l12At, Sp.atS, Sp.find_at hall hz3 (by simp; exact hc4)]; rfl))
   intro hc4'
   try simp only [nrm] at hc4'
   refine W_skip (N_B (N_K (W_region (mV Z (aD Z2 (aG Z (R_nil ?_)))))))
   refine N_lp (hJ := ⟨k + 1, _, Z, hle1, H, ?inv, Z⟩) (hm := ?hm)
   case hm => omega
   case inv => exact ⟨by omega, Sp.none_succ hall hz3 (by simp; exact hc4')⟩
  intro hc2'
  try simp only [nrm] at hc2'
  refine W_exit (N_K_exit (N_LP_exit (N_B_same (N_K (q2 (aG Z (q3 (W_ret (rt1 results64 Z ?_)))))))))
  exact H.rets (congrArg (Value.int .i64) (by rw [Sp.l12At, Sp.atS, Sp.find_none hall oM]; rfl))
end Go.Proofs.Tst

namespace Go.Proofs.Tst
open Go Fw Tryz
theorem l3Free_c (w0 : World) (G0 : PH) (hG : PSub G0 w0) (vlist : Value) (list : List (BHeld)) (hlist : RdH G0 vlist list)  :
  Calls Tryz.prog 278 #[vlist] w0 (Rets w0 (.int .i64 (Sp.freeId list : Int))) := by
 obtain ⟨alist, klist, rfl⟩ := hlist.shape
 have hlimlist : list.length ≤ 1099511627776 := hlist.lim
 have H := Hp.init hG
 refine calls_of_W (l := [.slice alist list.length klist]) func278 Z ntmps278 Z (q2 (aG Z (q1 (aG Z (q3 (W_seq (W_block ?_)))))))
 refine W_lp (hf := (Sub.cons (t := 0) Z (Sub.cons (t := 2) Z Sub.nil))) (J := fun M w m => ∃ (k : Nat) (G : PH), M = [(3, .int .i64 ((k : Int) + 1))] ∧ PLe G0 G ∧ Hp w0 G0 [] w G [] ∧ (∀ j : Nat, j < k → (Sp.atH list ((j : Int) + 1)).isSome = true) ∧ m = (list.length + 1 - k)) (h0 := ⟨0, _, Z, PLe.refl _, H, ?inv, Z⟩) (round := ?round)
 case inv => exact fun j hj => by omega
 case round =>
  rintro _ _ _ ⟨k, _, rfl, hle1, H, hinv1, rfl⟩
  have hlist := hlist.up hle1
  have hall := hinv1; have hkl := Sp.free_le hall
  refine W_seq (q2 (pe 2 Z (xr H Z2 (l3At_c _ _ H.sub _ _ hlist _ ) ?_))); intro _ H
  refine pe 1 Z (q3 ?_)
  refine W_cond Z ?_ ?_
  ·intro hc3
   try simp only [nrm] at hc3
   refine W_skip (N_K (W_block (W_region (mV Z (aD Z2 (aG Z (R_nil (N_B ?_))))))))
   refine N_lp (hJ := ⟨k + 1, _, Z, hle1, H, ?inv, Z⟩) (hm := ?hm)
   case hm => omega
   case inv => exact Sp.upto_succ (p := fun j : Nat => (Sp.atH list ((j : Int) + 1)).isSome) hall (Sp.isSome_of hc3)
  intro hc3'
  try simp only [nrm] at hc3'
  refine W_exit (N_K_exit (N_LP_exit (N_B_same (N_K (q2 (pe 2 Z (q3 (W_ret (rt1 results278 Z ?_)))))))))
  exact H.rets (congrArg (Value.int .i64) (by rw [Sp.free_eq hall (Sp.isNone_of hc3')]; rfl))
end Go.Proofs.Tst

namespace Go.Proofs.Tst
open Go Fw Tryz
theorem l3With_c (w0 : World) (G0 : PH) (hG : PSub G0 w0) (vlist : Value) (list : List (BHeld)) (hlist : RdH G0 vlist list) (vbytes : Value) (bytes : List (Int)) (hbytes : RdI G0 vbytes bytes) (hS : list.length ≤ 1000000) :
  Calls Tryz.prog 279 #[vlist, vbytes] w0 (RetO w0 G0 (AccOf heldE 3 153 (Sp.l3With list bytes))) := by
 obtain ⟨alist, klist, rfl⟩ := hlist.shape
 have hlimlist : list.length ≤ 1099511627776 := hlist.lim
 obtain ⟨abytes, kbytes, rfl⟩ := hbytes.shape
 have hlimbytes : bytes.length ≤ 1099511627776 := hbytes.lim
 have hfr := Sp.free_lt list
 have H := Hp.init hG
 refine calls_of_W (l := [.slice alist list.length klist, .slice abytes bytes.length kbytes]) func279 Z ntmps279 Z (q2 (aG Z (q1 (mV Z (xr H Z2 (l3Free_c _ _ H.sub _ _ hlist ) ?_))))); intro _ H
 refine aG Z (q1 (xbs H Z7 ?_)); intro _ _ _ H
 have H := H.blkAcc 3 (k := 0) (n := 0) rfl rfl (by decide)
 refine aG Z (q1 (aG Z (q1 (mV Z (xbs H Z7 ?_))))); intro _ _ _ H
 have H := H.blkAcc 1 (k := 0) (n := 0) rfl rfl (by decide)
 refine mV Z ?_
 refine o_append_P 0 H hbytes (by intro _ cs hz _ hu; obtain ⟨rfl, _⟩ := hz; simp at hu; subst hu; rfl) (sz := 1) (bytes := 8) underlying33 typeInfo3 ⟨_, rfl, rfl⟩ rfl rfl rfl rfl rfl rfl rfl oM rfl ?_; intro _ _ css4 hcl4 hcs4 H
 have hchk4 : Chk intE 1 G0 ([] ++ css4.flatten) _ := ⟨css4, rfl, hcl4, hcs4⟩
 obtain ⟨_, _, rfl⟩ := H.accShape (k := 0) rfl
 refine o_build bf153 Z Z Z (xal H Z ?_); intro b5 _ _ H
 refine xst 0 H Z8 ?_; intro _ H
 refine q1 (mV Z (xc Z2 (l3Copy_c _ _ H.sub _ _ hlist ) ?_))
 rintro _ _ ⟨_, _, _, g7, rfl, ⟨_, rfl, hchk7⟩, hp7, hq7, hs7⟩
 have H := H.growO g7 hp7 hq7 hs7; obtain ⟨_, _, rfl⟩ := H.accShape (k := 0) rfl
 have hchk4 := hchk4.up g7.le
 refine ⟨_, Z, ?_⟩
 refine aG Z (q3 (W_seq (q2 (aG Z (q3 (W_block ?_))))))
 obtain ⟨_, H, hsg8, hsr8⟩ := H.shut' (k := 2) rfl hchk4 aN aN
 have hchk7 := hchk7.up hsg8
 obtain ⟨G9, H, hsg9, hsr9⟩ := H.shut' (k := 0) rfl hchk7 aN aN
 have hsr8 := hsr8.up hsg9
 obtain ⟨ln10, hln10, H⟩ := H.name (k := 0) rfl
 refine W_lp (hf := (Sub.cons (t := 4) Z (Sub.cons (t := 5) Z (Sub.cons (t := 8) Z (Sub.cons (t := 9) Z Sub.nil))))) (J := fun M w m => ∃ (v : Value) (n : Nat) (cs : List Value) (xs : List (BHeld)) (d : Bool) (k : Nat) (G : PH), M = [(7, .bool d), (10, .int .i64 (k : Int)), (6, v)] ∧ PLe G9 G ∧ Hp w0 G0 [] w G [blk b5 (cl ln10 153), acc 153 3 v n cs] ∧ (Chk heldE 3 G cs xs ∧ n = xs.length ∧ k ≤ list.length ∧ xs.length ≤ k + 1 ∧ (d = false → xs = list.take k ∧ (list.take k).all (Sp.idF list) = true) ∧ (d = true → xs ++ list.drop k = Sp.l3With list bytes)) ∧ m = (list.length - k)) (h0 := ⟨_, _, _, [], false, 0, _, Z, PLe.refl _, H, ?inv, Z⟩) (round := ?round)
 case inv => exact ⟨(Chk.nil (E := heldE) (sz := 3) (G := G9)),  by first | rfl | simp | (simp; omega) | omega, (by simp)⟩
 case round =>
  rintro _ _ _ ⟨v, n, cs, xs, d, k, _, rfl, hle11, H, hinv11, rfl⟩
  subst hln10
  have hsr8 := hsr8.up hle11
  have hsr9 := hsr9.up hle11
  obtain ⟨hchk11_0, _, hinv11⟩ := hinv11
  obtain ⟨_, _, rfl⟩ := H.accShape (k := 1) rfl
  obtain ⟨_, _, hd0, hd1⟩ := hinv11
  refine W_seq (q2 (pe 2 Z (lN Z (pe 1 Z (q3 ?_)))))
  refine W_cond Z ?_ ?_
  ·intro hc12
   try simp only [nrm] at hc12
   refine W_skip (N_K (W_seq (W_block (W_seq (q2 (pe 3 Z ?_))))))
   refine R_case (t := 29) Z ?_ ?_
   ·intro hc13
    try simp only [nrm] at hc13
    refine pe 2 Z (gR Z (iP k hsr9 Z3 Z ?_)); intro _ _ z14 _ hz14 hE14 hrow14
    obtain ⟨_, _, _, rfl, _, _, _, _, _⟩ := ox hE14
    refine gR Z (fA 0 Z (gR Z (lP H hrow14 0 Z2 (pe 3 Z (q3 ?_)))))
    refine W_cond Z ?_ ?_
    ·intro hc15
     try simp only [nrm] at hc15
     refine q2 (mV Z (lA 0 3 H Z4 (xbs H Z7 ?_))); intro _ _ _ H
     refine o_append1 1 H (sz := 3) (bytes := 40) underlying23 typeInfo153 ⟨_, Z, Z⟩ Z Z Z Z Z Z Z Z Z Z oM Z ?_; intro _ _ H
     have hchk17 := hchk11_0.snoc (show heldE _ ⟨(Sp.freeId list : Int), bytes, 1⟩ _ from ⟨_, _, _, rfl, ⟨by first | omega | (dsimp only; omega), by first | omega | (dsimp only; omega)⟩, hsr8, ⟨by first | omega | (dsimp only; omega), by first | omega | (dsimp only; omega)⟩⟩) rfl
     obtain ⟨_, _, rfl⟩ := H.accShape (k := 1) rfl
     refine aG Z (q3 (W_region (aG Z (q3 (W_region (pe 3 Z (iP k hsr9 Z3 Z ?_))))))); intro _ _ z18 _ hz18 hE18 hrow18
     obtain ⟨_, _, _, rfl, _, hr18, _, _, _⟩ := ox hE18
     have hzz18 : z14 = z18 := Option.some.inj (hz14.symm.trans hz18)
     subst hzz18
     refine o_loadagg_P H isAgg153 sizeOf153 Z Z hrow18 Z (xbs H Z7 ?_); intro _ _ _ H
     refine o_append1 1 H (sz := 3) (bytes := 40) underlying23 typeInfo153 ⟨_, Z, Z⟩ Z Z Z Z Z Z Z Z Z Z oM Z ?_; intro _ _ H
     have hchk20 := hchk17.snoc (show heldE _ z14 _ from ⟨_, _, _, rfl, ⟨by first | omega | (dsimp only; omega), by first | omega | (dsimp only; omega)⟩, hr18, ⟨by first | omega | (dsimp only; omega), by first | omega | (dsimp only; omega)⟩⟩) rfl
     obtain ⟨_, _, rfl⟩ := H.accShape (k := 1) rfl
     refine aG Z (R_nil (N_B (N_K (W_region (mV Z (aD Z2 (aG Z (R_nil ?_))))))))
     refine N_lp (hJ := ⟨_, _, _, ((xs ++ [⟨(Sp.freeId list : Int), bytes, 1⟩]) ++ [z14]), true, k + 1, _, Z, hle11, H, ?inv, Z⟩) (hm := ?hm)
     case hm => omega
     case inv => exact ⟨hchk20, aN, (by exact ⟨by omega, by have := congrArg List.length (hd0 (by assumption)).1; simp at this ⊢; omega, by simp, fun _ => Sp.ins_new (F := Sp.idF list) (hd0 (by assumption)) hz14 (by simp [Sp.idF]; omega)⟩)⟩
    intro hc15'
    try simp only [nrm] at hc15'
    refine W_skip (N_K (W_region (pe 3 Z (iP k hsr9 Z3 Z ?_)))); intro _ _ z22 _ hz22 hE22 hrow22
    obtain ⟨_, _, _, rfl, _, hr22, _, _, _⟩ := ox hE22
    have hzz22 : z14 = z22 := Option.some.inj (hz14.symm.trans hz22)
    subst hzz22
    refine o_loadagg_P H isAgg153 sizeOf153 Z Z hrow22 Z (xbs H Z7 ?_); intro _ _ _ H
    refine o_append1 1 H (sz := 3) (bytes := 40) underlying23 typeInfo153 ⟨_, Z, Z⟩ Z Z Z Z Z Z Z Z Z Z oM Z ?_; intro _ _ H
    have hchk24 := hchk11_0.snoc (show heldE _ z14 _ from ⟨_, _, _, rfl, ⟨by first | omega | (dsimp only; omega), by first | omega | (dsimp only; omega)⟩, hr22, ⟨by first | omega | (dsimp only; omega), by first | omega | (dsimp only; omega)⟩⟩) rfl
    obtain ⟨_, _, rfl⟩ := H.accShape (k := 1) rfl
    refine aG Z (R_nil (N_B (N_K (W_region (mV Z (aD Z2 (aG Z (R_nil ?_))))))))
    refine N_lp (hJ := ⟨_, _, _, (xs ++ [z14]), d, k + 1, _, Z, hle11, H, ?inv, Z⟩) (hm := ?hm)
    case hm => omega
    case inv => exact ⟨hchk24, aN, (by first | exact ⟨by omega, by simp; omega, fun h => ⟨by rw [(hd0 h).1, Sp.take_succ' hz14], Sp.all_take (hd0 h).2 hz14 (by simp [Sp.idF]; omega)⟩, fun h => Sp.ins_old (hd1 h) hz14⟩ | exact ⟨by omega, by simp; omega, fun h => absurd h (by simp [*]), fun h => Sp.ins_old (hd1 h) hz14⟩)⟩
   intro hc13'
   try simp only [nrm] at hc13'
   refine pe 8 Z (q3 (W_false Z (W_skip (N_K (W_region (pe 3 Z (iP k hsr9 Z3 Z ?_))))))); intro _ _ z26 _ hz26 hE26 hrow26
   obtain ⟨_, _, _, rfl, _, hr26, _, _, _⟩ := ox hE26
   refine o_loadagg_P H isAgg153 sizeOf153 Z Z hrow26 Z (xbs H Z7 ?_); intro _ _ _ H
   refine o_append1 1 H (sz := 3) (bytes := 40) underlying23 typeInfo153 ⟨_, Z, Z⟩ Z Z Z Z Z Z Z Z Z Z oM Z ?_; intro _ _ H
   have hchk28 := hchk11_0.snoc (show heldE _ z26 _ from ⟨_, _, _, rfl, ⟨by first | omega | (dsimp only; omega), by first | omega | (dsimp only; omega)⟩, hr26, ⟨by first | omega | (dsimp only; omega), by first | omega | (dsimp only; omega)⟩⟩) rfl
   obtain ⟨_, _, rfl⟩ := H.accShape (k := 1) rfl
   refine aG Z (R_nil (N_B (N_K (W_region (mV Z (aD Z2 (aG Z (R_nil ?_))))))))
   refine N_lp (hJ := ⟨_, _, _, (xs ++ [z26]), d, k + 1, _, Z, hle11, H, ?inv, Z⟩) (hm := ?hm)
   case hm => omega
   case inv => exact ⟨hchk28, aN, (by first | exact ⟨by omega, by simp; omega, fun h => ⟨by rw [(hd0 h).1, Sp.take_succ' hz26], Sp.all_take (hd0 h).2 hz26 (by simp [Sp.idF]; omega)⟩, fun h => Sp.ins_old (hd1 h) hz26⟩ | exact ⟨by omega, by simp; omega, fun h => absurd h (by simp [*]), fun h => Sp.ins_old (hd1 h) hz26⟩)⟩
  intro hc12'
  try simp only [nrm] at hc12'
  refine W_exit (N_K_exit (N_LP_exit (N_B_same (N_K (W_seq (q2 (pe 2 Z (q3 ?_))))))))
  refine W_cond Z ?_ ?_
  ·intro hc30
   try simp only [nrm] at hc30
   refine W_region (mV Z (lA 0 3 H Z4 (xbs H Z7 ?_))); intro _ _ _ H
   refine o_append1 1 H (sz := 3) (bytes := 40) underlying23 typeInfo153 ⟨_, Z, Z⟩ Z Z Z Z Z Z Z Z Z Z oM Z ?_; intro _ _ H
   have hchk32 := hchk11_0.snoc (show heldE _ ⟨(Sp.freeId list : Int), bytes, 1⟩ _ from ⟨_, _, _, rfl, ⟨by first | omega | (dsimp only; omega), by first | omega | (dsimp only; omega)⟩, hsr8, ⟨by first | omega | (dsimp only; omega), by first | omega | (dsimp only; omega)⟩⟩) rfl
   obtain ⟨_, _, rfl⟩ := H.accShape (k := 1) rfl
   refine aG Z (q1 (pe 2 Z (q3 (W_ret (rt1 results279 Z ?_)))))
   have hx := hd0 (by assumption)
   rw [List.take_of_length_le oM] at hx
   obtain ⟨rfl, hx2⟩ := hx
   exact H.retO (k := 1) rfl (by rw [Sp.l3With_eq, ← Sp.ins_end _ hx2]; exact AccOf.mk aN hchk32) (acc_nd _ _ _ _ _)
  intro hc30'
  try simp only [nrm] at hc30'
  refine W_skip (N_K (q2 (pe 2 Z (q3 (W_ret (rt1 results279 Z ?_))))))
  have hx := hd1 (by assumption)
  rw [List.drop_of_length_le oM, List.append_nil] at hx
  subst hx
  exact H.retO (k := 1) rfl (by skip; exact AccOf.mk aN hchk11_0) (acc_nd _ _ _ _ _)
end Go.Proofs.Tst

namespace Go.Proofs.Tst
open Go Fw Tryz
theorem StorePut_c (w0 : World) (G0 : PH) (hG : PSub G0 w0) (vlist : Value) (list : List (BHeld)) (hlist : RdH G0 vlist list) (vbytes : Value) (bytes : List (Int)) (hbytes : RdI G0 vbytes bytes) (hS : list.length ≤ 1000000) :
  Calls Tryz.prog 256 #[vlist, vbytes] w0 (RetO w0 G0 (fun G v r => ∃ u, v = .tuple #[u, .int .i64 (((Sp.StorePut list bytes).map (·.2)).getD 0), .bool (Sp.StorePut list bytes).isSome] ∧ AccOf heldE 3 153 (((Sp.StorePut list bytes).map (·.1)).getD []) G u r ∧ inI (((Sp.StorePut list bytes).map (·.2)).getD 0))) := by
 obtain ⟨alist, klist, rfl⟩ := hlist.shape
 have hlimlist : list.length ≤ 1099511627776 := hlist.lim
 obtain ⟨abytes, kbytes, rfl⟩ := hbytes.shape
 have hlimbytes : bytes.length ≤ 1099511627776 := hbytes.lim
 have H := Hp.init hG
 refine calls_of_W (l := [.slice alist list.length klist, .slice abytes bytes.length kbytes]) func256 Z ntmps256 Z (q2 (pe 3 Z (q3 (W_seq (q2 (mV Z (xr H Z2 (StoreValid_c _ _ H.sub _ _ hlist ) ?_))))))); intro _ H
 refine pe 2 Z ?_
 refine R_case (t := 13) Z ?_ ?_
 ·intro hc2
  try simp only [nrm] at hc2
  refine pe 4 Z (q3 (W_true Z (q2 (xbs H Z7 ?_)))); intro _ _ _ H
  have H := H.blkAcc 3 (k := 0) (n := 0) rfl rfl (by decide)
  refine pe 3 Z (q3 (W_ret (N_K_ret (ret_gen (rs := [.tmp 4, .tmp 5, .tmp 6]) (vs := [_, _, _]) results256 ⟨Z, Z, Z, trivial⟩ ?_))))
  have hN : Sp.StorePut list bytes = none := by simp [Sp.StorePut, hc2]
  exact H.retO (k := 0) rfl (by rw [hN]; exact ⟨_, rfl, AccOf.mk aN (Chk.nil (E := heldE) (sz := 3) (G := G0)), (by simp [inI])⟩) (acc_nd _ _ _ _ _)
 intro hc2'
 try simp only [nrm] at hc2'
 refine pe 1 Z (gR Z (xr H Z2 (BlockValid_c _ _ H.sub _ _ hbytes ) ?_)); intro _ H
 refine pe 2 Z (q3 ?_)
 refine W_cond Z ?_ ?_
 ·intro hc5
  try simp only [nrm] at hc5
  refine q2 (xbs H Z7 ?_); intro _ _ _ H
  have H := H.blkAcc 3 (k := 0) (n := 0) rfl rfl (by decide)
  refine pe 3 Z (q3 (W_ret (N_K_ret (ret_gen (rs := [.tmp 4, .tmp 5, .tmp 6]) (vs := [_, _, _]) results256 ⟨Z, Z, Z, trivial⟩ ?_))))
  have hN : Sp.StorePut list bytes = none := by simp [Sp.StorePut, hc5]
  exact H.retO (k := 0) rfl (by rw [hN]; exact ⟨_, rfl, AccOf.mk aN (Chk.nil (E := heldE) (sz := 3) (G := G0)), (by simp [inI])⟩) (acc_nd _ _ _ _ _)
 intro hc5'
 try simp only [nrm] at hc5'
 refine W_skip (N_K (q2 (mV Z (xc Z2 (l3Copy_c _ _ H.sub _ _ hlist ) ?_))))
 rintro _ _ ⟨G7, _, _, g7, rfl, ⟨_, rfl, hchk7⟩, hp7, hq7, hs7⟩
 have H := H.growO g7 hp7 hq7 hs7; obtain ⟨_, _, rfl⟩ := H.accShape (k := 0) rfl
 have hlist := hlist.up g7.le
 have hbytes := hbytes.up g7.le
 refine ⟨_, Z, ?_⟩
 refine aG Z (q1 (pe 2 Z (xr H Z2 (l3Like_c _ _ H.sub _ _ hlist _ _ hbytes ) ?_))); intro _ H
 refine aG Z (q1 (mV Z (xr H Z2 (l3Free_c _ _ H.sub _ _ hlist ) ?_))); intro _ H
 refine aG Z (q3 (W_seq (q2 (pe 2 Z (q3 ?_)))))
 refine W_cond Z ?_ ?_
 ·intro hc10
  try simp only [nrm] at hc10
  obtain ⟨i, _, hi1, hi2, _, _, _⟩ := Sp.at_nat hc10
  refine q2 (pe 4 Z (o_index_A 0 H i Z hchk7 underlying23 sizeOf153 Z Z Z hi2 aN aN ?_)); intro _ z11 _ hba11 hz11 hE11 hg11; cases hba11
  obtain ⟨_, _, _, rfl, _, _, _, _, _⟩ := ox hE11
  have hsv := Sp.valid_at hc2' hz11
  refine fA 2 Z (o_load_A 0 H isAgg3 Z Z Z (hg11 2 _ Z) (aD Z2 (o_index_A 0 H i Z hchk7 underlying23 sizeOf153 Z Z Z hi2 aN aN ?_))); intro _ z13 _ hba13 hz13 hE13 _; cases hba13
  obtain ⟨_, _, _, rfl, _, _, _, _, _⟩ := ox hE13
  have hzz13 : z11 = z13 := Option.some.inj (hz11.symm.trans hz13)
  subst hzz13
  refine fA 2 Z ?_
  have hcl14 := hchk7.length
  refine o_store_A 0 H sizeOf3 Z Z Z Z Z (by simp only [vc, List.length_cons, List.length_nil]; omega) ?_; intro _ H
  have hchk14 := hchk7.put (x' := ⟨z11.id, z11.bytes, z11.uses + 1⟩) (off := 2) (vs := [_]) hz13 (fun cs hl hE => by obtain ⟨_, _, _, rfl, h1, h2, _⟩ := hE; exact ⟨_, _, _, rfl, h1, h2, ⟨by first | omega | (dsimp only; omega), by first | omega | (dsimp only; omega)⟩⟩) (by simp only [vc, List.length_cons, List.length_nil]; omega)
  refine q3 (W_region (pe 2 Z (o_index_A 0 H i Z hchk14 underlying23 sizeOf153 Z Z Z hi2 aN aN ?_))); intro _ _ _ hba15 hz15 hE15 hg15; cases hba15
  obtain ⟨_, _, _, rfl, _, _, _, _, _⟩ := ox hE15
  rw [List.getElem?_set_self oM] at hz15
  simp only [Option.some.injEq] at hz15
  subst hz15
  refine fA 0 Z (o_load_A 0 H isAgg3 Z Z Z (hg15 0 _ Z) (aG Z (q3 (W_seq (q2 (mV Z (xr H Z2 (StoreValid_c _ _ (H.lendSubL [0]) _ _ (H.lendRdL (k := 0) (ks := [0]) Z Z hchk14 aN aN) ) ?_))))))); intro _ H
  refine pe 1 Z (q3 ?_)
  refine W_cond Z ?_ ?_
  ·intro hc17
   try simp only [nrm] at hc17
   refine q2 (xbs H Z7 ?_); intro _ _ _ H
   have H := H.blkAcc 3 (k := 0) (n := 0) rfl rfl (by decide)
   refine pe 3 Z (q3 (W_ret (N_K_ret (ret_gen (rs := [.tmp 4, .tmp 5, .tmp 6]) (vs := [_, _, _]) results256 ⟨Z, Z, Z, trivial⟩ ?_))))
   have hN : Sp.StorePut list bytes = none := by (have hl : Sp.like list bytes = some i := hi1); simp [Sp.StorePut, hl, Sp.bump_at hz11, hc17]
   exact H.retO (k := 0) rfl (by rw [hN]; exact ⟨_, rfl, AccOf.mk aN (Chk.nil (E := heldE) (sz := 3) (G := G7)), (by simp [inI])⟩) (acc_nd _ _ _ _ _)
  intro hc17'
  try simp only [nrm] at hc17'
  refine W_skip (N_K (q2 (pe 5 Z (q3 (W_ret (ret_gen (rs := [.tmp 4, .tmp 5, .tmp 6]) (vs := [_, _, _]) results256 ⟨Z, Z, Z, trivial⟩ ?_))))))
  have hY : Sp.StorePut list bytes = some (list.set i ⟨z11.id, z11.bytes, z11.uses + 1⟩, z11.id) := by (have hl : Sp.like list bytes = some i := hi1); simp [Sp.StorePut, hc2', hc5', hl, Sp.bump_at hz11, hc17', hz11]
  exact H.retO (k := 0) rfl (by rw [hY]; exact ⟨_, rfl, AccOf.mk aN hchk14, ⟨by dsimp only [Option.map, Option.getD]; omega, by dsimp only [Option.map, Option.getD]; omega⟩⟩) (acc_nd _ _ _ _ _)
 intro hc10'
 try simp only [nrm] at hc10'
 refine W_region (pe 2 Z (xc Z2 (l3With_c _ _ H.sub _ _ hlist _ _ hbytes oM) ?_))
 rintro _ _ ⟨G19, _, _, g19, rfl, ⟨_, rfl, hchk19⟩, hp19, hq19, hs19⟩
 have H := H.growO g19 hp19 hq19 hs19; obtain ⟨_, _, rfl⟩ := H.accShape (k := 0) rfl
 refine ⟨_, Z, ?_⟩
 have hwl := Sp.l3With_len list bytes
 have hfr := Sp.free_lt list
 refine aG Z (q3 (W_seq (q2 (mV Z (xr H Z2 (StoreValid_c _ _ (H.lendSubL [0]) _ _ (H.lendRdL (k := 0) (ks := [0]) Z Z hchk19 aN aN) ) ?_))))); intro _ H
 refine pe 1 Z (q3 ?_)
 refine W_cond Z ?_ ?_
 ·intro hc21
  try simp only [nrm] at hc21
  refine q2 (xbs H Z7 ?_); intro _ _ _ H
  have H := H.blkAcc 3 (k := 0) (n := 0) rfl rfl (by decide)
  refine pe 3 Z (q3 (W_ret (N_K_ret (ret_gen (rs := [.tmp 4, .tmp 5, .tmp 6]) (vs := [_, _, _]) results256 ⟨Z, Z, Z, trivial⟩ ?_))))
  have hN : Sp.StorePut list bytes = none := by (have hl : Sp.like list bytes = none := Sp.at_none hc10'); simp [Sp.StorePut, hl, hc21]
  exact H.retO (k := 0) rfl (by rw [hN]; exact ⟨_, rfl, AccOf.mk aN (Chk.nil (E := heldE) (sz := 3) (G := G19)), (by simp [inI])⟩) (acc_nd _ _ _ _ _)
 intro hc21'
 try simp only [nrm] at hc21'
 refine W_skip (N_K (q2 (pe 5 Z (q3 (W_ret (ret_gen (rs := [.tmp 4, .tmp 5, .tmp 6]) (vs := [_, _, _]) results256 ⟨Z, Z, Z, trivial⟩ ?_))))))
 have hY : Sp.StorePut list bytes = some (Sp.l3With list bytes, (Sp.freeId list : Int)) := by (have hl : Sp.like list bytes = none := Sp.at_none hc10'); simp [Sp.StorePut, hc2', hc5', hl, hc21']
 exact H.retO (k := 0) rfl (by rw [hY]; exact ⟨_, rfl, AccOf.mk aN hchk19, ⟨by dsimp only [Option.map, Option.getD]; omega, by dsimp only [Option.map, Option.getD]; omega⟩⟩) (acc_nd _ _ _ _ _)
end Go.Proofs.Tst

