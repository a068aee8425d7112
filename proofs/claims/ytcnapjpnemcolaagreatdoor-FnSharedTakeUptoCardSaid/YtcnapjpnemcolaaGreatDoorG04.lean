/- Part 4 of the proof: the program logic and plain functions. Conditions: none. -/
import Derived.Test.YtcnapjpnemcolaaGreatDoorG02
import Derived.Test.YtcnapjpnemcolaaGreatDoorG03
import Derived.KernelRfl
import Derived.Test.YtcnapjpnemcolaaGreatDoorProg
import Derived.WalkKit
import Derived.LaidEql
import Derived.Stop.Asserts
import Derived.RowKitTokens
import Derived.Shelf.SlGeneric
import Derived.Shelf.Strings.Search1
import Derived.Shelf.Strings.Search2
import Derived.Shelf.Strings.Count
import Derived.Shelf.SlIterI.Nil
import Derived.Shelf.SortM.Plain
import Derived.Shelf.SortM.SortNone
import Derived.Ground.GgzProg
import Derived.Ground.SlgmProg
set_option linter.all false
set_option maxRecDepth 100000
set_option maxHeartbeats 1000000
namespace Fw
open Go
section
variable {α : Type}
def cnt (c : α → Nat) : List α → Nat
 | [] => 0
 | x :: r => c x + cnt c r
variable {f : Int → α → α} {c : α → Nat}
theorem cnt_append : ∀ (a b : List α), cnt c (a ++ b) = cnt c a + cnt c b
 | [], b => by simp [cnt]
 | x :: r, b => by simp [cnt, cnt_append r b]; omega
theorem take_succ {a : List α} {i : Nat} {x : α} (h : a[i]? = some x) : a.take (i + 1) = a.take i ++ [x] := by
 rw [List.take_add_one, h]; rfl
theorem cnt_succ {a : List α} {i : Nat} {x : α} (h : a[i]? = some x) : cnt c (a.take (i + 1)) = cnt c (a.take i) + c x := by
 rw [take_succ h, cnt_append]; simp [cnt]
theorem cnt_le {a : List α} {i : Nat} {x : α} (h : a[i]? = some x) : cnt c (a.take i) + c x ≤ cnt c a := by
 rw [← cnt_succ h]
 conv => rhs; rw [← List.take_append_drop (i + 1) a, cnt_append]
 omega
end
def mI (k : Int) (_ : Int) : Int := k
end Fw
namespace Fw
open Go
end Fw
namespace Sp
open Go Fw
theorem getH_mem {L : List BHeld} (nd : (L.map (·.id)).Nodup) {x : BHeld} (h : x ∈ L) : getH L x.id = x := by
 cases e : Sp.atH L x.id with
 | none => exact absurd (List.mem_map_of_mem h) (Fw.atH_none e)
 | some j =>
  obtain ⟨y, hy, hid⟩ := Fw.atH_some e
  rw [getH_some e hy]
  obtain ⟨i, hi⟩ := List.getElem?_of_mem h
  have h1 : (L.map (·.id))[i]? = some x.id := by simp [hi]
  have h2 : (L.map (·.id))[j]? = some x.id := by simp [hy, hid]
  obtain ⟨l1, e1⟩ := List.getElem?_eq_some_iff.1 h1
  obtain ⟨l2, e2⟩ := List.getElem?_eq_some_iff.1 h2
  have : i = j := by
   have hp := List.pairwise_iff_getElem.1 nd
   rcases Nat.lt_trichotomy i j with hlt | heq | hlt
   ·exact absurd (e1.trans e2.symm) (hp i j l1 l2 hlt)
   ·exact heq
   ·exact absurd (e2.trans e1.symm) (hp j i l2 l1 hlt)
  subst this
  rw [hi] at hy
  exact (Option.some.inj hy).symm
theorem at_mem {L : List BHeld} {a : Int} : (Sp.atH L a).isSome = true ↔ a ∈ L.map (·.id) := by
 constructor
 ·intro h
  obtain ⟨i, hi⟩ := Option.isSome_iff_exists.1 h
  obtain ⟨y, hy, rfl⟩ := Fw.atH_some hi
  exact List.mem_map_of_mem (List.mem_of_getElem? hy)
 ·intro h
  cases e : Sp.atH L a with
  | none => exact absurd h (Fw.atH_none e)
  | some i => rfl
theorem getH_not {L : List BHeld} {a : Int} (h : a ∉ L.map (·.id)) : getH L a = ⟨0, [], 0⟩ := by
 refine get_no ?_
 cases e : (Sp.atH L a).isSome with
 | false => rfl
 | true => exact absurd (at_mem.1 e) h
theorem getH_perm {L L' : List BHeld} (nd : (L.map (·.id)).Nodup) (hp : L.Perm L') (a : Int) : getH L' a = getH L a := by
 have hp2 : (L.map (·.id)).Perm (L'.map (·.id)) := hp.map _
 by_cases h : a ∈ L.map (·.id)
 ·obtain ⟨x, hx, rfl⟩ := List.mem_map.1 h
  rw [getH_mem nd hx, getH_mem (hp2.nodup_iff.1 nd) (hp.mem_iff.1 hx)]
 ·rw [getH_not h, getH_not (fun h' => h (hp2.mem_iff.2 h'))]
theorem getH_updH {L : List BHeld} (nd : (L.map (·.id)).Nodup) (y : BHeld) (a : Int) : getH (updH L y) a = if a = y.id then y else getH L a := by
 have hp := updH_perm nd y
 have hsub : ∀ x, x ∈ L.filter (fun x => decide (x.id ≠ y.id)) → x ∈ L ∧ x.id ≠ y.id := fun x hx => by simpa using List.mem_filter.1 hx
 have nd2 : ((y :: L.filter (fun x => decide (x.id ≠ y.id))).map (·.id)).Nodup := by
  rw [List.map_cons, List.nodup_cons]
  refine ⟨fun h => ?_, List.Nodup.sublist ((List.filter_sublist).map _) nd⟩
  obtain ⟨x, hx, e⟩ := List.mem_map.1 h
  exact (hsub x hx).2 e
 rw [getH_perm nd2 hp.symm]
 split
 ·next e => subst e; exact getH_mem nd2 (by simp)
 ·next e =>
  by_cases h : a ∈ L.map (·.id)
  ·obtain ⟨x, hx, rfl⟩ := List.mem_map.1 h
   rw [getH_mem nd hx]
   exact getH_mem nd2 (List.mem_cons_of_mem _ (List.mem_filter.2 ⟨hx, by simpa using e⟩))
  ·rw [getH_not h]
   refine getH_not (fun h' => ?_)
   simp only [List.map_cons, List.mem_cons] at h'
   rcases h' with h' | h'
   ·exact e h'
   ·obtain ⟨x, hx, rfl⟩ := List.mem_map.1 h'
    exact h (List.mem_map_of_mem (hsub x hx).1)
theorem getH_delH {L : List BHeld} (nd : (L.map (·.id)).Nodup) (id a : Int) : getH (delH L id) a = if a = id then ⟨0, [], 0⟩ else getH L a := by
 have hp := delH_perm nd id
 have hsub : ∀ x, x ∈ L.filter (fun x => decide (x.id ≠ id)) → x ∈ L ∧ x.id ≠ id := fun x hx => by simpa using List.mem_filter.1 hx
 have nd2 : ((L.filter (fun x => decide (x.id ≠ id))).map (·.id)).Nodup := List.Nodup.sublist ((List.filter_sublist).map _) nd
 rw [getH_perm nd2 hp.symm]
 split
 ·next e =>
  subst e
  refine getH_not (fun h' => ?_)
  obtain ⟨x, hx, e⟩ := List.mem_map.1 h'
  exact (hsub x hx).2 e
 ·next e =>
  by_cases h : a ∈ L.map (·.id)
  ·obtain ⟨x, hx, rfl⟩ := List.mem_map.1 h
   rw [getH_mem nd hx]
   exact getH_mem nd2 (List.mem_filter.2 ⟨hx, by simpa using e⟩)
  ·rw [getH_not h]
   refine getH_not (fun h' => ?_)
   obtain ⟨x, hx, rfl⟩ := List.mem_map.1 h'
   exact h (List.mem_map_of_mem (hsub x hx).1)
def us (L : List BHeld) (a : Int) : Int := (getH L a).uses
def by_ (L : List BHeld) (a : Int) : List Int := (getH L a).bytes
theorem us_nonneg {L : List BHeld} (hV : VH L) (a : Int) : 0 ≤ us L a := by
 unfold us
 cases h : (Sp.atH L a).isSome with
 | false => rw [get_no h]; simp
 | true => have := (get_ok hV h).2.2.1; omega
theorem us_pos {L : List BHeld} (hV : VH L) {a : Int} : 0 < us L a ↔ (Sp.atH L a).isSome = true := by
 unfold us
 cases h : (Sp.atH L a).isSome with
 | false => rw [get_no h]; simp
 | true => have := (get_ok hV h).2.2.1; simp; omega
theorem drop_step {L : List BHeld} (hV : VH L) {id : Int} (h : 0 < us L id) :
  ∃ L', StoreDrop L id = some L' ∧ VH L' ∧ ∀ a, us L' a = us L a - (if a = id then 1 else 0) ∧ (0 < us L' a → by_ L' a = by_ L a) := by
 have hs := (us_pos hV).1 h
 have hid := get_id hs
 by_cases hu : (getH L id).uses = 1
 ·obtain ⟨h1, h2⟩ := drop_get1 hV hs hu
  refine ⟨_, h1, h2, fun a => ?_⟩
  unfold us by_
  rw [getH_delH hV.nd]
  by_cases e : a = id
  ·subst e; simp [hu]
  ·simp [e]
 ·obtain ⟨h1, h2⟩ := drop_get2 hV hs hu
  refine ⟨_, h1, h2, fun a => ?_⟩
  unfold us by_
  rw [getH_updH hV.nd, ← hid]
  by_cases e : a = id
  ·subst e; simp
  ·simp [e]
theorem cnt1_cons (a x : Int) (r : List Int) : cnt1 a (x :: r) = (if a = x then 1 else 0) + cnt1 a r := by
 unfold cnt1
 rw [List.countP_cons]
 by_cases e : a = x
 ·subst e; simp; omega
 ·have : ¬ x = a := fun h => e h.symm
  simp [e, this]
theorem foldB_cons {α β : Type} {f : α → β → Option α} {b : β} {r : List β} {a a' : α} (h : f a b = some a') : foldB f (b :: r) (some a) = foldB f r (some a') := by
 simp [foldB, h]
theorem drops : ∀ (ids : List Int) {L : List BHeld}, VH L → (∀ a, (cnt1 a ids : Int) ≤ us L a) →
  ∃ L', foldB StoreDrop ids (some L) = some L' ∧ VH L' ∧ ∀ a, us L' a = us L a - (cnt1 a ids : Int) ∧ (0 < us L' a → by_ L' a = by_ L a)
 | [], L, hV, _ => ⟨L, rfl, hV, fun a => by simp [cnt1]⟩
 | x :: r, L, hV, h => by
  have hx := h x
  rw [cnt1_cons, if_pos rfl] at hx
  obtain ⟨L1, h1, h2, h3⟩ := drop_step hV (id := x) (by push_cast at hx; omega)
  obtain ⟨L2, g1, g2, g3⟩ := drops r h2 (fun a => by
   have h8 := h a
   rw [cnt1_cons] at h8
   have h4 := (h3 a).1
   by_cases e : a = x
   ·rw [if_pos e] at h8 h4; omega
   ·rw [if_neg e] at h8 h4; omega)
  refine ⟨L2, by rw [foldB_cons h1]; exact g1, g2, fun a => ?_⟩
  have h4 := h3 a
  have h5 := g3 a
  rw [cnt1_cons]
  refine ⟨?_, fun hp => ?_⟩
  ·have h8 := h4.1
   have h9 := h5.1
   by_cases e : a = x
   ·rw [if_pos e] at h8 ⊢; omega
   ·rw [if_neg e] at h8 ⊢; omega
  ·rw [h5.2 hp, h4.2 ?_]
   have := h5.1
   omega
theorem free_ok {L : List BHeld} (hV : VH L) {ids : List Int} (hl : l4Ids L ids = true) (h : ∀ a, (cnt1 a ids : Int) ≤ us L a) :
  ∃ L', FileFree L ids = some L' ∧ VH L' ∧ ∀ a, us L' a = us L a - (cnt1 a ids : Int) ∧ (0 < us L' a → by_ L' a = by_ L a) := by
 obtain ⟨L', h1, h2⟩ := drops ids hV h
 exact ⟨L', by simp [FileFree, valid_iff.2 hV, hl, h1], h2⟩
theorem keep_step {L : List BHeld} (hV : VH L) {id : Int} {L' : List BHeld} (h : StoreKeep L id = some L') : VH L' ∧ 0 < us L id ∧ ∀ a, us L' a = us L a + (if a = id then 1 else 0) ∧ by_ L' a = by_ L a := by
 have hs : (Sp.atH L id).isSome = true := by
  cases e : (Sp.atH L id).isSome with
  | true => rfl
  | false => rw [keep_no hV (.inl e)] at h; cases h
 have hu : (getH L id).uses < 999 := by
  by_cases h1 : (getH L id).uses < 999
  ·exact h1
  ·rw [keep_no hV (.inr (by omega))] at h; cases h
 obtain ⟨h1, h2⟩ := keep_get hV hs hu
 rw [h1] at h
 cases h
 have hid := get_id hs
 refine ⟨h2, (us_pos hV).2 hs, fun a => ?_⟩
 unfold us by_
 rw [getH_updH hV.nd, ← hid]
 by_cases e : a = id
 ·subst e; simp
 ·simp [e]
theorem put_step {L : List BHeld} (hV : VH L) {b : List Int} (hb : BlockValid b = true) {L' : List BHeld} {id : Int} (h : StorePut L b = some (L', id)) :
  VH L' ∧ (∀ a, us L' a = us L a + (if a = id then 1 else 0) ∧ (0 < us L a → by_ L' a = by_ L a)) ∧ by_ L' id = b := by
 cases e : like L b with
 | none =>
  by_cases hl : L.length < 16
  ·rw [put_new hV hb e hl] at h
   simp only [Option.some.injEq, Prod.mk.injEq] at h
   obtain ⟨rfl, rfl⟩ := h
   have hw := with_valid hV hb e hl
   have hf := (free_lt L).1
   obtain ⟨k, hk⟩ : ∃ k, freeId L = k + 1 := ⟨freeId L - 1, by omega⟩
   have hp := put_perm (L := L) b hk
   have hfi : (freeId L : Int) = (k : Int) + 1 := by omega
   have hg : ∀ a, getH (l3With L b) a = if a = (freeId L : Int) then ⟨(k : Int) + 1, b, 1⟩ else getH L a := fun a => by
    have hnd : ((updH L ⟨(k : Int) + 1, b, 1⟩).map (·.id)).Nodup := (hp.map (·.id)).nodup_iff.2 hw.nd
    rw [getH_perm hnd hp, getH_updH hV.nd, hfi]
   have h0 : getH L (freeId L : Int) = ⟨0, [], 0⟩ := getH_none (free_none L)
   refine ⟨hw, fun a => ?_, ?_⟩
   ·unfold us by_
    rw [hg]
    by_cases ea : a = (freeId L : Int)
    ·subst ea; simp [h0]
    ·simp [ea]
   ·unfold by_
    rw [hg, if_pos rfl]
  ·rw [put_full e (by omega)] at h; cases h
 | some i =>
  obtain ⟨hi, hp, _⟩ := List.findIdx?_eq_some_iff_getElem.1 e
  have hx : L[i]? = some L[i] := List.getElem?_eq_getElem hi
  rw [put_old hV hb e hx] at h
  obtain ⟨l, h1, h2⟩ := Option.map_eq_some_iff.1 h
  simp only [Prod.mk.injEq] at h2
  obtain ⟨rfl, rfl⟩ := h2
  obtain ⟨k1, k2, k3⟩ := keep_step hV h1
  refine ⟨k1, fun a => ⟨(k3 a).1, fun _ => (k3 a).2⟩, ?_⟩
  rw [(k3 _).2]
  unfold by_
  rw [getH_mem hV.nd (List.getElem_mem hi)]
  simpa [l2Same] using hp
end Sp
namespace Sp
open Go Fw
theorem puts : ∀ (bs : List (List Int)) {L : List BHeld} {acc : List Int} {s : List BHeld} {ids : List Int}, VH L → (∀ b, b ∈ bs → BlockValid b = true) → foldB put1 bs (some (L, acc)) = some (s, ids) →
  VH s ∧ ∃ new, ids = acc ++ new ∧ new.length = bs.length ∧ (∀ a, us s a = us L a + (cnt1 a new : Int) ∧ (0 < us L a → by_ s a = by_ L a)) ∧ ∀ (i : Nat) (id : Int), new[i]? = some id → some (by_ s id) = bs[i]?
 | [], L, acc, s, ids, hV, _, h => by
  simp only [foldB, List.foldl_nil, Option.some.injEq, Prod.mk.injEq] at h
  obtain ⟨rfl, rfl⟩ := h
  exact ⟨hV, [], by simp, rfl, fun a => by simp [cnt1], by simp⟩
 | b :: r, L, acc, s, ids, hV, hb, h => by
  cases e : StorePut L b with
  | none =>
   have : foldB put1 (b :: r) (some (L, acc)) = foldB put1 r none := by simp [foldB, put1, e]
   rw [this, foldB_none] at h
   cases h
  | some q =>
   obtain ⟨L1, id⟩ := q
   rw [foldB_cons (a' := (L1, acc ++ [id])) (by simp [put1, e])] at h
   obtain ⟨k1, k2, k3⟩ := put_step hV (hb b (by simp)) e
   obtain ⟨g1, new, g2, g3, g4, g5⟩ := puts r k1 (fun c hc => hb c (by simp [hc])) h
   refine ⟨g1, id :: new, by rw [g2]; simp, by simp [g3], fun a => ?_, fun i z hz => ?_⟩
   ·rw [cnt1_cons]
    have h8 := (k2 a).1
    have h9 := (g4 a).1
    have hn := us_nonneg hV a
    refine ⟨?_, fun hp => ?_⟩
    ·by_cases ea : a = id
     ·rw [if_pos ea] at h8 ⊢; omega
     ·rw [if_neg ea] at h8 ⊢; omega
    ·have h7 : us L a ≤ us L1 a := by
      by_cases ea : a = id
      ·rw [if_pos ea] at h8; omega
      ·rw [if_neg ea] at h8; omega
     rw [(g4 a).2 (by omega), (k2 a).2 hp]
   ·cases i with
    | zero =>
     simp only [List.getElem?_cons_zero, Option.some.injEq] at hz
     subst hz
     have h8 := (k2 id).1
     rw [if_pos rfl] at h8
     have hn := us_nonneg hV id
     rw [(g4 id).2 (by omega), k3]
     rfl
    | succ i =>
     simp only [List.getElem?_cons_succ] at hz ⊢
     exact g5 i z hz
theorem chunks_valid {b : List Int} (h : FileValid b = true) : ∀ c, c ∈ l4Cut b → BlockValid c = true := by
 intro c hc
 unfold l4Cut at hc
 obtain ⟨k, hk, rfl⟩ := List.mem_map.1 hc
 refine chunk_valid h ?_
 rw [chunk_len]
 have := List.mem_range.1 hk
 omega
theorem store_ok {L : List BHeld} (hV : VH L) {b : List Int} {s : List BHeld} {ids : List Int} (h : FileStore L b = some (s, ids)) :
  VH s ∧ ids.length = (l4Cut b).length ∧ (∀ a, us s a = us L a + (cnt1 a ids : Int) ∧ (0 < us L a → by_ s a = by_ L a)) ∧ ∀ (i : Nat) (id : Int), ids[i]? = some id → some (by_ s id) = (l4Cut b)[i]? := by
 unfold FileStore at h
 split at h
 ·rename_i hc
  simp only [Bool.and_eq_true] at hc
  obtain ⟨g1, new, g2, g3, g4, g5⟩ := puts (l4Cut b) hV (chunks_valid hc.2) h
  rw [List.nil_append] at g2
  subst g2
  exact ⟨g1, g3, g4, g5⟩
 ·cases h
theorem ids_stay {L s : List BHeld} (hV : VH L) (hs : VH s) (h : ∀ a, 0 < us L a → 0 < us s a ∧ by_ s a = by_ L a) {ids : List Int} (hl : l4Ids L ids = true) : l4Ids s ids = true := by
 refine ids_true (fun j hj => ?_) (ids_le hl)
 have hz : ids[j]? = some ids[j] := List.getElem?_eq_getElem hj
 have h1 : idsOk L ids j = true := by
  simp only [l4Ids, Bool.and_eq_true] at hl
  exact List.all_eq_true.1 hl.1 j (by simpa using hj)
 have hp : (Sp.atH L ids[j]).isSome = true := by
  cases e : (Sp.atH L ids[j]).isSome with
  | true => rfl
  | false => rw [idsOk_no hz e] at h1; cases h1
 have h2 := h _ ((us_pos hV).2 hp)
 rw [idsOk_get hz ((us_pos hs).1 h2.1)]
 rw [idsOk_get hz hp] at h1
 have h3 : (getH s ids[j]).bytes = (getH L ids[j]).bytes := h2.2
 rw [h3]
 exact h1
theorem ids_in {L : List BHeld} (hV : VH L) {ids : List Int} (hl : l4Ids L ids = true) {a : Int} (ha : a ∈ ids) : 0 < us L a := by
 obtain ⟨j, hz⟩ := List.getElem?_of_mem ha
 have hj := (List.getElem?_eq_some_iff.1 hz).1
 have h1 : idsOk L ids j = true := by
  simp only [l4Ids, Bool.and_eq_true] at hl
  exact List.all_eq_true.1 hl.1 j (by simpa using hj)
 refine (us_pos hV).2 ?_
 cases e : (Sp.atH L a).isSome with
 | true => rfl
 | false => rw [idsOk_no hz e] at h1; cases h1
theorem cnt1_pos {a : Int} {ids : List Int} : 0 < cnt1 a ids ↔ a ∈ ids := by
 unfold cnt1
 rw [List.countP_pos_iff]
 constructor
 ·rintro ⟨x, hx, e⟩
  have : x = a := by simpa using e
  exact this ▸ hx
 ·intro h
  exact ⟨a, h, by simp⟩
end Sp
namespace Sp
open Go Fw Fw.Nd
def cntL (l : List BItem) (a : Int) : Nat := (l.map (fun x => cnt1 a x.ids)).sum
theorem l11Count_eq (l : List BItem) (a : Int) : l11Count l a = cntL l a := by simp [l11Count, cntU, cntL]
theorem cntL_mem {l : List BItem} {x : BItem} (hx : x ∈ l) (a : Int) : cnt1 a x.ids ≤ cntL l a := by
 induction l with
 | nil => simp at hx
 | cons y r ih =>
  simp only [cntL, List.map_cons, List.sum_cons] at *
  rcases List.mem_cons.1 hx with rfl | hx
  ·omega
  ·have := ih hx; omega
theorem cntL_perm {l m : List BItem} (h : l.Perm m) (a : Int) : cntL l a = cntL m a := (h.map _).sum_nat
theorem cntL_cons (x : BItem) (l : List BItem) (a : Int) : cntL (x :: l) a = cnt1 a x.ids + cntL l a := by simp [cntL]
theorem cntL_zero {l : List BItem} {a : Int} (h : ∀ x, x ∈ l → a ∉ x.ids) : cntL l a = 0 := by
 induction l with
 | nil => rfl
 | cons y r ih =>
  rw [cntL_cons, ih (fun x hx => h x (by simp [hx]))]
  have := h y (by simp)
  rw [← cnt1_pos] at this
  omega
theorem vv_iff {u : BVol} : VolumeValid u = true ↔ VH u.store ∧ VT u.tree ∧ (∀ x, x ∈ u.tree → l4Ids u.store x.ids = true) ∧ ∀ a, us u.store a = (cntL u.tree a : Int) := by
 simp only [VolumeValid, Bool.and_eq_true, valid_iff, tvalid_iff]
 constructor
 ·rintro ⟨h1, ⟨h2, h3⟩, h4⟩
  have h4 : ∀ x, x ∈ u.tree → l4Ids u.store x.ids = true := fun x hx => List.all_eq_true.1 h4 x hx
  refine ⟨h2, h3, h4, fun a => ?_⟩
  by_cases ha : a ∈ u.store.map (·.id)
  ·obtain ⟨h, hh, rfl⟩ := List.mem_map.1 ha
   have := List.all_eq_true.1 h1 h hh
   simp only [usesOk, decide_eq_true_eq, l11Count_eq] at this
   rw [this, us, getH_mem h2.nd hh]
  ·rw [us, getH_not ha, cntL_zero]
   ·rfl
   ·intro x hx hax
    have := ids_in h2 (h4 x hx) hax
    rw [us, getH_not ha] at this
    exact absurd this (by simp)
 ·rintro ⟨h1, h2, h3, h4⟩
  refine ⟨List.all_eq_true.2 fun h hh => ?_, ⟨h1, h2⟩, List.all_eq_true.2 h3⟩
  simp only [usesOk, decide_eq_true_eq, l11Count_eq]
  rw [← h4, us, getH_mem h1.nd hh]
theorem nodup_paths {l : List BItem} (h : l.Pairwise ltp) : l.Nodup := by
 refine List.Pairwise.imp ?_ h
 intro a b hab e
 subst e
 exact absurd hab (by simp [ltp, lt_irrefl])
theorem put_perm2 {l t : List BItem} {x : BItem} (h : TreePut l x = some t) : VT l ∧ VT t ∧ l5Item x = true ∧ t.Perm (x :: l.filter (fun y => decide (y.path ≠ x.path))) := by
 unfold TreePut at h
 split at h
 ·rename_i hc
  simp only [Bool.and_eq_true] at hc
  have hv := tvalid_iff.1 hc.1
  simp at h
  obtain ⟨_, hp, rfl⟩ := h
  have hp := tvalid_iff.1 hp
  refine ⟨hv, hp, hc.2, ?_⟩
  have n1 := nodup_paths hp.asc
  have n2 : (x :: l.filter (fun y => decide (y.path ≠ x.path))).Nodup := by
   rw [List.nodup_cons]
   exact ⟨fun hm => by simpa using (List.mem_filter.1 hm).2, (nodup_paths hv.asc).sublist List.filter_sublist⟩
  rw [List.perm_ext_iff_of_nodup n1 n2]
  intro a
  rw [put_mem, List.mem_cons, List.mem_filter]
  simp
 ·cases h
theorem filter_none {l : List BItem} {p : Bs} (h : ∀ y, y ∈ l → y.path ≠ p) : l.filter (fun y => decide (y.path ≠ p)) = l := by
 rw [List.filter_eq_self]
 intro y hy
 simpa using h y hy
theorem filter_one {l : List BItem} (hs : l.Pairwise ltp) {x : BItem} (hx : x ∈ l) : l.Perm (x :: l.filter (fun y => decide (y.path ≠ x.path))) := by
 have n1 := nodup_paths hs
 have n2 : (x :: l.filter (fun y => decide (y.path ≠ x.path))).Nodup := by
  rw [List.nodup_cons]
  exact ⟨fun hm => by simpa using (List.mem_filter.1 hm).2, n1.sublist List.filter_sublist⟩
 rw [List.perm_ext_iff_of_nodup n1 n2]
 intro a
 rw [List.mem_cons, List.mem_filter]
 constructor
 ·intro ha
  by_cases e : a.path = x.path
  ·left
   obtain ⟨i, h1, h2⟩ := (uniq_at hs (p := x.path)).2.1 _ ha e
   obtain ⟨j, h3, h4⟩ := (uniq_at hs (p := x.path)).2.1 _ hx rfl
   rw [h1] at h3
   cases h3
   rw [h2] at h4
   exact Option.some.inj h4
  ·exact .inr ⟨ha, by simpa using e⟩
 ·rintro (rfl | ⟨h, _⟩)
  ·exact hx
  ·exact h
theorem ids_of_l11 {l : List BItem} (hs : l.Pairwise ltp) (p : Bs) : (l11Ids l p = [] ∧ ∀ y, y ∈ l → y.path = p → y.dir = true) ∨ ∃ x, x ∈ l ∧ x.path = p ∧ x.dir = false ∧ l11Ids l p = [x] := by
 unfold l11Ids
 cases e : atI l p with
 | none =>
  left
  refine ⟨rfl, fun y hy hp => ?_⟩
  obtain ⟨i, h1, _⟩ := (uniq_at hs (p := p)).2.1 _ hy hp
  rw [e] at h1; cases h1
 | some i =>
  obtain ⟨y, h1, h2⟩ := (uniq_at hs (p := p)).1 i e
  simp only [h1]
  cases hd : y.dir with
  | true =>
   left
   refine ⟨by simp, fun z hz hp => ?_⟩
   obtain ⟨j, g1, g2⟩ := (uniq_at hs (p := p)).2.1 _ hz hp
   rw [e] at g1
   cases g1
   rw [h1] at g2
   cases g2
   exact hd
  | false => exact .inr ⟨y, List.mem_of_getElem? h1, h2, hd, by simp⟩
theorem put_dir_no {l : List BItem} (hs : l.Pairwise ltp) {x y : BItem} (hy : y ∈ l) (hp : y.path = x.path) (hd : (y.dir || x.dir) = true) : TreePut l x = none := by
 obtain ⟨i, h1, h2⟩ := (uniq_at hs (p := x.path)).2.1 _ hy hp
 simp [TreePut, h1, h2, hd]
structure Hol (L : List BHeld) (t : List BItem) : Prop where
 vh : VH L
 vt : VT t
 ids : ∀ x, x ∈ t → l4Ids L x.ids = true
 le : ∀ a, (cntL t a : Int) ≤ us L a
theorem Hol.of_vol {u : BVol} (h : VolumeValid u = true) : Hol u.store u.tree := by
 obtain ⟨h1, h2, h3, h4⟩ := vv_iff.1 h
 exact ⟨h1, h2, h3, fun a => by rw [h4]; exact Int.le_refl _⟩
theorem Hol.vol {L : List BHeld} {t : List BItem} (h : Hol L t) (he : ∀ a, us L a = (cntL t a : Int)) : VolumeValid ⟨L, t⟩ = true := vv_iff.2 ⟨h.vh, h.vt, h.ids, he⟩
theorem ids_keep {s s' : List BHeld} (hs : VH s) (hs' : VH s') {ids : List Int} (h : ∀ a, a ∈ ids → 0 < us s' a ∧ by_ s' a = by_ s a) (hl : l4Ids s ids = true) : l4Ids s' ids = true := by
 refine ids_true (fun j hj => ?_) (ids_le hl)
 have hz : ids[j]? = some ids[j] := List.getElem?_eq_getElem hj
 have h1 : idsOk s ids j = true := by
  simp only [l4Ids, Bool.and_eq_true] at hl
  exact List.all_eq_true.1 hl.1 j (by simpa using hj)
 have hp : (Sp.atH s ids[j]).isSome = true := by
  cases e : (Sp.atH s ids[j]).isSome with
  | true => rfl
  | false => rw [idsOk_no hz e] at h1; cases h1
 have h2 := h ids[j] (List.getElem_mem hj)
 rw [idsOk_get hz ((us_pos hs').1 h2.1)]
 rw [idsOk_get hz hp] at h1
 have h3 : (getH s' ids[j]).bytes = (getH s ids[j]).bytes := h2.2
 rw [h3]
 exact h1
theorem stored_ids {L s : List BHeld} (hV : VH L) {b : List Int} {ids : List Int} (hst : FileStore L b = some (s, ids)) : l4Ids s ids = true := by
 obtain ⟨hs, hlen, hsu, hsb⟩ := store_ok hV hst
 refine ids_true (fun j hj => ?_) ?_
 ·have hz : ids[j]? = some ids[j] := List.getElem?_eq_getElem hj
  have hp : 0 < us s ids[j] := by
   have := (hsu ids[j]).1
   have := us_nonneg hV ids[j]
   have := cnt1_pos.2 (List.getElem_mem hj)
   omega
  rw [idsOk_get hz ((us_pos hs).1 hp)]
  have h5 := hsb j _ hz
  have h6 : (l4Cut b)[j]? = some (chunk b j) := by
   have hj' : j < (l4Cut b).length := by omega
   unfold l4Cut at hj' ⊢
   simp at hj'
   simp [hj']
  rw [h6] at h5
  have h7 : (getH s ids[j]).bytes = chunk b j := Option.some.inj h5
  rw [h7, chunk_len]
  have h8 : ids.length = (b.length + 7) / 8 := by rw [hlen]; simp [l4Cut]
  by_cases hlt : j + 1 < ids.length
  ·have : ¬ (min (8 * j + 8) b.length - 8 * j < 8) := by omega
   simp [this]
  ·simp [hlt]
 ·have : (l4Cut b).length ≤ 4 := by
   unfold FileStore at hst
   split at hst
   ·rename_i hc
    simp only [Bool.and_eq_true] at hc
    have := file_len hc.2
    simp [l4Cut]
    omega
   ·cases hst
  omega
theorem write_ok {L : List BHeld} {l : List BItem} (hu : Hol L l) {p : Bs} {b : List Int} {s : List BHeld} {ids : List Int} (hst : FileStore L b = some (s, ids)) {t : List BItem} (hpt : TreePut l ⟨p, false, ids⟩ = some t) :
  ∃ s', (∀ o, l11Ids l p = [o] → FileFree s o.ids = some s') ∧ (l11Ids l p = [] → s' = s) ∧ l11Write ⟨L, l⟩ p b = some ⟨s', t⟩ ∧ Hol s' t ∧
   ∀ a, us s' a = us L a + (cntL t a : Int) - (cntL l a : Int) ∧ (0 < us s' a → by_ s' a = by_ s a) := by
 obtain ⟨hs, hlen, hsu, hsb⟩ := store_ok hu.vh hst
 obtain ⟨_, ht, hx, hperm⟩ := put_perm2 hpt
 have hstay : ∀ a, 0 < us L a → 0 < us s a ∧ by_ s a = by_ L a := fun a ha => by
  have := hsu a
  exact ⟨by omega, this.2 ha⟩
 have hids := stored_ids hu.vh hst
 have hold : ∀ x, x ∈ t → l4Ids s x.ids = true := fun x hxt => by
  rcases List.mem_cons.1 (hperm.mem_iff.1 hxt) with rfl | hm
  ·exact hids
  ·exact ids_stay hu.vh hs hstay (hu.ids x (List.mem_filter.1 hm).1)
 have hall : ∀ s', VH s' → (∀ a, 0 < cntL t a → 0 < us s' a ∧ by_ s' a = by_ s a) → ∀ x, x ∈ t → l4Ids s' x.ids = true := fun s' hs' hk x hxt =>
  ids_keep hs hs' (fun a ha => hk a (Nat.lt_of_lt_of_le (cnt1_pos.2 ha) (cntL_mem hxt a))) (hold x hxt)
 have hcount : ∀ a, cntL t a = cnt1 a ids + cntL (l.filter (fun y => decide (y.path ≠ p))) a := fun a => by rw [cntL_perm hperm, cntL_cons]
 rcases ids_of_l11 hu.vt.asc p with ⟨h0, hno⟩ | ⟨o, ho, hop, hod, h1⟩
 ·have hne : ∀ y, y ∈ l → y.path ≠ p := fun y hy hp => by
   have := put_dir_no hu.vt.asc (x := ⟨p, false, ids⟩) hy hp (by simp [hno y hy hp])
   rw [this] at hpt; cases hpt
  have hc2 : ∀ a, us s a = us L a + (cntL t a : Int) - (cntL l a : Int) := fun a => by
   rw [hcount, filter_none hne, (hsu a).1]
   omega
  have hle2 : ∀ a, (cntL t a : Int) ≤ us s a := fun a => by have := hc2 a; have := hu.le a; omega
  refine ⟨s, fun o ho => (by rw [h0] at ho; cases ho), fun _ => rfl, ?_, ⟨hs, ht, hall s hs (fun a ha => ⟨by have := hle2 a; omega, rfl⟩), hle2⟩, fun a => ⟨hc2 a, fun _ => rfl⟩⟩
  simp [l11Write, hst, hpt, h0, freeOld]
 ·have hfo := filter_one hu.vt.asc ho
  rw [hop] at hfo
  have hco : ∀ a, cntL l a = cnt1 a o.ids + cntL (l.filter (fun y => decide (y.path ≠ p))) a := fun a => by rw [cntL_perm hfo, cntL_cons]
  have hle : ∀ a, (cnt1 a o.ids : Int) ≤ us s a := fun a => by
   have := (hsu a).1
   have := hu.le a
   have := hco a
   omega
  obtain ⟨s', g1, g2, g3⟩ := free_ok hs (ids_stay hu.vh hs hstay (hu.ids o ho)) hle
  have hc2 : ∀ a, us s' a = us L a + (cntL t a : Int) - (cntL l a : Int) := fun a => by
   have := (hsu a).1
   have := hco a
   have := (g3 a).1
   have := hcount a
   omega
  have hle2 : ∀ a, (cntL t a : Int) ≤ us s' a := fun a => by have := hc2 a; have := hu.le a; omega
  refine ⟨s', fun o' ho' => (by rw [h1] at ho'; cases ho'; exact g1), fun h => (by rw [h1] at h; cases h), ?_, ⟨g2, ht, hall s' g2 (fun a ha => by
    have h5 := hle2 a
    exact ⟨by omega, (g3 a).2 (by omega)⟩), hle2⟩, fun a => ⟨hc2 a, (g3 a).2⟩⟩
  simp [l11Write, hst, hpt, h1, freeOld, g1]
theorem write_valid {u : BVol} (hu : VolumeValid u = true) {p : Bs} {b : List Int} {u' : BVol} (h : l11Write u p b = some u') : VolumeValid u' = true := by
 cases e : FileStore u.store b with
 | none => simp [l11Write, e] at h
 | some r =>
  cases e2 : TreePut u.tree ⟨p, false, r.2⟩ with
  | none => simp [l11Write, e, e2] at h
  | some t =>
   obtain ⟨s', _, _, h3, h4, h5⟩ := write_ok (Hol.of_vol hu) (s := r.1) (ids := r.2) e e2
   rw [h3] at h
   cases h
   refine h4.vol (fun a => ?_)
   have := (h5 a).1
   have := (vv_iff.1 hu).2.2.2 a
   omega
end Sp
namespace Sp
open Go Fw Fw.Nd
theorem dir_ok {L : List BHeld} {l : List BItem} (hu : Hol L l) {p : Bs} {t : List BItem} (hpt : TreePut l ⟨p, true, []⟩ = some t) : Hol L t ∧ ∀ a, cntL t a = cntL l a := by
 obtain ⟨_, ht, hx, hperm⟩ := put_perm2 hpt
 have hne : ∀ y, y ∈ l → y.path ≠ p := fun y hy hp => by
  have := put_dir_no hu.vt.asc (x := ⟨p, true, []⟩) hy hp (by simp)
  rw [this] at hpt; cases hpt
 have hp2 : t.Perm (⟨p, true, []⟩ :: l) := by
  have h := hperm
  rw [filter_none hne] at h
  exact h
 have hc : ∀ a, cntL t a = cntL l a := fun a => by rw [cntL_perm hp2, cntL_cons]; simp [cnt1]
 refine ⟨⟨hu.vh, ht, fun x hx => ?_, fun a => by rw [hc]; exact hu.le a⟩, hc⟩
 rcases List.mem_cons.1 (hp2.mem_iff.1 hx) with rfl | h
 ·exact ids_true (by simp) (by simp)
 ·exact hu.ids x h
theorem dir_valid {u u' : BVol} {p : Bs} (h : VolumeDir u p = some u') : VolumeValid u' = true := by
 unfold VolumeDir at h
 split at h
 ·rename_i hv
  obtain ⟨t, ht, rfl⟩ := Option.map_eq_some_iff.1 h
  obtain ⟨h1, h2⟩ := dir_ok (Hol.of_vol hv) ht
  refine h1.vol (fun a => ?_)
  rw [(vv_iff.1 hv).2.2.2 a]
  have := h2 a
  omega
 ·cases h
def l11Drop (L : List BHeld) (l : List BItem) (p : Bs) : Option BVol := match TreeDrop l p with
 | none => none
 | some t => some ⟨(FileFree L (((atI l p).bind (fun i => l[i]?)).map (·.ids) |>.getD [])).getD [], t⟩
theorem drop_eq2 (u : BVol) (p : Bs) : VolumeDrop u p = if VolumeValid u then l11Drop u.store u.tree p else none := rfl
theorem drop_perm2 {l t : List BItem} {p : Bs} (h : TreeDrop l p = some t) : VT l ∧ VT t ∧ ∃ x, x ∈ l ∧ x.path = p ∧ (atI l p).bind (fun i => l[i]?) = some x ∧ l.Perm (x :: t) := by
 unfold TreeDrop at h
 split at h
 ·rename_i hv
  have hv := tvalid_iff.1 hv
  cases e : atI l p with
  | none => simp [e] at h
  | some i =>
   simp only [e] at h
   split at h
   ·rename_i hp
    simp only [Option.some.injEq] at h
    subst h
    obtain ⟨x, h1, h2⟩ := (uniq_at hv.asc (p := p)).1 i e
    refine ⟨hv, tvalid_iff.1 hp, x, List.mem_of_getElem? h1, h2, by simp [h1], ?_⟩
    have := erase_perm h1
    rwa [List.eraseIdx_eq_take_drop_succ] at this
   ·cases h
 ·cases h
theorem drop_ok {L : List BHeld} {l : List BItem} (hu : Hol L l) {p : Bs} {t : List BItem} (hpt : TreeDrop l p = some t) :
  ∃ x s', x ∈ l ∧ (atI l p).bind (fun i => l[i]?) = some x ∧ FileFree L x.ids = some s' ∧ l11Drop L l p = some ⟨s', t⟩ ∧ Hol s' t ∧ l.Perm (x :: t) ∧ ∀ a, us s' a = us L a - (cnt1 a x.ids : Int) ∧ (0 < us s' a → by_ s' a = by_ L a) := by
 obtain ⟨_, ht, x, hx, hxp, hxa, hperm⟩ := drop_perm2 hpt
 have hc : ∀ a, cntL l a = cnt1 a x.ids + cntL t a := fun a => by rw [cntL_perm hperm, cntL_cons]
 obtain ⟨s', g1, g2, g3⟩ := free_ok hu.vh (hu.ids x hx) (fun a => by have := hu.le a; have := hc a; omega)
 have hle : ∀ a, (cntL t a : Int) ≤ us s' a := fun a => by have := hu.le a; have := hc a; have := (g3 a).1; omega
 refine ⟨x, s', hx, hxa, g1, by simp [l11Drop, hpt, hxa, g1], ⟨g2, ht, fun y hy => ?_, hle⟩, hperm, g3⟩
 refine ids_keep hu.vh g2 (fun a ha => ?_) (hu.ids y (hperm.mem_iff.2 (by simp [hy])))
 have h1 := cntL_mem hy a
 have h2 := cnt1_pos.2 ha
 have h3 := hle a
 exact ⟨by omega, (g3 a).2 (by omega)⟩
theorem drop_valid {u u' : BVol} {p : Bs} (h : VolumeDrop u p = some u') : VolumeValid u' = true := by
 rw [drop_eq2] at h
 split at h
 ·rename_i hv
  cases e : TreeDrop u.tree p with
  | none => simp [l11Drop, e] at h
  | some t =>
   obtain ⟨x, s', _, _, _, g2, g3, g4, g5⟩ := drop_ok (Hol.of_vol hv) e
   rw [g2] at h
   cases h
   refine g3.vol (fun a => ?_)
   have := (vv_iff.1 hv).2.2.2 a
   have h3 : cntL u.tree a = cnt1 a x.ids + cntL t a := by rw [cntL_perm g4, cntL_cons]
   have := (g5 a).1
   omega
 ·cases h
end Sp
namespace Sp
open Go Fw
theorem vwrite_valid {u u' : BVol} {p : Bs} {b : List Int} (h : VolumeWrite u p b = some u') : VolumeValid u' = true := by
 unfold VolumeWrite at h
 split at h
 ·rename_i hc
  simp only [Bool.and_eq_true] at hc
  exact write_valid hc.1 h
 ·cases h
theorem vol_len {o : Option BVol} (h : ∀ u', o = some u' → VolumeValid u' = true) : ((o.map (·.store)).getD []).length ≤ 16 := by
 cases o with
 | none => simp
 | some u => exact (vv_iff.1 (h u rfl)).1.len
end Sp
namespace Fw
open Go
def R1 (v v' : Value) : Prop := v' = v ∨ ∃ p q, v = .int .i64 p ∧ v' = .int .i64 q ∧ inI q
def GRel (G G' : PH) : Prop := ∀ b o v, PCell G b o v → ∃ v', PCell G' b o v' ∧ R1 v v'
def RL : List Value → List Value → Prop
 | [], [] => True
 | v :: r, v' :: r' => R1 v v' ∧ RL r r'
 | _, _ => False
theorem RL.len : ∀ {a b : List Value}, RL a b → b.length = a.length
 | [], [], _ => rfl
 | _ :: _, _ :: _, h => by simp [RL.len h.2]
 | [], _ :: _, h => h.elim
 | _ :: _, [], h => h.elim
theorem prow_rel {G G' : PH} (h : GRel G G') : ∀ (cs : List Value) (b o : Nat), PRow G b o cs → ∃ cs', PRow G' b o cs' ∧ RL cs cs'
 | [], b, o, _ => ⟨[], by intro j v h; simp at h, trivial⟩
 | c :: r, b, o, hr => by
  obtain ⟨c', h1, h2⟩ := h b o c (by simpa using hr 0 c rfl)
  obtain ⟨r', h3, h4⟩ := prow_rel h r b (o + 1) (fun j v hv => by
   have := hr (j + 1) v (by simpa using hv)
   rwa [show o + 1 + j = o + (j + 1) by omega])
  refine ⟨c' :: r', fun j v hv => ?_, h2, h4⟩
  cases j with
  | zero => simp at hv; subst hv; simpa using h1
  | succ j =>
   have := h3 j v (by simpa using hv)
   rwa [show o + (j + 1) = o + 1 + j by omega]
class StE {α : Type} (E : PH → α → List Value → Prop) : Prop where
 st : ∀ {G G' : PH} {x : α} {cs cs' : List Value}, GRel G G' → RL cs cs' → E G x cs → ∃ x', E G' x' cs'
theorem RdS.st {α : Type} {lim : Nat} {E : PH → α → List Value → Prop} [StE E] {sz : Nat} {G G' : PH} {v : Value} {xs : List α} (hg : GRel G G') (h : RdS lim E sz G v xs) : ∃ xs', xs'.length = xs.length ∧ RdS lim E sz G' v xs' := by
 obtain ⟨a, c, rfl, h2, h3, h4⟩ := h
 rcases h4 with rfl | ⟨b, o, rfl, h5⟩
 ·exact ⟨[], rfl, a, c, rfl, h2, h3, .inl rfl⟩
 ·have key : ∀ n, n ≤ xs.length → ∃ xs' : List α, xs'.length = n ∧ ∀ i x, xs'[i]? = some x → ∃ cs, cs.length = sz ∧ E G' x cs ∧ PRow G' b (o + i * sz) cs := by
   intro n
   induction n with
   | zero => intro _; exact ⟨[], rfl, by simp⟩
   | succ n ih =>
    intro hn
    obtain ⟨xs', k1, k2⟩ := ih (by omega)
    obtain ⟨cs, c1, c2, c3⟩ := h5 n xs[n] (by simp)
    obtain ⟨cs', d1, d2⟩ := prow_rel hg cs _ _ c3
    obtain ⟨x', hx'⟩ := StE.st hg d2 c2
    refine ⟨xs' ++ [x'], by simp [k1], fun i x hx => ?_⟩
    by_cases hi : i < n
    ·rw [List.getElem?_append_left (by omega)] at hx
     exact k2 i x hx
    ·rw [List.getElem?_append_right (by omega)] at hx
     have : i = n := by
      have := (List.getElem?_eq_some_iff.1 hx).1
      simp at this
      omega
     subst this
     simp [k1] at hx
     subst hx
     exact ⟨cs', by rw [d2.len]; exact c1, hx', d1⟩
  obtain ⟨xs', k1, k2⟩ := key xs.length (Nat.le_refl _)
  exact ⟨xs', k1, some ⟨b, o, none⟩, c, by rw [k1], by omega, by omega, .inr ⟨b, o, rfl, k2⟩⟩
theorem r1_int {p : Int} {v' : Value} (h : R1 (.int .i64 p) v') (hp : inI p) : ∃ q, v' = .int .i64 q ∧ inI q := by
 rcases h with rfl | ⟨_, q, _, rfl, hq⟩
 ·exact ⟨p, rfl, hp⟩
 ·exact ⟨q, rfl, hq⟩
theorem r1_slice {a : Option Addr} {m c : Nat} {v' : Value} (h : R1 (.slice a m c) v') : v' = .slice a m c := by
 rcases h with rfl | ⟨_, _, h, _⟩
 ·rfl
 ·cases h
theorem r1_str {s : Bs} {v' : Value} (h : R1 (str s) v') : v' = str s := by
 rcases h with rfl | ⟨_, _, h, _⟩
 ·rfl
 ·cases h
theorem r1_bool {b : Bool} {v' : Value} (h : R1 (.bool b) v') : v' = .bool b := by
 rcases h with rfl | ⟨_, _, h, _⟩
 ·rfl
 ·cases h
theorem rl1 {a : Value} {cs' : List Value} (h : RL [a] cs') : ∃ u, cs' = [u] ∧ R1 a u := by
 rcases cs' with _ | ⟨u, _ | ⟨z, r⟩⟩
 ·exact h.elim
 ·exact ⟨u, rfl, h.1⟩
 ·exact h.2.elim
theorem intE_st {G' : PH} {x : Int} {cs' : List Value} (hi : inI x) (hr : RL [.int .i64 x] cs') : ∃ x', intE G' x' cs' := by
 obtain ⟨u, rfl, k1⟩ := rl1 hr
 obtain ⟨q, rfl, hq⟩ := r1_int k1 hi
 exact ⟨q, rfl, hq⟩
instance : StE intE := ⟨fun {_ _ x cs cs'} _ hr h => by
 obtain ⟨h1, h2⟩ := h
 rw [h1] at hr
 exact intE_st h2 hr⟩
theorem rl3 {a b c : Value} {cs' : List Value} (h : RL [a, b, c] cs') : ∃ u v w, cs' = [u, v, w] ∧ R1 a u ∧ R1 b v ∧ R1 c w := by
 rcases cs' with _ | ⟨u, _ | ⟨v, _ | ⟨w, _ | ⟨z, r⟩⟩⟩⟩
 ·exact h.elim
 ·exact h.2.elim
 ·exact h.2.2.elim
 ·exact ⟨u, v, w, rfl, h.1, h.2.1, h.2.2.1⟩
 ·exact h.2.2.2.elim
theorem heldE_st {G G' : PH} {x : BHeld} {a : Option Addr} {m c : Nat} {u v w : Value} (hg : GRel G G') (h1 : inI x.id) (h2 : RdI G (.slice a m c) x.bytes) (h3 : inI x.uses)
  (k1 : R1 (.int .i64 x.id) u) (k2 : R1 (.slice a m c) v) (k3 : R1 (.int .i64 x.uses) w) : ∃ x', heldE G' x' [u, v, w] := by
 obtain ⟨p, rfl, hp⟩ := r1_int k1 h1
 obtain ⟨q, rfl, hq⟩ := r1_int k3 h3
 have e := r1_slice k2
 subst e
 obtain ⟨ys, _, hy⟩ := RdS.st hg h2
 exact ⟨⟨p, ys, q⟩, a, m, c, rfl, hp, hy, hq⟩
instance : StE heldE := ⟨fun {_ _ x cs cs'} hg hr h => by
 obtain ⟨a, m, c, rfl, h1, h2, h3⟩ := h
 obtain ⟨u, v, w, rfl, k1, k2, k3⟩ := rl3 hr
 exact heldE_st hg h1 h2 h3 k1 k2 k3⟩
instance : StE itemE := ⟨fun {_ _ x cs cs'} hg hr h => by
 obtain ⟨a, m, c, rfl, h1, h2⟩ := h
 obtain ⟨u, v, w, rfl, k1, k2, k3⟩ := rl3 hr
 obtain rfl := r1_str k1
 obtain rfl := r1_bool k2
 obtain rfl := r1_slice k3
 obtain ⟨ys, _, hy⟩ := h2.st hg
 exact ⟨⟨x.path, x.dir, ys⟩, a, m, c, rfl, h1, hy⟩⟩
section
variable {w0 w : World} {G0 G : PH} {S : List Nat} {B : List Res}
theorem Hp.unkeep (H : Hp w0 G0 S w G B) (h0 : PSub G0 w0) {b : Nat} {l : List Value} {e : TypeId} (hb : G b = some (cl l e)) (hn : w0.heap.size ≤ b) : Hp w0 G0 S w (fun c => if c = b then none else G c) (blk b (cl l e) :: B) := by
 refine ⟨H.os, H.tape, H.output, H.size, H.ext, ?_, ?_, ?_, ?_, ?_⟩
 ·intro c o hc
  by_cases e : c = b
  ·simp [e] at hc
  ·simp [e] at hc; exact H.sub c o hc
 ·intro c o hc
  have : c ≠ b := fun e => by
   have := h0.lt hc
   omega
  simp [this, H.le c o hc]
 ·intro c hc hnone
  by_cases e : c = b
  ·simp [e]
  ·simp [e, H.old c hc hnone]
 ·intro r hr
  rcases List.mem_cons.1 hr with rfl | hr
  ·exact ⟨H.sub _ _ hb, fun c hc => by simp [blk] at hc; subst hc; exact ⟨by simp, .inr hn⟩⟩
  ·refine ⟨(H.own r hr).1, fun c hc => ⟨?_, ((H.own r hr).2 c hc).2⟩⟩
   by_cases e : c = b
   ·simp [e]
   ·simp [e, ((H.own r hr).2 c hc).1]
 ·show ([b] ++ fps B).Nodup
  refine List.nodup_append.2 ⟨by simp, H.nd, ?_⟩
  intro a ha c hc e
  subst e
  simp at ha
  subst ha
  obtain ⟨r, hr, hb2⟩ := List.mem_flatMap.1 hc
  have := ((H.own r hr).2 a hb2).1
  rw [hb] at this
  cases this
end
section ops
variable {P : Program} {n : Nat} {ops : Array Oper} {Q : Post} {rest : List Oper} {L : Slots} {ds : List Deferred} {w w0 : World} {G0 : PH} {S : List Nat} {G : PH} {B : List Res}
variable {ty : TypeId} {ps : String} {af : Array Edge}
theorem o_store_P (H : Hp w0 G0 S w G B) (h0 : PSub G0 w0) {t : TypeId} {x y : Operand} {b o : Nat} {l : List Value} {e : TypeId} {p q : Int} (hS : ∀ w, (Go.sizeOf t).run P w = .ok 1 w) (hx : od L x = some (.pointer (some ⟨b, o, none⟩))) (hy : od L y = some (.int .i64 q)) (hq : inI q)
  (hb : G b = some (cl l e)) (hc : l[o]? = some (.int .i64 p)) (hn : w0.heap.size ≤ b) (hS2 : b ∉ S)
  (next : ∀ w' G', GRel G G' → Hp w0 G0 S w' G' B → R P n ops Q rest L ds w') : R P n ops Q (⟨none, .store t x y, ty, ps, af, none⟩ :: rest) L ds w := by
 have ho := (List.getElem?_eq_some_iff.1 hc).1
 have H1 := H.unkeep h0 hb hn
 obtain ⟨w', hr, H2⟩ := run_storeCells_blk (P := P) [.int .i64 q] 0 l w (o := o) H1 (k := 0) rfl (by simp; omega) (by simp [Value.oneCell'])
 have H2' : Hp w0 G0 S w' (fun c => if c = b then none else G c) (blk b (cl (setCs l (o + 0) [.int .i64 q]) e) :: B) := H2
 obtain ⟨H3, h3⟩ := H2'.keep (k := 0) rfl (by simpa [blk] using hS2)
 refine R_skip (w' := w') (fun a ha => ?_) (next w' _ ?_ H3)
 ·have : (Value.int .i64 q).cells = #[.int .i64 q] := rfl
  simp [execOp, Instr.storeAt, ha.eval hx, ha.eval hy, Instr.sureAddr, storeVar, hS, this, hr]
 ·intro c off v hv
  obtain ⟨C, e2, fz, h4, h5⟩ := hv
  by_cases ec : c = b
  ·subst ec
   have h6 : PPlus (fun c' => if c' = c then none else G c') w' (blk c (cl (setCs l (o + 0) [.int .i64 q]) e)).fp c = some (cl (setCs l (o + 0) [.int .i64 q]) e) := h3
   rw [hb] at h4
   simp only [Option.some.injEq, Obj.cells.injEq] at h4
   obtain ⟨rfl, rfl, rfl⟩ := h4
   have h7 : l[off]? = some v := by simpa using h5
   by_cases eo : off = o
   ·subst eo
    rw [hc] at h7
    cases h7
    refine ⟨.int .i64 q, ⟨_, _, _, h6, ?_⟩, .inr ⟨p, q, rfl, rfl, hq⟩⟩
    simp [setCs, setN_eq, ho]
   ·refine ⟨v, ⟨_, _, _, h6, ?_⟩, .inl rfl⟩
    have : ¬ o = off := fun h => eo h.symm
    simp [setCs, setN_eq, this, h7]
  ·refine ⟨v, ⟨C, e2, fz, PPlus.le _ _ _ _ _ (by simp [ec, h4]), h5⟩, .inl rfl⟩
end ops
def Mine (w0 : World) (G : PH) (v : Value) : Prop := ∀ b o m c, v = .slice (some ⟨b, o, none⟩) m c → w0.heap.size ≤ b ∧ ∃ l e, G b = some (cl l e)
theorem Mine.up {w0 : World} {G G' : PH} {v : Value} (h : Mine w0 G v) (hle : PLe G G') : Mine w0 G' v := fun b o m c e => by
 obtain ⟨h1, l, e, h2⟩ := h b o m c e
 exact ⟨h1, l, e, hle _ _ h2⟩
theorem Mine.nil {w0 : World} {G : PH} : Mine w0 G (.slice none 0 0) := fun b o m c e => by simp at e
theorem acc_fpb {e : TypeId} {sz : Nat} {v : Value} {n : Nat} {cells : List Value} {b o m c} (h : v = .slice (some ⟨b, o, none⟩) m c) : b ∈ (acc e sz v n cells).fp := by
 subst h
 exact List.mem_singleton.2 rfl
section
variable {w0 w : World} {G0 G : PH} {B : List Res}
theorem Hp.shutP {α : Type} {E : PH → α → List Value → Prop} [MonoE E] {b : Nat} {o : Obj} (H : Hp w0 G0 [b] w G B) {k j : Nat} {e : TypeId} {sz : Nat} {v : Value} {n : Nat} {cells : List Value} {xs : List α} (hk : nth B k = some (acc e sz v n cells)) (hj : nth (delN B k) j = some (blk b o))
  (hc : Chk E sz G cells xs) (hn : n = xs.length) (hl : xs.length ≤ 1099511627776) :
  ∃ G', Hp w0 G0 [b] w G' (delN B k) ∧ PLe G G' ∧ RdS LIM E sz G' v xs ∧ Mine w0 G' v := by
 have hnb : ∀ c, c ∈ (acc e sz v n cells).fp → c ∉ [b] := fun c hc hcb => by
  simp only [List.mem_singleton] at hcb
  subst hcb
  obtain ⟨B1, B2, h1, _, h3⟩ := fps_split hk
  have hpm : List.Perm B (acc e sz v n cells :: (B1 ++ B2)) := by rw [h1]; exact List.perm_middle
  have h2 : ((acc e sz v n cells).fp ++ fps (B1 ++ B2)).Nodup := (List.Perm.flatMap_right _ hpm).nodup_iff.1 H.nd
  rw [h3] at hj
  exact (List.nodup_append.1 h2).2.2 c hc c (fps_nth hj (by simp [blk])) rfl
 have hown := (H.own _ (by rw [nth_eq] at hk; exact List.mem_of_getElem? hk)).2
 obtain ⟨H', hp⟩ := H.keep hk hnb
 refine ⟨_, H', PPlus.le _ _ _, acc_rd hp (hc.up (PPlus.le _ _ _)) hn hl, ?_⟩
 obtain ⟨_, hp2⟩ := hp
 intro b' o' m' c' ev
 have hmem : b' ∈ (acc e sz v n cells).fp := acc_fpb ev
 refine ⟨(hown b' hmem).2.resolve_left (hnb b' hmem), ?_⟩
 rcases hp2 with ⟨h1, _⟩ | ⟨b2, cap, C, h1, h2, _⟩
 ·rw [ev] at h1; cases h1
 ·rw [ev] at h1
  cases h1
  exact ⟨C.toList, e, h2⟩
end
section ops
variable {P : Program} {n : Nat} {ops : Array Oper} {Q : Post} {rest : List Oper} {L : Slots} {ds : List Deferred} {w w0 : World} {G0 : PH} {S : List Nat} {G : PH} {B : List Res}
variable {ty : TypeId} {ps : String} {af : Array Edge}
theorem o_store_mine (H : Hp w0 G0 S w G B) (h0 : PSub G0 w0) {t : TypeId} {x y : Operand} {a : Option Addr} {m c b o off rb : Nat} {ob : Obj} {p q : Int} (hm : Mine w0 G (.slice a m c)) (ha : a = some ⟨b, o, none⟩) (hS : ∀ w, (Go.sizeOf t).run P w = .ok 1 w) (hx : od L x = some (.pointer (some ⟨b, off, none⟩))) (hy : od L y = some (.int .i64 q)) (hq : inI q)
  (hc : PCell G b off (.int .i64 p)) (hrb : w0.heap[rb]? = some ob) (hS2 : S = [rb])
  (next : ∀ w' G', GRel G G' → Hp w0 G0 S w' G' B → R P n ops Q rest L ds w') : R P n ops Q (⟨none, .store t x y, ty, ps, af, none⟩ :: rest) L ds w := by
 subst ha
 obtain ⟨h1, l, e, h2⟩ := hm b o m c rfl
 obtain ⟨C, e2, fz, h3, h4⟩ := hc
 rw [h2] at h3
 simp only [Option.some.injEq, Obj.cells.injEq] at h3
 obtain ⟨rfl, rfl, rfl⟩ := h3
 have hlt := (Array.getElem?_eq_some_iff.1 hrb).1
 exact o_store_P H h0 hS hx hy hq h2 (by simpa using h4) h1 (by subst hS2; simp; omega) next
end ops
theorem PLe.none {G : PH} : PLe (fun _ => none) G := fun _ _ h => by cases h
theorem W_drawN {P : Program} {n : Nat} {l : List Oper} {Q : Post} {L : Slots} {ds : List Deferred} {w : World} {id : Nat} {w0 : World} {G0 : PH} {SS : List Nat} {G : PH} {B : List Res} (ks : List Nat) (m : Nat) (H : Hp w0 G0 SS w G B) (hm : P.follows .mixedOrders = true) (hl : Nat.beq l.length m = true)
  (h : ∀ w', Hp w0 G0 SS w' G B → RD P n l Q (fun w => Kn w (fun _ => none) (sel ks B)) m (Array.replicate m false) L ds w') : W P n Q (.region id l.toArray true) L ds w :=
 W_draw _ m H hm hl (fun _ H' => Kn.of H' PLe.none (fun _ hr => sel_mem hr)) h
section ops
variable {P : Program} {n : Nat} {ops : Array Oper} {Q : Post} {rest : List Oper} {L : Slots} {ds : List Deferred} {w : World} {ty : TypeId} {ps : String} {af : Array Edge}
theorem o_beql_same {d : Nat} {x y : Operand} {t u : TypeId} {p : Bool} (hT : P.underlying t = some .bool) (hd : Nat.blt d n = true) (hx : od L x = some (.bool p)) (hy : od L y = some (.bool p))
  (next : R P n ops Q rest ((d, .bool true) :: L) ds w) : R P n ops Q (⟨some d, .binOp .eql t x y u, ty, ps, af, none⟩ :: rest) L ds w :=
 o_beql hT hd hx hy (by simpa using next)
end ops
end Fw
namespace Sp
open Fw
open Nd
section
variable {v u : BVol} {p : Bs} {b : List Int}
end
end Sp
namespace Fw
open Go
section
variable {P : Program} {n : Nat} {ops : Array Oper} {Q : Post} {rest : List Oper} {L : Slots} {ds : List Deferred} {w : World}
variable {ty : TypeId} {ps : String} {af : Array Edge}
end
end Fw
namespace Sp
open Fw Nd
theorem keeps : ∀ (ids : List Int) {L L' : List BHeld}, VH L → foldB StoreKeep ids (some L) = some L' → VH L' ∧ ∀ a, us L' a = us L a + (cnt1 a ids : Int) ∧ by_ L' a = by_ L a
 | [], L, L', hV, h => by
  have : L = L' := by simpa [foldB] using h
  subst this
  exact ⟨hV, fun a => by simp [cnt1]⟩
 | x :: r, L, L', hV, h => by
  have h' : foldB StoreKeep r (StoreKeep L x) = some L' := h
  cases e : StoreKeep L x with
  | none => rw [e, foldB_none] at h'; cases h'
  | some L1 =>
   rw [e] at h'
   obtain ⟨k1, _, k3⟩ := keep_step hV e
   obtain ⟨g1, g2⟩ := keeps r k1 h'
   refine ⟨g1, fun a => ?_⟩
   have h3 := k3 a
   have h4 := g2 a
   rw [cnt1_cons]
   refine ⟨?_, h4.2.trans h3.2⟩
   by_cases ea : a = x
   ·rw [if_pos ea] at h3 ⊢; omega
   ·rw [if_neg ea] at h3 ⊢; omega
theorem keepTs : ∀ (t : List BItem) {L L' : List BHeld}, VH L → l12Keep L t = some L' → VH L' ∧ ∀ a, us L' a = us L a + (cntL t a : Int) ∧ by_ L' a = by_ L a
 | [], L, L', hV, h => by
  have : L = L' := by simpa [l12Keep, foldB] using h
  subst this
  exact ⟨hV, fun a => by simp [cntL]⟩
 | x :: r, L, L', hV, h => by
  have h' : foldB keepT r (keepT L x) = some L' := h
  cases e : keepT L x with
  | none => rw [e, foldB_none] at h'; cases h'
  | some L1 =>
   rw [e] at h'
   obtain ⟨k1, k3⟩ := keeps x.ids hV e
   obtain ⟨g1, g2⟩ := keepTs r k1 h'
   refine ⟨g1, fun a => ?_⟩
   have h3 := k3 a
   have h4 := g2 a
   rw [cntL_cons]
   exact ⟨by omega, h4.2.trans h3.2⟩
def freeF (s : List BHeld) (x : BItem) : Option (List BHeld) := FileFree s x.ids
def freeTs (s : List BHeld) (l : List BItem) : Option (List BHeld) := foldB freeF l (some s)
def l12Free (s : List BHeld) (l : List BItem) : List BHeld := l.foldl (fun s x => (FileFree s x.ids).getD []) s
theorem frees : ∀ (t : List BItem) {L : List BHeld}, VH L → (∀ x, x ∈ t → l4Ids L x.ids = true) → (∀ a, (cntL t a : Int) ≤ us L a) →
  ∃ L', freeTs L t = some L' ∧ l12Free L t = L' ∧ VH L' ∧ ∀ a, us L' a = us L a - (cntL t a : Int) ∧ (0 < us L' a → by_ L' a = by_ L a)
 | [], L, hV, _, _ => ⟨L, rfl, rfl, hV, fun a => by simp [cntL]⟩
 | x :: r, L, hV, hi, hl => by
  obtain ⟨L1, k1, k2, k3⟩ := free_ok hV (hi x (by simp)) (fun a => by
   have := hl a
   rw [cntL_cons] at this
   omega)
  have hc : ∀ a, (cntL r a : Int) ≤ us L1 a := fun a => by
   have := hl a
   have := (k3 a).1
   rw [cntL_cons] at *
   omega
  obtain ⟨L', g1, g2, g3, g4⟩ := frees r k2 (fun y hy => ids_keep hV k2 (fun a ha => by
   have h1 : 0 < cnt1 a y.ids := cnt1_pos.2 ha
   have h2 := cntL_mem hy a
   have h3 := hc a
   have h4 : 0 < us L1 a := by omega
   exact ⟨h4, (k3 a).2 h4⟩) (hi y (by simp [hy]))) hc
  refine ⟨L', ?_, ?_, g3, fun a => ?_⟩
  ·show foldB freeF (x :: r) (some L) = some L'
   rw [foldB_cons (show freeF L x = some L1 from k1)]
   exact g1
  ·simp only [l12Free, List.foldl_cons, k1, Option.getD_some]
   exact g2
  ·have h1 := k3 a
   have h2 := g4 a
   rw [cntL_cons]
   refine ⟨by omega, fun h => (h2.2 h).trans (h1.2 (by omega))⟩
def trees (d : BDisk) : List (List BItem) := d.tree :: d.snaps.map (·.tree)
def cntD (ts : List (List BItem)) (a : Int) : Nat := (ts.map (fun t => cntL t a)).sum
theorem cntD_cons (t : List BItem) (ts : List (List BItem)) (a : Int) : cntD (t :: ts) a = cntL t a + cntD ts a := by simp [cntD]
theorem cntD_mem {ts : List (List BItem)} {t : List BItem} (h : t ∈ ts) (a : Int) : cntL t a ≤ cntD ts a := by
 induction ts with
 | nil => cases h
 | cons y r ih =>
  rw [cntD_cons]
  rcases List.mem_cons.1 h with rfl | h
  ·omega
  ·have := ih h; omega
theorem cntD_zero {ts : List (List BItem)} {a : Int} (h : ∀ t, t ∈ ts → ∀ x, x ∈ t → a ∉ x.ids) : cntD ts a = 0 := by
 induction ts with
 | nil => rfl
 | cons y r ih => rw [cntD_cons, ih (fun t ht => h t (by simp [ht])), cntL_zero (h y (by simp))]
theorem cntD_le {ts : List (List BItem)} (h : ∀ t, t ∈ ts → VT t) (a : Int) : cntD ts a ≤ 48 * ts.length := by
 induction ts with
 | nil => simp [cntD]
 | cons y r ih =>
  rw [cntD_cons, List.length_cons]
  have h1 := ih (fun t ht => h t (by simp [ht]))
  have h2 := l11Count_le (id := a) (tvalid_iff.2 (h y (by simp)))
  rw [l11Count_eq] at h2
  omega
theorem l12Count_eq (d : BDisk) (a : Int) : l12Count d a = cntD (trees d) a := by
 simp [l12Count, cntS, trees, l11Count_eq, cntD, Function.comp_def]
structure DHol (L : List BHeld) (ts : List (List BItem)) : Prop where
 vh : VH L
 vt : ∀ t, t ∈ ts → VT t
 ids : ∀ t, t ∈ ts → ∀ x, x ∈ t → l4Ids L x.ids = true
 use : ∀ a, us L a = (cntD ts a : Int)
def NamesOK (l : List BSnap) : Prop := l.length ≤ 6 ∧ ∀ (k : Nat) (s : BSnap), l[k]? = some s → l1Word s.name = true ∧ (k : Int) ≤ l12At l s.name
theorem dd_iff {d : BDisk} : DiskValid d = true ↔ NamesOK d.snaps ∧ DHol d.store (trees d) := by
 rw [dv_parts, valid_iff, tvalid_iff]
 have hf : ∀ l : List BItem, l11Files d.store l = true ↔ ∀ x, x ∈ l → l4Ids d.store x.ids = true := fun l => by
  unfold l11Files
  rw [List.all_eq_true]
  exact Iff.rfl
 constructor
 ·rintro ⟨h1, h2, h3, h4, ⟨h5, h6⟩, h7⟩
  have hi : ∀ t, t ∈ trees d → ∀ x, x ∈ t → l4Ids d.store x.ids = true := fun t ht => by
   rcases List.mem_cons.1 ht with rfl | ht
   ·exact (hf _).1 h5
   ·obtain ⟨s, hs, rfl⟩ := List.mem_map.1 ht
    obtain ⟨k, hk⟩ := List.getElem?_of_mem hs
    exact (hf _).1 (h6 k s hk)
  refine ⟨⟨h3, fun k s hs => ⟨(h4 k s hs).1, (h4 k s hs).2.1⟩⟩, ⟨h1, fun t ht => ?_, hi, fun a => ?_⟩⟩
  ·rcases List.mem_cons.1 ht with rfl | ht
   ·exact h2
   ·obtain ⟨s, hs, rfl⟩ := List.mem_map.1 ht
    obtain ⟨k, hk⟩ := List.getElem?_of_mem hs
    exact tvalid_iff.1 (h4 k s hk).2.2
  ·by_cases ha : a ∈ d.store.map (·.id)
   ·obtain ⟨h, hh, rfl⟩ := List.mem_map.1 ha
    have := List.all_eq_true.1 h7 h hh
    simp only [usesD, decide_eq_true_eq, l12Count_eq] at this
    rw [this, us, getH_mem h1.nd hh]
   ·rw [us, getH_not ha, cntD_zero]
    ·rfl
    ·intro t ht x hx hax
     have := ids_in h1 (hi t ht x hx) hax
     rw [us, getH_not ha] at this
     exact absurd this (by simp)
 ·rintro ⟨⟨h3, h4⟩, ⟨h1, h2, hi, hu⟩⟩
  have hm : ∀ (k : Nat) (s : BSnap), d.snaps[k]? = some s → s.tree ∈ trees d := fun k s hs => List.mem_cons.2 (.inr (List.mem_map.2 ⟨s, List.mem_of_getElem? hs, rfl⟩))
  refine ⟨h1, h2 _ (by simp [trees]), h3, fun k s hs => ⟨(h4 k s hs).1, (h4 k s hs).2, tvalid_iff.2 (h2 _ (hm k s hs))⟩, ⟨(hf _).2 (hi _ (by simp [trees])), fun k s hs => (hf _).2 (hi _ (hm k s hs))⟩, List.all_eq_true.2 fun h hh => ?_⟩
  simp only [usesD, decide_eq_true_eq, l12Count_eq]
  rw [← hu, us, getH_mem h1.nd hh]
def SnapBack (d : BDisk) (n : Bs) : Option BDisk := match atS d.snaps n with
 | none => none
 | some i => if DiskValid d then (l12Keep d.store (((d.snaps[i]?).map (·.tree)).getD [])).map (fun s => ⟨l12Free s d.tree, ((d.snaps[i]?).map (·.tree)).getD [], d.snaps⟩) else none
def DiskWrite (d : BDisk) (p : Bs) (b : List Int) : Option BDisk := if DiskValid d && FileValid b then (l11Write ⟨d.store, d.tree⟩ p b).map (fun v => ⟨v.store, v.tree, d.snaps⟩) else none
theorem at_some {l : List BSnap} {n : Bs} {i : Nat} (h : atS l n = some i) : ∃ s, l[i]? = some s ∧ s.name = n ∧ i < l.length ∧ ∀ j s', j < i → l[j]? = some s' → s'.name ≠ n := by
 obtain ⟨h1, h2, h3⟩ := List.findIdx?_eq_some_iff_getElem.1 h
 refine ⟨l[i], by simp [h1], by simpa using h2, h1, fun j s' hj hs e => ?_⟩
 have := h3 j hj
 obtain ⟨hj2, hs2⟩ := List.getElem?_eq_some_iff.1 hs
 rw [hs2] at this
 simp [e] at this
section
variable {d d1 : BDisk} {n : Bs}
theorem take_get (h : SnapTake d n = some d1) : DiskValid d = true ∧ l1Word n = true ∧ atS d.snaps n = none ∧ d.snaps.length < 6 ∧ ∃ s, l12Keep d.store d.tree = some s ∧ d1 = ⟨s, d.tree, d.snaps ++ [⟨n, d.tree⟩]⟩ := by
 unfold SnapTake at h
 split at h
 ·rename_i hc
  simp only [Bool.and_eq_true, decide_eq_true_eq] at hc
  obtain ⟨⟨⟨c1, c2⟩, c3⟩, c4⟩ := hc
  obtain ⟨s, h1, rfl⟩ := Option.map_eq_some_iff.1 h
  have := (dd_iff.1 c1).1.1
  exact ⟨c1, c2, by simpa using c3, by omega, s, h1, rfl⟩
 ·cases h
theorem back_get (h : SnapBack d n = some d1) : DiskValid d = true ∧ ∃ i s st, atS d.snaps n = some i ∧ d.snaps[i]? = some s ∧ s.name = n ∧ l12Keep d.store s.tree = some st ∧ d1 = ⟨l12Free st d.tree, s.tree, d.snaps⟩ := by
 unfold SnapBack at h
 split at h
 ·cases h
 ·rename_i i e
  split at h
  ·rename_i hc
   obtain ⟨s, h1, h2, _⟩ := at_some e
   rw [h1] at h
   obtain ⟨st, h3, h4⟩ := Option.map_eq_some_iff.1 h
   exact ⟨hc, i, s, st, e, h1, h2, h3, h4.symm⟩
  ·cases h
theorem snap_in {i : Nat} {s : BSnap} (h : d.snaps[i]? = some s) : s.tree ∈ trees d := List.mem_cons.2 (.inr (List.mem_map.2 ⟨s, List.mem_of_getElem? h, rfl⟩))
theorem DHol.le {L : List BHeld} {ts : List (List BItem)} (h : DHol L ts) (hl : ts.length ≤ 7) (a : Int) : us L a ≤ 336 := by
 have := h.use a
 have := cntD_le h.vt a
 omega
theorem keep_hol {L L' : List BHeld} {ts : List (List BItem)} (h : DHol L ts) {t : List BItem} (ht : t ∈ ts) (hk : l12Keep L t = some L') : DHol L' (t :: ts) ∧ ∀ a, us L' a = us L a + (cntL t a : Int) ∧ by_ L' a = by_ L a := by
 obtain ⟨k1, k2⟩ := keepTs t h.vh hk
 have hst : ∀ a, 0 < us L a → 0 < us L' a ∧ by_ L' a = by_ L a := fun a ha => ⟨by have := (k2 a).1; omega, (k2 a).2⟩
 have hi : ∀ u, u ∈ ts → ∀ x, x ∈ u → l4Ids L' x.ids = true := fun u hu x hx => ids_stay h.vh k1 hst (h.ids u hu x hx)
 refine ⟨⟨k1, fun u hu => ?_, fun u hu => ?_, fun a => ?_⟩, k2⟩
 ·rcases List.mem_cons.1 hu with rfl | hu
  ·exact h.vt _ ht
  ·exact h.vt _ hu
 ·rcases List.mem_cons.1 hu with rfl | hu
  ·exact hi _ ht
  ·exact hi _ hu
 ·rw [(k2 a).1, h.use a, cntD_cons]
  omega
theorem free_hol {L : List BHeld} {ts : List (List BItem)} {t : List BItem} (h : DHol L (t :: ts)) :
  ∃ L', freeTs L t = some L' ∧ l12Free L t = L' ∧ DHol L' ts ∧ ∀ a, us L' a = us L a - (cntL t a : Int) ∧ (0 < us L' a → by_ L' a = by_ L a) := by
 obtain ⟨L', g1, g2, g3, g4⟩ := frees t h.vh (h.ids t (by simp)) (fun a => by
  have := h.use a
  rw [cntD_cons] at this
  omega)
 have hu : ∀ a, us L' a = (cntD ts a : Int) := fun a => by
  have := h.use a
  have := (g4 a).1
  rw [cntD_cons] at *
  omega
 refine ⟨L', g1, g2, ⟨g3, fun u hu => h.vt u (by simp [hu]), fun u hu2 x hx => ids_keep h.vh g3 (fun a ha => ?_) (h.ids u (by simp [hu2]) x hx), hu⟩, g4⟩
 have h1 : 0 < cnt1 a x.ids := cnt1_pos.2 ha
 have h2 := cntL_mem hx a
 have h3 := cntD_mem hu2 a
 have h4 := hu a
 have h5 : 0 < us L' a := by omega
 exact ⟨h5, (g4 a).2 h5⟩
theorem DHol.perm {L : List BHeld} {ts us' : List (List BItem)} (h : DHol L ts) (hp : ts.Perm us') : DHol L us' :=
 ⟨h.vh, fun t ht => h.vt t (hp.mem_iff.2 ht), fun t ht => h.ids t (hp.mem_iff.2 ht), fun a => by rw [h.use a]; exact congrArg _ ((hp.map _).sum_nat)⟩
theorem take_valid (h : SnapTake d n = some d1) : DiskValid d1 = true := by
 obtain ⟨hd, hw, hn, hl, s, hk, rfl⟩ := take_get h
 obtain ⟨hN, hH⟩ := dd_iff.1 hd
 obtain ⟨g1, _⟩ := keep_hol hH (t := d.tree) (by simp [trees]) hk
 refine dd_iff.2 ⟨⟨by simp; omega, fun k s' hs => ?_⟩, g1.perm ?_⟩
 ·simp only [l12At, atS, List.findIdx?_append]
  by_cases hkl : k < d.snaps.length
  ·rw [List.getElem?_append_left hkl] at hs
   obtain ⟨h1, h2⟩ := hN.2 k s' hs
   refine ⟨h1, ?_⟩
   simp only [l12At, atS] at h2
   cases e : d.snaps.findIdx? (fun x => decide (x.name = s'.name)) with
   | none =>
    rw [e] at h2
    simp [optI] at h2
    omega
   | some i => rw [e] at h2; simpa using h2
  ·rw [List.getElem?_append_right (by omega)] at hs
   have hk0 : k = d.snaps.length := by
    have := (List.getElem?_eq_some_iff.1 hs).1
    simp at this
    omega
   subst hk0
   simp at hs
   subst hs
   refine ⟨hw, ?_⟩
   have : d.snaps.findIdx? (fun x => decide (x.name = n)) = none := hn
   simp [this, optI]
 ·simp only [trees, List.map_append, List.map_cons, List.map_nil]
  refine List.Perm.trans (List.Perm.swap _ _ _) (List.Perm.cons _ ?_)
  exact (List.perm_append_comm (l₁ := [d.tree])).trans (List.Perm.refl _)
end
end Sp
namespace Sp
open Fw
theorem l12Free_succ {l : List BItem} {k : Nat} {x : BItem} {s : List BHeld} (h : l[k]? = some x) : l12Free s (l.take (k + 1)) = (FileFree (l12Free s (l.take k)) x.ids).getD [] := by
 unfold l12Free
 rw [take_succ' h, List.foldl_append]
 rfl
theorem free_len (s : List BHeld) (ids : List Int) : ((FileFree s ids).getD []).length ≤ s.length := by
 cases e : FileFree s ids with
 | none => simp
 | some r =>
  unfold FileFree at e
  split at e
  ·exact foldB_inv (P := fun r : List BHeld => r.length ≤ s.length) (f := StoreDrop) (fun a b a' h1 h2 => Nat.le_trans (drop_len h2) h1) _ _ _ (Nat.le_refl _) e
  ·cases e
end Sp
namespace Sp
open Fw Nd
theorem names_nodup {l : List BSnap} : (∀ (k : Nat) (s : BSnap), l[k]? = some s → (k : Int) ≤ l12At l s.name) ↔ (l.map (·.name)).Nodup := by
 constructor
 ·intro h
  rw [List.nodup_iff_pairwise_ne, List.pairwise_map, List.pairwise_iff_getElem]
  intro i j hi hj hij e
  have h1 := h j l[j] (by simp)
  simp only [l12At] at h1
  cases e2 : atS l l[j].name with
  | none => rw [e2] at h1; simp [optI] at h1; omega
  | some m =>
   rw [e2] at h1
   obtain ⟨_, _, _, _, h4⟩ := at_some e2
   simp only [optI] at h1
   exact h4 i l[i] (by omega) (by simp) e
 ·intro h k s hs
  obtain ⟨hk, hk2⟩ := List.getElem?_eq_some_iff.1 hs
  simp only [l12At]
  cases e2 : atS l s.name with
  | none =>
   have := List.findIdx?_eq_none_iff.1 e2 s (List.mem_of_getElem? hs)
   simp at this
  | some m =>
   obtain ⟨s', h1, h2, h3, _⟩ := at_some e2
   simp only [optI]
   by_cases hm : m < k
   ·rw [List.nodup_iff_pairwise_ne, List.pairwise_map, List.pairwise_iff_getElem] at h
    obtain ⟨_, h1'⟩ := List.getElem?_eq_some_iff.1 h1
    exact absurd (by rw [h1', hk2, h2]) (h m k h3 hk hm)
   ·omega
theorem namesOK_iff {l : List BSnap} : NamesOK l ↔ l.length ≤ 6 ∧ (∀ s, s ∈ l → l1Word s.name = true) ∧ (l.map (·.name)).Nodup := by
 rw [← names_nodup]
 constructor
 ·rintro ⟨h1, h2⟩
  refine ⟨h1, fun s hs => ?_, fun k s hs => (h2 k s hs).2⟩
  obtain ⟨k, hk⟩ := List.getElem?_of_mem hs
  exact (h2 k s hk).1
 ·rintro ⟨h1, h2, h3⟩
  exact ⟨h1, fun k s hs => ⟨h2 s (List.mem_of_getElem? hs), h3 k s hs⟩⟩
theorem NamesOK.sub {l m : List BSnap} (h : NamesOK l) (hs : m.Sublist l) : NamesOK m := by
 obtain ⟨h1, h2, h3⟩ := namesOK_iff.1 h
 exact namesOK_iff.2 ⟨Nat.le_trans hs.length_le h1, fun s hm => h2 s (hs.subset hm), (hs.map _).nodup h3⟩
section
variable {d d1 : BDisk} {n : Bs} {p : Bs} {b : List Int}
theorem split_at {α : Type} {l : List α} {i : Nat} {x : α} (h : l[i]? = some x) : l = l.take i ++ x :: l.drop (i + 1) := by
 have := List.take_append_drop i l
 rw [drop_at h] at this
 exact this.symm
theorem back_hol (hd : DiskValid d = true) {i : Nat} {s : BSnap} {st : List BHeld} (hs : d.snaps[i]? = some s) (hk : l12Keep d.store s.tree = some st) :
  ∃ L', freeTs st d.tree = some L' ∧ l12Free st d.tree = L' ∧ DHol L' (s.tree :: d.snaps.map (·.tree)) ∧ ∀ a, us L' a = us d.store a + (cntL s.tree a : Int) - (cntL d.tree a : Int) ∧ (0 < us L' a → by_ L' a = by_ d.store a) := by
 obtain ⟨hN, hH⟩ := dd_iff.1 hd
 obtain ⟨g1, g2⟩ := keep_hol hH (snap_in hs) hk
 obtain ⟨L', k1, k2, k3, k4⟩ := free_hol (t := d.tree) (ts := s.tree :: d.snaps.map (·.tree)) (g1.perm (List.Perm.swap _ _ _))
 exact ⟨L', k1, k2, k3, fun a => ⟨by have := (g2 a).1; have := (k4 a).1; omega, fun ha => ((k4 a).2 ha).trans (g2 a).2⟩⟩
theorem back_valid (h : SnapBack d n = some d1) : DiskValid d1 = true := by
 obtain ⟨hd, i, s, st, hi, hs, hsn, hk, rfl⟩ := back_get h
 obtain ⟨L', _, k2, k3, _⟩ := back_hol hd hs hk
 refine dd_iff.2 ⟨(dd_iff.1 hd).1, ?_⟩
 show DHol (l12Free st d.tree) _
 rw [k2]
 exact k3
theorem dwrite_get (h : DiskWrite d p b = some d1) : DiskValid d = true ∧ FileValid b = true ∧ ∃ v, l11Write ⟨d.store, d.tree⟩ p b = some v ∧ d1 = ⟨v.store, v.tree, d.snaps⟩ := by
 unfold DiskWrite at h
 split at h
 ·rename_i hc
  simp only [Bool.and_eq_true] at hc
  obtain ⟨v, h1, h2⟩ := Option.map_eq_some_iff.1 h
  exact ⟨hc.1, hc.2, v, h1, h2.symm⟩
 ·cases h
theorem DHol.hol {L : List BHeld} {t : List BItem} {ts : List (List BItem)} (h : DHol L (t :: ts)) : Hol L t :=
 ⟨h.vh, h.vt t (by simp), h.ids t (by simp), fun a => by have := h.use a; rw [cntD_cons] at this; omega⟩
theorem dwrite_valid (h : DiskWrite d p b = some d1) : DiskValid d1 = true := by
 obtain ⟨hd, hb, v, hv, rfl⟩ := dwrite_get h
 obtain ⟨hN, hH⟩ := dd_iff.1 hd
 refine dd_iff.2 ⟨hN, ?_⟩
 show DHol v.store (v.tree :: d.snaps.map (·.tree))
 unfold l11Write at hv
 split at hv
 ·cases hv
 ·rename_i r hst
  obtain ⟨s, ids⟩ := r
  split at hv
  ·cases hv
  ·rename_i t ht
   obtain ⟨s', _, _, g1, g2, g3⟩ := write_ok (DHol.hol (ts := d.snaps.map (·.tree)) hH) hst ht
   obtain ⟨_, _, hsu, _⟩ := store_ok hH.vh hst
   have hv' : l11Write ⟨d.store, d.tree⟩ p b = some v := by
    simp only [l11Write, hst, ht]
    exact hv
   rw [g1] at hv'
   cases hv'
   have hu : ∀ a, us s' a = (cntD (t :: d.snaps.map (·.tree)) a : Int) := fun a => by
    have h1 := hH.use a
    have h2 : us s' a = us d.store a + (cntL t a : Int) - (cntL d.tree a : Int) := (g3 a).1
    simp only [trees, cntD_cons] at h1
    rw [cntD_cons]
    omega
   refine ⟨g2.vh, fun u hu2 => ?_, fun u hu2 x hx => ?_, hu⟩
   ·rcases List.mem_cons.1 hu2 with rfl | hu2
    ·exact g2.vt
    ·exact hH.vt u (List.mem_cons.2 (.inr hu2))
   ·rcases List.mem_cons.1 hu2 with rfl | hu2
    ·exact g2.ids x hx
    ·refine ids_keep hH.vh g2.vh (fun a ha => ?_) (hH.ids u (List.mem_cons.2 (.inr hu2)) x hx)
     have h1 : 0 < cnt1 a x.ids := cnt1_pos.2 ha
     have h2 := cntL_mem hx a
     have h3 := cntD_mem hu2 a
     have h4 := hu a
     rw [cntD_cons] at h4
     have h5 : 0 < us s' a := by omega
     have h6 := hH.use a
     simp only [trees, cntD_cons] at h6
     exact ⟨h5, ((g3 a).2 h5).trans ((hsu a).2 (by omega))⟩
end
end Sp
namespace Fw
open Go
section ops
variable {P : Program} {n : Nat} {ops : Array Oper} {Q : Post} {rest : List Oper} {L : Slots} {ds : List Deferred} {w w0 : World} {G0 : PH} {S : List Nat} {G : PH} {B : List Res}
variable {ty : TypeId} {ps : String} {af : Array Edge}
end ops
theorem All2.del {α β : Type} {R : α → β → Prop} {l : List α} {m : List β} (h : All2 R l m) : ∀ (i : Nat), All2 R (l.take i ++ l.drop (i + 1)) (m.take i ++ m.drop (i + 1)) := by
 induction h with
 | nil => intro i; simp; exact .nil
 | cons h t ih =>
  intro i
  cases i with
  | zero => simpa using t
  | succ i => simpa using .cons h (ih i)
end Fw
namespace Fw
open Sp
end Fw
namespace Sp
open Fw
section
variable {d d1 : BDisk} {n : Bs} {p : Bs} {b : List Int}
theorem back_isv (h : SnapBack d n = some d1) : DiskValid d = true := (back_get h).1
theorem back_eq (hd : DiskValid d = true) {i : Nat} {s : BSnap} (hi : atS d.snaps n = some i) (hs : d.snaps[i]? = some s) : SnapBack d n = (l12Keep d.store s.tree).map (fun st => ⟨l12Free st d.tree, s.tree, d.snaps⟩) := by
 unfold SnapBack
 rw [hi]
 simp only [hd, if_true, hs, Option.map_some, Option.getD_some]
theorem back_noat (h : optI (atS d.snaps n) < 0) : SnapBack d n = none := by
 cases e : atS d.snaps n with
 | none => unfold SnapBack; rw [e]
 | some i => rw [e] at h; simp only [optI] at h; omega
theorem back_nov (h : DiskValid d = false) : SnapBack d n = none := by
 cases e : SnapBack d n with
 | none => rfl
 | some q => rw [back_isv e] at h; cases h
theorem dk_lim {o : Option BDisk} (h : ∀ d1, o = some d1 → DiskValid d1 = true) : ((o.map (·.snaps)).getD []).length ≤ 6 := by
 cases o with
 | none => simp
 | some d1 => exact (dv_parts.1 (h d1 rfl)).2.2.1
end
end Sp
namespace Sp
open Fw
theorem l12Free_len : ∀ (l : List BItem) (s : List BHeld), (l12Free s l).length ≤ s.length
 | [], s => by simp [l12Free]
 | x :: r, s => by
  have h1 := free_len s x.ids
  have h2 := l12Free_len r ((FileFree s x.ids).getD [])
  have : l12Free s (x :: r) = l12Free ((FileFree s x.ids).getD []) r := by simp [l12Free]
  rw [this]
  omega
end Sp
namespace Sp
open Fw
theorem freeOld_len (s : List BHeld) (l : List BItem) : (freeOld s l).length ≤ s.length := by
 cases l with
 | nil => exact Nat.le_refl _
 | cons x r => exact free_len s x.ids
theorem l11Write_slen (v : BVol) (p : Bs) (b : List Int) : (((l11Write v p b).map (·.store)).getD []).length ≤ 16 := by
 have h := fileStore_len v.store b
 unfold l11Write
 cases e : FileStore v.store b with
 | none => simp
 | some r =>
  rw [e] at h
  simp only [Option.map_some, Option.getD_some] at h
  have h2 := freeOld_len r.1 (l11Ids v.tree p)
  cases e2 : TreePut v.tree ⟨p, false, r.2⟩ with
  | none => simp [e2]
  | some t => simp [e2]; omega
end Sp
namespace Sp
open Fw
end Sp
namespace Fw
open Go
end Fw
namespace Fw
open Go
end Fw
namespace Sp
open Fw Nd
end Sp
namespace Sp
open Fw Nd
end Sp
namespace Sp
open Fw
end Sp
namespace Fw
open Go
section
variable {P : Program} {n : Nat} {Q : Post} {L : Slots} {ds : List Deferred} {w : World}
def JP (n : Nat) (ds : List Deferred) (Lf : Slots) (J : Slots → World → Prop) : Post := fun e a w => e = .normal ∧ ∃ M, FrL n (M ++ Lf) ds a ∧ J M w
theorem W_join {x y : Code} (Lf : Slots) (J : Slots → World → Prop) (hf : Sub Lf L) (first : W P n (JP n ds Lf J) x L ds w) (second : ∀ M w, J M w → W P n Q y (M ++ Lf) ds w) : W P n Q (.seq x y) L ds w :=
 W_seq (fun a ha => wp_mono (first a ha) (fun e a' w' hq => by
  obtain ⟨he, M, hF, hJ⟩ := hq
  subst he
  exact second M w' hJ a' hF))
theorem N_J {Lf : Slots} {J : Slots → World → Prop} {M : Slots} (hJ : J M w) (hM : Sub M L := by (repeat (first | exact Sub.nil | refine Sub.cons rfl ?_))) (hf : Sub Lf L := by (repeat (first | exact Sub.nil | refine Sub.cons rfl ?_))) : N n (JP n ds Lf J) .normal L ds w :=
 fun _ ha => ⟨rfl, M, ha.sub (hM.app hf), hJ⟩
end
end Fw
namespace Sp
open Fw Nd
end Sp
namespace Sp
open Fw Nd
def ids (L : List BHeld) : List Int := L.map (·.id)
def stored (L : List BHeld) : Nat := (L.map (fun h => h.bytes.length)).sum
def shown (L : List BHeld) : Int := (L.map (fun h => h.uses * (h.bytes.length : Int))).sum
def runs : List Int → Nat
 | [] => 0
 | [_] => 1
 | a :: b :: r => (if a = b then 0 else 1) + runs (b :: r)
def packed (L : List BHeld) : Nat := (L.map (fun h => 2 * runs h.bytes)).sum
def sharedN (L : List BHeld) : Nat := L.countP (fun h => decide (1 < h.uses))
theorem runs_le : ∀ b : List Int, runs b ≤ b.length
 | [] => by simp [runs]
 | [_] => by simp [runs]
 | a :: b :: r => by
  have := runs_le (b :: r)
  simp only [runs, List.length_cons] at *
  split <;> omega
theorem held_len {L : List BHeld} (hV : VH L) {h : BHeld} (hh : h ∈ L) : (1 ≤ h.bytes.length ∧ h.bytes.length ≤ 8) ∧ 1 ≤ h.uses ∧ h.uses ≤ 999 := ⟨bv_len (hV.ok h hh).2.1, (hV.ok h hh).2.2⟩
theorem stored_shown : ∀ {L : List BHeld}, (∀ h, h ∈ L → (1 ≤ h.bytes.length ∧ h.bytes.length ≤ 8) ∧ 1 ≤ h.uses ∧ h.uses ≤ 999) →
  (stored L : Int) ≤ shown L ∧ packed L ≤ 2 * stored L ∧ (stored L = 0 ↔ L = []) ∧ (shown L = 0 ↔ L = []) ∧ (sharedN L = 0 ↔ (stored L : Int) = shown L) ∧ stored L ≤ 8 * L.length ∧ shown L ≤ 7992 * L.length
 | [], _ => by simp [stored, shown, packed, sharedN]
 | x :: r, h => by
  obtain ⟨i1, i2, i3, i4, i5, i6, i7⟩ := stored_shown (L := r) (fun y hy => h y (by simp [hy]))
  obtain ⟨⟨g1, g2⟩, g3, g4⟩ := h x (by simp)
  have e1 : stored (x :: r) = x.bytes.length + stored r := by simp [stored]
  have e2 : shown (x :: r) = x.uses * (x.bytes.length : Int) + shown r := by simp [shown]
  have e3 : packed (x :: r) = 2 * runs x.bytes + packed r := by simp [packed]
  have e4 : sharedN (x :: r) = sharedN r + (if 1 < x.uses then 1 else 0) := by simp [sharedN, List.countP_cons]
  have hr := runs_le x.bytes
  have m1 : (x.bytes.length : Int) ≤ x.uses * (x.bytes.length : Int) := by
   have := Int.mul_le_mul_of_nonneg_right g3 (show (0 : Int) ≤ (x.bytes.length : Int) by omega)
   omega
  have m2 : x.uses * (x.bytes.length : Int) ≤ 999 * 8 := Int.mul_le_mul g4 (by omega) (by omega) (by omega)
  have m3 : 1 < x.uses → (x.bytes.length : Int) < x.uses * (x.bytes.length : Int) := fun hu => by
   have := Int.mul_le_mul_of_nonneg_right (show (2 : Int) ≤ x.uses by omega) (show (0 : Int) ≤ (x.bytes.length : Int) by omega)
   omega
  have m4 : x.uses = 1 → x.uses * (x.bytes.length : Int) = (x.bytes.length : Int) := fun hu => by rw [hu]; omega
  rw [e1, e2, e3, e4]
  refine ⟨by push_cast; omega, by omega, ⟨fun hh => by omega, fun hh => by cases hh⟩, ⟨fun hh => by omega, fun hh => by cases hh⟩, ?_, by simp only [List.length_cons]; omega, by simp only [List.length_cons]; push_cast; omega⟩
  by_cases hu : 1 < x.uses
  ·rw [if_pos hu]
   have := m3 hu
   constructor
   ·intro hh; omega
   ·intro hh; push_cast at hh; omega
  ·rw [if_neg hu, m4 (by omega)]
   constructor
   ·intro hh; have := i5.1 (by omega); push_cast; omega
   ·intro hh; have := i5.2 (by push_cast at hh; omega); omega
theorem sum_ids {α : Type} {L : List BHeld} (hV : VH L) (f : BHeld → α) : L.map f = (ids L).map (fun a => f (getH L a)) := by
 have nd : (L.map (·.id)).Nodup := List.pairwise_map.2 (hV.asc.imp (fun hh e => by omega))
 unfold ids
 rw [List.map_map]
 exact List.map_congr_left (fun h hh => by simp only [Function.comp, getH_mem nd hh])
theorem mem_ids {L : List BHeld} (hV : VH L) {a : Int} : a ∈ ids L ↔ 0 < us L a := by
 rw [us_pos hV]
 exact at_mem.symm
theorem ids_asc {L : List BHeld} (hV : VH L) : (ids L).Pairwise (· < ·) := List.pairwise_map.2 (hV.asc.imp (fun hh => hh))
theorem ids_filter {L L' : List BHeld} (hV : VH L) (hV' : VH L') (h : ∀ a, 0 < us L' a → 0 < us L a) : ids L' = (ids L).filter (fun a => decide (0 < us L' a)) := by
 have h1 := ids_asc hV'
 have h2 := (ids_asc hV).filter (fun a => decide (0 < us L' a))
 have ne : ∀ {a b : Int}, a < b → a ≠ b := fun h => by omega
 have hp : (ids L').Perm ((ids L).filter (fun a => decide (0 < us L' a))) := (List.perm_ext_iff_of_nodup (h1.imp ne) (h2.imp ne)).2 (fun a => by
  rw [List.mem_filter, mem_ids hV', mem_ids hV, decide_eq_true_eq]
  exact ⟨fun g => ⟨h a g, g⟩, fun g => g.2⟩)
 exact hp.eq_of_pairwise (fun a b _ _ g1 g2 => by omega) h1 h2
theorem shared_take {d d1 : BDisk} {n : Bs} (h : SnapTake d n = some d1) : d.store.countP (fun h => decide (0 < cntL d.tree h.id)) ≤ sharedN d1.store := by
 obtain ⟨hd, hw, hn, hl, s, hk, rfl⟩ := take_get h
 obtain ⟨hN, hH⟩ := dd_iff.1 hd
 obtain ⟨g1, g2⟩ := keep_hol hH (t := d.tree) (by simp [trees]) hk
 show _ ≤ sharedN s
 have hV := hH.vh
 have hc : ∀ {L : List BHeld} (p : BHeld → Bool), VH L → L.countP p = (ids L).countP (fun a => p (getH L a)) := fun {L} p hL => by
  have e := sum_ids hL p
  have : L.countP p = (L.map p).countP id := by rw [List.countP_map]; rfl
  rw [this, e, List.countP_map]; rfl
 have hids : ids s = ids d.store := by
  rw [ids_filter hV g1.vh (fun a ha => by
   have h1 := (g2 a).1
   have h2 := hH.use a
   have h4 := cntD_mem (ts := trees d) (t := d.tree) (by simp [trees]) a
   omega)]
  exact List.filter_eq_self.2 (fun a ha => by
   have := (mem_ids hV).1 ha
   have := (g2 a).1
   simp only [decide_eq_true_eq]
   omega)
 unfold sharedN
 rw [hc _ hV, hc _ g1.vh, hids]
 refine List.countP_mono_left (fun a ha hp => ?_)
 have h0 := (mem_ids hV).1 ha
 have hid := get_id ((us_pos hV).1 h0)
 have h1 := (g2 a).1
 simp only [decide_eq_true_eq, ← hid] at hp ⊢
 have : us s a = (getH s a).uses := rfl
 omega
theorem shared_le (L : List BHeld) : sharedN L ≤ L.length := List.countP_le_length
end Sp
namespace Fw
structure BOp where
 kind : Int
 path : Bs
 bytes : List Int
end Fw
namespace Sp
open Fw Nd
section
variable {d d1 : BDisk} {p : Bs} {o : BOp}
end
end Sp
namespace Sp
open Fw Nd
end Sp
namespace Fw
structure BPart where
 kind : Int
 path : Bs
 dir : Bool
 bytes : List Int
end Fw
namespace Sp
open Fw Nd
section
variable {d d1 : BDisk} {x : BPart}
end
end Sp
namespace Sp
open Fw Nd
section
variable {d d1 : BDisk} {x : BPart}
end
end Sp
namespace Sp
open Fw Nd
end Sp
namespace Sp
open Fw Nd
end Sp
namespace Sp
open Fw Nd
end Sp
namespace Sp
open Fw Nd
def seen (L : List BHeld) (x : BItem) : Bs × Bool × List Int := (x.path, x.dir, load L x.ids)
end Sp
namespace Sp
open Fw Nd
section
variable {d d1 : BDisk} {f t : Bs}
end
end Sp
namespace Fw
structure BQuota where
 dir : Bs
 most : Int
end Fw
namespace Sp
open Fw Nd
section
variable {d x : BDisk} {l : List BQuota} {p : Bs} {n : Int} {b : List Int}
end
end Sp
namespace Sp
open Fw Nd
end Sp
namespace Sp
open Fw Nd
end Sp
namespace Sp
open Fw Nd
def cShared (d : BDisk) : Int := if DiskValid d then (sharedN d.store : Int) else -1
section
variable {L : List BHeld} {k : Nat} {h : BHeld} (e : L[k]? = some h)
include e
theorem shared_yes (hu : 1 < h.uses) : sharedN (L.take (k + 1)) = sharedN (L.take k) + 1 := by simp [sharedN, take_succ' e, List.countP_append, hu]
theorem shared_no (hu : ¬ 1 < h.uses) : sharedN (L.take (k + 1)) = sharedN (L.take k) := by simp [sharedN, take_succ' e, List.countP_append, hu]
end
theorem held_bnd {L : List BHeld} (hV : VH L) {k : Nat} {h : BHeld} (e : L[k]? = some h) : BlockValid h.bytes = true ∧ 1 ≤ h.bytes.length ∧ h.bytes.length ≤ 8 ∧ 1 ≤ h.uses ∧ h.uses ≤ 999 ∧ 0 ≤ h.uses * (h.bytes.length : Int) ∧ h.uses * (h.bytes.length : Int) ≤ 7992 := by
 have hm := List.mem_of_getElem? e
 obtain ⟨⟨h1, h2⟩, h3, h4⟩ := held_len hV hm
 have h5 : 0 ≤ h.uses * (h.bytes.length : Int) := Int.mul_nonneg (by omega) (by omega)
 have h6 : h.uses * (h.bytes.length : Int) ≤ 999 * 8 := Int.mul_le_mul (by omega) (by omega) (by omega) (by omega)
 exact ⟨(hV.ok h hm).2.1, h1, h2, h3, h4, h5, by omega⟩
end Sp
namespace Sp
open Fw Nd
theorem cnt_bnd {L : List BHeld} (hV : VH L) (k : Nat) : stored (L.take k) ≤ 128 ∧ 0 ≤ shown (L.take k) ∧ shown (L.take k) ≤ 127872 ∧ packed (L.take k) ≤ 256 ∧ sharedN (L.take k) ≤ 16 := by
 have h16 := hV.len
 obtain ⟨h1, h2, _, _, _, h6, h7⟩ := stored_shown (L := L.take k) (fun h hh => held_len hV (List.mem_of_mem_take hh))
 have h8 := shared_le (L.take k)
 have hl : (L.take k).length ≤ 16 := by rw [List.length_take]; omega
 omega
end Sp
namespace Sp
open Fw Nd
end Sp
namespace Sp
open Fw Nd
theorem shared_take0 {d d1 : BDisk} {n : Bs} (h : SnapTake d n = some d1) : (d.store.countP (fun h => decide (0 < cntL d.tree h.id)) : Int) ≤ cShared d1 := by
 have hv := take_valid h
 have := shared_take h
 simp only [cShared, hv, if_true]
 omega
end Sp
namespace Sp
open Fw Nd
theorem cp_succ {α : Type} {p : α → Bool} {l : List α} {k : Nat} {x : α} (e : l[k]? = some x) : (l.take (k + 1)).countP p = (l.take k).countP p + (if p x then 1 else 0) := by
 simp [take_succ' e, List.countP_append, List.countP_cons]
theorem cntL_succ {t : List BItem} {k : Nat} {x : BItem} (e : t[k]? = some x) (a : Int) : cntL (t.take (k + 1)) a = cntL (t.take k) a + cnt1 a x.ids := by
 simp [cntL, take_succ' e]
theorem some_step {n m c : Nat} (h : n = m + c) : decide (0 < n) = (decide (0 < m) || decide (0 < c)) := by
 subst h
 rw [Bool.eq_iff_iff]; simp; omega
theorem some_id {is : List Int} {j : Nat} {y a : Int} (e : is[j]? = some y) : decide (0 < cnt1 a (is.take (j + 1))) = (decide (0 < cnt1 a (is.take j)) || decide (y = a)) := by
 rw [cnt1_succ e, Bool.eq_iff_iff]
 by_cases h : y = a <;> simp [h]
end Sp
namespace Fw
open Go
inductive RunSeg (T : TypeId) (G : PH) : Value → List (Int × Int) → Value → Prop
 | nil (v : Value) : RunSeg T G v [] v
 | cons {b : Nat} {m x : Int} {v e : Value} {r : List (Int × Int)} (h : G b = some (cl [.int .i64 m, .int .i64 x, v] T)) (hm : inI m) (hx : inI x) (hr : RunSeg T G v r e) : RunSeg T G (.pointer (some ⟨b, 0, none⟩)) ((m, x) :: r) e
theorem RunSeg.up {T : TypeId} {G G' : PH} {v e : Value} {r : List (Int × Int)} (h : RunSeg T G v r e) (hle : PLe G G') : RunSeg T G' v r e := by
 induction h with
 | nil v => exact .nil v
 | cons h hm hx _ ih => exact .cons (hle _ _ h) hm hx ih
theorem RunSeg.snoc {T : TypeId} {G : PH} {v : Value} {r : List (Int × Int)} {b : Nat} {m x : Int} {e : Value} (h : RunSeg T G v r (.pointer (some ⟨b, 0, none⟩))) (hb : G b = some (cl [.int .i64 m, .int .i64 x, e] T)) (hm : inI m) (hx : inI x) : RunSeg T G v (r ++ [(m, x)]) e := by
 generalize hp : Value.pointer (some ⟨b, 0, none⟩) = p at h
 induction h with
 | nil v => subst hp; exact .cons hb hm hx (.nil e)
 | cons h hm' hx' _ ih => exact .cons h hm' hx' (ih hp)
def RunP (T : TypeId) (G : PH) (v : Value) (r : List (Int × Int)) : Prop := RunSeg T G v r (.pointer none)
theorem RunP.up {T : TypeId} {G G' : PH} {v : Value} {r : List (Int × Int)} (h : RunP T G v r) (hle : PLe G G') : RunP T G' v r := RunSeg.up h hle
theorem RunP.nil {T : TypeId} {G : PH} : RunP T G (.pointer none) [] := RunSeg.nil _
theorem RunP.open {T : TypeId} {G : PH} {v : Value} {r : List (Int × Int)} (h : RunP T G v r) : (v = .pointer none ∧ r = []) ∨ ∃ b m x v' r', v = .pointer (some ⟨b, 0, none⟩) ∧ r = (m, x) :: r' ∧ G b = some (cl [.int .i64 m, .int .i64 x, v'] T) ∧ inI m ∧ inI x ∧ RunP T G v' r' := by
 unfold RunP at h
 cases h with
 | nil => exact .inl ⟨rfl, rfl⟩
 | cons h hm hx hr => exact .inr ⟨_, _, _, _, _, rfl, rfl, h, hm, hx, hr⟩
end Fw
namespace Fw
open Go
section
variable {P : Program} {n : Nat} {ops : Array Oper} {Q : Post} {rest : List Oper} {L : Slots} {ds : List Deferred} {w w0 : World} {G0 : PH} {S : List Nat} {G : PH} {B : List Res} {ty : TypeId} {ps : String} {af : Array Edge}
theorem o_iface {d : Nat} {t : TypeId} {x : Operand} {v : Value} (hc : P.concrete t = true) (hd : Nat.blt d n = true) (hx : od L x = some v) (next : R P n ops Q rest ((d, .iface t v) :: L) ds w) : R P n ops Q (⟨some d, .makeInterface t x, ty, ps, af, none⟩ :: rest) L ds w :=
 R_run hd (fun a ha => by simp [execOp, ha.eval hx, run_makeInterface w t v hc]) next
theorem RunP.shape {T : TypeId} {G : PH} {v : Value} {r : List (Int × Int)} (h : RunP T G v r) : ∃ p, v = .pointer p := by
 rcases h.open with ⟨rfl, _⟩ | ⟨b, m, x, v', r', rfl, _⟩ <;> exact ⟨_, rfl⟩
theorem RunP.over {T : TypeId} {G : PH} {p : Option Addr} {r : List (Int × Int)} (h : RunP T G (.pointer p) r) (hp : p.isNone = true) : r = [] := by
 rcases h.open with ⟨_, h2⟩ | ⟨b, m, x, v', r', h1, _⟩
 ·exact h2
 ·cases h1; simp at hp
end
end Fw
namespace Fw
open Go
theorem nrm : (∀ (p : Prop) [Decidable p], (decide p = true) = p) ∧ (∀ (p : Prop) [Decidable p], (decide p = false) ↔ ¬p) ∧ (∀ {b : Bool}, ((!b) = true) = (b = false)) ∧ (∀ {b : Bool}, ((!b) = false) = (b = true)) ∧
  (∀ {a b : Bool}, ((!a) = b) ↔ (a = !b)) ∧ ((!true) = false) ∧ ((!false) = true) ∧ (∀ {a b : Int}, (¬ a < b) ↔ b ≤ a) ∧ (∀ {a b : Int}, (¬ a ≤ b) ↔ b < a) ∧ (∀ (x y : Bool), ((x && y) = true) = (x = true ∧ y = true)) ∧ (∀ (x y : Bool), ((x || y) = true) = (x = true ∨ y = true)) ∧
  (∀ (x y : Bool), ((x && y) = false) = (x = false ∨ y = false)) ∧ (∀ (x y : Bool), ((x || y) = false) = (x = false ∧ y = false)) ∧ (∀ {α : Type} [BEq α] [LawfulBEq α] {a b : α}, ((a == b) = true) ↔ a = b) ∧ (∀ {α : Type} [BEq α] [LawfulBEq α] {x y : α}, ((x == y) = false) ↔ x ≠ y) ∧ (∀ (b : Bool), decide (b = true) = b) := by
 refine ⟨?_, ?_, ?_, ?_, ?_, ?_, ?_, ?_, ?_, ?_, ?_, ?_, ?_, ?_, ?_, ?_⟩ <;> intros <;> first | rfl | (simp only [decide_eq_true_eq, decide_eq_false_iff_not, Bool.not_eq_true', Bool.not_eq_false', Bool.not_eq_eq_eq_not, Bool.not_true, Bool.not_false, Int.not_lt, Int.not_le, Bool.and_eq_true, Bool.or_eq_true, Bool.and_eq_false_iff, Bool.or_eq_false_iff, beq_iff_eq, beq_eq_false_iff_ne, Bool.decide_eq_true]) | simp
section
variable {P : Program} {n : Nat} {Q : Post} {L : Slots} {ds : List Deferred} {w : World} {ops : Array Oper} {y c : Code} {id : Nat} {l : List Oper}
theorem q1 (h : R P n l.toArray (K P y Q) l L ds w) : R P n ops (K P (.seq (.region id l.toArray false) y) Q) [] L ds w := R_nil (N_K (W_seq (W_region h)))
theorem q2 (h : R P n l.toArray (K P y Q) l L ds w) : W P n Q (.seq (.region id l.toArray false) y) L ds w := W_seq (W_region h)
theorem q3 (h : W P n Q c L ds w) : R P n ops (K P c Q) [] L ds w := R_nil (N_K h)
variable {d : Nat} {op : Op} {ty : TypeId} {ps : String} {af : Array Edge} {S : World → Prop} {f : Nat} {ls : Array Bool} {v : Value} {j : Nat} {b : Bool}
def rdy (l : List Oper) (ls : Array Bool) (i : Nat) : Bool := Region.noSelect l.toArray && Region.free .any l.toArray ls i && (Region.ready .any l.toArray ls).contains i
theorem RD_t (i : Nat) (hi : nth l i = some ⟨some d, op, ty, ps, af, none⟩) (hb : rdy l ls i = true) (hd : Nat.blt d n = true) (hv : ∀ w, S w → VAL P n L ds w ⟨some d, op, ty, ps, af, none⟩ v)
  (h : RD P n l Q S f (ls.setIfInBounds i true) ((d, v) :: L) ds w) : RD P n l Q S (f + 1) ls L ds w := by
 simp only [rdy, Bool.and_eq_true] at hb
 exact RD_take i hi hb.1.1 hb.1.2 hb.2 hd hv h
theorem RD_tg (i : Nat) (hi : nth l i = some ⟨some d, op, ty, ps, af, some (j, b)⟩) (hb : rdy l ls i = true) (hd : Nat.blt d n = true) (hy : ∀ a, FrL n L ds a → yielded l.toArray a.tmps j = some b) (hv : ∀ w, S w → VAL P n L ds w ⟨some d, op, ty, ps, af, none⟩ v)
  (h : RD P n l Q S f (ls.setIfInBounds i true) ((d, v) :: L) ds w) : RD P n l Q S (f + 1) ls L ds w := by
 simp only [rdy, Bool.and_eq_true] at hb
 exact RD_takeg i hi hb.1.1 hb.1.2 hb.2 hd hy hv h
end
theorem Z.{u} {α : Sort u} {a : α} : a = a := rfl
theorem kR {p : Prop} (h : p := by kernel_rfl) : p := h
theorem oM {p : Prop} (h : p := by omega) : p := h
theorem oO {a b : Prop} (h : (a ∧ b) := by exact ⟨by omega, by omega⟩) : a ∧ b := h
theorem aN {p : Prop} (h : p := by first | assumption | rfl | (simp; done) | (simp; omega) | omega) : p := h
def odl (n d : Nat) (L : Slots) (x : Operand) : Option Value := cond (Nat.blt d n) (od L x) none
theorem odl_some {n d : Nat} {L : Slots} {x : Operand} {v : Value} (h : odl n d L x = some v) : Nat.blt d n = true ∧ od L x = some v := by
 unfold odl at h
 cases e : Nat.blt d n with
 | true => rw [e] at h; exact ⟨rfl, h⟩
 | false => rw [e] at h; cases h
def passOk (n d : Nat) (l : List Oper) (L : Slots) (i : Nat) (c : Bool) : Bool := Nat.blt d n && match gs l i with
 | some t => (match lk L t with | some (.bool b) => !(b == c) | _ => false)
 | none => false
def guardOk (l : List Oper) (L : Slots) (i : Nat) (c : Bool) : Bool := match gs l i with
 | some t => (match lk L t with | some (.bool b) => (b == c) | _ => false)
 | none => false
section
variable {P : Program} {n : Nat} {Q : Post} {L : Slots} {ds : List Deferred} {w : World} {ops : Array Oper} {l rest : List Oper} {ty : TypeId} {ps : String} {af : Array Edge} {d : Nat} {x : Operand} {v : Value} {op : Op} {i : Nat} {b : Bool} {S : World → Prop} {f : Nat} {ls : Array Bool}
theorem mV (h : odl n d L x = some v) (next : R P n ops Q rest ((d, v) :: L) ds w) : R P n ops Q (⟨some d, .move x, ty, ps, af, none⟩ :: rest) L ds w := o_move (odl_some h).1 (odl_some h).2 next
theorem aG (h : odl n d L x = some v) (next : R P n ops Q rest ((d, v) :: L) ds w) : R P n ops Q (⟨some d, .assign x, ty, ps, af, none⟩ :: rest) L ds w := o_assign (odl_some h).1 (odl_some h).2 next
theorem rP (h : passOk n d l L i b = true) (next : R P n l.toArray Q rest ((d, undef) :: L) ds w) : R P n l.toArray Q (⟨some d, op, ty, ps, af, some (i, b)⟩ :: rest) L ds w := by
 unfold passOk at h
 simp only [Bool.and_eq_true] at h
 obtain ⟨h1, h2⟩ := h
 cases e : gs l i with
 | none => rw [e] at h2; cases h2
 | some t =>
  rw [e] at h2
  simp only at h2
  split at h2
  ·rename_i c e2
   exact R_pass h1 (yl_ne e e2 (by simpa using h2)) next
  ·cases h2
theorem gR {dd : Option Nat} (h : guardOk l L i b = true) (next : R P n l.toArray Q (⟨dd, op, ty, ps, af, none⟩ :: rest) L ds w) : R P n l.toArray Q (⟨dd, op, ty, ps, af, some (i, b)⟩ :: rest) L ds w := by
 unfold guardOk at h
 cases e : gs l i with
 | none => rw [e] at h; cases h
 | some t =>
  rw [e] at h
  simp only at h
  split at h
  ·rename_i c e2
   obtain rfl : c = b := by simpa using h
   exact R_guard (yl e e2) next
  ·cases h
theorem vM (i : Nat) (hi : nth l i = some ⟨some d, .move x, ty, ps, af, none⟩) (h : odl n d L x = some v) (next : RD P n l Q S f (ls.setIfInBounds i true) ((d, v) :: L) ds w) (hb : rdy l ls i = true := by kernel_rfl) : RD P n l Q S (f + 1) ls L ds w :=
 RD_t i hi hb (odl_some h).1 (fun _ _ => v_move (odl_some h).2) next
end
section
variable {n : Nat} {P : Program} {Q : Post} {L : Slots} {ds : List Deferred} {w : World} {fn : Func} {C : Ending → World → Prop}
theorem rt1 {t : Nat} {v : Value} (hr : fn.results = #[.tmp t]) (h : lk L t = some v) (hR : C (.returned (tupleOf [v])) w) : N n (bodyPost P fn C) .ret L [] w := ret_gen (rs := [.tmp t]) (vs := [v]) hr ⟨h, trivial⟩ hR
theorem rt2 {t t2 : Nat} {v v2 : Value} (hr : fn.results = #[.tmp t, .tmp t2]) (h : lk L t = some v) (h2 : lk L t2 = some v2) (hR : C (.returned (tupleOf [v, v2])) w) : N n (bodyPost P fn C) .ret L [] w := ret_gen (rs := [.tmp t, .tmp t2]) (vs := [v, v2]) hr ⟨h, h2, trivial⟩ hR
theorem W_lp {c : Code} (Lf : Slots) (J : Slots → World → Nat → Prop) (M0 : Slots) (m0 : Nat) (hf : Sub Lf L) (h0 : J M0 w m0)
  (round : ∀ M w m, J M w m → W P n (LP n ds Lf J m Q) c (M ++ Lf) ds w) (hM : Sub M0 L := by repeat (first | exact Sub.nil | refine Sub.cons rfl ?_)) : W P n Q (.loop c) L ds w := W_loop Lf J M0 m0 hf hM h0 round
theorem N_lp {Lf : Slots} {J : Slots → World → Nat → Prop} {m : Nat} {M : Slots} {m' : Nat} (hJ : J M w m') (hm : m' < m) (hM : Sub M L := by repeat (first | exact Sub.nil | refine Sub.cons rfl ?_)) (hf : Sub Lf L := by repeat (first | exact Sub.nil | refine Sub.cons rfl ?_)) : N n (LP n ds Lf J m Q) .normal L ds w := N_LP hJ hM hf hm
end
end Fw
namespace Go.Proofs.Tst
open Go Fw Go.RowKit Go.Extern.Stop Go.Stop Go.Extern Tryz
theorem as_nil (t : Value) (w : World) : Calls Tryz.prog 65 #[.nilIface, t] w fun e w' => e = .returned (.bool false) ∧ w' = w := by
 go_enter func65, ntmps65
 go_wp2
 go_ret
 exact ⟨Z, Z⟩
theorem as_vP (t : Addr) (w : World) : (ReflectliteValue.unpack (.iface 111 (.pointer (some t)))).run Tryz.prog w
  = .ok (.agg #[.pointer (some ⟨4, 111, none⟩), .pointer (some ⟨w.heap.size, 0, none⟩), .int .u64 150]) (w.alloc (.cells #[.pointer (some t)] 111)) := by kernel_rfl
theorem as_tP (a : Addr) (w : World) : (ReflectliteValue.methodAny (ReflectliteValue.valueError "reflectlite.Value.Type" 0) (fun t _ _ _ => ReflectliteType.toType t) #[.agg #[.pointer (some ⟨4, 111, none⟩), .pointer (some a), .int .u64 150]]).run Tryz.prog w
  = .ok (.iface 180 (.agg #[.pointer (some ⟨4, 111, none⟩)])) w := by kernel_rfl
theorem as_mK (h : Value) (w : World) : (Go.method 399 180 (.agg #[h]) "Kind").run Tryz.prog w = .ok (236, h) w := by kernel_rfl
theorem as_kP (w : World) : ((ReflectliteType.abiMethod fun t => Functor.map (fun a : Nat => Value.int IntKind.u8 (a : Int)) (Rtype.kind t)) #[.pointer (some ⟨4, 111, none⟩)]).run Tryz.prog w = .ok (.int .u8 22) w := by kernel_rfl
theorem as_kC (w : World) : ((ReflectliteType.abiMethod fun t => Functor.map (fun a : Nat => Value.int IntKind.u8 (a : Int)) (Rtype.kind t)) #[.pointer (some ⟨4, 109, none⟩)]).run Tryz.prog w = .ok (.int .u8 25) w := by kernel_rfl
theorem as_rlm (z : Sem Value) (f : TypeId → Addr → Nat → Nat → Sem Value) (v : Value) :
  ReflectliteValue.method z f #[v] = (do match ← ReflectliteValue.parts v with | none => z | some (t, a, fl) => f t a fl (fl % 32)) := rfl
theorem as_pP (a : Addr) (w : World) : (ReflectliteValue.parts (.agg #[.pointer (some ⟨4, 111, none⟩), .pointer (some a), .int .u64 150])).run Tryz.prog w = .ok (some (111, a, 150)) w := by kernel_rfl
theorem as_isNil (a p : Addr) (W : World) (ha : W.cell? a = some (.pointer (some p))) :
  (ReflectliteValue.method (ReflectliteValue.valueError "reflectlite.Value.IsNil" 0) ReflectliteValue.isNil #[.agg #[.pointer (some ⟨4, 111, none⟩), .pointer (some a), .int .u64 150]]).run Tryz.prog W = .ok (.bool false) W := by
 rw [as_rlm]
 simp only [Sem.run_bind, as_pP, Result.andThen]
 simp [ReflectliteValue.isNil, loadVar, isAgg, underlying, underlying111, ha, Result.andThen]
theorem as_mE (h : Value) (w : World) : (Go.method 399 180 (.agg #[h]) "Elem").run Tryz.prog w = .ok (248, .agg #[h]) w := by kernel_rfl
theorem as_mI (h : Value) (w : World) : (Go.method 399 180 (.agg #[h]) "Implements").run Tryz.prog w = .ok (249, .agg #[h]) w := by kernel_rfl
theorem as_mA (h : Value) (w : World) : (Go.method 399 180 (.agg #[h]) "AssignableTo").run Tryz.prog w = .ok (246, .agg #[h]) w := by kernel_rfl
theorem as_eP (w : World) : (ReflectliteType.method ReflectliteType.elem #[.agg #[.pointer (some ⟨4, 111, none⟩)]]).run Tryz.prog w = .ok (.iface 180 (.agg #[.pointer (some ⟨4, 109, none⟩)])) w := by kernel_rfl
theorem as_iC (w : World) : (ReflectliteType.relation "Implements" ReflectliteType.implements_ #[.agg #[.pointer (some ⟨4, 109, none⟩)], .iface 180 (.agg #[.pointer (some ⟨4, 52, none⟩)])]).run Tryz.prog w = .ok (.bool true) w := by kernel_rfl
theorem as_tO (v : Value) (w : World) : (ReflectliteType.typeOf #[.iface 109 v]).run Tryz.prog w = .ok (.iface 180 (.agg #[.pointer (some ⟨4, 109, none⟩)])) w := by kernel_rfl
theorem as_aC (w : World) : (ReflectliteType.relation "AssignableTo" ReflectliteType.assignableTo #[.agg #[.pointer (some ⟨4, 109, none⟩)], .iface 180 (.agg #[.pointer (some ⟨4, 109, none⟩)])]).run Tryz.prog w = .ok (.bool true) w := by kernel_rfl
theorem as_vC (s : Bs) (w : World) : (ReflectliteValue.unpack (.iface 109 (.agg #[str s]))).run Tryz.prog w
  = .ok (.agg #[.pointer (some ⟨4, 109, none⟩), .pointer (some ⟨w.heap.size, 0, none⟩), .int .u64 153]) (w.alloc (.cells #[str s] 109)) := by kernel_rfl
theorem as_elP (w : World) : (Rtype.elem? 111).run Tryz.prog w = .ok (some 109) w := by kernel_rfl
theorem as_mkC (p : Addr) (w : World) : (ReflectliteValue.mk 109 p ReflectliteValue.flagAddr).run Tryz.prog w = .ok (.agg #[.pointer (some ⟨4, 109, none⟩), .pointer (some p), .int .u64 409]) w := by kernel_rfl
theorem as_elV (a p : Addr) (W : World) (ha : W.cell? a = some (.pointer (some p))) :
  (ReflectliteValue.method (ReflectliteValue.valueError "reflectlite.Value.Elem" 0) ReflectliteValue.elem #[.agg #[.pointer (some ⟨4, 111, none⟩), .pointer (some a), .int .u64 150]]).run Tryz.prog W
   = .ok (.agg #[.pointer (some ⟨4, 109, none⟩), .pointer (some p), .int .u64 409]) W := by
 rw [as_rlm]
 simp only [Sem.run_bind, as_pP, Result.andThen]
 simp [ReflectliteValue.elem, loadVar, isAgg, underlying, underlying111, ha, Result.andThen, as_elP, as_mkC]
theorem as_m3 (h1 : Value → Value → Sem Value) (h2 : Array Value → Sem Value) (v x : Value) : ReflectliteValue.set.match_3 (fun _ => Sem Value) #[v, x] h1 h2 = h1 v x := rfl
theorem as_pCa (a : Addr) (w : World) : (ReflectliteValue.parts (.agg #[.pointer (some ⟨4, 109, none⟩), .pointer (some a), .int .u64 409])).run Tryz.prog w = .ok (some (109, a, 409)) w := by kernel_rfl
theorem as_pC (a : Addr) (w : World) : (ReflectliteValue.parts (.agg #[.pointer (some ⟨4, 109, none⟩), .pointer (some a), .int .u64 153])).run Tryz.prog w = .ok (some (109, a, 153)) w := by kernel_rfl
theorem as_dC (w : World) : (Rtype.directlyAssignable 109 109).run Tryz.prog w = .ok true w := by kernel_rfl
theorem as_ld (b : Addr) (s : Bs) (W : World) (hb : W.cell? b = some (str s)) : (loadVar 109 b).run Tryz.prog W = .ok (.agg #[str s]) W := by
 have h1 := run_loadCells_list (P := Tryz.prog) W b [str s] (fun j v hv => by
  match j, hv with
  | 0, hv =>
   cases hv
   have e : b.add 0 = b := by cases b; simp [Addr.add]
   rw [e]; exact hb)
 simp only [loadVar, Sem.run_bind, isAgg109, Result.andThen_ok, if_true, sizeOf109]
 simp only [List.length_cons, List.length_nil] at h1
 simp [h1]
theorem as_set (ta b : Addr) (s : Bs) (old : Value) (W : World) (hb : W.cell? b = some (str s)) (ht : W.cell? ta = some old) (hf : W.frozen? ta = false) :
  (ReflectliteValue.set #[.agg #[.pointer (some ⟨4, 109, none⟩), .pointer (some ta), .int .u64 409], .agg #[.pointer (some ⟨4, 109, none⟩), .pointer (some b), .int .u64 153]]).run Tryz.prog W
   = .ok (.tuple #[]) (W.setCell ta (str s)) := by
 delta ReflectliteValue.set
 rw [as_m3]
 simp only [Sem.run_bind, as_pCa, as_pC, Result.andThen]
 simp [ReflectliteValue.flagAddr, as_ld b s W hb, Result.andThen, as_dC, storeVar, sizeOf109, Value.cells, storeCells, Addr.add]
 rw [run_store Tryz.prog W ta _ _ (by rfl)]
 simp [ht, hf]
set_option maxHeartbeats 4000000 in
theorem as_hit (s : Bs) (t : Addr) (old : Value) (w : World) (hg : w.cell? ⟨0, 0, none⟩ = some (.iface 180 (.agg #[.pointer (some ⟨4, 52, none⟩)]))) (ht0 : w.cell? t = some old) (hf0 : w.frozen? t = false) :
  Calls Tryz.prog 65 #[.iface 109 (.agg #[str s]), .iface 111 (.pointer (some t))] w fun ev w' => ev = .returned (.bool true) ∧ w' = ((((w.alloc (.cells #[.pointer (some t)] 111)).alloc (.cells #[.pointer (some ⟨4, 111, none⟩), .pointer (some ⟨w.heap.size, 0, none⟩), .int .u64 150] 153)).alloc (.cells #[.pointer (some ⟨4, 111, none⟩), .pointer (some ⟨w.heap.size, 0, none⟩), .int .u64 150] 153)).alloc (.cells #[str s] 109)).setCell t (str s) := by
 have h6 := @run_callFunc_extern Tryz.prog 102 _ (fun args => ReflectliteValue.unpack (args.getD 0 (.tuple #[]))) func102 kR kR kR kR
 have h7 := @run_callFunc_extern Tryz.prog 103 _ (ReflectliteValue.methodAny (ReflectliteValue.valueError "reflectlite.Value.Type" 0) (fun t _ _ _ => ReflectliteType.toType t)) func103 kR kR kR kR
 have h8 := @run_callFunc_extern Tryz.prog 104 _ (ReflectliteValue.method (ReflectliteValue.valueError "reflectlite.Value.IsNil" 0) ReflectliteValue.isNil) func104 kR kR kR kR
 have h27 := @run_callFunc_extern Tryz.prog 236 _ (ReflectliteType.abiMethod fun t => do pure (.int .u8 (← Rtype.kind t))) func236 kR kR kR kR
 have h37 := @run_callFunc_extern Tryz.prog 248 _ (ReflectliteType.method ReflectliteType.elem) func248 kR kR kR kR
 have h38 := @run_callFunc_extern Tryz.prog 249 _ (ReflectliteType.relation "Implements" ReflectliteType.implements_) func249 kR kR kR kR
 have h10 := @run_callFunc_extern Tryz.prog 132 _ ReflectliteType.typeOf func132 kR kR kR kR
 have h35 := @run_callFunc_extern Tryz.prog 246 _ (ReflectliteType.relation "AssignableTo" ReflectliteType.assignableTo) func246 kR kR kR kR
 have h11 := @run_callFunc_extern Tryz.prog 133 _ (ReflectliteValue.method (ReflectliteValue.valueError "reflectlite.Value.Elem" 0) ReflectliteValue.elem) func133 kR kR kR kR
 have h12 := @run_callFunc_extern Tryz.prog 134 _ ReflectliteValue.set func134 kR kR kR kR
 have tO := as_tO
 have mA := as_mA
 have aC := as_aC
 have vC := as_vC
 have f6 := as_vP
 have f7 := as_tP
 have mK := as_mK
 have mE := as_mE
 have mI := as_mI
 have kP := as_kP
 have kC := as_kC
 have eP := as_eP
 have iC := as_iC
 have n8 := as_isNil ⟨w.heap.size, 0, none⟩ t ((w.alloc (.cells #[.pointer (some t)] 111)).alloc (.cells #[.pointer (some ⟨4, 111, none⟩), .pointer (some ⟨w.heap.size, 0, none⟩), .int .u64 150] 153)) (by simp)
 have hlt : 0 < w.heap.size := by
  rcases Nat.lt_or_ge 0 w.heap.size with h | h
  ·exact h
  simp [World.cell?, Array.getElem?_eq_none h] at hg
 have hg2 : ((w.alloc (.cells #[.pointer (some t)] 111)).alloc (.cells #[.pointer (some ⟨4, 111, none⟩), .pointer (some ⟨w.heap.size, 0, none⟩), .int .u64 150] 153)).cell? ⟨0, 0, none⟩ = some (.iface 180 (.agg #[.pointer (some ⟨4, 52, none⟩)])) := by
  rw [World.cell?_alloc_lt _ _ ⟨0, 0, none⟩ (by simp), World.cell?_alloc_lt _ _ ⟨0, 0, none⟩ hlt]; exact hg
 have htl : t.block < w.heap.size := by
  rcases Nat.lt_or_ge t.block w.heap.size with h | h
  ·exact h
  simp [World.cell?, Array.getElem?_eq_none h] at ht0
 have el := as_elV ⟨w.heap.size, 0, none⟩ t (((w.alloc (.cells #[.pointer (some t)] 111)).alloc (.cells #[.pointer (some ⟨4, 111, none⟩), .pointer (some ⟨w.heap.size, 0, none⟩), .int .u64 150] 153)).alloc (.cells #[.pointer (some ⟨4, 111, none⟩), .pointer (some ⟨w.heap.size, 0, none⟩), .int .u64 150] 153)) (by rw [World.cell?_alloc_lt _ _ ⟨w.heap.size, 0, none⟩ (by simp; omega)]; simp)
 have st := as_set t ⟨w.heap.size + 1 + 1 + 1, 0, none⟩ s old ((((w.alloc (.cells #[.pointer (some t)] 111)).alloc (.cells #[.pointer (some ⟨4, 111, none⟩), .pointer (some ⟨w.heap.size, 0, none⟩), .int .u64 150] 153)).alloc (.cells #[.pointer (some ⟨4, 111, none⟩), .pointer (some ⟨w.heap.size, 0, none⟩), .int .u64 150] 153)).alloc (.cells #[str s] 109))
  (by rw [World.cell?_alloc_at _ _ _ _ (by simp)]; rfl)
  (by rw [World.cell?_alloc_lt _ _ t (by simp; omega), World.cell?_alloc_lt _ _ t (by simp; omega), World.cell?_alloc_lt _ _ t (by simp; omega), World.cell?_alloc_lt _ _ t htl]; exact ht0)
  (by rw [World.frozen?_alloc_old _ _ t (by simp; omega), World.frozen?_alloc_old _ _ t (by simp; omega), World.frozen?_alloc_old _ _ t (by simp; omega), World.frozen?_alloc_old _ _ t (Nat.ne_of_lt htl)]; exact hf0)
 go_enter func65, ntmps65
 go_wp2
 refine wp_loop_rounds 1 ?_
 rw [rounds_succ]
 go_wp2
 go_ret
 exact ⟨Z, Z⟩
def ErrG (G : PH) : Prop := PCell G 0 0 (.iface 180 (.agg #[.pointer (some ⟨4, 52, none⟩)]))
theorem ErrG.up {G G' : PH} (h : ErrG G) (hle : PLe G G') : ErrG G' := PCell.mono h hle
theorem uncounted_nil (w0 : World) (G0 : PH) (hG : PSub G0 w0) : Calls Tryz.prog 29 #[.nilIface] w0 (Rets w0 (.bool false)) := by
 have H := Hp.init hG
 refine calls_of_W (l := [.nilIface]) func29 Z ntmps29 Z ?_
 refine W_seq (W_region (o_assign Z Z (R_nil (N_K (W_seq (W_region (o_alloc H zeroValue109 Z Z ?_))))))); intro b w1 hb H
 refine R_nil (N_K (W_seq (W_region (o_move Z Z (o_iface kR Z Z ?_)))))
 refine o_call call65 Z Z (as_nil _ _) ?_
 rintro _ w2 ⟨rfl, rfl⟩; refine ⟨_, rfl, ?_⟩
 refine o_assign Z Z (R_nil (N_K (W_ret ?_)))
 refine rt1 results29 Z ?_
 exact H.rets Z
theorem uncounted_hit (w0 : World) (G0 : PH) (hG : PSub G0 w0) (hge : ErrG G0) (s : Bs) : Calls Tryz.prog 29 #[.iface 109 (.agg #[str s])] w0 (Rets w0 (.bool true)) := by
 have H := Hp.init hG
 refine calls_of_W (l := [.iface 109 (.agg #[str s])]) func29 Z ntmps29 Z ?_
 refine W_seq (W_region (o_assign Z Z (R_nil (N_K (W_seq (W_region (o_alloc H zeroValue109 Z Z ?_))))))); intro b w1 hb H
 refine R_nil (N_K (W_seq (W_region (o_move Z Z (o_iface kR Z Z ?_)))))
 refine o_call call65 Z Z (as_hit s ⟨b, 0, none⟩ _ _ (PCell.cell hge H.sub) (blk_cell H (k := 0) Z Z) (frozen_blk H (k := 0) Z)) ?_
 rintro _ w2 ⟨rfl, rfl⟩; refine ⟨_, rfl, ?_⟩
 have hS := fun (o1 o2 o3 o4 : Obj) => setCell_blk (H.step ((((Ext.alloc w1 o1).trans (Ext.alloc _ o2)).trans (Ext.alloc _ o3)).trans (Ext.alloc _ o4))) (k := 0) (o := 0) rfl (str s)
 refine o_assign Z Z (R_nil (N_K (W_ret ?_)))
 refine rt1 results29 Z ?_
 exact (hS _ _ _ _).rets Z
end Go.Proofs.Tst

namespace Go.Proofs.Tst
open Go Fw Tryz
theorem bf27 : BuildFact Tryz.prog 27 [(0, 1), (1, 1), (2, 1)] [.slice none 0 0, .slice none 0 0, .slice none 0 0] := buildFact zeroValue27 runUnderlying27 (fun w => by simp [sizeOf23, sizeOf24, sizeOf25])
theorem bf40 : BuildFact Tryz.prog 40 [(0, 1), (1, 1), (2, 1)] [str [], .bool false, .slice none 0 0] := buildFact zeroValue40 runUnderlying40 (fun w => by simp [sizeOf4, sizeOf9, sizeOf38])
theorem bf42 : BuildFact Tryz.prog 42 [(0, 1), (1, 1), (2, 1)] [.int .i64 0, .slice none 0 0, .int .i64 0] := buildFact zeroValue42 runUnderlying42 (fun w => by simp [sizeOf3, sizeOf38])
theorem bf46 : BuildFact Tryz.prog 46 [(0, 1), (1, 1)] [str [], .slice none 0 0] := buildFact zeroValue46 runUnderlying46 (fun w => by simp [sizeOf9, sizeOf24])
theorem bf67 : BuildFact Tryz.prog 67 [(0, 1), (1, 1)] [.map none, .pointer none] := buildFact zeroValue67 runUnderlying67 (fun w => by simp [sizeOf64, sizeOf65])
theorem bf70 : BuildFact Tryz.prog 70 [(0, 2), (2, 2), (4, 1)] [.int .i32 0, .int .u32 0, .map none, .pointer none, .slice none 0 0] := buildFact zeroValue70 runUnderlying70 (fun w => by simp [sizeOf62, sizeOf67, sizeOf68])
theorem bf103 : BuildFact Tryz.prog 103 [(0, 1), (1, 1)] [.slice none 0 0, .slice none 0 0] := buildFact zeroValue103 runUnderlying103 (fun w => by simp [sizeOf23, sizeOf24])
theorem bf107 : BuildFact Tryz.prog 107 [(0, 1), (1, 1)] [.slice none 0 0, .int .i64 0] := buildFact zeroValue107 runUnderlying107 (fun w => by simp [sizeOf3, sizeOf22])
theorem bf109 : BuildFact Tryz.prog 109 [(0, 1)] [str []] := buildFact zeroValue109 runUnderlying109 (fun w => by simp [sizeOf9])
theorem bf124 : BuildFact Tryz.prog 124 [(0, 1), (1, 1)] [str [], .pointer none] := buildFact zeroValue124 runUnderlying124 (fun w => by simp [sizeOf9, sizeOf65])
theorem bf167 : BuildFact Tryz.prog 167 [(0, 1), (1, 1), (2, 1), (3, 1)] [str [], .bool false, .slice none 0 0, .slice none 0 0] := buildFact zeroValue167 runUnderlying167 (fun w => by simp [sizeOf4, sizeOf9, sizeOf38, sizeOf140])
end Go.Proofs.Tst

namespace Go.Proofs.Tst
open Go Fw Tryz
theorem l_Equal_c (w0 : World) (G0 : PH) (hG : PSub G0 w0) (va : Value) (a : List (Int)) (ha : RdI G0 va a) (vb : Value) (b : List (Int)) (hb : RdI G0 vb b)  :
  Calls Tryz.prog 180 #[va, vb] w0 (Rets w0 (.bool (Sp.l2Same a b))) := by
 obtain ⟨aa, ka, rfl⟩ := ha.shape
 have hlima : a.length ≤ 1099511627776 := ha.lim
 obtain ⟨ab, kb, rfl⟩ := hb.shape
 have hlimb : b.length ≤ 1099511627776 := hb.lim
 have H := Hp.init hG
 refine calls_of_W (l := [.slice aa a.length ka, .slice ab b.length kb]) func180 Z ntmps180 Z (q2 (aG Z (q3 (W_seq (q2 (mV Z (o_len_slice underlying38 Z Z (mV Z (o_len_slice underlying38 Z Z (o_neq Z Z Z (q3 ?_)))))))))))
 refine W_cond Z ?_ ?_
 ·intro hc1
  try simp only [nrm] at hc1
  refine q2 (aG Z (q3 (W_ret (N_K_ret (rt1 results180 Z ?_)))))
  exact H.rets (congrArg Value.bool (by unfold Sp.l2Same; exact Sp.ne_len oM))
 intro hc1'
 try simp only [nrm] at hc1'
 refine W_skip (N_K (W_seq (q2 (mV Z (o_len_slice underlying38 Z Z (mV Z (q3 (W_block ?_))))))))
 refine W_lp (hf := (Sub.cons (t := 0) Z (Sub.cons (t := 1) Z (Sub.cons (t := 12) Z Sub.nil)))) (J := fun M w m => ∃ (k : Nat) (G : PH), M = [(13, .int .i64 (k : Int))] ∧ PLe G0 G ∧ Hp w0 G0 [] w G [] ∧ (k ≤ a.length ∧ a.take k = b.take k) ∧ m = (a.length - k)) (h0 := ⟨0, _, Z, PLe.refl _, H, ?inv, Z⟩) (round := ?round)
 case inv => exact ⟨by omega, by simp⟩
 case round =>
  rintro _ w2 _ ⟨k, G2, rfl, hle2, H, hinv2, rfl⟩
  have ha := ha.up hle2
  have hb := hb.up hle2
  obtain ⟨hk, hall⟩ := hinv2
  refine q2 (o_lss Z Z Z (q3 (W_seq ?_)))
  refine W_cond Z ?_ ?_
  ·intro hc3
   try simp only [nrm] at hc3
   refine W_skip (N_K (W_seq (W_block (q2 (mV Z (aG Z (q3 (W_seq (W_drawK [] 9 H kR Z ?_))))))))); intro w4 H; have hd4 := PLe.refl G2
   refine vM 0 Z Z (vM 1 Z Z ?_)
   have hl5 := ha.len
   obtain ⟨b5, o5, z5, q5, ha5, hz5, hq5, hE5, hrow5, _⟩ := ha.at (i := k) oM
   clear hq5
   obtain ⟨rfl, hi5⟩ := hE5
   refine RD_t 2 Z kR Z (fun _ hK => v_index_P (i := k) ha5 underlying38 sizeOf3 Z Z Z oM) (RD_t 3 Z kR Z (fun _ hK => v_load_P hK isAgg3 Z (hrow5 0 _ Z)) (vM 4 Z Z (vM 5 Z Z ?_)))
   have hl6 := hb.len
   obtain ⟨b6, o6, z6, q6, ha6, hz6, hq6, hE6, hrow6, _⟩ := hb.at (i := k) oM
   clear hq6
   obtain ⟨rfl, hi6⟩ := hE6
   refine RD_t 6 Z kR Z (fun _ hK => v_index_P (i := k) ha6 underlying38 sizeOf3 Z Z Z oM) (RD_t 7 Z kR Z (fun _ hK => v_load_P hK isAgg3 Z (hrow6 0 _ Z)) (RD_t 8 Z kR Z (fun _ hK => v_neq Z Z) (RD_done kR (N_K ?_))))
   refine W_cond Z ?_ ?_
   ·intro hc7
    try simp only [nrm] at hc7
    refine q2 (aG Z (q3 (W_ret (N_B_ret (N_K_ret (N_LP_ret (N_B_ret (N_K_ret (rt1 results180 Z ?_)))))))))
    exact H.rets (congrArg Value.bool (by unfold Sp.l2Same; exact Sp.ne_at hz5 hz6 oM))
   intro hc7'
   try simp only [nrm] at hc7'
   refine W_skip (N_B (N_K (W_region (o_add Z Z Z oO (mV Z (R_nil ?_))))))
   refine N_lp (hJ := ⟨k + 1, _, Z, hle2, H, ?inv, Z⟩) (hm := ?hm)
   case hm => omega
   case inv => exact ⟨by omega, Sp.take_eq hall hz5 (by rw [hz6]; congr 1; omega)⟩
  intro hc3'
  try simp only [nrm] at hc3'
  refine W_exit (N_K_exit (N_LP_exit (N_B_same (N_K (q2 (aG Z (q3 (W_ret (rt1 results180 Z ?_)))))))))
  exact H.rets (congrArg Value.bool (by unfold Sp.l2Same; exact Sp.eq_all hall oM oM))
theorem l_Clone_c (w0 : World) (G0 : PH) (hG : PSub G0 w0) (vl : Value) (l : List (Int)) (hl : RdI G0 vl l)  :
  Calls Tryz.prog 68 #[vl] w0 (RetO w0 G0 (AccOf intE 1 3 l)) := by
 obtain ⟨al, kl, rfl⟩ := hl.shape
 have hliml : l.length ≤ 1099511627776 := hl.lim
 have H := Hp.init hG
 refine calls_of_W (l := [.slice al l.length kl]) func68 Z ntmps68 Z (q2 (aG Z (q3 (W_seq (q2 (mV Z (o_eqnil_slice underlying38 Z Z Z (q3 ?_))))))))
 refine W_cond Z ?_ ?_
 ·intro hc1
  try simp only [nrm] at hc1
  refine q2 (aG Z (q3 (W_ret (N_K_ret (rt1 results68 Z ?_)))))
  obtain rfl : al = none := by simpa using hc1
  obtain rfl : l = [] := by obtain ⟨_, _, h1, _, _, h2⟩ := hl; rcases h2 with h2 | ⟨b, o, h2, _⟩; (· exact h2); simp only [Value.slice.injEq] at h1; rw [← h1.1] at h2; cases h2
  have H := H.addNil 3 1
  exact H.retO (k := 0) Z (AccOf.mk Z Chk.nil) (acc_nd _ _ _ _ _)
 intro hc1'
 try simp only [nrm] at hc1'
 refine W_skip (N_K (q2 (o_buildSlice H underlying38 sizeOf3 (fun w => ⟨_, zeroValue3 w, Z⟩) Z Z Z Z Z Z Z ?_))); intro b2 w2 hb2 H
 have H := H.blkAcc 1 (k := 0) (n := 0) rfl rfl (by decide)
 refine mV Z ?_
 refine o_append_P 0 H hl (by intro z cs hz u hu; obtain ⟨rfl, _⟩ := hz; simp at hu; subst hu; rfl) (sz := 1) (bytes := 8) underlying38 typeInfo3 ⟨_, rfl, rfl⟩ rfl rfl rfl rfl rfl rfl rfl oM rfl ?_; intro v3 w3 css3 hcl3 hcs3 H
 have hchk3 : Chk intE 1 G0 ([] ++ css3.flatten) _ := ⟨css3, rfl, hcl3, hcs3⟩
 obtain ⟨av3, cv3, rfl⟩ := H.accShape (k := 0) rfl
 refine aG Z (q3 (W_ret (rt1 results68 Z ?_)))
 exact H.retO (k := 0) rfl (by skip; exact AccOf.mk aN hchk3) (acc_nd _ _ _ _ _)
theorem i_bytesValid_c (w0 : World) (G0 : PH) (hG : PSub G0 w0) (vbytes : Value) (bytes : List (Int)) (hbytes : RdI G0 vbytes bytes)  :
  Calls Tryz.prog 109 #[vbytes] w0 (Rets w0 (.bool (bytes.all Sp.byteOk))) := by
 obtain ⟨abytes, kbytes, rfl⟩ := hbytes.shape
 have hlimbytes : bytes.length ≤ 1099511627776 := hbytes.lim
 have H := Hp.init hG
 refine calls_of_W (l := [.slice abytes bytes.length kbytes]) func109 Z ntmps109 Z (q2 (aG Z (q3 (W_seq (q2 (mV Z (o_len_slice underlying38 Z Z (mV Z (q3 (W_block ?_))))))))))
 refine W_lp (hf := (Sub.cons (t := 5) Z (Sub.cons (t := 6) Z Sub.nil))) (J := fun M w m => ∃ (k : Nat) (G : PH), M = [(7, .int .i64 (k : Int))] ∧ PLe G0 G ∧ Hp w0 G0 [] w G [] ∧ (k ≤ bytes.length ∧ (bytes.take k).all Sp.byteOk = true) ∧ m = (bytes.length - k)) (h0 := ⟨0, _, Z, PLe.refl _, H, ?inv, Z⟩) (round := ?round)
 case inv => exact ⟨by omega, by simp⟩
 case round =>
  rintro _ w1 _ ⟨k, G1, rfl, hle1, H, hinv1, rfl⟩
  have hbytes := hbytes.up hle1
  obtain ⟨hk, hall⟩ := hinv1
  refine q2 (o_lss Z Z Z (q3 (W_seq ?_)))
  refine W_cond Z ?_ ?_
  ·intro hc2
   try simp only [nrm] at hc2
   refine W_skip (N_K (W_seq (W_block (q2 (o_index_P k hbytes underlying38 sizeOf3 Z Z Z Z aN ?_))))); intro b3 o3 z3 q3 hz3 hE3 hrow3
   obtain ⟨rfl, hi3⟩ := hE3
   refine o_load_P H isAgg3 Z Z (hrow3 0 _ Z) (aG Z (q1 (mV Z (o_lss Z Z Z (mV Z ?_)))))
   refine R_case (t := 13) Z ?_ ?_
   ·intro hc4
    try simp only [nrm] at hc4
    refine rP Z (rP Z (o_pick_t Z Z Z (q3 (W_true Z (q2 (aG Z (q3 (W_ret (N_B_ret (N_K_ret (N_LP_ret (N_B_ret (N_K_ret (rt1 results109 Z ?_))))))))))))))
    exact H.rets (congrArg Value.bool (by rw [Sp.all_false hz3 (by simp [Sp.byteOk, Sp.l6In]; omega)]))
   intro hc4'
   try simp only [nrm] at hc4'
   refine gR Z (mV Z (gR Z (o_gtr Z Z Z (o_pick_f Z Z Z (q3 ?_)))))
   refine W_cond Z ?_ ?_
   ·intro hc5
    try simp only [nrm] at hc5
    refine q2 (aG Z (q3 (W_ret (N_B_ret (N_K_ret (N_LP_ret (N_B_ret (N_K_ret (rt1 results109 Z ?_)))))))))
    exact H.rets (congrArg Value.bool (by rw [Sp.all_false hz3 (by simp [Sp.byteOk, Sp.l6In]; omega)]))
   intro hc5'
   try simp only [nrm] at hc5'
   refine W_skip (N_B (N_K (W_region (o_add Z Z Z oO (mV Z (R_nil ?_))))))
   refine N_lp (hJ := ⟨k + 1, _, Z, hle1, H, ?inv, Z⟩) (hm := ?hm)
   case hm => omega
   case inv => exact ⟨by omega, Sp.all_take hall hz3 (by simp [Sp.byteOk, Sp.l6In]; omega)⟩
  intro hc2'
  try simp only [nrm] at hc2'
  refine W_exit (N_K_exit (N_LP_exit (N_B_same (N_K (q2 (aG Z (q3 (W_ret (rt1 results109 Z ?_)))))))))
  obtain rfl : k = bytes.length := by omega
  rw [List.take_length] at hall
  exact H.rets (congrArg Value.bool (by rw [hall]))
theorem i_BlockValid_c (w0 : World) (G0 : PH) (hG : PSub G0 w0) (vbytes : Value) (bytes : List (Int)) (hbytes : RdI G0 vbytes bytes)  :
  Calls Tryz.prog 69 #[vbytes] w0 (Rets w0 (.bool (Sp.BlockValid bytes))) := by
 obtain ⟨abytes, kbytes, rfl⟩ := hbytes.shape
 have hlimbytes : bytes.length ≤ 1099511627776 := hbytes.lim
 have H := Hp.init hG
 refine calls_of_W (l := [.slice abytes bytes.length kbytes]) func69 Z ntmps69 Z (q2 (aG Z (q1 (mV Z (o_len_slice underlying38 Z Z (o_geq Z Z Z (mV Z ?_)))))))
 refine R_case (t := 6) Z ?_ ?_
 ·intro hc1
  try simp only [nrm] at hc1
  refine gR Z (mV Z (gR Z (o_len_slice underlying38 Z Z (gR Z (o_leq Z Z Z (o_pick_t Z Z Z (mV Z ?_)))))))
  refine R_case (t := 11) Z ?_ ?_
  ·intro hc2
   try simp only [nrm] at hc2
   refine gR Z (mV Z (gR Z (o_call call109 Z Z (i_bytesValid_c _ _ H.sub _ _ hbytes ) ?_)))
   rintro _ w3 ⟨rfl, ew3⟩; have H := H.step ew3; refine ⟨_, rfl, ?_⟩
   refine o_pick_t Z Z Z (aG Z (q3 (W_ret (rt1 results69 Z ?_))))
   exact H.rets (congrArg Value.bool (by unfold Sp.BlockValid Sp.l6In; rw [Bool.eq_iff_iff]; simp; omega))
  intro hc2'
  try simp only [nrm] at hc2'
  refine rP Z (rP Z (o_pick_f Z Z Z (aG Z (q3 (W_ret (rt1 results69 Z ?_))))))
  exact H.rets (congrArg Value.bool (by unfold Sp.BlockValid Sp.l6In; rw [Bool.eq_iff_iff]; simp; omega))
 intro hc1'
 try simp only [nrm] at hc1'
 refine rP Z (rP Z (rP Z (o_pick_f Z Z Z (mV Z (rP Z (rP Z (o_pick_f Z Z Z (aG Z (q3 (W_ret (rt1 results69 Z ?_)))))))))))
 exact H.rets (congrArg Value.bool (by unfold Sp.BlockValid Sp.l6In; rw [Bool.eq_iff_iff]; simp; omega))
theorem i_partValid_c (w0 : World) (s : Bs) (hs : s.length ≤ 16777216)  :
  Calls Tryz.prog 74 #[str s] w0 (Rets w0 (.bool (Sp.l1Word s))) := by
 have H := Hp.init0 w0
 refine calls_of_W (l := [str s]) func74 Z ntmps74 Z (q2 (aG Z (q3 (W_seq (q2 (mV Z (o_len_str underlying9 Z Z (o_lss Z Z Z (mV Z ?_)))))))))
 refine R_case (t := 7) Z ?_ ?_
 ·intro hc1
  try simp only [nrm] at hc1
  refine rP Z (rP Z (rP Z (o_pick_t Z Z Z (q3 (W_true Z (q2 (aG Z (q3 (W_ret (N_K_ret (rt1 results74 Z ?_)))))))))))
  exact H.rets (congrArg Value.bool (by unfold Sp.l1Word; rw [Bool.eq_iff_iff]; simp; omega))
 intro hc1'
 try simp only [nrm] at hc1'
 refine gR Z (mV Z (gR Z (o_len_str underlying9 Z Z (gR Z (o_gtr Z Z Z (o_pick_f Z Z Z (q3 ?_)))))))
 refine W_cond Z ?_ ?_
 ·intro hc2
  try simp only [nrm] at hc2
  refine q2 (aG Z (q3 (W_ret (N_K_ret (rt1 results74 Z ?_)))))
  exact H.rets (congrArg Value.bool (by unfold Sp.l1Word; rw [Bool.eq_iff_iff]; simp; omega))
 intro hc2'
 try simp only [nrm] at hc2'
 refine W_skip (N_K (W_seq (q2 (aG Z (q3 (W_block ?_))))))
 refine W_lp (hf := (Sub.cons (t := 0) Z Sub.nil)) (J := fun M w m => ∃ (k : Nat) (G : PH), M = [(3, .int .i64 (k : Int))] ∧ PLe (fun _ => none) G ∧ Hp w0 (fun _ => none) [] w G [] ∧ (k ≤ s.length ∧ (s.take k).all Sp.low = true) ∧ m = (s.length - k)) (h0 := ⟨0, _, Z, PLe.refl _, H, ?inv, Z⟩) (round := ?round)
 case inv => exact ⟨by omega, by simp⟩
 case round =>
  rintro _ w3 _ ⟨k, G3, rfl, hle3, H, hinv3, rfl⟩
  obtain ⟨hk, hall⟩ := hinv3
  refine W_seq (q2 (mV Z (mV Z (o_len_str underlying9 Z Z (o_lss Z Z Z (q3 ?_))))))
  refine W_cond Z ?_ ?_
  ·intro hc4
   try simp only [nrm] at hc4
   refine W_skip (N_K (W_seq (W_block (q2 (mV Z (mV Z (o_index_str underlying9 Z Z Z Z oM ?_))))))); intro ch5 hch5; have hlt5 := ch5.toNat_lt
   refine o_lss Z Z Z (mV Z ?_)
   refine R_case (t := 22) Z ?_ ?_
   ·intro hc6
    try simp only [nrm] at hc6
    refine rP Z (rP Z (rP Z (rP Z (o_pick_t Z Z Z (q3 (W_true Z (q2 (aG Z (q3 (W_ret (N_B_ret (N_K_ret (N_LP_ret (N_B_ret (N_K_ret ?_)))))))))))))))
    refine rt1 results74 Z ?_
    exact H.rets (congrArg Value.bool (by rw [Sp.l1Word, Sp.all_false hch5 (by simp [Sp.low]; omega)]; rfl))
   intro hc6'
   try simp only [nrm] at hc6'
   refine gR Z (mV Z (gR Z (mV Z (gR Z (o_index_str underlying9 Z Z Z Z oM ?_))))); intro ch7 hch7; have hlt7 := ch7.toNat_lt
   obtain rfl : ch7 = ch5 := Option.some.inj (hch7.symm.trans hch5)
   refine gR Z (o_gtr Z Z Z (o_pick_f Z Z Z (q3 ?_)))
   refine W_cond Z ?_ ?_
   ·intro hc8
    try simp only [nrm] at hc8
    refine q2 (aG Z (q3 (W_ret (N_B_ret (N_K_ret (N_LP_ret (N_B_ret (N_K_ret (rt1 results74 Z ?_)))))))))
    exact H.rets (congrArg Value.bool (by rw [Sp.l1Word, Sp.all_false hch7 (by simp [Sp.low]; omega)]; rfl))
   intro hc8'
   try simp only [nrm] at hc8'
   refine W_skip (N_B (N_K (W_region (mV Z (o_add Z Z Z oO (aG Z (R_nil ?_)))))))
   refine N_lp (hJ := ⟨k + 1, _, Z, hle3, H, ?inv, Z⟩) (hm := ?hm)
   case hm => omega
   case inv => exact ⟨by omega, Sp.all_take hall hch7 (by simp [Sp.low]; omega)⟩
  intro hc4'
  try simp only [nrm] at hc4'
  refine W_exit (N_K_exit (N_LP_exit (N_B_same (N_K (q2 (aG Z (q3 (W_ret (rt1 results74 Z ?_)))))))))
  obtain rfl : k = s.length := by omega
  rw [List.take_length] at hall
  exact H.rets (congrArg Value.bool (by simp only [Sp.l1Word, hall]; rw [Bool.eq_iff_iff]; simp; omega))
end Go.Proofs.Tst

namespace Go.Proofs
open Go.Shelf
def Tryz.keysA_ren : Go.Shelf.Ren := ⟨fun | 7 => 67 | 10 => 108 | n => n, fun | 23 => 64 | 26 => 3 | 3 => 42 | 28 => 114 | 0 => 0 | 27 => 113 | 33 => 164 | 4 => 4 | n => n, fun | n => n⟩
theorem Tryz.keysA : Go.Proofs.SlLaysZI.n7 Tryz.prog Tryz.keysA_ren := {
 mixed := by kernel_rfl
 f7 := ⟨Tryz.f67.name, by decide, Tryz.func67.trans (congrArg some (by kernel_rfl))⟩
 f10 := ⟨Tryz.f108.name, by decide, Tryz.func108.trans (congrArg some (by kernel_rfl))⟩
 t0 := Tryz.underlying0
 a0 := Tryz.isAgg0
 z0 := Tryz.sizeOf0
 v0 := Tryz.zeroValue0
 t4 := Tryz.underlying4
 a4 := Tryz.isAgg4
 z4 := Tryz.sizeOf4
 v4 := Tryz.zeroValue4
 t23 := Tryz.underlying64
 a23 := Tryz.isAgg64
 z23 := Tryz.sizeOf64
 v23 := Tryz.zeroValue64
 t26 := Tryz.underlying3
 a26 := Tryz.isAgg3
 z26 := Tryz.sizeOf3
 v26 := Tryz.zeroValue3
 t27 := Tryz.underlying113
 a27 := Tryz.isAgg113
 z27 := Tryz.sizeOf113
 v27 := Tryz.zeroValue113
 t28 := Tryz.underlying114
 a28 := Tryz.isAgg114
 z28 := Tryz.sizeOf114
 v28 := Tryz.zeroValue114
 t33 := Tryz.underlying164
 a33 := Tryz.isAgg164
 z33 := Tryz.sizeOf164
 v33 := Tryz.zeroValue164 }
def Tryz.sortedA_ren : Go.Shelf.Ren := ⟨fun | 6 => 66 | 8 => 106 | 9 => 107 | 11 => 135 | 13 => 137 | 12 => 136 | 23 => 171 | 24 => 172 | 14 => 162 | 15 => 163 | 16 => 164 | 17 => 165 | 18 => 166 | 19 => 167 | 20 => 168 | 21 => 169 | 22 => 170 | 25 => 194 | 26 => 195 | 27 => 196 | 28 => 197 | 29 => 198 | 30 => 199 | 31 => 206 | n => n, fun | 26 => 3 | 28 => 114 | 24 => 38 | 0 => 0 | 3 => 3 | 37 => 196 | 48 => 58 | 50 => 229 | 4 => 4 | 40 => 221 | 39 => 220 | 45 => 206 | 5 => 5 | 9 => 9 | 51 => 246 | 55 => 250 | 57 => 256 | 58 => 257 | 33 => 164 | n => n, fun | n => n⟩
theorem Tryz.sortedA : Go.Proofs.SlLaysZI.n6 Tryz.prog Tryz.sortedA_ren := {
 mixed := by kernel_rfl
 f6 := ⟨Tryz.f66.name, by decide, Tryz.func66.trans (congrArg some (by kernel_rfl))⟩
 f8 := ⟨Tryz.f106.name, by decide, Tryz.func106.trans (congrArg some (by kernel_rfl))⟩
 f11 := ⟨Tryz.f135.name, by decide, Tryz.func135.trans (congrArg some (by kernel_rfl))⟩
 t0 := Tryz.underlying0
 a0 := Tryz.isAgg0
 z0 := Tryz.sizeOf0
 v0 := Tryz.zeroValue0
 t24 := Tryz.underlying38
 a24 := Tryz.isAgg38
 z24 := Tryz.sizeOf38
 v24 := Tryz.zeroValue38
 t26 := Tryz.underlying3
 a26 := Tryz.isAgg3
 z26 := Tryz.sizeOf3
 v26 := Tryz.zeroValue3
 t28 := Tryz.underlying114
 a28 := Tryz.isAgg114
 z28 := Tryz.sizeOf114
 v28 := Tryz.zeroValue114
 i26 := by kernel_rfl }
def Tryz.sortA_ren : Go.Shelf.Ren := ⟨fun | 5 => 107 | 8 => 137 | 7 => 136 | 19 => 171 | 20 => 172 | 10 => 162 | 11 => 163 | 12 => 164 | 13 => 165 | 14 => 166 | 15 => 167 | 16 => 168 | 17 => 169 | 18 => 170 | 30 => 194 | 31 => 195 | 32 => 196 | 33 => 197 | 34 => 198 | 35 => 199 | 40 => 206 | n => n, fun | 23 => 38 | 25 => 3 | 3 => 3 | 32 => 196 | 22 => 38 | 0 => 0 | 44 => 58 | 46 => 229 | 4 => 4 | 36 => 221 | 35 => 220 | 41 => 206 | 5 => 5 | 9 => 9 | 53 => 246 | 57 => 250 | 63 => 256 | 64 => 257 | n => n, fun | n => n⟩
theorem Tryz.sortA : Go.Proofs.SlLaysM.n5 Tryz.prog Tryz.sortA_ren := {
 mixed := by kernel_rfl
 f5 := ⟨Tryz.f107.name, by decide, Tryz.func107.trans (congrArg some (by kernel_rfl))⟩
 f7 := ⟨Tryz.f136.name, by decide, Tryz.func136.trans (congrArg some (by kernel_rfl))⟩
 f8 := Tryz.func137.trans (congrArg some (by kernel_rfl))
 f10 := ⟨Tryz.f162.name, by decide, Tryz.func162.trans (congrArg some (by kernel_rfl))⟩
 f11 := ⟨Tryz.f163.name, by decide, Tryz.func163.trans (congrArg some (by kernel_rfl))⟩
 f12 := ⟨Tryz.f164.name, by decide, Tryz.func164.trans (congrArg some (by kernel_rfl))⟩
 f13 := ⟨Tryz.f165.name, by decide, Tryz.func165.trans (congrArg some (by kernel_rfl))⟩
 f14 := ⟨Tryz.f166.name, by decide, Tryz.func166.trans (congrArg some (by kernel_rfl))⟩
 f15 := ⟨Tryz.f167.name, by decide, Tryz.func167.trans (congrArg some (by kernel_rfl))⟩
 f16 := ⟨Tryz.f168.name, by decide, Tryz.func168.trans (congrArg some (by kernel_rfl))⟩
 f17 := ⟨Tryz.f169.name, by decide, Tryz.func169.trans (congrArg some (by kernel_rfl))⟩
 f18 := ⟨Tryz.f170.name, by decide, Tryz.func170.trans (congrArg some (by kernel_rfl))⟩
 f19 := Tryz.func171.trans (congrArg some (by kernel_rfl))
 f20 := Tryz.func172.trans (congrArg some (by kernel_rfl))
 f30 := ⟨Tryz.f194.name, by decide, Tryz.func194.trans (congrArg some (by kernel_rfl))⟩
 f31 := Tryz.func195.trans (congrArg some (by kernel_rfl))
 f32 := Tryz.func196.trans (congrArg some (by kernel_rfl))
 f33 := ⟨Tryz.f197.name, by decide, Tryz.func197.trans (congrArg some (by kernel_rfl))⟩
 f34 := ⟨Tryz.f198.name, by decide, Tryz.func198.trans (congrArg some (by kernel_rfl))⟩
 f35 := ⟨Tryz.f199.name, by decide, Tryz.func199.trans (congrArg some (by kernel_rfl))⟩
 f40 := ⟨Tryz.f206.name, by decide, Tryz.func206.trans (congrArg some (by kernel_rfl))⟩
 t0 := Tryz.underlying0
 a0 := Tryz.isAgg0
 z0 := Tryz.sizeOf0
 v0 := Tryz.zeroValue0
 t3 := Tryz.underlying3
 a3 := Tryz.isAgg3
 z3 := Tryz.sizeOf3
 v3 := Tryz.zeroValue3
 t4 := Tryz.underlying4
 a4 := Tryz.isAgg4
 z4 := Tryz.sizeOf4
 v4 := Tryz.zeroValue4
 t5 := Tryz.underlying5
 a5 := Tryz.isAgg5
 z5 := Tryz.sizeOf5
 v5 := Tryz.zeroValue5
 t9 := Tryz.underlying9
 a9 := Tryz.isAgg9
 z9 := Tryz.sizeOf9
 v9 := Tryz.zeroValue9
 t22 := Tryz.underlying38
 a22 := Tryz.isAgg38
 z22 := Tryz.sizeOf38
 v22 := Tryz.zeroValue38
 t23 := Tryz.underlying38
 a23 := Tryz.isAgg38
 z23 := Tryz.sizeOf38
 v23 := Tryz.zeroValue38
 t25 := Tryz.underlying3
 a25 := Tryz.isAgg3
 z25 := Tryz.sizeOf3
 v25 := Tryz.zeroValue3
 t32 := Tryz.underlying196
 a32 := Tryz.isAgg196
 z32 := Tryz.sizeOf196
 v32 := Tryz.zeroValue196
 t35 := Tryz.underlying220
 a35 := Tryz.isAgg220
 z35 := Tryz.sizeOf220
 v35 := Tryz.zeroValue220
 t36 := Tryz.underlying221
 a36 := Tryz.isAgg221
 z36 := Tryz.sizeOf221
 v36 := Tryz.zeroValue221
 t41 := Tryz.underlying206
 a41 := Tryz.isAgg206
 z41 := Tryz.sizeOf206
 v41 := Tryz.zeroValue206
 t44 := Tryz.underlying58
 a44 := Tryz.isAgg58
 z44 := Tryz.sizeOf58
 v44 := Tryz.zeroValue58
 t46 := Tryz.underlying229
 a46 := Tryz.isAgg229
 z46 := Tryz.sizeOf229
 v46 := Tryz.zeroValue229
 t53 := Tryz.underlying246
 a53 := Tryz.isAgg246
 z53 := Tryz.sizeOf246
 v53 := Tryz.zeroValue246
 t57 := Tryz.underlying250
 a57 := Tryz.isAgg250
 z57 := Tryz.sizeOf250
 v57 := Tryz.zeroValue250
 t63 := Tryz.underlying256
 a63 := Tryz.isAgg256
 z63 := Tryz.sizeOf256
 v63 := Tryz.zeroValue256
 t64 := Tryz.underlying257
 a64 := Tryz.isAgg257
 z64 := Tryz.sizeOf257
 v64 := Tryz.zeroValue257 }
def Tryz.lays143_ren : Go.Shelf.Ren := ⟨fun | 143 => 210 | 219 => 214 | 217 => 216 | 225 => 217 | 224 => 218 | 267 => 219 | 266 => 220 | 314 => 221 | n => n, fun | 9 => 9 | 3 => 3 | 4 => 4 | 5 => 5 | 46 => 196 | 146 => 268 | 51 => 58 | n => n, fun | 1 => 1 | n => n⟩
theorem Tryz.lays143 : Go.Proofs.Lays.n143 Tryz.prog Tryz.lays143_ren := {
 mixed := by kernel_rfl
 f143 := Tryz.func210.trans (congrArg some (by kernel_rfl))
 f217 := Tryz.func216.trans (congrArg some (by kernel_rfl))
 f219 := Tryz.func214.trans (congrArg some (by kernel_rfl))
 f224 := Tryz.func218.trans (congrArg some (by kernel_rfl))
 f225 := Tryz.func217.trans (congrArg some (by kernel_rfl))
 f266 := Tryz.func220.trans (congrArg some (by kernel_rfl))
 f267 := Tryz.func219.trans (congrArg some (by kernel_rfl))
 f314 := Tryz.func221.trans (congrArg some (by kernel_rfl))
 t3 := Tryz.underlying3
 a3 := Tryz.isAgg3
 z3 := Tryz.sizeOf3
 v3 := Tryz.zeroValue3
 t4 := Tryz.underlying4
 a4 := Tryz.isAgg4
 z4 := Tryz.sizeOf4
 v4 := Tryz.zeroValue4
 t5 := Tryz.underlying5
 a5 := Tryz.isAgg5
 z5 := Tryz.sizeOf5
 v5 := Tryz.zeroValue5
 t9 := Tryz.underlying9
 a9 := Tryz.isAgg9
 z9 := Tryz.sizeOf9
 v9 := Tryz.zeroValue9
 t46 := Tryz.underlying196
 a46 := Tryz.isAgg196
 z46 := Tryz.sizeOf196
 v46 := Tryz.zeroValue196
 t51 := Tryz.underlying58
 a51 := Tryz.isAgg58
 z51 := Tryz.sizeOf58
 v51 := Tryz.zeroValue58
 t146 := Tryz.underlying268
 a146 := Tryz.isAgg268
 z146 := Tryz.sizeOf268
 v146 := Tryz.zeroValue268
 g1 := by kernel_rfl }
def Tryz.lays138_ren : Go.Shelf.Ren := ⟨fun | 138 => 209 | 195 => 211 | 218 => 213 | 143 => 210 | 219 => 214 | 217 => 216 | 225 => 217 | 224 => 218 | 267 => 219 | 266 => 220 | 314 => 221 | n => n, fun | 9 => 9 | 3 => 3 | 4 => 4 | 5 => 5 | 0 => 0 | 46 => 196 | 146 => 268 | 51 => 58 | n => n, fun | 1 => 1 | n => n⟩
theorem Tryz.lays138 : Go.Proofs.Lays.n138 Tryz.prog Tryz.lays138_ren := {
 mixed := by kernel_rfl
 f138 := Tryz.func209.trans (congrArg some (by kernel_rfl))
 f143 := Tryz.func210.trans (congrArg some (by kernel_rfl))
 f195 := Tryz.func211.trans (congrArg some (by kernel_rfl))
 f217 := Tryz.func216.trans (congrArg some (by kernel_rfl))
 f218 := Tryz.func213.trans (congrArg some (by kernel_rfl))
 f219 := Tryz.func214.trans (congrArg some (by kernel_rfl))
 f224 := Tryz.func218.trans (congrArg some (by kernel_rfl))
 f225 := Tryz.func217.trans (congrArg some (by kernel_rfl))
 f266 := Tryz.func220.trans (congrArg some (by kernel_rfl))
 f267 := Tryz.func219.trans (congrArg some (by kernel_rfl))
 f314 := Tryz.func221.trans (congrArg some (by kernel_rfl))
 t0 := Tryz.underlying0
 a0 := Tryz.isAgg0
 z0 := Tryz.sizeOf0
 v0 := Tryz.zeroValue0
 t3 := Tryz.underlying3
 a3 := Tryz.isAgg3
 z3 := Tryz.sizeOf3
 v3 := Tryz.zeroValue3
 t4 := Tryz.underlying4
 a4 := Tryz.isAgg4
 z4 := Tryz.sizeOf4
 v4 := Tryz.zeroValue4
 t5 := Tryz.underlying5
 a5 := Tryz.isAgg5
 z5 := Tryz.sizeOf5
 v5 := Tryz.zeroValue5
 t9 := Tryz.underlying9
 a9 := Tryz.isAgg9
 z9 := Tryz.sizeOf9
 v9 := Tryz.zeroValue9
 t46 := Tryz.underlying196
 a46 := Tryz.isAgg196
 z46 := Tryz.sizeOf196
 v46 := Tryz.zeroValue196
 t51 := Tryz.underlying58
 a51 := Tryz.isAgg58
 z51 := Tryz.sizeOf58
 v51 := Tryz.zeroValue58
 t146 := Tryz.underlying268
 a146 := Tryz.isAgg268
 z146 := Tryz.sizeOf268
 v146 := Tryz.zeroValue268
 g1 := by kernel_rfl }
end Go.Proofs
namespace Fw
open Go Go.RowKit Go.Maps Go.Sort Go.Shelf Go.Proofs
open Go.WideElems (Fit rg)
def unitR : Value → Option (DataW Unit × List MemPlace) := fun _ => some (.agg [], [])
theorem owns_of {P : Program} {k : TypeId} {w : World} {b : Nat} {es : Array MapEntry} {clock : Nat} {xs : List (Int × Value)} (hk : P.underlying k = some (.int .i64)) (hb : w.heap[b]? = some (.map es clock)) (hm : MapIs (Value.int .i64) es clock xs) (hw : ∀ x, x ∈ xs → inI x.1) (hl : xs.length ≤ 1000000) :
  ∃ D : DataW Unit, w.ownsMap P k unitR b xs.length D ∧ (intKeys D).Perm (xs.map (·.1)) ∧ Maps.size D = xs.length := by
 have hsz : es.size = xs.length := by have := congrArg List.length hm.kv; simpa using this
 have hkey : ∀ x, x ∈ es.toList → ∃ y, y ∈ xs ∧ x.key = .int .i64 y.1 := by
  intro x hx
  have : (x.key, x.val) ∈ xs.map (fun y => (Value.int .i64 y.1, y.2)) := by rw [← hm.kv]; exact List.mem_map.2 ⟨x, hx, rfl⟩
  obtain ⟨y, h1, h2⟩ := List.mem_map.1 this
  simp only [Prod.mk.injEq] at h2
  exact ⟨y, h1, h2.1.symm⟩
 have hwf : ∀ a : Int, inI a → (Lit.int .i64 a).wf = true := by
  intro a ha
  unfold inI at ha
  have h1 : IntKind.i64.min = -9223372036854775808 := by decide
  have h2 : IntKind.i64.max = 9223372036854775807 := by decide
  simp only [Lit.wf, h1, h2]
  simp
  omega
 have hrd : ∀ x, x ∈ es.toList → ∃ y, y ∈ xs ∧ x.key = .int .i64 y.1 ∧ Go.WideElems.rd P k unitR x = some (.int .i64 y.1, .agg []) := by
  intro x hx
  obtain ⟨y, h1, h2⟩ := hkey x hx
  refine ⟨y, h1, h2, ?_⟩
  simp only [Go.WideElems.rd, h2, keyOf_int_mk hk (hwf _ (hw y h1)), unitR]
  rfl
 refine ⟨.map ((es.toList.map (rg P k unitR)).foldr DataW.insert []), ⟨es, clock, hb, ⟨?_, ⟨hm.lt, hm.born, ?_⟩, ?_⟩, by omega, rfl⟩, ?_, ?_⟩
 ·simp only [maxLen]; omega
 ·have h1 : es.toList.map (·.key) = xs.map (fun x => Value.int .i64 x.1) := by
   have := congrArg (List.map (·.1)) hm.kv
   rw [List.map_map, List.map_map] at this
   exact this
  rw [h1]
  have : (xs.map (fun x => Value.int .i64 x.1)) = (xs.map (·.1)).map (Value.int .i64) := by simp [List.map_map]
  rw [this, List.nodup_iff_pairwise_ne, List.pairwise_map]
  exact (List.nodup_iff_pairwise_ne.1 hm.nd).imp (fun h e => h (by simpa using e))
 ·intro x hx
  obtain ⟨y, _, _, h3⟩ := hrd x hx
  exact ⟨_, h3⟩
 ·have hp := (WideShapes.sorted_perm (es.toList.map (rg P k unitR))).map (fun p : Lit × DataW Unit => intOf p.1)
  show List.Perm (List.map (fun p : Lit × DataW Unit => intOf p.1) _) _
  refine hp.trans ?_
  rw [List.map_map]
  have key : ∀ (l : List MapEntry) (ys : List (Int × Value)), (∀ x, x ∈ l → ∃ y, y ∈ xs ∧ x.key = .int .i64 y.1 ∧ Go.WideElems.rd P k unitR x = some (.int .i64 y.1, .agg [])) → l.map (fun e => (e.key, e.val)) = ys.map (fun x => (Value.int .i64 x.1, x.2)) → l.map ((fun p : Lit × DataW Unit => intOf p.1) ∘ rg P k unitR) = ys.map (·.1) := by
   intro l
   induction l with
   | nil => intro ys _ h; cases ys <;> simp at h ⊢
   | cons x r ih =>
    intro ys h1 h2
    cases ys with
    | nil => simp at h2
    | cons y t =>
     simp only [List.map_cons, List.cons.injEq, Prod.mk.injEq] at h2 ⊢
     obtain ⟨z, _, h3, h4⟩ := h1 x (by simp)
     rw [h2.1.1] at h3
     simp only [Value.int.injEq, true_and] at h3
     refine ⟨?_, ih t (fun q hq => h1 q (by simp [hq])) h2.2⟩
     simp only [Function.comp, rg, h4, Option.getD_some, Go.intOf]
     exact h3.symm
  rw [key es.toList xs hrd hm.kv]
 ·simp only [Maps.size]
  rw [length_sorted]
  simp [hsz]
theorem sorts_of {G : PH} {xs : List (Int × Value)} {L : List BHeld} (hS : StR G xs L) (hL : Sp.VH L) {ss : List Int} (hp : ss.Perm (xs.map (·.1))) : ss.mergeSort (fun x y => decide (x ≤ y)) = L.map (·.id) := by
 have h1 : (ss.mergeSort (fun x y => decide (x ≤ y))).Perm (L.map (·.id)) := (List.mergeSort_perm _ _).trans (hp.trans hS.keys)
 have h2 : (ss.mergeSort (fun x y => decide (x ≤ y))).Pairwise (fun x y => decide (x ≤ y) = true) := List.pairwise_mergeSort (le := fun x y : Int => decide (x ≤ y)) (fun a b c h1 h2 => by simp at *; omega) (fun a b => by simp; omega) ss
 have h3 : (L.map (·.id)).Pairwise (fun x y => decide (x ≤ y) = true) := by
  rw [List.pairwise_map]
  exact hL.asc.imp (fun h => decide_eq_true (by omega))
 exact h1.eq_of_pairwise (fun a b _ _ h1 h2 => by have := of_decide_eq_true h1; have := of_decide_eq_true h2; omega) h2 h3
theorem owns_acc {w w' : World} {e : TypeId} {v : Value} {n : Nat} {cells : List Value} (h : w'.ownsRow w.heap.size e 1 v n cells) : (acc e 1 v n cells).pred (fun b => w'.heap[b]?) ∧ (∀ b, b ∈ (acc e 1 v n cells).fp → w.heap.size ≤ b) := by
 obtain ⟨h1, h2⟩ := h
 refine ⟨⟨h1, ?_⟩, ?_⟩
 ·rcases h2 with h2 | ⟨g, cap, cur, rfl, _, h3, h4, h5, h6, h7⟩
  ·exact .inl h2
  ·exact .inr ⟨g, cap, cur, rfl, h3, h4, h5, Nat.le_of_eq h6.symm, h7⟩
 ·rcases h2 with ⟨rfl, _⟩ | ⟨g, cap, cur, rfl, h3, _⟩
  ·intro b hb; rw [acc_fp_nil] at hb; cases hb
  ·intro b hb; rw [acc_fp, List.mem_singleton] at hb; rw [hb]; exact h3
end Fw
namespace Go.Proofs.Tst
open Go Fw Go.Proofs Go.Sort Go.Maps Go.Shelf Go.RowKit Tryz
theorem sorts (m : Nat) : AnyZI.SortsIn Tryz.prog Tryz.sortedA_ren Fence.wide m :=
  ⟨fun blk off cap ss W hH hblk hsz => callsIn_wide.2 (AnyM.slices_Sort_int Tryz.sortA blk off cap ss W hH hblk hsz),
   fun p cap W => callsIn_wide.2 (AnyM.slices_Sort_int_none Tryz.sortA p cap W)⟩
theorem keys_c (w0 : World) (G0 : PH) (hG : PSub G0 w0) (b : Nat) : Calls Tryz.prog 67 #[.map (some b)] w0 (fun e w' => ∃ kb, e = .returned (.func (.func 108) #[] #[.pointer (some ⟨kb, 0, none⟩)]) ∧ w0.heap.size ≤ kb ∧ Ext w0 w' ∧ w'.heap[kb]? = some (cl [.map (some b)] 64)) :=
  (callsIn_wide.1 (AnyZI.keys_in Tryz.keysA Fence.wide 5 trivial rfl (some b) w0)).mono fun e w' ⟨h1, h2⟩ => by
    subst h2
    exact ⟨w0.heap.size, h1, Nat.le_refl _, Ext.alloc _ _, alloc_new _ _⟩
set_option maxHeartbeats 1000000 in
theorem sorted_c (w0 : World) (Bm b : Nat) {es : Array MapEntry} {clock : Nat} {xs : List (Int × Value)} {L : List BHeld} {G : PH} (hB : w0.heap[Bm]? = some (cl [.map (some b)] 64)) (hb : w0.heap[b]? = some (.map es clock)) (hm : MapIs (Value.int .i64) es clock xs) (hS : StR G xs L) (hL : Sp.VH L) :
    Calls Tryz.prog 66 #[.func (.func 108) #[] #[.pointer (some ⟨Bm, 0, none⟩)]] w0 (fun e w' => ∃ v, e = .returned v ∧ Ext w0 w' ∧ (acc 3 1 v L.length (L.map (fun h => Value.int .i64 h.id))).pred (fun b => w'.heap[b]?) ∧ (∀ b, b ∈ (acc 3 1 v L.length (L.map (fun h => Value.int .i64 h.id))).fp → w0.heap.size ≤ b)) := by
  have hlen := hS.len
  have hw : ∀ x, x ∈ xs → inI x.1 := by
    intro x hx
    have := hS.keys.mem_iff.1 (List.mem_map.2 ⟨x, hx, rfl⟩)
    obtain ⟨h, hh, e⟩ := List.mem_map.1 this
    have := (hL.ok h hh).1
    rw [← e]
    unfold inI
    omega
  have hl16 := hL.len
  obtain ⟨D, hown, hp, hsz⟩ := owns_of (P := Tryz.prog) (k := 3) (by exact underlying3) hb hm hw oM
  have hBl := (Array.getElem?_eq_some_iff.1 hB).1
  have hseq : SeqGives Fence.wide 2 Tryz.prog 108 #[.pointer (some ⟨Bm, 0, none⟩)] encZ (fun ss => ss.Perm (intKeys D)) (Maps.size D) w0 :=
    AnyZI.keys_gives (ρ := Tryz.keysA_ren) { Tryz.keysA with } Fence.wide _ trivial rfl oM Bm b xs.length D w0 hBl (by simp [World.cell?, hB]) hown
  refine (callsIn_wide.1 (AnyZI.sorted_in Tryz.sortedA Fence.wide 5 trivial trivial trivial trivial Z oM (sorts _) (enters_of func107 kR Z) 108 #[.pointer (some ⟨Bm, 0, none⟩)] trivial (enters_of func108 kR Z) _ _ (by simp only [maxLen]; omega) oM _ hseq)).mono ?_
  rintro e w' ⟨v, ss, rfl, hS1, hrow, hnil, hbel⟩
  have hs := sorts_of hS hL (hS1.trans hp)
  have hn : ss.length = L.length := by have := (hS1.trans (hp.trans hS.keys)).length_eq; simpa using this
  rw [hs, hn] at hrow
  have he : (L.map (·.id)).map encZ = L.map (fun h => Value.int .i64 h.id) := by rw [List.map_map]; rfl
  rw [he] at hrow
  obtain ⟨h1, h2⟩ := owns_acc hrow
  exact ⟨v, Z, Ext.of_below hbel, h1, h2⟩
end Go.Proofs.Tst
namespace Go.Proofs.Tst
open Go Fw Go.Proofs
theorem l_Index_c (w0 : World) (s : Bs) (hs : s.length ≤ 16777216) (c : UInt8) : Calls Tryz.prog 210 #[str s, str [c]] w0 (Rets w0 (.int .i64 (Sp.optI (s.findIdx? (Sp.isC c))))) :=
  (Any.strings_Index_one Tryz.lays143 ⟨s.toArray⟩ c w0).mono fun e w' ⟨h1, h2⟩ => ⟨by rw [h1]; simp [Sp.indexByte_eq], by rw [h2]; exact Ext.refl _⟩
theorem l_Count_c (w0 : World) (s : Bs) (hs : s.length ≤ 16777216) (c : UInt8) : Calls Tryz.prog 209 #[str s, str [c]] w0 (Rets w0 (.int .i64 (s.count c : Int))) :=
  (Any.strings_Count_one Tryz.lays138 ⟨s.toArray⟩ c w0).mono fun e w' ⟨h1, h2⟩ => ⟨by rw [h1]; simp [Lib.countByte], by rw [h2]; exact Ext.refl _⟩
end Go.Proofs.Tst
namespace Go.Proofs.Tst
open Go Fw Go.Proofs
theorem chkIds (G : PH) {L : List BHeld} (h : Sp.VH L) : Chk intE 1 G (L.map (fun h => Value.int .i64 h.id)) (L.map (·.id)) := by
  refine ⟨L.map (fun h => [Value.int .i64 h.id]), ?_, by simp, fun i x hx => ?_⟩
  · clear h
    induction L with
    | nil => rfl
    | cons a r ih => simp only [List.map_cons, List.flatten_cons, ← ih]; rfl
  rw [List.getElem?_map] at hx ⊢
  cases e : L[i]? with
  | none => simp [e] at hx
  | some y =>
    simp only [e, Option.map_some, Option.some.injEq] at hx ⊢
    subst hx
    have := (h.at e).1
    exact ⟨_, rfl, rfl, rfl, by unfold inI; omega⟩
end Go.Proofs.Tst

namespace Go.Proofs.Tst
open Go Fw Tryz
theorem l_genSplit_c (w0 : World) (G0 : PH) (hG : PSub G0 w0) (s : Bs) (hs : s.length ≤ 16777216) (c : UInt8)    :
  Calls Tryz.prog 202 #[str s, str [c], .int .i64 0, .int .i64 (-1)] w0 (RetP w0 G0 (fun G v => RdT G v (Sp.cutAt c s))) := by
 have hcnt := Sp.cnt_le c s
 have H := Hp.init hG
 refine calls_of_W (l := [str s, str [c], .int .i64 0, .int .i64 (-1)]) func202 Z ntmps202 Z (q2 (aG Z (q3 (W_seq (q2 (mV Z (o_eql Z Z Z (q3 ?_))))))))
 refine W_cond Z ?_ ?_
 ·intro hc1
  try simp only [nrm] at hc1
  exact absurd hc1 (by decide)
 intro hc1'
 try simp only [nrm] at hc1'
 refine W_skip (N_K (W_seq (q2 (mV Z (o_seql Z Z Z (q3 ?_))))))
 refine W_cond Z ?_ ?_
 ·intro hc2
  try simp only [nrm] at hc2
  exact absurd hc2 (by simp)
 intro hc2'
 try simp only [nrm] at hc2'
 refine W_skip (N_K (W_seq (q2 (mV Z (o_lss Z Z Z (q3 ?_))))))
 refine W_cond Z ?_ ?_
 ·intro hc3
  try simp only [nrm] at hc3
  refine W_region (mV Z (mV Z (o_call call209 Z Z (l_Count_c _ _ hs _ ) ?_)))
  rintro _ w4 ⟨rfl, ew4⟩; have H := H.step ew4; refine ⟨_, rfl, ?_⟩
  refine o_add Z Z Z oO (aG Z (q1 (mV Z (mV Z (o_len_str underlying9 Z Z (o_add Z Z Z oO (o_min Z Z Z (aG Z (q1 (mV Z (o_makeN (c := (s.count c + 1)) (sz := 1) (bytes := 16) H underlying77 typeInfo9 ⟨_, Z, Z⟩ Z Z Z Z Z Z Z oM oM oM Z ?_))))))))))); intro b7 w7 H
  have hchk7 := Chk.rep (E := strE) (sz := 1) (G := G0) (x0 := []) (⟨rfl, by decide⟩) rfl ((s.count c + 1))
  refine aG Z (q1 (mV Z (o_sub Z Z Z oO (aG Z (q1 (aG Z (q3 (W_seq (W_block ?_)))))))))
  refine W_lp (hf := (Sub.cons (t := 1) Z (Sub.cons (t := 2) Z (Sub.cons (t := 3) Z (Sub.cons (t := 8) Z Sub.nil))))) (J := fun M w m => ∃ (v : Value) (n : Nat) (cs : List Value) (xs : List (Bs)) (r : Bs) (i : Nat) (G : PH), M = [(0, str r), (10, .int .i64 (i : Int)), (9, v)] ∧ PLe G0 G ∧ Hp w0 G0 [] w G [acc 9 1 v n cs] ∧ (Chk strE 1 G cs xs ∧ n = xs.length ∧ i ≤ s.count c ∧ xs.length = s.count c + 1 ∧ r.length ≤ 16777216 ∧ xs.take i ++ Sp.cutAt c r = Sp.cutAt c s ∧ r.count c = s.count c - i) ∧ m = (s.count c + 1 - i)) (h0 := ⟨_, _, _, (List.replicate (s.count c + 1) []), s, 0, _, Z, PLe.refl _, H, ?inv, Z⟩) (round := ?round)
  case inv => exact ⟨hchk7,  by first | rfl | simp | (simp; omega) | omega, (by simp [hs])⟩
  case round =>
   rintro _ w9 _ ⟨v, n, cs, xs, r, i, G9, rfl, hle9, H, hinv9, rfl⟩
   obtain ⟨hchk9_0, hn9_0, hinv9⟩ := hinv9
   obtain ⟨av9_0, cv9_0, rfl⟩ := H.accShape (k := 0) rfl
   obtain ⟨hi, hxl, hrl, hcut, hrc⟩ := hinv9
   refine W_seq (q2 (mV Z (mV Z (o_lss Z Z Z (q3 ?_)))))
   refine W_cond Z ?_ ?_
   ·intro hc10
    try simp only [nrm] at hc10
    refine W_skip (N_K (W_block (q2 (mV Z (mV Z (o_call call210 Z Z (l_Index_c _ _ hrl _ ) ?_))))))
    rintro _ w11 ⟨rfl, ew11⟩; have H := H.step ew11; refine ⟨_, rfl, ?_⟩
    refine aG Z (q3 (W_seq (q2 (mV Z (o_lss Z Z Z (q3 ?_))))))
    refine W_cond Z ?_ ?_
    ·intro hc12
     try simp only [nrm] at hc12
     have hx := Sp.count_none c (Sp.at_none hc12)
     omega
    intro hc12'
    try simp only [nrm] at hc12'
    obtain ⟨m, x, hm1, hm2, hm3, hm4, hm5⟩ := Sp.at_nat hc12'
    have hm6 := Sp.count_some c hm1
    refine W_skip (N_K (q2 (mV Z (mV Z (mV Z (mV Z (mV Z (o_add Z Z Z oO (o_slice_str_to underlying9 Z Z Z oM oM (o_index_A 0 H i Z hchk9_0 underlying77 sizeOf9 Z Z Z Z aN aN ?_)))))))))); intro ba15 z15 q15 hba15 hz15 hE15 hg15; cases hba15
    obtain ⟨rfl, hi15⟩ := hE15; have hy_hi15 : _ ≤ 16777216 := hi15
    have hcl16 := hchk9_0.length
    refine o_store_A 0 H sizeOf9 Z Z Z Z Z (by simp only [vc, List.length_cons, List.length_nil]; omega) ?_; intro w16 H
    have hchk16 := hchk9_0.put (x' := (r.take m)) (off := 0) (vs := [_]) hz15 (fun cs hl hE => by obtain ⟨rfl, _⟩ := hE; exact ⟨congrArg (fun j => [str (List.take j r)]) (show (Sp.optI (List.findIdx? (Sp.isC c) r) + 0).toNat = m by omega), by simp; omega⟩) (by simp only [vc, List.length_cons, List.length_nil]; omega)
    refine q1 (mV Z (mV Z (mV Z (o_len_str underlying9 Z Z ?_))))
    have hll1 : ([c] : Fw.Bs).length = 1 := rfl
    refine o_add Z Z Z oO (o_slice_str_from underlying9 Z Z Z oM oM (aG Z (q3 (W_region (mV Z (o_add Z Z Z oO (aG Z (R_nil (N_B ?_)))))))))
    refine N_lp (hJ := ⟨_, _, _, (xs.set i (r.take m)), (r.drop (Sp.optI (List.findIdx? (Sp.isC c) r) + (([c] : Fw.Bs).length : Int)).toNat), i + 1, _, Z, hle9, H, ?inv, Z⟩) (hm := ?hm)
    case hm => omega
    case inv => exact ⟨hchk16, aN, (by refine ⟨by omega, by simp [hxl], by simp; omega, ?_, ?_⟩; (· rw [show (Sp.optI (List.findIdx? (Sp.isC c) r) + (([c] : Fw.Bs).length : Int)).toNat = m + 1 by omega]; exact Sp.cut_round hcut hm1 oM rfl); (· rw [show (Sp.optI (List.findIdx? (Sp.isC c) r) + (([c] : Fw.Bs).length : Int)).toNat = m + 1 by omega]; omega))⟩
   intro hc10'
   try simp only [nrm] at hc10'
   refine W_exit (N_K_exit (N_LP_exit (N_B_same (N_K (q2 (mV Z (mV Z (mV Z (o_index_A 0 H i Z hchk9_0 underlying77 sizeOf9 Z Z Z Z aN aN ?_))))))))); intro ba20 z20 q20 hba20 hz20 hE20 hg20; cases hba20
   obtain ⟨rfl, hi20⟩ := hE20; have hy_hi20 : _ ≤ 16777216 := hi20
   have hcl21 := hchk9_0.length
   refine o_store_A 0 H sizeOf9 Z Z Z Z Z (by simp only [vc, List.length_cons, List.length_nil]; omega) ?_; intro w21 H
   have hchk21 := hchk9_0.put (x' := r) (off := 0) (vs := [_]) hz20 (fun cs hl hE => by obtain ⟨rfl, _⟩ := hE; exact ⟨rfl, hrl⟩) (by simp only [vc, List.length_cons, List.length_nil]; omega)
   refine q1 ?_
   obtain ⟨G22, H, hsg22, hsr22⟩ := H.shut' (k := 0) rfl hchk21 aN aN
   refine mV Z (mV Z (o_add Z Z Z oO ?_))
   have hcap24 := hsr22.cap; try simp only [List.length_set, List.length_append, List.length_take, List.length_drop, List.length_replicate] at hcap24
   refine o_slice_to (j := (i + 1)) underlying77 sizeOf9 Z Z Z oM oM ?_
   have hsl24 := hsr22.take (j := (i + 1)) aN
   have hsn2 := hsl24.len
   refine aG Z (q3 (W_ret (rt1 results202 Z ?_)))
   obtain rfl : i = s.count c := by omega
   have hcl := Sp.cut_last hcut oM oM
   exact H.retP (by rw [← hcl]; exact hsl24)
 intro hc3'
 try simp only [nrm] at hc3'
 exact absurd hc3' (by decide)
theorem l_Split_c (w0 : World) (G0 : PH) (hG : PSub G0 w0) (s : Bs) (hs : s.length ≤ 16777216) (c : UInt8)  :
  Calls Tryz.prog 188 #[str s, str [c]] w0 (RetP w0 G0 (fun G v => RdT G v (Sp.cutAt c s))) := by
 have H := Hp.init hG
 refine calls_of_W (l := [str s, str [c]]) func188 Z ntmps188 Z (q2 (aG Z (q1 (mV Z (mV Z (o_call call202 Z Z (l_genSplit_c _ _ H.sub _ hs _   ) ?_))))))
 rintro _ w1 ⟨G1, u1_0, g1, rfl, hr1_0⟩
 have H := H.grow g1
 obtain ⟨a1_0, k1_0, rfl⟩ := hr1_0.shape; have hx_hr1_0 : _ ≤ 1099511627776 := hr1_0.lim
 refine ⟨_, Z, ?_⟩
 refine aG Z (q3 (W_ret (rt1 results188 Z ?_)))
 exact H.retP hr1_0
theorem i_parts_c (w0 : World) (G0 : PH) (hG : PSub G0 w0) (p : Bs) (hp : p.length ≤ 16777216)  :
  Calls Tryz.prog 154 #[str p] w0 (RetP w0 G0 (fun G v => RdT G v (Sp.parts p))) := by
 have H := Hp.init hG
 refine calls_of_W (l := [str p]) func154 Z ntmps154 Z (q2 (aG Z (q3 (W_seq (q2 (mV Z (o_len_str underlying173 Z Z (o_gtr Z Z Z (q3 ?_)))))))))
 refine W_cond Z ?_ ?_
 ·intro hc1
  try simp only [nrm] at hc1
  refine q2 (aG Z (q3 (W_ret (N_K_ret (rt1 results154 Z ?_)))))
  exact H.retP (by rw [show Sp.parts p = _ from by exact Sp.parts_long oM]; exact (RdS.nil _ _ _))
 intro hc1'
 try simp only [nrm] at hc1'
 refine W_skip (N_K (q2 (mV Z (o_call call188 Z Z (l_Split_c _ _ H.sub _ hp _ ) ?_))))
 rintro _ w2 ⟨G2, u2_0, g2, rfl, hr2_0⟩
 have H := H.grow g2
 obtain ⟨a2_0, k2_0, rfl⟩ := hr2_0.shape; have hx_hr2_0 : _ ≤ 1099511627776 := hr2_0.lim
 refine ⟨_, Z, ?_⟩
 refine aG Z (q3 (W_seq (q2 (mV Z (o_len_slice underlying77 Z Z (o_gtr Z Z Z (q3 ?_)))))))
 refine W_cond Z ?_ ?_
 ·intro hc3
  try simp only [nrm] at hc3
  refine q2 (aG Z (q3 (W_ret (N_K_ret (rt1 results154 Z ?_)))))
  exact H.retP (by rw [show Sp.parts p = _ from by exact Sp.parts_many (by rw [← Sp.cutAt_47]; omega)]; exact (RdS.nil _ _ _))
 intro hc3'
 try simp only [nrm] at hc3'
 refine W_skip (N_K (W_seq (q2 (mV Z (o_len_slice underlying77 Z Z (mV Z (q3 (W_block ?_))))))))
 refine W_lp (hf := (Sub.cons (t := 3) Z (Sub.cons (t := 14) Z (Sub.cons (t := 15) Z Sub.nil)))) (J := fun M w m => ∃ (k : Nat) (G : PH), M = [(16, .int .i64 (k : Int))] ∧ PLe G2 G ∧ Hp w0 G0 [] w G [] ∧ (k ≤ (Sp.cutAt 47 p).length ∧ ((Sp.cutAt 47 p).take k).all Sp.l1Word = true) ∧ m = ((Sp.cutAt 47 p).length - k)) (h0 := ⟨0, _, Z, PLe.refl _, H, ?inv, Z⟩) (round := ?round)
 case inv => exact ⟨by omega, by simp⟩
 case round =>
  rintro _ w4 _ ⟨k, G4, rfl, hle4, H, hinv4, rfl⟩
  have hr2_0 := hr2_0.up hle4
  obtain ⟨hk, hall⟩ := hinv4
  refine q2 (o_lss Z Z Z (q3 (W_seq ?_)))
  refine W_cond Z ?_ ?_
  ·intro hc5
   try simp only [nrm] at hc5
   refine W_skip (N_K (W_seq (W_block (q2 (o_index_P k hr2_0 underlying77 sizeOf9 Z Z Z Z aN ?_))))); intro b6 o6 z6 q6 hz6 hE6 hrow6
   obtain ⟨rfl, hi6⟩ := hE6; have hy_hi6 : _ ≤ 16777216 := hi6
   refine o_load_P H isAgg9 Z Z (hrow6 0 _ Z) (aG Z (q1 (mV Z (o_call call74 Z Z (i_partValid_c _ _ hi6 ) ?_))))
   rintro _ w7 ⟨rfl, ew7⟩; have H := H.step ew7; refine ⟨_, rfl, ?_⟩
   refine o_not Z Z (q3 ?_)
   refine W_cond Z ?_ ?_
   ·intro hc8
    try simp only [nrm] at hc8
    refine q2 (aG Z (q3 (W_ret (N_B_ret (N_K_ret (N_LP_ret (N_B_ret (N_K_ret (rt1 results154 Z ?_)))))))))
    exact H.retP (by rw [show Sp.parts p = _ from by exact Sp.parts_bad (by rw [← Sp.cutAt_47]; exact hz6) hc8]; exact (RdS.nil _ _ _))
   intro hc8'
   try simp only [nrm] at hc8'
   refine W_skip (N_B (N_K (W_region (o_add Z Z Z oO (mV Z (R_nil ?_))))))
   refine N_lp (hJ := ⟨k + 1, _, Z, hle4, H, ?inv, Z⟩) (hm := ?hm)
   case hm => omega
   case inv => exact ⟨by omega, Sp.all_take hall hz6 (by assumption)⟩
  intro hc5'
  try simp only [nrm] at hc5'
  refine W_exit (N_K_exit (N_LP_exit (N_B_same (N_K (q2 (mV Z (aG Z (q3 (W_ret (rt1 results154 Z ?_))))))))))
  obtain rfl : k = (Sp.cutAt 47 p).length := by omega
  rw [List.take_length] at hall
  have hpo : Sp.parts p = Sp.cutAt 47 p := (Sp.parts_ok (by rw [← Sp.cutAt_47]; exact hall) (by rw [← Sp.cutAt_47]; omega)).trans (Sp.cutAt_47 p).symm
  exact H.retP (by rw [hpo]; exact hr2_0)
theorem i_PathParts_c (w0 : World) (G0 : PH) (hG : PSub G0 w0) (p : Bs) (hp : p.length ≤ 16777216)  :
  Calls Tryz.prog 181 #[str p] w0 (RetP w0 G0 (fun G v => RdT G v (Sp.parts p))) := by
 have H := Hp.init hG
 refine calls_of_W (l := [str p]) func181 Z ntmps181 Z (q2 (aG Z (q1 (mV Z (o_call call154 Z Z (i_parts_c _ _ H.sub _ hp ) ?_)))))
 rintro _ w1 ⟨G1, u1_0, g1, rfl, hr1_0⟩
 have H := H.grow g1
 obtain ⟨a1_0, k1_0, rfl⟩ := hr1_0.shape; have hx_hr1_0 : _ ≤ 1099511627776 := hr1_0.lim
 refine ⟨_, Z, ?_⟩
 refine aG Z (q3 (W_ret (rt1 results181 Z ?_)))
 exact H.retP hr1_0
theorem i_valid_c (w0 : World) (G0 : PH) (hG : PSub G0 w0) (p : Bs) (hp : p.length ≤ 16777216)  :
  Calls Tryz.prog 123 #[str p] w0 (Rets w0 (.bool (Sp.PathValid p))) := by
 have H := Hp.init hG
 refine calls_of_W (l := [str p]) func123 Z ntmps123 Z (q2 (aG Z (q1 (mV Z (o_call call154 Z Z (i_parts_c _ _ H.sub _ hp ) ?_)))))
 rintro _ w1 ⟨G1, u1_0, g1, rfl, hr1_0⟩
 have H := H.grow g1
 obtain ⟨a1_0, k1_0, rfl⟩ := hr1_0.shape; have hx_hr1_0 : _ ≤ 1099511627776 := hr1_0.lim
 refine ⟨_, Z, ?_⟩
 refine o_len_slice underlying77 Z Z (o_gtr Z Z Z (aG Z (q3 (W_ret (rt1 results123 Z ?_)))))
 exact H.rets (congrArg Value.bool (by rw [← Sp.parts_pos, Bool.eq_iff_iff]; simp))
theorem i_PathValid_c (w0 : World) (G0 : PH) (hG : PSub G0 w0) (p : Bs) (hp : p.length ≤ 16777216)  :
  Calls Tryz.prog 95 #[str p] w0 (Rets w0 (.bool (Sp.PathValid p))) := by
 have H := Hp.init hG
 refine calls_of_W (l := [str p]) func95 Z ntmps95 Z (q2 (aG Z (q1 (mV Z (o_call call123 Z Z (i_valid_c _ _ H.sub _ hp ) ?_)))))
 rintro _ w1 ⟨rfl, ew1⟩; have H := H.step ew1; refine ⟨_, rfl, ?_⟩
 refine aG Z (q3 (W_ret (rt1 results95 Z ?_)))
 exact H.rets (congrArg Value.bool (by rfl))
theorem i_itemValid_c (w0 : World) (G0 : PH) (hG : PSub G0 w0) (cx : List Value) (x : BItem) (hx : itemE G0 x cx)  :
  Calls Tryz.prog 120 #[.agg cx.toArray] w0 (Rets w0 (.bool (Sp.l5Item x))) := by
 obtain ⟨a1, m1, c1, rfl, hi1, hr1⟩ := hx; have hy_hi1 : _ ≤ 16777216 := hi1; have hn_hr1 := hr1.len; have hx_hr1 : _ ≤ 1099511627776 := hr1.lim
 have H := Hp.init hG
 refine calls_of_W (l := [_]) func120 Z ntmps120 Z (q2 (o_box H Z Z Z ?_)); intro b2 w2 hb2 H
 refine aG Z (q3 (W_seq (q2 (o_fieldAddr 0 runUnderlying40 Z sizeOf9 Z Z Z (o_load_B 0 H isAgg9 Z Z Z Z (o_call call95 Z Z (i_PathValid_c _ _ H.sub _ hi1 ) ?_))))))
 rintro _ w3 ⟨rfl, ew3⟩; have H := H.step ew3; refine ⟨_, rfl, ?_⟩
 refine o_not Z Z (mV Z ?_)
 refine R_case (t := 9) Z ?_ ?_
 ·intro hc4
  try simp only [nrm] at hc4
  refine rP Z (rP Z (rP Z (rP Z (o_pick_t Z Z Z (mV Z (rP Z (rP Z (rP Z (R_pass Z (yl_un Z Z) (R_pass Z (yl_un Z Z) (R_pass Z (yl_un Z Z) (R_pass Z (yl_un Z Z) (rP Z (o_pick_t Z Z Z (q3 ?_)))))))))))))))
  refine W_true Z (q2 (aG Z (q3 (W_ret (N_K_ret (rt1 results120 Z ?_))))))
  exact H.rets (congrArg Value.bool (by simp [Sp.l5Item, hc4]))
 intro hc4'
 try simp only [nrm] at hc4'
 refine gR Z (o_fieldAddr 2 runUnderlying40 Z sizeOf38 Z Z Z (gR Z (o_load_B 0 H isAgg38 Z Z Z Z (gR Z (o_len_slice underlying38 Z Z (gR Z (o_gtr Z Z Z (o_pick_f Z Z Z (mV Z ?_)))))))))
 refine R_case (t := 15) Z ?_ ?_
 ·intro hc5
  try simp only [nrm] at hc5
  refine rP Z (rP Z (rP Z (R_pass Z (yl_un Z Z) (R_pass Z (yl_un Z Z) (R_pass Z (yl_un Z Z) (R_pass Z (yl_un Z Z) (rP Z (o_pick_t Z Z Z (q3 (W_true Z (q2 (aG Z (q3 (W_ret (N_K_ret ?_)))))))))))))))
  refine rt1 results120 Z ?_
  exact H.rets (congrArg Value.bool (by rw [Sp.l5Item, Bool.eq_iff_iff]; simp; intros; omega))
 intro hc5'
 try simp only [nrm] at hc5'
 refine gR Z (o_fieldAddr 1 runUnderlying40 Z sizeOf4 Z Z Z (gR Z (o_load_B 0 H isAgg4 Z Z Z Z (gR Z (mV Z ?_)))))
 refine R_case (t := 18) Z ?_ ?_
 ·intro hc6
  try simp only [nrm] at hc6
  refine gR Z (o_fieldAddr 2 runUnderlying40 Z sizeOf38 Z Z Z (gR Z (o_load_B 0 H isAgg38 Z Z Z Z (gR Z (o_len_slice underlying38 Z Z (gR Z (o_gtr Z Z Z (gR Z (o_pick_t Z Z Z (o_pick_f Z Z Z (q3 ?_)))))))))))
  refine W_cond Z ?_ ?_
  ·intro hc7
   try simp only [nrm] at hc7
   refine q2 (aG Z (q3 (W_ret (N_K_ret (rt1 results120 Z ?_)))))
   exact H.rets (congrArg Value.bool (by rw [Sp.l5Item, Sp.all_false (c := x.ids[0]) (k := 0) (List.getElem?_eq_getElem oM) (by simp [Sp.idOk, hc6])]; rfl))
  intro hc7'
  try simp only [nrm] at hc7'
  refine W_skip (N_K (W_seq (q2 (o_fieldAddr 2 runUnderlying40 Z sizeOf38 Z Z Z (o_load_B 0 H isAgg38 Z Z Z Z (o_len_slice underlying38 Z Z (mV Z (q3 (W_block ?_)))))))))
  obtain ⟨ln8, hln8, H⟩ := H.name (k := 0) rfl
  refine W_lp (hf := (Sub.cons (t := 26) Z (Sub.cons (t := 27) Z Sub.nil))) (J := fun M w m => ∃ (k : Nat) (G : PH), M = [(28, .int .i64 (k : Int))] ∧ PLe G0 G ∧ Hp w0 G0 [] w G [blk b2 (cl ln8 40)] ∧ (k ≤ x.ids.length ∧ (x.ids.take k).all (Sp.idOk x.dir) = true) ∧ m = (x.ids.length - k)) (h0 := ⟨0, _, Z, PLe.refl _, H, ?inv, Z⟩) (round := ?round)
  case inv => exact ⟨by omega, by simp⟩
  case round =>
   rintro _ w9 _ ⟨k, G9, rfl, hle9, H, hinv9, rfl⟩
   subst hln8
   have hr1 := hr1.up hle9
   obtain ⟨hk, hall⟩ := hinv9
   refine q2 (o_lss Z Z Z (q3 (W_seq ?_)))
   refine W_cond Z ?_ ?_
   ·intro hc10
    try simp only [nrm] at hc10
    refine W_skip (N_K (W_seq (W_block (q2 (o_index_P k hr1 underlying38 sizeOf3 Z Z Z Z aN ?_))))); intro b11 o11 z11 q11 hz11 hE11 hrow11
    obtain ⟨rfl, hi11⟩ := hE11
    refine o_load_P H isAgg3 Z Z (hrow11 0 _ Z) (aG Z (q1 (mV Z (o_lss Z Z Z (mV Z ?_)))))
    refine R_case (t := 34) Z ?_ ?_
    ·intro hc12
     try simp only [nrm] at hc12
     refine rP Z (rP Z (o_pick_t Z Z Z (q3 (W_true Z (q2 (aG Z (q3 (W_ret (N_B_ret (N_K_ret (N_LP_ret (N_B_ret (N_K_ret (rt1 results120 Z ?_))))))))))))))
     exact H.rets (congrArg Value.bool (by rw [Sp.l5Item, Sp.all_false hz11 (by first | (exfalso; omega) | (simp [Sp.idOk, Sp.l6In, *]; done) | (simp [Sp.idOk, Sp.l6In, *]; omega))]; rfl))
    intro hc12'
    try simp only [nrm] at hc12'
    refine gR Z (mV Z (gR Z (o_gtr Z Z Z (o_pick_f Z Z Z (q3 ?_)))))
    refine W_cond Z ?_ ?_
    ·intro hc13
     try simp only [nrm] at hc13
     refine q2 (aG Z (q3 (W_ret (N_B_ret (N_K_ret (N_LP_ret (N_B_ret (N_K_ret (rt1 results120 Z ?_)))))))))
     exact H.rets (congrArg Value.bool (by rw [Sp.l5Item, Sp.all_false hz11 (by first | (exfalso; omega) | (simp [Sp.idOk, Sp.l6In, *]; done) | (simp [Sp.idOk, Sp.l6In, *]; omega))]; rfl))
    intro hc13'
    try simp only [nrm] at hc13'
    refine W_skip (N_B (N_K (W_region (o_add Z Z Z oO (mV Z (R_nil ?_))))))
    refine N_lp (hJ := ⟨k + 1, _, Z, hle9, H, ?inv, Z⟩) (hm := ?hm)
    case hm => omega
    case inv => exact ⟨by omega, Sp.all_take hall hz11 (by first | (exfalso; omega) | (simp [Sp.idOk, Sp.l6In, *]; done) | (simp [Sp.idOk, Sp.l6In, *]; omega))⟩
   intro hc10'
   try simp only [nrm] at hc10'
   refine W_exit (N_K_exit (N_LP_exit (N_B_same (N_K (q2 (aG Z (q3 (W_ret (rt1 results120 Z ?_)))))))))
   obtain rfl : k = x.ids.length := by omega
   rw [List.take_length] at hall
   exact H.rets (congrArg Value.bool (by rw [Sp.l5Item, hall, Bool.eq_iff_iff]; simp [hc4']; omega))
 intro hc6'
 try simp only [nrm] at hc6'
 refine rP Z (rP Z (rP Z (rP Z (gR Z (o_pick_f Z Z Z (o_pick_f Z Z Z (q3 (W_false Z (W_skip (N_K (W_seq (q2 (o_fieldAddr 2 runUnderlying40 Z sizeOf38 Z Z Z (o_load_B 0 H isAgg38 Z Z Z Z (o_len_slice underlying38 Z Z ?_)))))))))))))))
 refine mV Z (q3 (W_block ?_))
 obtain ⟨ln15, hln15, H⟩ := H.name (k := 0) rfl
 refine W_lp (hf := (Sub.cons (t := 26) Z (Sub.cons (t := 27) Z Sub.nil))) (J := fun M w m => ∃ (k : Nat) (G : PH), M = [(28, .int .i64 (k : Int))] ∧ PLe G0 G ∧ Hp w0 G0 [] w G [blk b2 (cl ln15 40)] ∧ (k ≤ x.ids.length ∧ (x.ids.take k).all (Sp.idOk x.dir) = true) ∧ m = (x.ids.length - k)) (h0 := ⟨0, _, Z, PLe.refl _, H, ?inv, Z⟩) (round := ?round)
 case inv => exact ⟨by omega, by simp⟩
 case round =>
  rintro _ w16 _ ⟨k, G16, rfl, hle16, H, hinv16, rfl⟩
  subst hln15
  have hr1 := hr1.up hle16
  obtain ⟨hk, hall⟩ := hinv16
  refine q2 (o_lss Z Z Z (q3 (W_seq ?_)))
  refine W_cond Z ?_ ?_
  ·intro hc17
   try simp only [nrm] at hc17
   refine W_skip (N_K (W_seq (W_block (q2 (o_index_P k hr1 underlying38 sizeOf3 Z Z Z Z aN ?_))))); intro b18 o18 z18 q18 hz18 hE18 hrow18
   obtain ⟨rfl, hi18⟩ := hE18
   refine o_load_P H isAgg3 Z Z (hrow18 0 _ Z) (aG Z (q1 (mV Z (o_lss Z Z Z (mV Z ?_)))))
   refine R_case (t := 34) Z ?_ ?_
   ·intro hc19
    try simp only [nrm] at hc19
    refine rP Z (rP Z (o_pick_t Z Z Z (q3 (W_true Z (q2 (aG Z (q3 (W_ret (N_B_ret (N_K_ret (N_LP_ret (N_B_ret (N_K_ret (rt1 results120 Z ?_))))))))))))))
    exact H.rets (congrArg Value.bool (by rw [Sp.l5Item, Sp.all_false hz18 (by first | (exfalso; omega) | (simp [Sp.idOk, Sp.l6In, *]; done) | (simp [Sp.idOk, Sp.l6In, *]; omega))]; rfl))
   intro hc19'
   try simp only [nrm] at hc19'
   refine gR Z (mV Z (gR Z (o_gtr Z Z Z (o_pick_f Z Z Z (q3 ?_)))))
   refine W_cond Z ?_ ?_
   ·intro hc20
    try simp only [nrm] at hc20
    refine q2 (aG Z (q3 (W_ret (N_B_ret (N_K_ret (N_LP_ret (N_B_ret (N_K_ret (rt1 results120 Z ?_)))))))))
    exact H.rets (congrArg Value.bool (by rw [Sp.l5Item, Sp.all_false hz18 (by first | (exfalso; omega) | (simp [Sp.idOk, Sp.l6In, *]; done) | (simp [Sp.idOk, Sp.l6In, *]; omega))]; rfl))
   intro hc20'
   try simp only [nrm] at hc20'
   refine W_skip (N_B (N_K (W_region (o_add Z Z Z oO (mV Z (R_nil ?_))))))
   refine N_lp (hJ := ⟨k + 1, _, Z, hle16, H, ?inv, Z⟩) (hm := ?hm)
   case hm => omega
   case inv => exact ⟨by omega, Sp.all_take hall hz18 (by first | (exfalso; omega) | (simp [Sp.idOk, Sp.l6In, *]; done) | (simp [Sp.idOk, Sp.l6In, *]; omega))⟩
  intro hc17'
  try simp only [nrm] at hc17'
  refine W_exit (N_K_exit (N_LP_exit (N_B_same (N_K (q2 (aG Z (q3 (W_ret (rt1 results120 Z ?_)))))))))
  obtain rfl : k = x.ids.length := by omega
  rw [List.take_length] at hall
  exact H.rets (congrArg Value.bool (by rw [Sp.l5Item, hall, Bool.eq_iff_iff]; simp [hc4']; omega))
end Go.Proofs.Tst

namespace Go.Proofs.Tst
open Go Fw Tryz
theorem l_isNaN_c (w0 : World) (x : Bs) (hx : x.length ≤ 16777216)  :
  Calls Tryz.prog 200 #[str x] w0 (Rets w0 (.bool false)) := by
 have H := Hp.init0 w0
 refine calls_of_W (l := [str x]) func200 Z ntmps200 Z (q2 (aG Z (q1 (mV Z (mV Z (o_sneq Z Z Z (aG Z (q3 (W_ret (rt1 results200 Z ?_))))))))))
 exact H.rets (congrArg Value.bool (by simp))
theorem l_Compare_c (w0 : World) (x : Bs) (hx : x.length ≤ 16777216) (y : Bs) (hy : y.length ≤ 16777216)  :
  Calls Tryz.prog 185 #[str x, str y] w0 (Rets w0 (.int .i64 (Sp.cmpB x y))) := by
 have H := Hp.init0 w0
 refine calls_of_W (l := [str x, str y]) func185 Z ntmps185 Z (q2 (aG Z (q1 (mV Z (o_call call200 Z Z (l_isNaN_c _ _ hx ) ?_)))))
 rintro _ w1 ⟨rfl, ew1⟩; have H := H.step ew1; refine ⟨_, rfl, ?_⟩
 refine aG Z (q1 (mV Z (o_call call200 Z Z (l_isNaN_c _ _ hy ) ?_)))
 rintro _ w2 ⟨rfl, ew2⟩; have H := H.step ew2; refine ⟨_, rfl, ?_⟩
 refine aG Z (q3 (W_seq (q2 (mV Z (q3 (W_false Z (W_skip (N_K (W_seq (q2 (mV Z (q3 (W_false Z (W_skip (N_K ?_)))))))))))))))
 refine W_seq (q2 (mV Z (mV Z (o_slss Z Z Z (q3 ?_)))))
 refine W_cond Z ?_ ?_
 ·intro hc3
  try simp only [nrm] at hc3
  refine q2 (aG Z (q3 (W_ret (N_K_ret (rt1 results185 Z ?_)))))
  exact H.rets (congrArg (Value.int .i64) (by unfold Sp.cmpB; simp_all))
 intro hc3'
 try simp only [nrm] at hc3'
 refine W_skip (N_K (W_seq (q2 (mV Z (mV Z (o_sgtr Z Z Z (q3 ?_)))))))
 refine W_cond Z ?_ ?_
 ·intro hc4
  try simp only [nrm] at hc4
  refine q2 (aG Z (q3 (W_ret (N_K_ret (rt1 results185 Z ?_)))))
  exact H.rets (congrArg (Value.int .i64) (by unfold Sp.cmpB; simp_all))
 intro hc4'
 try simp only [nrm] at hc4'
 refine W_skip (N_K (q2 (aG Z (q3 (W_ret (rt1 results185 Z ?_))))))
 exact H.rets (congrArg (Value.int .i64) (by unfold Sp.cmpB; simp_all))
theorem i_place1_c (w0 : World) (G0 : PH) (hG : PSub G0 w0) (t : Nd) (hndt : RdN G0 t) (nm : Bs) (hnm : nm.length ≤ 16777216)  :
  Calls Tryz.prog 184 #[.pointer (some ⟨t.b, 0, none⟩), str nm] w0 (Rets w0 (.int .i64 (Sp.cmpB t.name nm))) := by
 obtain ⟨hnlt, nat, nmt, nct, nAt, nMt, nCt, hprt, hrit, hrkt⟩ := hndt.open
 have hn_hrit := hrit.len; have hx_hrit : _ ≤ 1099511627776 := hrit.lim
 have hn_hrkt := hrkt.len; have hx_hrkt : _ ≤ 1099511627776 := hrkt.lim
 have H := Hp.init hG
 refine calls_of_W (l := [.pointer (some ⟨t.b, 0, none⟩), str nm]) func184 Z ntmps184 Z (q2 (aG Z (q1 (mV Z (o_nilCheck Z Z (o_fieldAddr 0 runUnderlying167 Z sizeOf9 Z Z Z (o_load_P H isAgg9 Z Z (hprt 0 _ Z) (mV Z (o_call call185 Z Z (l_Compare_c _ _ hnlt _ hnm ) ?_)))))))))
 rintro _ w1 ⟨rfl, ew1⟩; have H := H.step ew1; refine ⟨_, rfl, ?_⟩
 refine aG Z (q3 (W_ret (rt1 results184 Z ?_)))
 exact H.rets (congrArg (Value.int .i64) (by rfl))
theorem l_Search_c (w0 : World) (G0 : PH) (hG : PSub G0 w0) (vkids : Value) (kids : List (Nd)) (hkids : RdNd G0 vkids kids) (nm : Bs) (hnm : nm.length ≤ 16777216) (hsk : Sp.srt kids)  :
  Calls Tryz.prog 183 #[vkids, str nm, .func (.func 184) #[] #[]] w0 (Rets w0 (.tuple #[.int .i64 (Sp.pl kids nm : Nat), .bool (Sp.fd kids nm).isSome])) := by
 obtain ⟨akids, kkids, rfl⟩ := hkids.shape
 have hlimkids : kids.length ≤ 1099511627776 := hkids.lim
 have H := Hp.init hG
 refine calls_of_W (l := [.slice akids kids.length kkids, str nm, .func (.func 184) #[] #[]]) func183 Z ntmps183 Z (q2 (aG Z (aG Z (q1 (mV Z (o_len_slice underlying140 Z Z (aG Z (q1 (mV Z (aG Z (aG Z (q3 (W_seq (W_block ?_))))))))))))))
 refine W_lp (hf := (Sub.cons (t := 0) Z (Sub.cons (t := 1) Z (Sub.cons (t := 2) Z (Sub.cons (t := 6) Z (Sub.cons (t := 7) Z (Sub.cons (t := 8) Z Sub.nil))))))) (J := fun M w m => ∃ (i j : Nat) (G : PH), M = [(9, .int .i64 (i : Int)), (10, .int .i64 (j : Int))] ∧ PLe G0 G ∧ Hp w0 G0 [] w G [] ∧ (i ≤ j ∧ j ≤ kids.length ∧ (∀ (k : Nat) (x : Nd), k < i → kids[k]? = some x → Sp.lt x.name nm = true) ∧ (∀ (k : Nat) (x : Nd), j ≤ k → kids[k]? = some x → Sp.lt x.name nm = false)) ∧ m = (j - i)) (h0 := ⟨0, kids.length, _, Z, PLe.refl _, H, ?inv, Z⟩) (round := ?round)
 case inv => exact ⟨by omega, by omega, fun k x hk => by omega, fun k x hk hx => by have := (List.getElem?_eq_some_iff.1 hx).1; omega⟩
 case round =>
  rintro _ w1 _ ⟨i, j, G1, rfl, hle1, H, hinv1, rfl⟩
  have hkids := hkids.up hle1
  obtain ⟨hij, hjl, hlo, hhi⟩ := hinv1
  refine W_seq (q2 (mV Z (mV Z (o_lss Z Z Z (q3 ?_)))))
  refine W_cond Z ?_ ?_
  ·intro hc2
   try simp only [nrm] at hc2
   refine W_skip (N_K (W_block (q2 (mV Z (mV Z (o_add Z Z Z oO (o_conv (by simp [underlying3]) underlying196 Z Z (wrap_u64 oO) (o_shr1 Z Z Z (by decide) (o_conv (by simp [underlying196]) underlying3 Z Z (wrap_i64 oO) (aG Z (q1 (mV Z (mV Z (mV Z (o_index_P ((i + j) / 2) hkids underlying140 sizeOf65 Z Z Z oM aN ?_))))))))))))))); intro b4 o4 z4 q4 hz4 hE4 hrow4
   obtain ⟨rfl, hnd4⟩ := hE4; obtain ⟨hnl4, na4, nm4, nc4, nA4, nM4, nC4, hpr4, hri4, hrk4⟩ := hnd4.open; have hn_hri4 := hri4.len; have hx_hri4 : _ ≤ 1099511627776 := hri4.lim; have hn_hrk4 := hrk4.len; have hx_hrk4 : _ ≤ 1099511627776 := hrk4.lim
   refine o_load_P H isAgg65 Z Z (hrow4 0 _ Z) (mV Z (o_callv call184 Z Z Z (i_place1_c _ _ H.sub _ hnd4 _ hnm ) ?_))
   rintro _ w5 ⟨rfl, ew5⟩; have H := H.step ew5; refine ⟨_, rfl, ?_⟩
   refine o_lss Z Z Z (q3 ?_)
   refine W_cond Z ?_ ?_
   ·intro hc6
    try simp only [nrm] at hc6
    refine W_region (mV Z (o_add Z Z Z oO (aG Z (R_nil (N_B ?_)))))
    refine N_lp (hJ := ⟨((i + j) / 2 + 1), j, _, Z, hle1, H, ?inv, Z⟩) (hm := ?hm)
    case hm => omega
    case inv => exact ⟨by omega, by omega, Sp.pw_lt hsk hz4 ((Sp.cmpB_lt _ _).1 hc6), hhi⟩
   intro hc6'
   try simp only [nrm] at hc6'
   refine W_region (mV Z (aG Z (R_nil (N_B ?_))))
   refine N_lp (hJ := ⟨i, ((i + j) / 2), _, Z, hle1, H, ?inv, Z⟩) (hm := ?hm)
   case hm => omega
   case inv => exact ⟨by omega, by omega, hlo, Sp.pw_ge hsk hz4 (by cases hlt : Sp.lt z4.name nm with | false => rfl | true => exact absurd ((Sp.cmpB_lt _ _).2 hlt) oM)⟩
  intro hc2'
  try simp only [nrm] at hc2'
  refine W_exit (N_K_exit (N_LP_exit (N_B_same (N_K (q2 (mV Z (mV Z (mV Z (o_lss Z Z Z (mV Z ?_))))))))))
  refine R_case (t := 39) Z ?_ ?_
  ·intro hc8
   try simp only [nrm] at hc8
   refine gR Z (mV Z (gR Z (mV Z (gR Z (mV Z (gR Z (o_index_P i hkids underlying140 sizeOf65 Z Z Z Z aN ?_))))))); intro b9 o9 z9 q9 hz9 hE9 hrow9
   obtain ⟨rfl, hnd9⟩ := hE9; obtain ⟨hnl9, na9, nm9, nc9, nA9, nM9, nC9, hpr9, hri9, hrk9⟩ := hnd9.open; have hn_hri9 := hri9.len; have hx_hri9 : _ ≤ 1099511627776 := hri9.lim; have hn_hrk9 := hrk9.len; have hx_hrk9 : _ ≤ 1099511627776 := hrk9.lim
   refine gR Z (o_load_P H isAgg65 Z Z (hrow9 0 _ Z) (gR Z (mV Z (gR Z (o_callv call184 Z Z Z (i_place1_c _ _ H.sub _ hnd9 _ hnm ) ?_)))))
   rintro _ w10 ⟨rfl, ew10⟩; have H := H.step ew10; refine ⟨_, rfl, ?_⟩
   refine gR Z (o_eql Z Z Z (o_pick_t Z Z Z (aG Z (aG Z (q3 (W_ret (rt2 results183 Z Z ?_)))))))
   obtain rfl : i = j := by omega
   have hpl := Sp.pl_of oM hlo hhi
   obtain ⟨hfd, _⟩ := Sp.fd_at hsk hz9 hlo hhi
   exact H.rets (by rw [hpl, hfd]; simp only [Sp.cmpB_eq]; rfl)
  intro hc8'
  try simp only [nrm] at hc8'
  refine rP Z (rP Z (rP Z (rP Z (rP Z (rP Z (rP Z (rP Z (o_pick_f Z Z Z (aG Z (aG Z (q3 (W_ret (rt2 results183 Z Z ?_)))))))))))))
  obtain rfl : i = j := by omega
  have hpl := Sp.pl_of oM hlo hhi
  have hfd := Sp.fd_end (nm := nm) (ks := kids) (fun k x hk hx => hlo k x oM hx)
  exact H.rets (by rw [hpl, hfd]; rfl)
theorem i_place_c (w0 : World) (G0 : PH) (hG : PSub G0 w0) (t : Nd) (hndt : RdN G0 t) (nm : Bs) (hnm : nm.length ≤ 16777216) (hwt : t.wf) :
  Calls Tryz.prog 152 #[.pointer (some ⟨t.b, 0, none⟩), str nm] w0 (Rets w0 (.tuple #[.int .i64 (Sp.pl t.kids nm : Nat), .bool (Sp.fd t.kids nm).isSome])) := by
 obtain ⟨hnlt, nat, nmt, nct, nAt, nMt, nCt, hprt, hrit, hrkt⟩ := hndt.open
 have hn_hrit := hrit.len; have hx_hrit : _ ≤ 1099511627776 := hrit.lim
 have hn_hrkt := hrkt.len; have hx_hrkt : _ ≤ 1099511627776 := hrkt.lim
 have H := Hp.init hG
 refine calls_of_W (l := [.pointer (some ⟨t.b, 0, none⟩), str nm]) func152 Z ntmps152 Z (q2 (aG Z (aG Z (q1 (mV Z (o_nilCheck Z Z (o_fieldAddr 3 runUnderlying167 Z sizeOf140 Z Z Z (o_load_P H isAgg140 Z Z (hprt 3 _ Z) (mV Z (o_call call183 Z Z (l_Search_c _ _ H.sub _ _ hrkt _ hnm ((Nd.wf_iff _).1 hwt).1 ) ?_))))))))))
 rintro _ w1 ⟨rfl, ew1⟩; have H := H.step ew1; refine ⟨_, rfl, ?_⟩
 refine o_extract Z Z Z (o_extract Z Z Z (aG Z (aG Z (q3 (W_ret (rt2 results152 Z Z ?_))))))
 exact H.rets Z
theorem i_at_c (w0 : World) (G0 : PH) (hG : PSub G0 w0) (t : Nd) (hndt : RdN G0 t) (vps : Value) (ps : List (Bs)) (hps : RdT G0 vps ps) (hwt : t.wf) :
  Calls Tryz.prog 182 #[.pointer (some ⟨t.b, 0, none⟩), vps] w0 (RetV w0 (fun v => (t.at_ ps = none ∧ v = .pointer none) ∨ (∃ d, t.at_ ps = some d ∧ v = .pointer (some ⟨d.b, 0, none⟩)))) := by
 obtain ⟨hnlt, nat, nmt, nct, nAt, nMt, nCt, hprt, hrit, hrkt⟩ := hndt.open
 have hn_hrit := hrit.len; have hx_hrit : _ ≤ 1099511627776 := hrit.lim
 have hn_hrkt := hrkt.len; have hx_hrkt : _ ≤ 1099511627776 := hrkt.lim
 obtain ⟨aps, kps, rfl⟩ := hps.shape
 have hlimps : ps.length ≤ 1099511627776 := hps.lim
 have H := Hp.init hG
 refine calls_of_W (l := [.pointer (some ⟨t.b, 0, none⟩), .slice aps ps.length kps]) func182 Z ntmps182 Z (q2 (aG Z (q3 (W_seq (q2 (mV Z (o_len_slice underlying77 Z Z (mV Z (q3 (W_block ?_))))))))))
 refine W_lp (hf := (Sub.cons (t := 9) Z (Sub.cons (t := 10) Z Sub.nil))) (J := fun M w m => ∃ (k : Nat) (d : Nd) (G : PH), M = [(11, .int .i64 (k : Int)), (0, .pointer (some ⟨d.b, 0, none⟩))] ∧ PLe G0 G ∧ Hp w0 G0 [] w G [] ∧ (k ≤ ps.length ∧ RdN G d ∧ d.wf ∧ t.at_ (ps.take k) = some d) ∧ m = (ps.length - k)) (h0 := ⟨0, t, _, Z, PLe.refl _, H, ?inv, Z⟩) (round := ?round)
 case inv => exact ⟨by omega, hndt, hwt, rfl⟩
 case round =>
  rintro _ w1 _ ⟨k, d, G1, rfl, hle1, H, hinv1, rfl⟩
  have hps := hps.up hle1
  obtain ⟨hk, hnd0, hwd, hat⟩ := hinv1; obtain ⟨hnl0, na0, nm0, nc0, nA0, nM0, nC0, hpr0, hri0, hrk0⟩ := hnd0.open; have hn_hrk0 := hrk0.len
  refine q2 (o_lss Z Z Z (q3 (W_seq ?_)))
  refine W_cond Z ?_ ?_
  ·intro hc2
   try simp only [nrm] at hc2
   refine W_skip (N_K (W_seq (W_block (q2 (o_index_P k hps underlying77 sizeOf9 Z Z Z Z aN ?_))))); intro b3 o3 z3 q3 hz3 hE3 hrow3
   obtain ⟨rfl, hi3⟩ := hE3; have hy_hi3 : _ ≤ 16777216 := hi3
   refine o_load_P H isAgg9 Z Z (hrow3 0 _ Z) (aG Z (q1 (mV Z (mV Z (o_call call152 Z Z (i_place_c _ _ H.sub _ hnd0 _ hi3 hwd) ?_)))))
   rintro _ w4 ⟨rfl, ew4⟩; have H := H.step ew4; refine ⟨_, rfl, ?_⟩
   refine mV Z (o_extract Z Z Z (o_extract Z Z Z (aG Z (aG Z (q3 (W_seq (q2 (mV Z (o_not Z Z (q3 ?_))))))))))
   refine W_cond Z ?_ ?_
   ·intro hc5
    try simp only [nrm] at hc5
    refine q2 (aG Z (q3 (W_ret (N_K_ret (N_B_ret (N_K_ret (N_LP_ret (N_B_ret (N_K_ret (rt1 results182 Z ?_))))))))))
    exact H.retV (.inl ⟨Nd.at_stop hz3 hat (by simpa [Sp.fd, Nd.kid] using hc5), rfl⟩)
   intro hc5'
   try simp only [nrm] at hc5'
   obtain ⟨q, hq⟩ := Option.isSome_iff_exists.1 hc5'
   have hpl : d.kids[Sp.pl d.kids z3]? = some q := Nd.place_some hwd hq
   have hlt : Sp.pl d.kids z3 < d.kids.length := (List.getElem?_eq_some_iff.1 hpl).1
   refine W_skip (N_K (W_region (mV Z (o_nilCheck Z Z (o_fieldAddr 3 runUnderlying167 Z sizeOf140 Z Z Z (o_load_P H isAgg140 Z Z (hpr0 3 _ Z) (mV Z (o_index_P (Sp.pl d.kids z3) hrk0 underlying140 sizeOf65 Z Z Z Z aN ?_)))))))); intro b6 o6 z6 q6 hz6 hE6 hrow6
   obtain ⟨rfl, hnd6⟩ := hE6; obtain ⟨hnl6, na6, nm6, nc6, nA6, nM6, nC6, hpr6, hri6, hrk6⟩ := hnd6.open; have hn_hri6 := hri6.len; have hx_hri6 : _ ≤ 1099511627776 := hri6.lim; have hn_hrk6 := hrk6.len; have hx_hrk6 : _ ≤ 1099511627776 := hrk6.lim
   have hkid : Nd.kid d z3 = some z6 := by (show Sp.fd _ _ = _); rw [hq]; exact hpl.symm.trans hz6
   refine o_load_P H isAgg65 Z Z (hrow6 0 _ Z) (aG Z (R_nil (N_B (N_K (W_region (o_add Z Z Z oO (mV Z (R_nil ?_))))))))
   refine N_lp (hJ := ⟨k + 1, z6, _, Z, hle1, H, ?inv, Z⟩) (hm := ?hm)
   case hm => omega
   case inv => exact ⟨by omega, hnd6, (((Nd.wf_iff _).1 hwd).2 _ (List.mem_of_getElem? hz6)).2, by rw [Nd.at_step hz3 hat]; exact hkid⟩
  intro hc2'
  try simp only [nrm] at hc2'
  refine W_exit (N_K_exit (N_LP_exit (N_B_same (N_K (q2 (mV Z (aG Z (q3 (W_ret (rt1 results182 Z ?_))))))))))
  exact H.retV (.inr ⟨d, by rw [← hat, List.take_of_length_le oM], rfl⟩)
theorem i_dirOf_c (w0 : World) (G0 : PH) (hG : PSub G0 w0) (t : Nd) (hndt : RdN G0 t) (path : Bs) (hpath : path.length ≤ 16777216) (hwt : t.wf) :
  Calls Tryz.prog 151 #[.pointer (some ⟨t.b, 0, none⟩), str path] w0 (RetV w0 (fun v => (t.dirOf path = none ∧ v = .tuple #[.pointer none, str []]) ∨ (∃ d nm, t.dirOf path = some (d, nm) ∧ v = .tuple #[.pointer (some ⟨d.b, 0, none⟩), str nm]))) := by
 obtain ⟨hnlt, nat, nmt, nct, nAt, nMt, nCt, hprt, hrit, hrkt⟩ := hndt.open
 have hn_hrit := hrit.len; have hx_hrit : _ ≤ 1099511627776 := hrit.lim
 have hn_hrkt := hrkt.len; have hx_hrkt : _ ≤ 1099511627776 := hrkt.lim
 have H := Hp.init hG
 refine calls_of_W (l := [.pointer (some ⟨t.b, 0, none⟩), str path]) func151 Z ntmps151 Z (q2 (aG Z (aG Z (q1 (mV Z (o_call call181 Z Z (i_PathParts_c _ _ H.sub _ hpath ) ?_))))))
 rintro _ w1 ⟨G1, u1_0, g1, rfl, hr1_0⟩
 have H := H.grow g1
 have hndt := hndt.up g1.le
 obtain ⟨a1_0, k1_0, rfl⟩ := hr1_0.shape; have hx_hr1_0 : _ ≤ 1099511627776 := hr1_0.lim
 refine ⟨_, Z, ?_⟩
 refine aG Z (q3 (W_seq (q2 (mV Z (o_len_slice underlying77 Z Z (o_eql Z Z Z (q3 ?_)))))))
 refine W_cond Z ?_ ?_
 ·intro hc2
  try simp only [nrm] at hc2
  refine q2 (aG Z (aG Z (q3 (W_ret (N_K_ret (rt2 results151 Z Z ?_))))))
  exact H.retV (.inl ⟨Nd.dirOf_nil oM, Z⟩)
 intro hc2'
 try simp only [nrm] at hc2'
 refine W_skip (N_K (q2 (mV Z (o_len_slice underlying77 Z Z (o_sub Z Z Z oO (aG Z (q1 (mV Z (mV Z (mV Z ?_))))))))))
 have hcap4 := hr1_0.cap; try simp only [List.length_set, List.length_append, List.length_take, List.length_drop, List.length_replicate] at hcap4
 refine o_slice_to (j := ((Sp.parts path).length - 1)) underlying77 sizeOf9 Z Z Z oM oM ?_
 have hsl4 := hr1_0.take (j := ((Sp.parts path).length - 1)) aN
 have hsn1 := hsl4.len
 refine o_call call182 Z Z (i_at_c _ _ H.sub _ hndt _ _ hsl4 hwt) ?_
 rintro _ w5 ⟨_, rfl, ew5, ⟨hat5, rfl⟩ | ⟨d5, hat5, rfl⟩⟩
 ·skip
  have H := H.step ew5; refine ⟨_, rfl, ?_⟩
  refine aG Z (q3 (W_seq (q2 (mV Z (o_eqnil_ptr underlying65 Z Z Z (mV Z (rP Z (rP Z (rP Z (rP Z (rP Z (o_pick_t Z Z Z (q3 (W_true Z (q2 ?_)))))))))))))))
  refine aG Z (aG Z (q3 (W_ret (N_K_ret (rt2 results151 Z Z ?_)))))
  exact H.retV (.inl ⟨Nd.dirOf_no oM hat5, Z⟩)
 skip
 have H := H.step ew5; refine ⟨_, rfl, ?_⟩
 have hnd5 := hndt.at hat5; obtain ⟨hnl5, na5, nm5, nc5, nA5, nM5, nC5, hpr5, hri5, hrk5⟩ := hnd5.open
 have hn_hri5 := hri5.len; have hx_hri5 : _ ≤ 1099511627776 := hri5.lim
 have hn_hrk5 := hrk5.len; have hx_hrk5 : _ ≤ 1099511627776 := hrk5.lim
 refine aG Z (q3 (W_seq (q2 (mV Z (o_eqnil_ptr underlying65 Z Z Z (mV Z (gR Z (mV Z (gR Z (o_nilCheck Z Z (gR Z (o_fieldAddr 1 runUnderlying167 Z sizeOf4 Z Z Z (gR Z (o_load_P H isAgg4 Z Z (hpr5 1 _ Z) (gR Z ?_)))))))))))))))
 refine o_not Z Z (o_pick_f Z Z Z (q3 ?_))
 refine W_cond Z ?_ ?_
 ·intro hc6
  try simp only [nrm] at hc6
  refine q2 (aG Z (aG Z (q3 (W_ret (N_K_ret (rt2 results151 Z Z ?_))))))
  exact H.retV (.inl ⟨Nd.dirOf_nodir oM hat5 (by simpa using hc6), rfl⟩)
 intro hc6'
 try simp only [nrm] at hc6'
 refine W_skip (N_K (W_seq (W_drawK [] 7 H kR Z ?_))); intro w7 H; have hd7 := PLe.refl G1
 refine vM 0 Z Z (vM 1 Z Z (vM 2 Z Z ?_))
 have hl8 := hr1_0.len
 obtain ⟨b8, o8, z8, q8, ha8, hz8, hq8, hE8, hrow8, _⟩ := hr1_0.at (i := ((Sp.parts path).length - 1)) oM
 clear hq8
 obtain ⟨rfl, hi8⟩ := hE8; have hy_hi8 : _ ≤ 16777216 := hi8
 refine RD_t 3 Z kR Z (fun _ hK => v_index_P (i := ((Sp.parts path).length - 1)) ha8 underlying77 sizeOf9 Z Z oM oM) (RD_t 4 Z kR Z (fun _ hK => v_load_P hK isAgg9 Z (hrow8 0 _ Z)) (RD_t 5 Z kR Z (fun _ hK => v_assign Z) (RD_t 6 Z kR Z (fun _ hK => v_assign Z) (RD_done kR (N_K (W_ret (rt2 results151 Z Z ?_)))))))
 exact H.retV (.inr ⟨_, _, Nd.dirOf_yes oM hz8 hat5 (by simpa using hc6'), rfl⟩)
end Go.Proofs.Tst

namespace Go.Proofs.Tst
open Go Fw Tryz
theorem l_Insert_c (w0 : World) (G0 : PH) (hG : PSub G0 w0) (vkids : Value) (kids : List Nd) (i : Nat) (hi : i ≤ kids.length) (hkl : kids.length ≤ 1099511627776) (vbk : Nat) (k : Nd) (hLent : Lent w0 G0 [acc 65 1 vkids kids.length (ptrs kids), blk vbk (cl [ptr k.b] 65)])  :
  Calls Tryz.prog 153 #[vkids, .int .i64 (i : Int), .slice (some ⟨vbk, 0, none⟩) 1 1] w0 (RetM w0 G0 (fps [acc 65 1 vkids kids.length (ptrs kids), blk vbk (cl [ptr k.b] 65)]) (fun G' v Bs => ∃ (c : List Value), Bs = [acc 65 1 v (kids.length + 1) c] ∧ c = ptrs (kids.take i ++ k :: kids.drop i))) := by
 have H : Hp w0 G0 (fps [acc 65 1 vkids kids.length (ptrs kids), blk vbk (cl [ptr k.b] 65)]) w0 G0 [acc 65 1 vkids kids.length (ptrs kids), blk vbk (cl [ptr k.b] 65)] := hLent.hp
 obtain ⟨akids, ckids, rfl⟩ := H.accShape (k := 0) rfl
 refine calls_of_W (l := [.slice akids kids.length ckids, .int .i64 (i : Int), .slice (some ⟨vbk, 0, none⟩) 1 1]) func153 Z ntmps153 Z (q2 (aG Z (q1 (mV Z (mV Z ?_)))))
 have hac1 := H.accCap (k := 0) rfl
 refine o_slice_from (i := i) underlying140 sizeOf65 Z Z Z Z oM (q1 (mV Z (o_len_slice underlying140 Z Z (aG Z (q3 (W_seq (q2 (mV Z (o_eql Z Z Z (q3 ?_))))))))))
 refine W_cond Z ?_ ?_
 ·intro hc2
  try simp only [nrm] at hc2
  exact absurd hc2 (by decide)
 intro hc2'
 try simp only [nrm] at hc2'
 refine W_skip (N_K (q2 (mV Z (o_len_slice underlying140 Z Z (aG Z (q3 (W_seq (q2 (mV Z (mV Z (o_eql Z Z Z (q3 ?_))))))))))))
 refine W_cond Z ?_ ?_
 ·intro hc3
  try simp only [nrm] at hc3
  refine q2 (mV Z (mV Z ?_))
  refine o_append 0 H underlying140 typeInfo65 ⟨_, Z, Z⟩ Z Z Z Z Z Z Z (news := [ptr k.b]) Z (fun j u hu => by (rw [Nat.zero_add]); exact blk_cell (k := 1) H rfl (by simpa using hu)) (by simp [ptr, Value.oneCell']) oM (by decide) ?_; intro nv w4 H
  refine aG Z (q3 (W_ret (N_K_ret (rt1 results153 Z ?_))))
  have H := H.del (k := 1) rfl
  exact H.retM ⟨_, rfl, by (obtain rfl : i = kids.length := by omega); (rw [List.take_length, List.drop_length]); simp [ptrs]⟩
 intro hc3'
 try simp only [nrm] at hc3'
 obtain ⟨b0, c0, C0, hv0, _⟩ := H.accBlk (k := 0) (i := i) rfl oM; cases hv0
 have hvk : vbk ≠ b0 := fun e => by subst e; have := H.nd; simp [fps, acc_fp, blk] at this
 have hcc := H.accCap (k := 0) rfl
 have hcm := H.accMax (k := 0) rfl
 refine W_skip (N_K (W_seq (q2 (mV Z (mV Z (o_add Z Z Z oO (mV Z (o_cap underlying140 Z Z (o_gtr Z Z Z (q3 ?_))))))))))
 refine W_cond Z ?_ ?_
 ·intro hc6
  try simp only [nrm] at hc6
  refine q2 (mV Z (mV Z ?_))
  have hac7 := H.accCap (k := 0) rfl
  refine o_slice_to (j := i) underlying140 sizeOf65 Z Z Z Z oM (mV Z (mV Z (o_add Z Z Z oO (mV Z (o_sub Z Z Z oO (o_appmk 0 H (kids.length + 1 - i) underlying140 underlying3 typeInfo65 Z Z Z Z Z Z Z Z oM Z oM oM oM oM ?_)))))); intro nb nc w10 H hnb hnc
  refine aG Z (q1 (mV Z (mV Z (o_slice_from1 (i := i) underlying140 sizeOf65 Z Z Z oM oM oM (mV Z ?_)))))
  refine o_copy 0 H ([ptr k.b]) underlying140 typeInfo65 Z Z Z Z Z (by simp [Nat.min_def] <;> (try split) <;> omega) (fun j v hj => by (rw [Addr.add_lit, Nat.zero_add]); exact blk_cell (k := 2) H rfl (by simpa using hj)) (by intro v hv; first | exact ptrs_one v (List.mem_of_mem_drop hv) | (simp at hv; subst hv; rfl)) (by simp; try omega) ?_; intro w11 H
  refine q3 (W_seq (W_drawK [2] 9 H kR Z ?_)); intro w12 H; have hd12 := PLe.refl G0
  refine vM 0 Z Z (vM 1 Z Z (vM 2 Z Z (RD_t 3 Z kR Z (fun _ hK => v_add Z Z oO) (RD_t 4 Z kR Z (fun _ hK => v_slice_from1 (i := (i + 1)) underlying140 sizeOf65 Z Z oM oM oM) (vM 5 Z Z (vM 6 Z Z (RD_t 7 Z kR Z (fun _ hK => v_slice_from1 (i := i) underlying140 sizeOf65 Z Z oM oM oM) ?_)))))))
  refine RD_run [8] kR Z (RDs.cons Z ?_ RDs.nil)
  refine o_copy 0 H ((ptrs kids).drop i) underlying140 typeInfo65 Z Z Z Z Z (by simp [Nat.min_def] <;> (try split) <;> omega) (fun j v hj => by (rw [Addr.add_lit]); (rw [List.getElem?_drop] at hj); exact acc_cell (k := 1) H rfl (by first | exact hj | (rw [List.getElem?_append_left (List.getElem?_eq_some_iff.1 hj).1]; exact hj))) (by intro v hv; first | exact ptrs_one v (List.mem_of_mem_drop hv) | (simp at hv; subst hv; rfl)) (by simp; try omega) ?_; intro w14 H
  refine R_nil (N_DK (Kn.of' H hd12 (SubL.cons 2 Z SubL.nil)) (RD_done kR (N_K (q2 (mV Z (aG Z (q3 (W_ret (N_K_ret (rt1 results153 Z ?_))))))))))
  have H := H.del (k := 1) rfl
  have H := H.del (k := 1) rfl
  have hcx := (insC2 (x := ptr k.b) (z := .pointer none) (i := i) (r := kids.length + 1 - i) (c := ptrs kids) (by simp; omega) (by simp; omega)).trans (ptrs_ins kids k i)
  exact H.retM ⟨_, acc_1 oM, hcx⟩
 intro hc6'
 try simp only [nrm] at hc6'
 refine W_skip (N_K (q2 (mV Z (mV Z (mV Z (o_add Z Z Z oO (o_slice_to (j := kids.length + 1) underlying140 sizeOf65 Z Z Z oM oM ?_)))))))
 obtain ⟨zz, H⟩ := H.accMore (k := 0) rfl oM
 refine aG Z (q3 (W_seq (q2 (mV Z (mV Z (mV Z (mV Z (o_add Z Z Z oO (o_slice_from1 (i := (i + 1)) underlying140 sizeOf65 Z Z Z oM oM oM (o_overlaps 0 1 H (fun args w => run_callFunc_extern func186 kR kR kR (e := Extern.SlicesOverlaps.overlaps #[140, 140] #[4]) kR args w) underlying140 sizeOf65 Z Z Z Z hvk oM (o_not Z Z (q3 (W_true Z (W_seq (W_drawK [1] 9 H kR Z ?_))))))))))))))); intro w17 H; have hd17 := PLe.refl G0
 refine vM 0 Z Z (vM 1 Z Z (vM 2 Z Z (RD_t 3 Z kR Z (fun _ hK => v_add Z Z oO) (RD_t 4 Z kR Z (fun _ hK => v_slice_from1 (i := (i + 1)) underlying140 sizeOf65 Z Z oM oM oM) (vM 5 Z Z (vM 6 Z Z (RD_t 7 Z kR Z (fun _ hK => v_slice_from1 (i := i) underlying140 sizeOf65 Z Z oM oM oM) ?_)))))))
 refine RD_run [8] kR Z (RDs.cons Z ?_ RDs.nil)
 refine o_copy 0 H ((ptrs kids).drop i) underlying140 typeInfo65 Z Z Z Z Z (by simp [Nat.min_def] <;> (try split) <;> omega) (fun j v hj => by (rw [Addr.add_lit]); (rw [List.getElem?_drop] at hj); exact acc_cell (k := 0) H rfl (by first | exact hj | (rw [List.getElem?_append_left (List.getElem?_eq_some_iff.1 hj).1]; exact hj))) (by intro v hv; first | exact ptrs_one v (List.mem_of_mem_drop hv) | (simp at hv; subst hv; rfl)) (by simp; try omega) ?_; intro w19 H
 refine R_nil (N_DK (Kn.of' H hd17 (SubL.cons 1 Z SubL.nil)) (RD_done kR (N_K (q2 (mV Z (mV Z (o_slice_from1 (i := i) underlying140 sizeOf65 Z Z Z oM oM oM (mV Z ?_))))))))
 refine o_copy 0 H ([ptr k.b]) underlying140 typeInfo65 Z Z Z Z Z (by simp [Nat.min_def] <;> (try split) <;> omega) (fun j v hj => by (rw [Addr.add_lit, Nat.zero_add]); exact blk_cell (k := 1) H rfl (by simpa using hj)) (by intro v hv; first | exact ptrs_one v (List.mem_of_mem_drop hv) | (simp at hv; subst hv; rfl)) (by simp; try omega) ?_; intro w20 H
 refine q1 (mV Z (aG Z (q3 (W_ret (N_K_ret (rt1 results153 Z ?_))))))
 have H := H.del (k := 1) rfl
 exact H.retM ⟨_, rfl, (insC (by simp; omega)).trans (ptrs_ins kids k i)⟩
end Go.Proofs.Tst

namespace Go.Proofs.Tst
open Go Fw Tryz
theorem i_insert_c (w0 : World) (G0 : PH) (hG : PSub G0 w0) (Ft : Fr) (t : Nd) (hNt : NdO 167 65 G0 t Ft) (cx : List Value) (x : BItem) (hx : itemE G0 x cx) (hLent : Lent w0 G0 [frag Ft]) (hwt : t.wf) (hct : t.cnt ≤ 1000) :
  Calls Tryz.prog 121 #[.pointer (some ⟨t.b, 0, none⟩), .agg cx.toArray] w0 (RetM w0 G0 (fps [frag Ft]) (fun G' v Bs => ∃ (nb : Nat) (F' : Fr) (t' : Nd), v = .bool (t.ins x nb).isSome ∧ Bs = [frag F'] ∧ NdO 167 65 G' t' F' ∧ t'.b = t.b ∧ (t.ins x nb).getD t = t')) := by
 obtain ⟨a1, m1, c1, rfl, hi1, hr1⟩ := hx; have hy_hi1 : _ ≤ 16777216 := hi1; have hn_hr1 := hr1.len; have hx_hr1 : _ ≤ 1099511627776 := hr1.lim
 have H : Hp w0 G0 (fps [frag Ft]) w0 G0 [frag Ft] := hLent.hp
 refine calls_of_W (l := [.pointer (some ⟨t.b, 0, none⟩), _]) func121 Z ntmps121 Z (q2 (o_box H Z Z Z ?_)); intro b2 w2 hb2 H
 refine aG Z (q1 (mV Z (o_fieldAddr 0 runUnderlying40 Z sizeOf9 Z Z Z (o_load_B 0 H isAgg9 Z Z Z Z (o_call call151 Z Z (i_dirOf_c _ _ (H.lendSubL [1]) _ ((H.lendN (k := 1) (ks := [1]) Z Z hNt).at (show Nd.at_ t [] = some t from Z)) _ hi1 hwt) ?_)))))
 rintro _ w3 ⟨_, rfl, ew3, ⟨hdf3, rfl⟩ | ⟨d3, nm3, hdf3, rfl⟩⟩
 ·skip
  have H := H.step ew3; refine ⟨_, rfl, ?_⟩
  refine mV Z (o_extract Z Z Z (o_extract Z Z Z (aG Z (aG Z (q3 (W_seq (q2 (mV Z (o_eqnil_ptr underlying65 Z Z Z (q3 (W_true Z (q2 (aG Z (q3 (W_ret ?_)))))))))))))))
  refine N_K_ret (rt1 results121 Z ?_)
  have H := H.del (k := 0) rfl
  exact H.retM ⟨0, _, _, by (rw [(Nd.ins_no1 hdf3)]; rfl), rfl, hNt, rfl, by (rw [(Nd.ins_no1 hdf3)]; rfl)⟩
 skip
 have H := H.step ew3; refine ⟨_, rfl, ?_⟩
 have hnml3 := Nd.dir_len hdf3
 refine mV Z (o_extract Z Z Z (o_extract Z Z Z (aG Z (aG Z (q3 (W_seq (q2 (mV Z (o_eqnil_ptr underlying65 Z Z Z (q3 (W_false Z (W_skip (N_K (q2 (mV Z ?_)))))))))))))))
 refine mV Z (o_call call152 Z Z (i_place_c _ _ (H.lendSubL [1]) _ ((H.lendN (k := 1) (ks := [1]) Z Z hNt).at (Nd.dirOf_some hdf3).2.2.1) _ hnml3 (Nd.dir_wf hwt hdf3)) ?_)
 rintro _ w4 ⟨rfl, ew4⟩; have H := H.step ew4; refine ⟨_, rfl, ?_⟩
 refine mV Z (o_extract Z Z Z (o_extract Z Z Z (aG Z (aG Z (q3 (W_seq (q2 (mV Z (q3 ?_)))))))))
 refine W_cond Z ?_ ?_
 ·intro hc5
  try simp only [nrm] at hc5
  refine q2 (aG Z (q3 (W_ret (N_K_ret (rt1 results121 Z ?_)))))
  have H := H.del (k := 0) rfl
  exact H.retM ⟨0, _, _, by (rw [(Nd.ins_no2 hdf3 (by simpa using hc5))]; rfl), rfl, hNt, rfl, by (rw [(Nd.ins_no2 hdf3 (by simpa using hc5))]; rfl)⟩
 intro hc5'
 try simp only [nrm] at hc5'
 have H := H.toFront (k := 1) rfl
 obtain ⟨oa, om, oc, okv, oFs, oR, H, ohri, ohNs, ohnl, ohkl, hcov, hclose⟩ := Hp.openNode H hNt (Nd.dirOf_some hdf3).2.2.1
 obtain ⟨oak, ock, rfl⟩ := H.accShape (k := 1) rfl; have hdo := PLe.refl G0; have hn_ohri := ohri.len
 refine W_skip (N_K (W_seq (W_drawK [3] 19 H kR Z ?_))); intro w6 H; have hd6 := PLe.refl G0
 refine vM 0 Z Z (vM 1 Z Z (RD_t 2 Z kR Z (fun _ hK => v_nilCheck Z) (RD_t 3 Z kR Z (fun _ hK => v_fieldAddr 3 runUnderlying167 Z sizeOf140 Z Z) (vM 5 Z Z (vM 6 Z Z (RD_t 7 Z kR Z (fun _ hK => v_fieldAddr 1 runUnderlying40 Z sizeOf4 Z Z) (RD_t 8 Z kR Z (fun _ hK => v_load_B 0 hK isAgg4 Z Z Z) (RD_t 9 Z kR Z (fun _ hK => v_fieldAddr 2 runUnderlying40 Z sizeOf38 Z Z) (RD_t 10 Z kR Z (fun _ hK => v_load_B 0 hK isAgg38 Z Z Z) ?_)))))))))
 refine RD_run [4, 11] kR Z (RDs.cons Z ?_ (RDs.cons Z ?_ RDs.nil))
 ·skip
  refine o_load_B 0 H isAgg140 Z Z Z Z (R_nil (N_DK (Kn.of' H hd6 (SubL.cons 3 Z SubL.nil)) ?_))
  refine RD_run [11] kR Z (RDs.cons Z ?_ RDs.nil)
  refine o_call call68 Z Z (l_Clone_c _ _ H.sub _ _ hr1 ) ?_
  rintro _ w7 ⟨G7, v7, _, g7, rfl, ⟨cs7, rfl, hchk7⟩, hp7, hq7, hs7⟩
  have H := H.growO g7 hp7 hq7 hs7; obtain ⟨av7, cv7, rfl⟩ := H.accShape (k := 0) rfl
  have ohri := ohri.up g7.le
  have ohNs := ohNs.up g7.le
  have hdo := hdo.trans g7.le
  have hd6 := hd6.trans g7.le
  refine ⟨_, Z, ?_⟩
  obtain ⟨G8, H, hsg8, hsr8⟩ := H.shutL (k := 0) rfl (H.apart (k := 0) (ks := [1, 2, 3]) rfl rfl (by intro b hb; rcases hcov b hb with h | h | h; (· exact fpsAt_mem (k := 1) rfl rfl b (by simp [blk, h])); (· exact fpsAt_mem (k := 2) rfl rfl b h); (· exact fpsAt_mem (k := 3) rfl rfl b h))) hchk7 aN aN
  have ohri := ohri.up hsg8
  have ohNs := ohNs.up hsg8
  have hdo := hdo.trans hsg8
  have hd6 := hd6.trans hsg8
  refine R_nil (N_DK (Kn.of' H hd6 (SubL.cons 3 Z SubL.nil)) (RD_t 12 Z kR Z (fun _ hK => v_build bf167 Z Z) ?_))
  refine RD_run [13] kR Z (RDs.cons Z ?_ RDs.nil)
  refine o_box H Z Z Z ?_; intro b9 w9 hb9 H
  refine R_nil (N_DK (Kn.of' H hd6 (SubL.cons 4 Z SubL.nil)) ?_)
  refine RD_run [14] kR Z (RDs.cons Z ?_ RDs.nil)
  refine o_buildSlice H underlying140 sizeOf65 (fun w => ⟨_, zeroValue65 w, Z⟩) Z Z Z Z Z Z Z ?_; intro b10 w10 hb10 H
  refine R_nil (N_DK (Kn.of' H hd6 (SubL.cons 5 Z SubL.nil)) ?_)
  refine RD_run [15] kR Z (RDs.cons Z ?_ RDs.nil)
  have H := H.toFront (k := 3) rfl
  refine o_call call153 Z Z (l_Insert_c _ _ H.sub _ _ _ (Sp.pl_le d3.kids nm3) oM _ (Nd.mk b9 nm3 x.dir x.ids []) H.lent2 ) ?_
  rintro _ w11 ⟨G11, _, _, rfl, H11', ⟨c11, rfl, rfl⟩⟩
  have ohri := ohri.up H11'.le
  have ohNs := ohNs.up H11'.le
  have hsr8 := hsr8.up H11'.le
  have hdo := hdo.trans H11'.le
  have hd6 := hd6.trans H11'.le
  have H := H.borrow2 H11'
  obtain ⟨avAk, cvAk, rfl⟩ := H.accShape (k := 0) rfl
  refine ⟨_, Z, ?_⟩
  refine R_nil (N_DK (Kn.of' H hd6 (SubL.cons 4 Z SubL.nil)) (RD_t 16 Z kR Z (fun _ hK => v_nilCheck Z) (RD_t 17 Z kR Z (fun _ hK => v_fieldAddr 3 runUnderlying167 Z sizeOf140 Z Z) ?_)))
  refine RD_run [18] kR Z (RDs.cons Z ?_ RDs.nil)
  refine o_store_B 2 H sizeOf140 Z Z Z Z Z Z Z Z ?_; intro w12 H
  refine R_nil (N_DK (Kn.of' H hd6 (SubL.cons 4 Z SubL.nil)) (RD_done kR (N_K (q2 (aG Z (q3 (W_ret (rt1 results121 Z ?_))))))))
  have H := H.del (k := 4) rfl
  have H := H.toFront (k := 2) rfl
  have H := H.toFront (k := 3) rfl
  have H := H.toFront (k := 3) rfl
  have H := H.inF
  have H := H.toFront (k := 2) rfl
  have H := H.toFront (k := 2) rfl
  obtain ⟨Fs2, hp2, hN2⟩ := NdsO.ins (k := Nd.mk b9 nm3 x.dir x.ids []) (Sp.pl d3.kids nm3) ohNs (NdO.new hnml3 hsr8)
  have hcd := Nd.at_cnt (Nd.dirOf_some hdf3).2.2.1; have hcl := Nd.kids_le d3; have hpl := Sp.pl_le d3.kids nm3
  have hkl : (d3.kids.take (Sp.pl d3.kids nm3) ++ Nd.mk b9 nm3 x.dir x.ids [] :: d3.kids.drop (Sp.pl d3.kids nm3)).length = d3.kids.length + 1 := by (simp; omega)
  obtain ⟨F2, H, hN3, hb3⟩ := hclose (kids' := (d3.kids.take (Sp.pl d3.kids nm3) ++ Nd.mk b9 nm3 x.dir x.ids [] :: d3.kids.drop (Sp.pl d3.kids nm3))) (Fs' := Fs2) (by (rw [hkl]); exact H) (by (refine List.Perm.trans ?_ (List.Perm.append_right oR hp2.symm)); simp) hdo ohri hN2 oM
  have hins := Nd.ins_yes (nb := b9) hdf3 (by simpa using hc5')
  exact H.retM ⟨b9, _, _, by (rw [hins]; rfl), rfl, hN3, hb3, by (rw [hins]; rfl)⟩
 skip
 refine o_call call68 Z Z (l_Clone_c _ _ H.sub _ _ hr1 ) ?_
 rintro _ w13 ⟨G13, v13, _, g13, rfl, ⟨cs13, rfl, hchk13⟩, hp13, hq13, hs13⟩
 have H := H.growO g13 hp13 hq13 hs13; obtain ⟨av13, cv13, rfl⟩ := H.accShape (k := 0) rfl
 have ohri := ohri.up g13.le
 have ohNs := ohNs.up g13.le
 have hdo := hdo.trans g13.le
 have hd6 := hd6.trans g13.le
 refine ⟨_, Z, ?_⟩
 obtain ⟨G14, H, hsg14, hsr14⟩ := H.shutL (k := 0) rfl (H.apart (k := 0) (ks := [1, 2, 3]) rfl rfl (by intro b hb; rcases hcov b hb with h | h | h; (· exact fpsAt_mem (k := 1) rfl rfl b (by simp [blk, h])); (· exact fpsAt_mem (k := 2) rfl rfl b h); (· exact fpsAt_mem (k := 3) rfl rfl b h))) hchk13 aN aN
 have ohri := ohri.up hsg14
 have ohNs := ohNs.up hsg14
 have hdo := hdo.trans hsg14
 have hd6 := hd6.trans hsg14
 refine R_nil (N_DK (Kn.of' H hd6 (SubL.cons 3 Z SubL.nil)) (RD_t 12 Z kR Z (fun _ hK => v_build bf167 Z Z) ?_))
 refine RD_run [4, 13] kR Z (RDs.cons Z ?_ (RDs.cons Z ?_ RDs.nil))
 ·skip
  refine o_load_B 0 H isAgg140 Z Z Z Z (R_nil (N_DK (Kn.of' H hd6 (SubL.cons 3 Z SubL.nil)) ?_))
  refine RD_run [13] kR Z (RDs.cons Z ?_ RDs.nil)
  refine o_box H Z Z Z ?_; intro b15 w15 hb15 H
  refine R_nil (N_DK (Kn.of' H hd6 (SubL.cons 4 Z SubL.nil)) ?_)
  refine RD_run [14] kR Z (RDs.cons Z ?_ RDs.nil)
  refine o_buildSlice H underlying140 sizeOf65 (fun w => ⟨_, zeroValue65 w, Z⟩) Z Z Z Z Z Z Z ?_; intro b16 w16 hb16 H
  refine R_nil (N_DK (Kn.of' H hd6 (SubL.cons 5 Z SubL.nil)) ?_)
  refine RD_run [15] kR Z (RDs.cons Z ?_ RDs.nil)
  have H := H.toFront (k := 3) rfl
  refine o_call call153 Z Z (l_Insert_c _ _ H.sub _ _ _ (Sp.pl_le d3.kids nm3) oM _ (Nd.mk b15 nm3 x.dir x.ids []) H.lent2 ) ?_
  rintro _ w17 ⟨G17, _, _, rfl, H17', ⟨c17, rfl, rfl⟩⟩
  have ohri := ohri.up H17'.le
  have ohNs := ohNs.up H17'.le
  have hsr14 := hsr14.up H17'.le
  have hdo := hdo.trans H17'.le
  have hd6 := hd6.trans H17'.le
  have H := H.borrow2 H17'
  obtain ⟨avAk, cvAk, rfl⟩ := H.accShape (k := 0) rfl
  refine ⟨_, Z, ?_⟩
  refine R_nil (N_DK (Kn.of' H hd6 (SubL.cons 4 Z SubL.nil)) (RD_t 16 Z kR Z (fun _ hK => v_nilCheck Z) (RD_t 17 Z kR Z (fun _ hK => v_fieldAddr 3 runUnderlying167 Z sizeOf140 Z Z) ?_)))
  refine RD_run [18] kR Z (RDs.cons Z ?_ RDs.nil)
  refine o_store_B 2 H sizeOf140 Z Z Z Z Z Z Z Z ?_; intro w18 H
  refine R_nil (N_DK (Kn.of' H hd6 (SubL.cons 4 Z SubL.nil)) (RD_done kR (N_K (q2 (aG Z (q3 (W_ret (rt1 results121 Z ?_))))))))
  have H := H.del (k := 4) rfl
  have H := H.toFront (k := 2) rfl
  have H := H.toFront (k := 3) rfl
  have H := H.toFront (k := 3) rfl
  have H := H.inF
  have H := H.toFront (k := 2) rfl
  have H := H.toFront (k := 2) rfl
  obtain ⟨Fs2, hp2, hN2⟩ := NdsO.ins (k := Nd.mk b15 nm3 x.dir x.ids []) (Sp.pl d3.kids nm3) ohNs (NdO.new hnml3 hsr14)
  have hcd := Nd.at_cnt (Nd.dirOf_some hdf3).2.2.1; have hcl := Nd.kids_le d3; have hpl := Sp.pl_le d3.kids nm3
  have hkl : (d3.kids.take (Sp.pl d3.kids nm3) ++ Nd.mk b15 nm3 x.dir x.ids [] :: d3.kids.drop (Sp.pl d3.kids nm3)).length = d3.kids.length + 1 := by (simp; omega)
  obtain ⟨F2, H, hN3, hb3⟩ := hclose (kids' := (d3.kids.take (Sp.pl d3.kids nm3) ++ Nd.mk b15 nm3 x.dir x.ids [] :: d3.kids.drop (Sp.pl d3.kids nm3))) (Fs' := Fs2) (by (rw [hkl]); exact H) (by (refine List.Perm.trans ?_ (List.Perm.append_right oR hp2.symm)); simp) hdo ohri hN2 oM
  have hins := Nd.ins_yes (nb := b15) hdf3 (by simpa using hc5')
  exact H.retM ⟨b15, _, _, by (rw [hins]; rfl), rfl, hN3, hb3, by (rw [hins]; rfl)⟩
 skip
 refine o_box H Z Z Z ?_; intro b19 w19 hb19 H
 refine R_nil (N_DK (Kn.of' H hd6 (SubL.cons 4 Z SubL.nil)) ?_)
 refine RD_run [4, 14] kR Z (RDs.cons Z ?_ (RDs.cons Z ?_ RDs.nil))
 ·skip
  refine o_load_B 1 H isAgg140 Z Z Z Z (R_nil (N_DK (Kn.of' H hd6 (SubL.cons 4 Z SubL.nil)) ?_))
  refine RD_run [14] kR Z (RDs.cons Z ?_ RDs.nil)
  refine o_buildSlice H underlying140 sizeOf65 (fun w => ⟨_, zeroValue65 w, Z⟩) Z Z Z Z Z Z Z ?_; intro b20 w20 hb20 H
  refine R_nil (N_DK (Kn.of' H hd6 (SubL.cons 5 Z SubL.nil)) ?_)
  refine RD_run [15] kR Z (RDs.cons Z ?_ RDs.nil)
  have H := H.toFront (k := 3) rfl
  refine o_call call153 Z Z (l_Insert_c _ _ H.sub _ _ _ (Sp.pl_le d3.kids nm3) oM _ (Nd.mk b19 nm3 x.dir x.ids []) H.lent2 ) ?_
  rintro _ w21 ⟨G21, _, _, rfl, H21', ⟨c21, rfl, rfl⟩⟩
  have ohri := ohri.up H21'.le
  have ohNs := ohNs.up H21'.le
  have hsr14 := hsr14.up H21'.le
  have hdo := hdo.trans H21'.le
  have hd6 := hd6.trans H21'.le
  have H := H.borrow2 H21'
  obtain ⟨avAk, cvAk, rfl⟩ := H.accShape (k := 0) rfl
  refine ⟨_, Z, ?_⟩
  refine R_nil (N_DK (Kn.of' H hd6 (SubL.cons 4 Z SubL.nil)) (RD_t 16 Z kR Z (fun _ hK => v_nilCheck Z) (RD_t 17 Z kR Z (fun _ hK => v_fieldAddr 3 runUnderlying167 Z sizeOf140 Z Z) ?_)))
  refine RD_run [18] kR Z (RDs.cons Z ?_ RDs.nil)
  refine o_store_B 2 H sizeOf140 Z Z Z Z Z Z Z Z ?_; intro w22 H
  refine R_nil (N_DK (Kn.of' H hd6 (SubL.cons 4 Z SubL.nil)) (RD_done kR (N_K (q2 (aG Z (q3 (W_ret (rt1 results121 Z ?_))))))))
  have H := H.del (k := 4) rfl
  have H := H.toFront (k := 2) rfl
  have H := H.toFront (k := 3) rfl
  have H := H.toFront (k := 3) rfl
  have H := H.inF
  have H := H.toFront (k := 2) rfl
  have H := H.toFront (k := 2) rfl
  obtain ⟨Fs2, hp2, hN2⟩ := NdsO.ins (k := Nd.mk b19 nm3 x.dir x.ids []) (Sp.pl d3.kids nm3) ohNs (NdO.new hnml3 hsr14)
  have hcd := Nd.at_cnt (Nd.dirOf_some hdf3).2.2.1; have hcl := Nd.kids_le d3; have hpl := Sp.pl_le d3.kids nm3
  have hkl : (d3.kids.take (Sp.pl d3.kids nm3) ++ Nd.mk b19 nm3 x.dir x.ids [] :: d3.kids.drop (Sp.pl d3.kids nm3)).length = d3.kids.length + 1 := by (simp; omega)
  obtain ⟨F2, H, hN3, hb3⟩ := hclose (kids' := (d3.kids.take (Sp.pl d3.kids nm3) ++ Nd.mk b19 nm3 x.dir x.ids [] :: d3.kids.drop (Sp.pl d3.kids nm3))) (Fs' := Fs2) (by (rw [hkl]); exact H) (by (refine List.Perm.trans ?_ (List.Perm.append_right oR hp2.symm)); simp) hdo ohri hN2 oM
  have hins := Nd.ins_yes (nb := b19) hdf3 (by simpa using hc5')
  exact H.retM ⟨b19, _, _, by (rw [hins]; rfl), rfl, hN3, hb3, by (rw [hins]; rfl)⟩
 skip
 refine o_buildSlice H underlying140 sizeOf65 (fun w => ⟨_, zeroValue65 w, Z⟩) Z Z Z Z Z Z Z ?_; intro b23 w23 hb23 H
 refine R_nil (N_DK (Kn.of' H hd6 (SubL.cons 5 Z SubL.nil)) ?_)
 refine RD_run [4] kR Z (RDs.cons Z ?_ RDs.nil)
 refine o_load_B 2 H isAgg140 Z Z Z Z (R_nil (N_DK (Kn.of' H hd6 (SubL.cons 5 Z SubL.nil)) ?_))
 refine RD_run [15] kR Z (RDs.cons Z ?_ RDs.nil)
 have H := H.toFront (k := 3) rfl
 refine o_call call153 Z Z (l_Insert_c _ _ H.sub _ _ _ (Sp.pl_le d3.kids nm3) oM _ (Nd.mk b19 nm3 x.dir x.ids []) H.lent2 ) ?_
 rintro _ w24 ⟨G24, _, _, rfl, H24', ⟨c24, rfl, rfl⟩⟩
 have ohri := ohri.up H24'.le
 have ohNs := ohNs.up H24'.le
 have hsr14 := hsr14.up H24'.le
 have hdo := hdo.trans H24'.le
 have hd6 := hd6.trans H24'.le
 have H := H.borrow2 H24'
 obtain ⟨avAk, cvAk, rfl⟩ := H.accShape (k := 0) rfl
 refine ⟨_, Z, ?_⟩
 refine R_nil (N_DK (Kn.of' H hd6 (SubL.cons 4 Z SubL.nil)) (RD_t 16 Z kR Z (fun _ hK => v_nilCheck Z) (RD_t 17 Z kR Z (fun _ hK => v_fieldAddr 3 runUnderlying167 Z sizeOf140 Z Z) ?_)))
 refine RD_run [18] kR Z (RDs.cons Z ?_ RDs.nil)
 refine o_store_B 2 H sizeOf140 Z Z Z Z Z Z Z Z ?_; intro w25 H
 refine R_nil (N_DK (Kn.of' H hd6 (SubL.cons 4 Z SubL.nil)) (RD_done kR (N_K (q2 (aG Z (q3 (W_ret (rt1 results121 Z ?_))))))))
 have H := H.del (k := 4) rfl
 have H := H.toFront (k := 2) rfl
 have H := H.toFront (k := 3) rfl
 have H := H.toFront (k := 3) rfl
 have H := H.inF
 have H := H.toFront (k := 2) rfl
 have H := H.toFront (k := 2) rfl
 obtain ⟨Fs2, hp2, hN2⟩ := NdsO.ins (k := Nd.mk b19 nm3 x.dir x.ids []) (Sp.pl d3.kids nm3) ohNs (NdO.new hnml3 hsr14)
 have hcd := Nd.at_cnt (Nd.dirOf_some hdf3).2.2.1; have hcl := Nd.kids_le d3; have hpl := Sp.pl_le d3.kids nm3
 have hkl : (d3.kids.take (Sp.pl d3.kids nm3) ++ Nd.mk b19 nm3 x.dir x.ids [] :: d3.kids.drop (Sp.pl d3.kids nm3)).length = d3.kids.length + 1 := by (simp; omega)
 obtain ⟨F2, H, hN3, hb3⟩ := hclose (kids' := (d3.kids.take (Sp.pl d3.kids nm3) ++ Nd.mk b19 nm3 x.dir x.ids [] :: d3.kids.drop (Sp.pl d3.kids nm3))) (Fs' := Fs2) (by (rw [hkl]); exact H) (by (refine List.Perm.trans ?_ (List.Perm.append_right oR hp2.symm)); simp) hdo ohri hN2 oM
 have hins := Nd.ins_yes (nb := b19) hdf3 (by simpa using hc5')
 exact H.retM ⟨b19, _, _, by (rw [hins]; rfl), rfl, hN3, hb3, by (rw [hins]; rfl)⟩
end Go.Proofs.Tst

namespace Go.Proofs.Tst
open Go Fw Tryz
theorem i_openTree_c (w0 : World) (G0 : PH) (hG : PSub G0 w0) (vlist : Value) (list : List (BItem)) (hlist : RdItems G0 vlist list) (hLent : Lent w0 G0 [])  :
  Calls Tryz.prog 93 #[vlist] w0 (RetM w0 G0 [] (fun G' v Bs => (v = .tuple #[.pointer none, .bool false] ∧ Bs = [] ∧ Sp.TreeValid list = false) ∨ (∃ (T : Nd) (F : Fr), v = .tuple #[.pointer (some ⟨T.b, 0, none⟩), .bool true] ∧ Bs = [frag F] ∧ NdO 167 65 G' T F ∧ Nd.TOK T list ∧ Sp.TreeValid list = true))) := by
 obtain ⟨alist, klist, rfl⟩ := hlist.shape
 have hlimlist : list.length ≤ 1099511627776 := hlist.lim
 have H : Hp w0 G0 [] w0 G0 [] := hLent.hp
 refine calls_of_W (l := [.slice alist list.length klist]) func93 Z ntmps93 Z (q2 (aG Z (aG Z (q3 (W_seq (q2 (mV Z (o_len_slice underlying24 Z Z (o_gtr Z Z Z (q3 ?_))))))))))
 refine W_cond Z ?_ ?_
 ·intro hc1
  try simp only [nrm] at hc1
  refine q2 (aG Z (aG Z (q3 (W_ret (N_K_ret (rt2 results93 Z Z ?_))))))
  exact H.retM (.inl ⟨Z, Z, Nd.tv_long oM⟩)
 intro hc1'
 try simp only [nrm] at hc1'
 refine W_skip (N_K (q2 (o_build bf167 Z Z Z (o_box H Z Z Z ?_)))); intro b2 w2 hb2 H
 refine aG Z (q1 (aG Z (q3 (W_seq (q2 (mV Z (o_len_slice underlying24 Z Z (mV Z (q3 (W_block ?_))))))))))
 have H := H.addF
 have H := H.toFront (k := 1) rfl
 have H := H.inF
 have hN0 : NdO 167 65 G0 (Nd.mk b2 [] true [] []) _ := NdO.new (by simp) (RdS.nil _ _ _)
 refine W_lp (hf := (Sub.cons (t := 13) Z (Sub.cons (t := 14) Z Sub.nil))) (J := fun M w m => ∃ (k : Nat) (la : Bs) (T : Nd) (FT : Fr) (G : PH), M = [(15, .int .i64 (k : Int)), (5, str la), (4, .pointer (some ⟨T.b, 0, none⟩))] ∧ PLe G0 G ∧ Hp w0 G0 [] w G [frag FT] ∧ (k ≤ list.length ∧ la = Nd.lastPath list k ∧ la.length ≤ 16777216 ∧ NdO 167 65 G T FT ∧ Nd.TOK T (list.take k)) ∧ m = (list.length - k)) (h0 := ⟨0, [], (Nd.mk b2 [] true [] []), _, _, Z, PLe.refl _, H, ?inv, Z⟩) (round := ?round)
 case inv => exact ⟨by omega, rfl, by simp, hN0, Nd.tok_root _⟩
 case round =>
  rintro _ w3 _ ⟨k, la, T, FT, G3, rfl, hle3, H, hinv3, rfl⟩
  have hlist := hlist.up hle3
  obtain ⟨hk, hla, hlp, hNT, hTok⟩ := hinv3
  refine q2 (o_lss Z Z Z (q3 (W_seq ?_)))
  refine W_cond Z ?_ ?_
  ·intro hc4
   try simp only [nrm] at hc4
   refine W_skip (N_K (W_seq (W_block (q2 (o_index_P k hlist underlying24 sizeOf40 Z Z Z Z aN ?_))))); intro b5 o5 z5 q5 hz5 hE5 hrow5
   obtain ⟨a5, m5, c5, rfl, hi5, hr5⟩ := hE5; have hy_hi5 : _ ≤ 16777216 := hi5; have hn_hr5 := hr5.len; have hx_hr5 : _ ≤ 1099511627776 := hr5.lim
   refine o_loadagg_P H isAgg40 sizeOf40 Z Z hrow5 Z (o_alloc H zeroValue40 Z Z ?_); intro b6 w6 hb6 H
   refine o_store_B 0 H sizeOf40 Z Z Z Z Z Z Z Z ?_; intro w7 H
   refine q3 (W_seq (q2 (o_fieldAddr 0 runUnderlying40 Z sizeOf9 Z Z Z (o_load_B 0 H isAgg9 Z Z Z Z (mV Z (o_sleq Z Z Z (mV Z ?_)))))))
   refine R_case (t := 23) Z ?_ ?_
   ·intro hc8
    try simp only [nrm] at hc8
    refine rP Z (rP Z (rP Z (o_pick_t Z Z Z (mV Z (rP Z (rP Z (rP Z (rP Z (o_pick_t Z Z Z (q3 (W_true Z (q2 (aG Z (aG Z (q3 ?_)))))))))))))))
    refine W_ret (N_K_ret (N_B_ret (N_K_ret (N_LP_ret (N_B_ret (N_K_ret (rt2 results93 Z Z ?_)))))))
    have H := H.del (k := 0) rfl
    have H := H.del (k := 0) rfl
    exact H.retM (.inl ⟨rfl, rfl, Nd.tv_false 0 hTok hz5 (.inl (by (rw [← hla]); exact Nd.leq_no (by first | simpa using hc8 | (simp at hc8; exact hc8.symm))))⟩)
   intro hc8'
   try simp only [nrm] at hc8'
   refine gR Z (o_loadagg_B 0 H isAgg40 sizeOf40 Z Z Z Z Z (gR Z (o_call call120 Z Z (i_itemValid_c _ _ H.sub _ _ ⟨_, _, _, Z, hi5, hr5⟩ ) ?_)))
   rintro _ w9 ⟨rfl, ew9⟩; have H := H.step ew9; refine ⟨_, rfl, ?_⟩
   refine gR Z (o_not Z Z (o_pick_f Z Z Z (mV Z ?_)))
   refine R_case (t := 28) Z ?_ ?_
   ·intro hc10
    try simp only [nrm] at hc10
    refine rP Z (rP Z (rP Z (rP Z (o_pick_t Z Z Z (q3 (W_true Z (q2 (aG Z (aG Z (q3 (W_ret (N_K_ret (N_B_ret (N_K_ret (N_LP_ret ?_)))))))))))))))
    refine N_B_ret (N_K_ret (rt2 results93 Z Z ?_))
    have H := H.del (k := 0) rfl
    have H := H.del (k := 0) rfl
    exact H.retM (.inl ⟨rfl, rfl, Nd.tv_false 0 hTok hz5 (.inr (.inl (by simpa using hc10)))⟩)
   intro hc10'
   try simp only [nrm] at hc10'
   refine gR Z (mV Z (gR Z (o_loadagg_B 0 H isAgg40 sizeOf40 Z Z Z Z Z (gR Z ?_))))
   have H := H.toFront (k := 1) rfl
   refine o_call call121 Z Z (i_insert_c _ _ H.sub _ _ hNT _ _ ⟨_, _, _, Z, hi5, hr5⟩ H.lent1 hTok.wf (by have := hTok.cnt; simp at this; omega)) ?_
   rintro _ w11 ⟨G11, _, _, rfl, H11', ⟨nb11, F11, t11, rfl, rfl, hN11, hb11, ht11⟩⟩
   have hle3 := hle3.trans H11'.le
   have H := H.borrow1 H11'
   try rw [← hb11]
   refine ⟨_, Z, ?_⟩
   refine gR Z (o_not Z Z (o_pick_f Z Z Z (q3 ?_)))
   refine W_cond Z ?_ ?_
   ·intro hc12
    try simp only [nrm] at hc12
    refine q2 (aG Z (aG Z (q3 (W_ret (N_K_ret (N_B_ret (N_K_ret (N_LP_ret (N_B_ret (N_K_ret (rt2 results93 Z Z ?_)))))))))))
    have H := H.del (k := 0) rfl
    have H := H.del (k := 0) rfl
    exact H.retM (.inl ⟨rfl, rfl, Nd.tv_false nb11 hTok hz5 (.inr (.inr (by simpa using hc12)))⟩)
   intro hc12'
   try simp only [nrm] at hc12'
   refine W_skip (N_K (W_region (o_fieldAddr 0 runUnderlying40 Z sizeOf9 Z Z Z (o_load_B 1 H isAgg9 Z Z Z Z (aG Z (R_nil (N_B (N_K (W_region (o_add Z Z Z oO (mV Z (R_nil ?_))))))))))))
   have H := H.del (k := 1) rfl
   refine N_lp (hJ := ⟨k + 1, z5.path, t11, F11, _, Z, hle3, H, ?inv, Z⟩) (hm := ?hm)
   case hm => omega
   case inv => exact ⟨by omega, (Nd.lastPath_succ hz5).symm, by assumption, hN11, Nd.open_step hTok hz5 oM (by (rw [← hla]); exact Nd.leq_yes hc8'.1 hc8'.2) (by simpa using hc10') (Nd.getD_some ht11 (by simpa using hc12'))⟩
  intro hc4'
  try simp only [nrm] at hc4'
  refine W_exit (N_K_exit (N_LP_exit (N_B_same (N_K (q2 (mV Z (aG Z (aG Z (q3 (W_ret (rt2 results93 Z Z ?_)))))))))))
  have hTl : Nd.TOK T list := by (have h9 := hTok; rw [List.take_of_length_le oM] at h9; exact h9)
  exact H.retM (.inr ⟨T, _, Z, Z, hNT, hTl, hTl.valid⟩)
end Go.Proofs.Tst

namespace Go.Proofs.Tst
open Go Fw Tryz
theorem i_keep_c (w0 : World) (G0 : PH) (hG : PSub G0 w0) (mbs : Nat) (ess : Array MapEntry) (cks : Nat) (xss : List (Int × Value)) (Ls : List BHeld) (hms : MapIs (Value.int .i64) ess cks xss) (hSs : StR G0 xss Ls) (hVs : Sp.VH Ls) (id : Int) (hLent : Lent w0 G0 [blk mbs (.map ess cks)])  :
  Calls Tryz.prog 146 #[.map (some mbs), .int .i64 id] w0 (RetM w0 G0 [mbs] (fun G' v Bs => ∃ (es' : Array MapEntry) (ck' : Nat) (xs' : List (Int × Value)) (L' : List BHeld), v = .bool (Sp.StoreKeep Ls id).isSome ∧ Bs = [blk mbs (.map es' ck')] ∧ MapIs (Value.int .i64) es' ck' xs' ∧ StR G' xs' L' ∧ Sp.VH L' ∧ L' = (Sp.StoreKeep Ls id).getD Ls)) := by
 have H : Hp w0 G0 [mbs] w0 G0 [blk mbs (.map ess cks)] := hLent.hp
 refine calls_of_W (l := [.map (some mbs), .int .i64 id]) func146 Z ntmps146 Z (q2 (aG Z (q1 (mV Z (mV Z (o_lookS2 (H.at (k := 0) Z) hms hSs underlying64 underlying3 zeroValue42 Z Z Z ?_)))))); intro q1 hE1
 obtain ⟨a1, m1, c1, rfl, hi1, hr1, hj1⟩ := hE1; have hn_hr1 := hr1.len; have hx_hr1 : _ ≤ 1099511627776 := hr1.lim
 have hfnd : True := trivial
 refine mV Z (o_extract Z Z Z (o_extract Z Z Z (o_alloc H zeroValue42 Z Z ?_))); intro b2 w2 hb2 H
 refine o_store_B 0 H sizeOf42 Z Z Z Z Z Z Z Z ?_; intro w3 H
 refine aG Z (q3 (W_seq (q2 (mV Z (o_not Z Z (mV Z ?_))))))
 refine R_case (t := 15) Z ?_ ?_
 ·intro hc4
  try simp only [nrm] at hc4
  refine rP Z (rP Z (rP Z (o_pick_t Z Z Z (q3 (W_true Z (q2 (aG Z (q3 (W_ret (N_K_ret (rt1 results146 Z ?_)))))))))))
  have H := H.del (k := 0) rfl
  exact H.retM ⟨_, _, _, _, congrArg Value.bool (by rw [Sp.keep_no hVs (.inl (by simpa using hc4))]; rfl), rfl, hms, hSs, hVs, by rw [Sp.keep_no hVs (.inl (by simpa using hc4))]; rfl⟩
 intro hc4'
 try simp only [nrm] at hc4'
 have hfd : (Sp.atH Ls id).isSome = true := by simpa using hc4'
 have hgo := Sp.get_ok hVs hfd
 refine gR Z (o_fieldAddr 2 runUnderlying42 Z sizeOf3 Z Z Z (gR Z (o_load_B 0 H isAgg3 Z Z Z Z (gR Z (o_geq Z Z Z (o_pick_f Z Z Z (q3 ?_)))))))
 refine W_cond Z ?_ ?_
 ·intro hc5
  try simp only [nrm] at hc5
  refine q2 (aG Z (q3 (W_ret (N_K_ret (rt1 results146 Z ?_)))))
  have H := H.del (k := 0) rfl
  exact H.retM ⟨_, _, _, _, congrArg Value.bool (by rw [Sp.keep_no hVs (.inr oM)]; rfl), rfl, hms, hSs, hVs, by rw [Sp.keep_no hVs (.inr oM)]; rfl⟩
 intro hc5'
 try simp only [nrm] at hc5'
 have hkg := Sp.keep_get hVs hfd oM
 refine W_skip (N_K (q2 (o_fieldAddr 2 runUnderlying42 Z sizeOf3 Z Z Z (o_load_B 0 H isAgg3 Z Z Z Z (o_add Z Z Z oO (o_fieldAddr 2 runUnderlying42 Z sizeOf3 Z Z Z (o_store_B 0 H sizeOf3 Z Z Z Z Z Z Z Z ?_))))))); intro w7 H
 refine q1 (mV Z (mV Z (o_loadagg_B 0 H isAgg42 sizeOf42 Z Z Z Z Z ?_)))
 refine o_updS 1 H ⟨(getH Ls id).id, (getH Ls id).bytes, (getH Ls id).uses + 1⟩ Z hms hSs underlying64 underlying3 Z Z Z (show heldE G0 ⟨(getH Ls id).id, (getH Ls id).bytes, (getH Ls id).uses + 1⟩ _ from ⟨_, _, _, Z, ⟨by first | omega | (dsimp only; omega), by first | omega | (dsimp only; omega)⟩, hr1, ⟨by first | omega | (dsimp only; omega), by first | omega | (dsimp only; omega)⟩⟩) (by exact Sp.get_id hfd) ?_; intro es8 ck8 xs8 w8 H hm8 hS8
 refine q1 (aG Z (q3 (W_ret (rt1 results146 Z ?_))))
 have H := H.del (k := 0) rfl
 exact H.retM ⟨_, _, _, _, congrArg Value.bool (by rw [hkg.1]; rfl), rfl, hm8, hS8, hkg.2, by rw [hkg.1]; rfl⟩
end Go.Proofs.Tst

namespace Go.Proofs.Tst
open Go Fw Tryz
theorem i_fileIds_c (w0 : World) (G0 : PH) (hG : PSub G0 w0) (mbs : Nat) (ess : Array MapEntry) (cks : Nat) (xss : List (Int × Value)) (Ls : List BHeld) (hbs : MapAt G0 mbs ess cks) (hms : MapIs (Value.int .i64) ess cks xss) (hSs : StR G0 xss Ls) (hVs : Sp.VH Ls) (vids : Value) (ids : List (Int)) (hids : RdI G0 vids ids)  :
  Calls Tryz.prog 122 #[.map (some mbs), vids] w0 (Rets w0 (.bool (Sp.l4Ids Ls ids))) := by
 obtain ⟨aids, kids, rfl⟩ := hids.shape
 have hlimids : ids.length ≤ 1099511627776 := hids.lim
 have H := Hp.init hG
 refine calls_of_W (l := [.map (some mbs), .slice aids ids.length kids]) func122 Z ntmps122 Z (q2 (aG Z (q3 (W_seq (q2 (mV Z (o_len_slice underlying38 Z Z (o_gtr Z Z Z (q3 ?_)))))))))
 refine W_cond Z ?_ ?_
 ·intro hc1
  try simp only [nrm] at hc1
  refine q2 (aG Z (q3 (W_ret (N_K_ret (rt1 results122 Z ?_)))))
  exact H.rets (congrArg Value.bool (by rw [Sp.ids_long oM]))
 intro hc1'
 try simp only [nrm] at hc1'
 refine W_skip (N_K (W_seq (q2 (mV Z (o_len_slice underlying38 Z Z (mV Z (q3 (W_block ?_))))))))
 refine W_lp (hf := (Sub.cons (t := 0) Z (Sub.cons (t := 1) Z (Sub.cons (t := 12) Z (Sub.cons (t := 13) Z Sub.nil))))) (J := fun M w m => ∃ (k : Nat) (G : PH), M = [(14, .int .i64 (k : Int))] ∧ PLe G0 G ∧ Hp w0 G0 [] w G [] ∧ (k ≤ ids.length ∧ ∀ j, j < k → Sp.idsOk Ls ids j = true) ∧ m = (ids.length - k)) (h0 := ⟨0, _, Z, PLe.refl _, H, ?inv, Z⟩) (round := ?round)
 case inv => exact ⟨by omega, fun j hj => by omega⟩
 case round =>
  rintro _ w2 _ ⟨k, G2, rfl, hle2, H, hinv2, rfl⟩
  have hSs := hSs.up hle2
  have hbs := hbs.up hle2
  have hids := hids.up hle2
  obtain ⟨hk, hall⟩ := hinv2
  refine q2 (o_lss Z Z Z (q3 (W_seq ?_)))
  refine W_cond Z ?_ ?_
  ·intro hc3
   try simp only [nrm] at hc3
   refine W_skip (N_K (W_seq (W_block (q2 (mV Z (o_index_P k hids underlying38 sizeOf3 Z Z Z Z aN ?_)))))); intro b4 o4 z4 q4 hz4 hE4 hrow4
   obtain ⟨rfl, hi4⟩ := hE4
   refine o_load_P H isAgg3 Z Z (hrow4 0 _ Z) (aG Z (aG Z (q1 (mV Z (mV Z (o_lookS2 (hbs.at H.sub) hms hSs underlying64 underlying3 zeroValue42 Z Z Z ?_)))))); intro q5 hE5
   obtain ⟨a5, m5, c5, rfl, hi5, hr5, hj5⟩ := hE5; have hn_hr5 := hr5.len; have hx_hr5 : _ ≤ 1099511627776 := hr5.lim
   refine mV Z (o_extract Z Z Z (o_extract Z Z Z (o_alloc H zeroValue42 Z Z ?_))); intro b6 w6 hb6 H
   refine o_store_B 0 H sizeOf42 Z Z Z Z Z Z Z Z ?_; intro w7 H
   refine aG Z (q1 (mV Z (o_not Z Z (mV Z ?_))))
   refine R_case (t := 27) Z ?_ ?_
   ·intro hc8
    try simp only [nrm] at hc8
    refine rP Z (rP Z (rP Z (rP Z (rP Z (rP Z (R_pass Z (yl_un Z Z) (R_pass Z (yl_un Z Z) (R_pass Z (yl_un Z Z) (R_pass Z (yl_un Z Z) (rP Z (o_pick_t Z Z Z (q3 (W_true Z (q2 (aG Z ?_)))))))))))))))
    refine q3 (W_ret (N_B_ret (N_K_ret (N_LP_ret (N_B_ret (N_K_ret (rt1 results122 Z ?_)))))))
    exact H.rets (congrArg Value.bool (by rw [Sp.ids_false (k := k) oM (by exact Sp.idsOk_no hz4 (by simpa using hc8))]))
   intro hc8'
   try simp only [nrm] at hc8'
   have hfd : (Sp.atH Ls z4).isSome = true := by simpa using hc8'
   have hbl := Sp.bv_len (Sp.get_ok hVs hfd).2.1
   have hio := Sp.idsOk_get hz4 hfd
   refine gR Z (mV Z (gR Z (mV Z (gR Z (o_len_slice underlying38 Z Z (gR Z (o_sub Z Z Z oO (gR Z (o_lss Z Z Z (gR Z (mV Z ?_)))))))))))
   refine R_case (t := 33) Z ?_ ?_
   ·intro hc10
    try simp only [nrm] at hc10
    refine gR Z (o_fieldAddr 1 runUnderlying42 Z sizeOf38 Z Z Z (gR Z (o_load_B 0 H isAgg38 Z Z Z Z (gR Z (o_len_slice underlying38 Z Z (gR Z (o_neq Z Z Z (gR Z (o_pick_t Z Z Z (o_pick_f Z Z Z (q3 ?_)))))))))))
    refine W_cond Z ?_ ?_
    ·intro hc11
     try simp only [nrm] at hc11
     refine q2 (aG Z (q3 (W_ret (N_B_ret (N_K_ret (N_LP_ret (N_B_ret (N_K_ret (rt1 results122 Z ?_)))))))))
     exact H.rets (congrArg Value.bool (by rw [Sp.ids_false (k := k) oM (by rw [hio]; simp; omega)]))
    intro hc11'
    try simp only [nrm] at hc11'
    refine W_skip (N_B (N_K (W_region (o_add Z Z Z oO (mV Z (R_nil ?_))))))
    have H := H.del (k := 0) rfl
    refine N_lp (hJ := ⟨k + 1, _, Z, hle2, H, ?inv, Z⟩) (hm := ?hm)
    case hm => omega
    case inv => exact ⟨by omega, Sp.upto_succ hall (by rw [hio]; simp; omega)⟩
   intro hc10'
   try simp only [nrm] at hc10'
   refine rP Z (rP Z (rP Z (rP Z (gR Z (o_pick_f Z Z Z (o_pick_f Z Z Z (q3 (W_false Z (W_skip (N_B (N_K (W_region (o_add Z Z Z oO (mV Z (R_nil ?_)))))))))))))))
   have H := H.del (k := 0) rfl
   refine N_lp (hJ := ⟨k + 1, _, Z, hle2, H, ?inv, Z⟩) (hm := ?hm)
   case hm => omega
   case inv => exact ⟨by omega, Sp.upto_succ hall (by rw [hio]; simp; omega)⟩
  intro hc3'
  try simp only [nrm] at hc3'
  refine W_exit (N_K_exit (N_LP_exit (N_B_same (N_K (q2 (aG Z (q3 (W_ret (rt1 results122 Z ?_)))))))))
  exact H.rets (congrArg Value.bool (by rw [Sp.ids_true (fun j hj => hall j oM) oM]))
theorem i_keepFile_c (w0 : World) (G0 : PH) (hG : PSub G0 w0) (mbs : Nat) (ess : Array MapEntry) (cks : Nat) (xss : List (Int × Value)) (Ls : List BHeld) (hms : MapIs (Value.int .i64) ess cks xss) (hSs : StR G0 xss Ls) (hVs : Sp.VH Ls) (vids : Value) (ids : List (Int)) (hids : RdI G0 vids ids) (hLent : Lent w0 G0 [blk mbs (.map ess cks)])  :
  Calls Tryz.prog 112 #[.map (some mbs), vids] w0 (RetM w0 G0 [mbs] (fun G' v Bs => ∃ (es' : Array MapEntry) (ck' : Nat) (xs' : List (Int × Value)) (L' : List BHeld), v = .bool (Sp.foldB Sp.StoreKeep ids (some Ls)).isSome ∧ Bs = [blk mbs (.map es' ck')] ∧ MapIs (Value.int .i64) es' ck' xs' ∧ StR G' xs' L' ∧ Sp.VH L' ∧ ∀ l, Sp.foldB Sp.StoreKeep ids (some Ls) = some l → L' = l)) := by
 obtain ⟨aids, kids, rfl⟩ := hids.shape
 have hlimids : ids.length ≤ 1099511627776 := hids.lim
 have H : Hp w0 G0 [mbs] w0 G0 [blk mbs (.map ess cks)] := hLent.hp
 refine calls_of_W (l := [.map (some mbs), .slice aids ids.length kids]) func112 Z ntmps112 Z (q2 (aG Z (q3 (W_seq (q2 (mV Z (o_len_slice underlying38 Z Z (mV Z (q3 (W_block ?_))))))))))
 refine W_lp (hf := (Sub.cons (t := 0) Z (Sub.cons (t := 7) Z (Sub.cons (t := 8) Z Sub.nil)))) (J := fun M w m => ∃ (esm0 : Array MapEntry) (ckm0 : Nat) (xsm0 : List (Int × Value)) (Lm0 : List BHeld) (k : Nat) (G : PH), M = [(9, .int .i64 (k : Int))] ∧ PLe G0 G ∧ Hp w0 G0 [mbs] w G [blk mbs (.map esm0 ckm0)] ∧ (MapIs (Value.int .i64) esm0 ckm0 xsm0 ∧ StR G xsm0 Lm0 ∧ Sp.VH Lm0 ∧ k ≤ ids.length ∧ Sp.foldB Sp.StoreKeep (ids.take k) (some Ls) = some Lm0) ∧ m = (ids.length - k)) (h0 := ⟨_, _, xss, Ls, 0, _, Z, PLe.refl _, H, ?inv, Z⟩) (round := ?round)
 case inv => exact ⟨hms, hSs, hVs, (by simp [Sp.foldB])⟩
 case round =>
  rintro _ w1 _ ⟨esm0, ckm0, xsm0, Lm0, k, G1, rfl, hle1, H, hinv1, rfl⟩
  have hids := hids.up hle1
  obtain ⟨hm1_m0, hS1_m0, hV1_m0, hinv1⟩ := hinv1
  obtain ⟨hk, hf⟩ := hinv1
  refine q2 (o_lss Z Z Z (q3 (W_seq ?_)))
  refine W_cond Z ?_ ?_
  ·intro hc2
   try simp only [nrm] at hc2
   refine W_skip (N_K (W_seq (W_block (q2 (o_index_P k hids underlying38 sizeOf3 Z Z Z Z aN ?_))))); intro b3 o3 z3 q3 hz3 hE3 hrow3
   obtain ⟨rfl, hi3⟩ := hE3
   refine o_load_P H isAgg3 Z Z (hrow3 0 _ Z) (aG Z (q1 (mV Z (mV Z (o_call call146 Z Z (i_keep_c _ _ H.sub _ _ _ _ _ hm1_m0 hS1_m0 hV1_m0 _ H.lent1 ) ?_)))))
   rintro _ w4 ⟨G4, _, _, rfl, H4', ⟨es4, ck4, xs4, L4, rfl, rfl, hm4, hS4, hV4, hL4⟩⟩
   have hle1 := hle1.trans H4'.le
   have H := H.borrow1 H4'
   refine ⟨_, Z, ?_⟩
   refine o_not Z Z (q3 ?_)
   refine W_cond Z ?_ ?_
   ·intro hc5
    try simp only [nrm] at hc5
    refine q2 (aG Z (q3 (W_ret (N_B_ret (N_K_ret (N_LP_ret (N_B_ret (N_K_ret (rt1 results112 Z ?_)))))))))
    have hno : Sp.foldB Sp.StoreKeep ids (some Ls) = none := by (have hno : Sp.StoreKeep Lm0 z3 = none := by simpa using hc5); exact Sp.foldB_stop hf hz3 hno
    exact H.retM ⟨_, _, _, _, congrArg Value.bool (by rw [hno]; rfl), rfl, hm4, hS4, hV4, fun l hl => by rw [hno] at hl; cases hl⟩
   intro hc5'
   try simp only [nrm] at hc5'
   obtain ⟨p, hsp⟩ := Option.isSome_iff_exists.1 hc5'
   have hLp : L4 = p := by rw [hL4, hsp]; rfl
   subst hLp
   refine W_skip (N_B (N_K (W_region (o_add Z Z Z oO (mV Z (R_nil ?_))))))
   refine N_lp (hJ := ⟨_, _, xs4, L4, k + 1, _, Z, hle1, H, ?inv, Z⟩) (hm := ?hm)
   case hm => omega
   case inv => exact ⟨hm4, hS4, hV4, (by exact ⟨by omega, Sp.foldB_succ hf hz3 hsp⟩)⟩
  intro hc2'
  try simp only [nrm] at hc2'
  refine W_exit (N_K_exit (N_LP_exit (N_B_same (N_K (q2 (aG Z (q3 (W_ret (rt1 results112 Z ?_)))))))))
  have hyes : Sp.foldB Sp.StoreKeep ids (some Ls) = some Lm0 := Sp.foldB_all hf oM
  exact H.retM ⟨_, _, _, _, congrArg Value.bool (by rw [hyes]; rfl), rfl, hm1_m0, hS1_m0, hV1_m0, fun l hl => by rw [hyes] at hl; cases hl; rfl⟩
end Go.Proofs.Tst

namespace Go.Proofs.Tst
open Go Fw Tryz
theorem i_listIn_r : ∀ (N : Nat) (w0 : World) (G0 : PH) (hG : PSub G0 w0) (t : Nd) (hndt : RdN G0 t) (s : Bs) (hs : s.length ≤ 16777216) (hwt : t.wf) (hsl : s.length + 6 * t.cnt ≤ 100000) (hsz : t.size ≤ N),
  Calls Tryz.prog 85 #[.pointer (some ⟨t.b, 0, none⟩), str s] w0 (RetN w0 G0 (fun v Bs => ∃ (F : Fr), Bs = [frag F] ∧ OIs F v (t.flat s))) := by
 intro N
 induction N with
 | zero => intro w0 G0 hG t hndt s hs hwt hsl hsz; exact absurd (Nd.size_pos t) oM
 | succ N ih =>
 intro w0 G0 hG t hndt s hs hwt hsl hsz
 obtain ⟨hnlt, nat, nmt, nct, nAt, nMt, nCt, hprt, hrit, hrkt⟩ := hndt.open
 have hn_hrit := hrit.len; have hx_hrit : _ ≤ 1099511627776 := hrit.lim
 have hn_hrkt := hrkt.len; have hx_hrkt : _ ≤ 1099511627776 := hrkt.lim
 have H := Hp.init hG
 refine calls_of_W (l := [.pointer (some ⟨t.b, 0, none⟩), str s]) func85 Z ntmps85 Z (q2 (aG Z (q1 (aG Z (q3 (W_seq (q2 (mV Z (o_nilCheck Z Z (o_fieldAddr 3 runUnderlying167 Z sizeOf140 Z Z Z (o_load_P H isAgg140 Z Z (hprt 3 _ Z) (o_len_slice underlying140 Z Z (mV Z (q3 (W_block ?_)))))))))))))))
 have H := H.addNil 40 3
 have H := H.addF
 refine W_lp (hf := (Sub.cons (t := 1) Z (Sub.cons (t := 4) Z (Sub.cons (t := 12) Z (Sub.cons (t := 13) Z Sub.nil))))) (J := fun M w m => ∃ (v : Value) (n : Nat) (cs : List Value) (xs : List (BItem)) (F : Fr) (k : Nat) (G : PH), M = [(14, .int .i64 (k : Int)), (5, v)] ∧ PLe G0 G ∧ Hp w0 G0 [] w G [frag F, acc 40 3 v n cs] ∧ (ChkF itemO 3 cs xs F ∧ n = xs.length ∧ k ≤ t.kids.length ∧ xs = Nd.flats s (t.kids.take k)) ∧ m = (t.kids.length - k)) (h0 := ⟨_, _, _, [], [], 0, _, Z, PLe.refl _, H, ?inv, Z⟩) (round := ?round)
 case inv => exact ⟨ChkF.nil,  by first | rfl | simp | (simp; omega) | omega, (by simp [Nd.flats])⟩
 case round =>
  rintro _ w2 _ ⟨v, n, cs, xs, F, k, G2, rfl, hle2, H, hinv2, rfl⟩
  have hrkt := hrkt.up hle2
  obtain ⟨hchk2_0, hn2_0, hinv2⟩ := hinv2
  obtain ⟨av2_0, cv2_0, rfl⟩ := H.accShape (k := 1) rfl
  obtain ⟨hk, hxs⟩ := hinv2; have hxl : xs.length ≤ 100000 := by (have := Nd.flats_len s (t.kids.take k); have := Nd.cnts_take t.kids k; have := Nd.cnt_eq t; rw [hxs]; omega)
  refine q2 (o_lss Z Z Z (q3 (W_seq ?_)))
  refine W_cond Z ?_ ?_
  ·intro hc3
   try simp only [nrm] at hc3
   refine W_skip (N_K (W_seq (W_block (q2 (o_index_P k hrkt underlying140 sizeOf65 Z Z Z Z aN ?_))))); intro b4 o4 z4 q4 hz4 hE4 hrow4
   obtain ⟨rfl, hnd4⟩ := hE4; obtain ⟨hnl4, na4, nm4, nc4, nA4, nM4, nC4, hpr4, hri4, hrk4⟩ := hnd4.open; have hn_hri4 := hri4.len; have hx_hri4 : _ ≤ 1099511627776 := hri4.lim; have hn_hrk4 := hrk4.len; have hx_hrk4 : _ ≤ 1099511627776 := hrk4.lim
   have hzm := List.mem_of_getElem? hz4; have hzc := Nd.kid_cnt hzm; have hzs := Nd.size_kid hzm; have hzw := ((Nd.wf_iff _).1 hwt).2 _ hzm; have hzn := Nd.word_le hzw.1; have hzf := Nd.flat_len (s ++ z4.name ++ [47]) z4
   refine o_load_P H isAgg65 Z Z (hrow4 0 _ Z) (aG Z (q1 (mV Z (mV Z (o_nilCheck Z Z (o_fieldAddr 0 runUnderlying167 Z sizeOf9 Z Z Z (o_load_P H isAgg9 Z Z (hpr4 0 _ Z) ?_)))))))
   refine o_sadd Z Z Z (by simp only [LIM, List.length_append, List.length_cons, List.length_nil] at *; omega) ?_
   refine aG Z (q3 (W_seq (W_drawK [] 15 H kR Z ?_))); intro w5 H; have hd5 := PLe.refl G2
   refine vM 0 Z Z (vM 1 Z Z (vM 2 Z Z (RD_t 3 Z kR Z (fun _ hK => v_nilCheck Z) (RD_t 4 Z kR Z (fun _ hK => v_fieldAddr 1 runUnderlying167 Z sizeOf4 Z Z) (RD_t 5 Z kR Z (fun _ hK => v_load_P hK isAgg4 Z (hpr4 1 _ Z)) (vM 6 Z Z (RD_t 7 Z kR Z (fun _ hK => v_nilCheck Z) (RD_t 8 Z kR Z (fun _ hK => v_fieldAddr 2 runUnderlying167 Z sizeOf38 Z Z) (RD_t 9 Z kR Z (fun _ hK => v_load_P hK isAgg38 Z (hpr4 2 _ Z)) ?_)))))))))
   refine RD_run [10] kR Z (RDs.cons Z ?_ RDs.nil)
   refine o_call call68 Z Z (l_Clone_c _ _ H.sub _ _ hri4 ) ?_
   rintro _ w6 ⟨G6, v6, _, g6, rfl, ⟨cs6, rfl, hchk6⟩, hp6, hq6, hs6⟩
   have H := H.growO g6 hp6 hq6 hs6; obtain ⟨av6, cv6, rfl⟩ := H.accShape (k := 0) rfl
   have hnd4 := hnd4.up g6.le
   have hle2 := hle2.trans g6.le
   have hd5 := hd5.trans g6.le
   refine ⟨_, Z, ?_⟩
   refine R_nil (N_DK (Kn.of' H hd5 SubL.nil) (RD_t 11 Z kR Z (fun _ hK => v_build bf40 Z Z) ?_))
   refine RD_run [12] kR Z (RDs.cons Z ?_ RDs.nil)
   refine o_buildSlice H underlying24 sizeOf40 (fun w => ⟨_, zeroValue40 w, Z⟩) Z Z Z Z Z Z Z ?_; intro b7 w7 hb7 H
   refine R_nil (N_DK (Kn.of' H hd5 SubL.nil) ?_)
   refine RD_run [13] kR Z (RDs.cons Z ?_ RDs.nil)
   refine o_append1 2 H (sz := 3) (bytes := 48) underlying24 typeInfo40 ⟨_, Z, Z⟩ Z Z Z Z Z Z Z Z Z Z oM Z ?_; intro v8 w8 H
   obtain ⟨Fi2, H, hOI2⟩ := H.ownI (k := 0) rfl hchk6 aN aN
   have hchk8 := hchk2_0.snoc (show itemO Fi2 ⟨s ++ z4.name, z4.dir, z4.ids⟩ _ from ⟨_, _, _, rfl, (by (first | assumption | (refine Sp.l5Parent_lim ?_; assumption) | (simp; done) | (simp; omega) | omega)), hOI2⟩) rfl
   have H := H.toFront (k := 1) rfl
   have H := H.mergeF
   obtain ⟨av8, cv8, rfl⟩ := H.accShape (k := 1) rfl
   refine R_nil (N_DK (Kn.of' H hd5 SubL.nil) (RD_t 14 Z kR Z (fun _ hK => v_assign Z) (RD_done kR (N_K (W_region (mV Z (mV Z (mV Z ?_))))))))
   refine o_sadd Z Z Z (by simp only [LIM, List.length_append, List.length_cons, List.length_nil] at *; omega) ?_
   refine o_call call85 Z Z (ih _ _ H.sub _ hnd4 _ (by (first | assumption | (refine Sp.l5Parent_lim ?_; assumption) | (simp; done) | (simp; omega) | omega)) hzw.2 (by simp; omega) oM) ?_
   rintro _ w9 ⟨_, _, rfl, H9', ⟨F9, rfl, hO9⟩⟩
   have H := H.readers (fp := []) (by simp) (PLe.refl _) H9'
   obtain ⟨e29, hP9⟩ := hO9
   obtain ⟨sa9, sc9, rfl⟩ := OwnS.shape hP9
   have hO9 := OIs.mk hP9
   refine ⟨_, Z, ?_⟩
   refine o_append_F 1 H hP9 (by intro F x cs hx u hu; obtain ⟨_, _, _, rfl, _⟩ := hx; simp at hu; rcases hu with rfl | rfl | rfl <;> rfl) (sz := 3) (bytes := 48) underlying24 typeInfo40 ⟨_, rfl, rfl⟩ rfl rfl rfl rfl rfl rfl rfl oM rfl ?_; intro v10 w10 cs10 F10_ H hck10 hmm10
   have hchk10 := hchk8.app hck10
   have H := H.toFront (k := 1) rfl
   have H := H.mergeF
   obtain ⟨av10, cv10, rfl⟩ := H.accShape (k := 1) rfl
   refine aG Z (R_nil (N_B (N_K (W_region (o_add Z Z Z oO (mV Z (R_nil ?_)))))))
   refine N_lp (hJ := ⟨_, _, _, ((xs ++ [⟨s ++ z4.name, z4.dir, z4.ids⟩]) ++ (z4.flat (s ++ z4.name ++ [47]))), ((F ++ Fi2) ++ F10_), k + 1, _, Z, hle2, H, ?inv, Z⟩) (hm := ?hm)
   case hm => omega
   case inv => exact ⟨hchk10, aN, (by exact ⟨by omega, by (rw [Nd.flats_succ hz4, hxs]; simp)⟩)⟩
  intro hc3'
  try simp only [nrm] at hc3'
  refine W_exit (N_K_exit (N_LP_exit (N_B_same (N_K (q2 (mV Z (aG Z (q3 (W_ret (rt1 results85 Z ?_))))))))))
  have H := H.toFront (k := 1) rfl
  obtain ⟨Fo3, H, hOw3⟩ := H.ownF hchk2_0 aN aN
  have hX : xs = t.flat s := by rw [hxs, List.take_of_length_le oM, Nd.flat_eq]
  have H := H.forget hG (by simp)
  exact ⟨_, _, Z, H, _, Z, hX ▸ ⟨_, hOw3⟩⟩
theorem i_listIn_c (w0 : World) (G0 : PH) (hG : PSub G0 w0) (t : Nd) (hndt : RdN G0 t) (s : Bs) (hs : s.length ≤ 16777216) (hwt : t.wf) (hsl : s.length + 6 * t.cnt ≤ 100000) :
  Calls Tryz.prog 85 #[.pointer (some ⟨t.b, 0, none⟩), str s] w0 (RetN w0 G0 (fun v Bs => ∃ (F : Fr), Bs = [frag F] ∧ OIs F v (t.flat s))) := i_listIn_r _ w0 G0 hG t hndt s hs hwt hsl (Nat.le_refl _)
theorem i_tlist_c (w0 : World) (G0 : PH) (hG : PSub G0 w0) (t : Nd) (hndt : RdN G0 t) (hwt : t.wf) (hct : t.cnt ≤ 1000) :
  Calls Tryz.prog 49 #[.pointer (some ⟨t.b, 0, none⟩)] w0 (RetN w0 G0 (fun v Bs => ∃ (F : Fr), Bs = [frag F] ∧ OIs F v (t.flat []))) := by
 obtain ⟨hnlt, nat, nmt, nct, nAt, nMt, nCt, hprt, hrit, hrkt⟩ := hndt.open
 have hn_hrit := hrit.len; have hx_hrit : _ ≤ 1099511627776 := hrit.lim
 have hn_hrkt := hrkt.len; have hx_hrkt : _ ≤ 1099511627776 := hrkt.lim
 have H := Hp.init hG
 refine calls_of_W (l := [.pointer (some ⟨t.b, 0, none⟩)]) func49 Z ntmps49 Z (q2 (aG Z (q1 (mV Z ?_))))
 refine o_call call85 Z Z (i_listIn_c _ _ H.sub _ hndt _ (by (first | assumption | (refine Sp.l5Parent_lim ?_; assumption) | (simp; done) | (simp; omega) | omega)) hwt (by simp; omega)) ?_
 rintro _ w1 ⟨_, _, rfl, H1', ⟨F1, rfl, hO1⟩⟩
 have H := H.readers (fp := []) (by simp) (PLe.refl _) H1'
 obtain ⟨e21, hP1⟩ := hO1
 obtain ⟨sa1, sc1, rfl⟩ := OwnS.shape hP1
 have hO1 := OIs.mk hP1
 refine ⟨_, Z, ?_⟩
 refine aG Z (q3 (W_ret (rt1 results49 Z ?_)))
 have H := H.forget hG (by simp)
 exact ⟨_, _, Z, H, _, Z, hO1⟩
end Go.Proofs.Tst

