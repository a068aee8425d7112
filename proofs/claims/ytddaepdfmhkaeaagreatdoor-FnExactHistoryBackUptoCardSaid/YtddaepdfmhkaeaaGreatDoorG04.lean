/- Part 4 of the proof: the program logic and plain functions. Conditions: none. -/
import Derived.Test.YtddaepdfmhkaeaaGreatDoorG02
import Derived.Test.YtddaepdfmhkaeaaGreatDoorG03
import Derived.KernelRfl
import Derived.Test.YtddaepdfmhkaeaaGreatDoorProg
set_option linter.all false
set_option maxRecDepth 100000
set_option maxHeartbeats 1000000
namespace Fw
open Go
def digs (n : Nat) : Bs := if h : n = 0 then [] else digs (n / 10) ++ [UInt8.ofNat (48 + n % 10)]
  termination_by n
  decreasing_by omega
theorem digs_zero : digs 0 = [] := by rw [digs]; simp
theorem digs_pos {n : Nat} (h : n ≠ 0) : digs n = digs (n / 10) ++ [UInt8.ofNat (48 + n % 10)] := by
 conv => lhs; rw [digs]
 simp [h]
theorem digs_len : ∀ (d n : Nat), n < 10 ^ d → (digs n).length ≤ d
 | 0, n, h => by
  have : n = 0 := by simpa using h
  subst this
  simp [digs_zero]
 | d + 1, n, h => by
  by_cases e : n = 0
  ·subst e; simp [digs_zero]
  ·rw [digs_pos e]
   have : n / 10 < 10 ^ d := by
    rw [Nat.pow_succ] at h
    omega
   have := digs_len d _ this
   simp
   omega
def mtext (k : Int) : Bs := if k ≤ 0 then [109, 48] else 109 :: digs k.toNat
theorem mtext_len {k : Int} (h : k ≤ 9223372036854775807) : (mtext k).length ≤ 20 := by
 unfold mtext
 split
 ·simp
 ·have := digs_len 19 k.toNat (by omega)
  simp
  omega
section
variable {α : Type}
def mks (f : Int → α → α) (c : α → Nat) : Int → List α → List α
 | _, [] => []
 | k, x :: r => f k x :: mks f c (k + (c x : Int)) r
def cnt (c : α → Nat) : List α → Nat
 | [] => 0
 | x :: r => c x + cnt c r
variable {f : Int → α → α} {c : α → Nat}
theorem mks_len : ∀ (k : Int) (a : List α), (mks f c k a).length = a.length
 | _, [] => rfl
 | k, x :: r => by simp [mks, mks_len (k + (c x : Int)) r]
theorem cnt_append : ∀ (a b : List α), cnt c (a ++ b) = cnt c a + cnt c b
 | [], b => by simp [cnt]
 | x :: r, b => by simp [cnt, cnt_append r b]; omega
theorem mks_append : ∀ (k : Int) (a b : List α), mks f c k (a ++ b) = mks f c k a ++ mks f c (k + (cnt c a : Int)) b
 | k, [], b => by simp [mks, cnt]
 | k, x :: r, b => by
  simp only [List.cons_append, mks, cnt, mks_append]
  congr 3
  push_cast
  omega
theorem take_succ {a : List α} {i : Nat} {x : α} (h : a[i]? = some x) : a.take (i + 1) = a.take i ++ [x] := by
 rw [List.take_add_one, h]; rfl
theorem cnt_succ {a : List α} {i : Nat} {x : α} (h : a[i]? = some x) : cnt c (a.take (i + 1)) = cnt c (a.take i) + c x := by
 rw [take_succ h, cnt_append]; simp [cnt]
theorem cnt_le {a : List α} {i : Nat} {x : α} (h : a[i]? = some x) : cnt c (a.take i) + c x ≤ cnt c a := by
 rw [← cnt_succ h]
 conv => rhs; rw [← List.take_append_drop (i + 1) a, cnt_append]
 omega
theorem cnt_tk (a : List α) (i : Nat) : cnt c (a.take i) ≤ cnt c a := by
 conv => rhs; rw [← List.take_append_drop i a, cnt_append]
 omega
theorem mks_succ {a : List α} {i : Nat} {x : α} {k : Int} (h : a[i]? = some x) : mks f c k (a.take (i + 1)) = mks f c k (a.take i) ++ [f (k + (cnt c (a.take i) : Int)) x] := by
 rw [take_succ h, mks_append]; rfl
theorem mks_get {a : List α} {i : Nat} {x z : α} {k : Int} (h : a[i]? = some x) (hz : (mks f c k a)[i]? = some z) : z = f (k + (cnt c (a.take i) : Int)) x := by
 have hi := (List.getElem?_eq_some_iff.1 h).1
 have e : mks f c k a = mks f c k (a.take (i + 1)) ++ mks f c (k + (cnt c (a.take (i + 1)) : Int)) (a.drop (i + 1)) := by
  conv => lhs; rw [← List.take_append_drop (i + 1) a, mks_append]
 rw [e, mks_succ h, List.append_assoc, List.getElem?_append_right (by rw [mks_len]; simp; omega)] at hz
 have : i - (mks f c k (a.take i)).length = 0 := by rw [mks_len]; simp; omega
 rw [this] at hz
 simpa using hz.symm
theorem half_get {a : List α} {i : Nat} {k : Int} (hi : i ≤ a.length) : (mks f c k (a.take i) ++ a.drop i)[i]? = a[i]? := by
 rw [List.getElem?_append_right (by rw [mks_len]; simp; omega), mks_len, List.length_take, Nat.min_eq_left hi]
 simp
theorem half_set {a : List α} {i : Nat} {x : α} {k : Int} (h : a[i]? = some x) : (mks f c k (a.take i) ++ a.drop i).set i (f (k + (cnt c (a.take i) : Int)) x) = mks f c k (a.take (i + 1)) ++ a.drop (i + 1) := by
 have hi := (List.getElem?_eq_some_iff.1 h).1
 have hx : a[i] = x := (List.getElem?_eq_some_iff.1 h).2
 rw [List.set_append_right _ _ (by rw [mks_len]; simp; omega), mks_len, List.length_take, Nat.min_eq_left (by omega), Nat.sub_self, mks_succ h, List.drop_eq_getElem_cons hi]
 simp only [List.set_cons_zero, List.append_assoc, List.singleton_append]
theorem half_len {a : List α} {i : Nat} {k : Int} (hi : i ≤ a.length) : (mks f c k (a.take i) ++ a.drop i).length = a.length := by
 simp [mks_len]; omega
theorem half_at {xs a : List α} {i : Nat} {k : Int} {x : α} (hxs : xs = mks f c k (a.take i) ++ a.drop i) (hz : xs[i]? = some x) (hi : i ≤ a.length) : a[i]? = some x := by
 rw [hxs, half_get hi] at hz; exact hz
theorem half_step {xs a : List α} {i : Nat} {k : Int} {x y : α} (hxs : xs = mks f c k (a.take i) ++ a.drop i) (hz : xs[i]? = some x) (hi : i ≤ a.length) (hy : y = f (k + (cnt c (a.take i) : Int)) x) : xs.set i y = mks f c k (a.take (i + 1)) ++ a.drop (i + 1) := by
 have h := half_at hxs hz hi
 subst hy
 rw [hxs]
 exact half_set h
theorem set_at {xs : List α} {i : Nat} {x z : α} (h : (xs.set i x)[i]? = some z) : z = x := by
 have hi := (List.getElem?_eq_some_iff.1 h).1
 simp only [List.length_set] at hi
 simpa [hi] using h.symm
theorem set_same {xs : List α} {i : Nat} {z : α} (h : xs[i]? = some z) : xs.set i z = xs := by
 obtain ⟨hi, rfl⟩ := List.getElem?_eq_some_iff.1 h
 simp
theorem half_end {a : List α} {i : Nat} {k : Int} (hi : i = a.length) : mks f c k (a.take i) ++ a.drop i = mks f c k a := by
 subst hi; simp
theorem cnt_end {a : List α} {i : Nat} (hi : i = a.length) : cnt c (a.take i) = cnt c a := by subst hi; simp
end
def mI (k : Int) (_ : Int) : Int := k
def cI (_ : Int) : Nat := 1
theorem cInts_len : ∀ a : List Int, cnt cI a = a.length
 | [] => rfl
 | x :: r => by
  have := cInts_len r
  simp only [cnt, cI, List.length_cons] at *
  omega
def mHeld (k : Int) (x : BHeld) : BHeld := ⟨k, mks mI cI (k + 1) x.bytes, k + 1 + (cnt cI x.bytes : Int)⟩
def cHeld (x : BHeld) : Nat := 2 + cnt cI x.bytes
def mItem (k : Int) (x : BItem) : BItem := ⟨mtext k, decide ((k + 1) % 3 = 0), mks mI cI (k + 1 + 1) x.ids⟩
def cItem (x : BItem) : Nat := 2 + cnt cI x.ids
def mSnap (k : Int) (x : BSnap) : BSnap := ⟨mtext k, mks mItem cItem (k + 1) x.tree⟩
def cSnap (x : BSnap) : Nat := 1 + cnt cItem x.tree
def mDisk (k : Int) (x : BDisk) : BDisk := ⟨mks mHeld cHeld k x.store, mks mItem cItem (k + (cnt cHeld x.store : Int)) x.tree, mks mSnap cSnap (k + (cnt cHeld x.store : Int) + (cnt cItem x.tree : Int)) x.snaps⟩
def cDisk (x : BDisk) : Nat := cnt cHeld x.store + cnt cItem x.tree + cnt cSnap x.snaps
def wHeld (x : BHeld) : Nat := x.bytes.length
def wHelds (a : List BHeld) : Nat := a.length + cnt wHeld a
def wItem (x : BItem) : Nat := x.path.length + x.ids.length
def wItems (a : List BItem) : Nat := a.length + cnt wItem a
def wSnap (x : BSnap) : Nat := x.name.length + wItems x.tree
def wSnaps (a : List BSnap) : Nat := a.length + cnt wSnap a
def wDisk (x : BDisk) : Nat := wHelds x.store + wItems x.tree + wSnaps x.snaps
theorem cHelds_le : ∀ a : List BHeld, cnt cHeld a ≤ 2 * wHelds a
 | [] => by simp [cnt]
 | x :: r => by
  have h : cnt cHeld r ≤ _ := cHelds_le r
  have h2 := cInts_len x.bytes
  simp only [wHelds, cnt, List.length_cons, cHeld, wHeld] at *
  omega
theorem cItems_le : ∀ a : List BItem, cnt cItem a ≤ 2 * wItems a
 | [] => by simp [cnt]
 | x :: r => by
  have h : cnt cItem r ≤ _ := cItems_le r
  have h2 := cInts_len x.ids
  simp only [wItems, cnt, List.length_cons, cItem, wItem] at *
  omega
theorem cSnaps_le : ∀ a : List BSnap, cnt cSnap a ≤ 2 * wSnaps a
 | [] => by simp [cnt]
 | x :: r => by
  have h : cnt cSnap r ≤ _ := cSnaps_le r
  have h2 : cnt cItem x.tree ≤ _ := cItems_le x.tree
  simp only [wSnaps, cnt, List.length_cons, cSnap, wSnap] at *
  omega
theorem cDisk_le (x : BDisk) : cDisk x ≤ 2 * wDisk x := by
 have := cHelds_le x.store
 have := cItems_le x.tree
 have := cSnaps_le x.snaps
 simp only [cDisk, wDisk]
 omega
end Fw
namespace Fw
open Go
end Fw
namespace Sp
open Go Fw
theorem getH_mem {L : List BHeld} (nd : (L.map (·.id)).Nodup) {x : BHeld} (h : x ∈ L) : getH L x.id = x := by
 cases e : Sp.atH L x.id with
 | none => exact absurd (List.mem_map_of_mem h) (Fw.atH_none e)
 | some j =>
  obtain ⟨y, hy, hid⟩ := Fw.atH_some e
  rw [getH_some e hy]
  obtain ⟨i, hi⟩ := List.getElem?_of_mem h
  have h1 : (L.map (·.id))[i]? = some x.id := by simp [hi]
  have h2 : (L.map (·.id))[j]? = some x.id := by simp [hy, hid]
  obtain ⟨l1, e1⟩ := List.getElem?_eq_some_iff.1 h1
  obtain ⟨l2, e2⟩ := List.getElem?_eq_some_iff.1 h2
  have : i = j := by
   have hp := List.pairwise_iff_getElem.1 nd
   rcases Nat.lt_trichotomy i j with hlt | heq | hlt
   ·exact absurd (e1.trans e2.symm) (hp i j l1 l2 hlt)
   ·exact heq
   ·exact absurd (e2.trans e1.symm) (hp j i l2 l1 hlt)
  subst this
  rw [hi] at hy
  exact (Option.some.inj hy).symm
theorem at_mem {L : List BHeld} {a : Int} : (Sp.atH L a).isSome = true ↔ a ∈ L.map (·.id) := by
 constructor
 ·intro h
  obtain ⟨i, hi⟩ := Option.isSome_iff_exists.1 h
  obtain ⟨y, hy, rfl⟩ := Fw.atH_some hi
  exact List.mem_map_of_mem (List.mem_of_getElem? hy)
 ·intro h
  cases e : Sp.atH L a with
  | none => exact absurd h (Fw.atH_none e)
  | some i => rfl
theorem getH_not {L : List BHeld} {a : Int} (h : a ∉ L.map (·.id)) : getH L a = ⟨0, [], 0⟩ := by
 refine get_no ?_
 cases e : (Sp.atH L a).isSome with
 | false => rfl
 | true => exact absurd (at_mem.1 e) h
theorem getH_perm {L L' : List BHeld} (nd : (L.map (·.id)).Nodup) (hp : L.Perm L') (a : Int) : getH L' a = getH L a := by
 have hp2 : (L.map (·.id)).Perm (L'.map (·.id)) := hp.map _
 by_cases h : a ∈ L.map (·.id)
 ·obtain ⟨x, hx, rfl⟩ := List.mem_map.1 h
  rw [getH_mem nd hx, getH_mem (hp2.nodup_iff.1 nd) (hp.mem_iff.1 hx)]
 ·rw [getH_not h, getH_not (fun h' => h (hp2.mem_iff.2 h'))]
theorem getH_updH {L : List BHeld} (nd : (L.map (·.id)).Nodup) (y : BHeld) (a : Int) : getH (updH L y) a = if a = y.id then y else getH L a := by
 have hp := updH_perm nd y
 have hsub : ∀ x, x ∈ L.filter (fun x => decide (x.id ≠ y.id)) → x ∈ L ∧ x.id ≠ y.id := fun x hx => by simpa using List.mem_filter.1 hx
 have nd2 : ((y :: L.filter (fun x => decide (x.id ≠ y.id))).map (·.id)).Nodup := by
  rw [List.map_cons, List.nodup_cons]
  refine ⟨fun h => ?_, List.Nodup.sublist ((List.filter_sublist).map _) nd⟩
  obtain ⟨x, hx, e⟩ := List.mem_map.1 h
  exact (hsub x hx).2 e
 rw [getH_perm nd2 hp.symm]
 split
 ·next e => subst e; exact getH_mem nd2 (by simp)
 ·next e =>
  by_cases h : a ∈ L.map (·.id)
  ·obtain ⟨x, hx, rfl⟩ := List.mem_map.1 h
   rw [getH_mem nd hx]
   exact getH_mem nd2 (List.mem_cons_of_mem _ (List.mem_filter.2 ⟨hx, by simpa using e⟩))
  ·rw [getH_not h]
   refine getH_not (fun h' => ?_)
   simp only [List.map_cons, List.mem_cons] at h'
   rcases h' with h' | h'
   ·exact e h'
   ·obtain ⟨x, hx, rfl⟩ := List.mem_map.1 h'
    exact h (List.mem_map_of_mem (hsub x hx).1)
theorem getH_delH {L : List BHeld} (nd : (L.map (·.id)).Nodup) (id a : Int) : getH (delH L id) a = if a = id then ⟨0, [], 0⟩ else getH L a := by
 have hp := delH_perm nd id
 have hsub : ∀ x, x ∈ L.filter (fun x => decide (x.id ≠ id)) → x ∈ L ∧ x.id ≠ id := fun x hx => by simpa using List.mem_filter.1 hx
 have nd2 : ((L.filter (fun x => decide (x.id ≠ id))).map (·.id)).Nodup := List.Nodup.sublist ((List.filter_sublist).map _) nd
 rw [getH_perm nd2 hp.symm]
 split
 ·next e =>
  subst e
  refine getH_not (fun h' => ?_)
  obtain ⟨x, hx, e⟩ := List.mem_map.1 h'
  exact (hsub x hx).2 e
 ·next e =>
  by_cases h : a ∈ L.map (·.id)
  ·obtain ⟨x, hx, rfl⟩ := List.mem_map.1 h
   rw [getH_mem nd hx]
   exact getH_mem nd2 (List.mem_filter.2 ⟨hx, by simpa using e⟩)
  ·rw [getH_not h]
   refine getH_not (fun h' => ?_)
   obtain ⟨x, hx, rfl⟩ := List.mem_map.1 h'
   exact h (List.mem_map_of_mem (hsub x hx).1)
def us (L : List BHeld) (a : Int) : Int := (getH L a).uses
def by_ (L : List BHeld) (a : Int) : List Int := (getH L a).bytes
theorem us_nonneg {L : List BHeld} (hV : VH L) (a : Int) : 0 ≤ us L a := by
 unfold us
 cases h : (Sp.atH L a).isSome with
 | false => rw [get_no h]; simp
 | true => have := (get_ok hV h).2.2.1; omega
theorem us_pos {L : List BHeld} (hV : VH L) {a : Int} : 0 < us L a ↔ (Sp.atH L a).isSome = true := by
 unfold us
 cases h : (Sp.atH L a).isSome with
 | false => rw [get_no h]; simp
 | true => have := (get_ok hV h).2.2.1; simp; omega
theorem drop_step {L : List BHeld} (hV : VH L) {id : Int} (h : 0 < us L id) :
  ∃ L', StoreDrop L id = some L' ∧ VH L' ∧ ∀ a, us L' a = us L a - (if a = id then 1 else 0) ∧ (0 < us L' a → by_ L' a = by_ L a) := by
 have hs := (us_pos hV).1 h
 have hid := get_id hs
 by_cases hu : (getH L id).uses = 1
 ·obtain ⟨h1, h2⟩ := drop_get1 hV hs hu
  refine ⟨_, h1, h2, fun a => ?_⟩
  unfold us by_
  rw [getH_delH hV.nd]
  by_cases e : a = id
  ·subst e; simp [hu]
  ·simp [e]
 ·obtain ⟨h1, h2⟩ := drop_get2 hV hs hu
  refine ⟨_, h1, h2, fun a => ?_⟩
  unfold us by_
  rw [getH_updH hV.nd, ← hid]
  by_cases e : a = id
  ·subst e; simp
  ·simp [e]
theorem cnt1_cons (a x : Int) (r : List Int) : cnt1 a (x :: r) = (if a = x then 1 else 0) + cnt1 a r := by
 unfold cnt1
 rw [List.countP_cons]
 by_cases e : a = x
 ·subst e; simp; omega
 ·have : ¬ x = a := fun h => e h.symm
  simp [e, this]
theorem foldB_cons {α β : Type} {f : α → β → Option α} {b : β} {r : List β} {a a' : α} (h : f a b = some a') : foldB f (b :: r) (some a) = foldB f r (some a') := by
 simp [foldB, h]
theorem drops : ∀ (ids : List Int) {L : List BHeld}, VH L → (∀ a, (cnt1 a ids : Int) ≤ us L a) →
  ∃ L', foldB StoreDrop ids (some L) = some L' ∧ VH L' ∧ ∀ a, us L' a = us L a - (cnt1 a ids : Int) ∧ (0 < us L' a → by_ L' a = by_ L a)
 | [], L, hV, _ => ⟨L, rfl, hV, fun a => by simp [cnt1]⟩
 | x :: r, L, hV, h => by
  have hx := h x
  rw [cnt1_cons, if_pos rfl] at hx
  obtain ⟨L1, h1, h2, h3⟩ := drop_step hV (id := x) (by push_cast at hx; omega)
  obtain ⟨L2, g1, g2, g3⟩ := drops r h2 (fun a => by
   have h8 := h a
   rw [cnt1_cons] at h8
   have h4 := (h3 a).1
   by_cases e : a = x
   ·rw [if_pos e] at h8 h4; omega
   ·rw [if_neg e] at h8 h4; omega)
  refine ⟨L2, by rw [foldB_cons h1]; exact g1, g2, fun a => ?_⟩
  have h4 := h3 a
  have h5 := g3 a
  rw [cnt1_cons]
  refine ⟨?_, fun hp => ?_⟩
  ·have h8 := h4.1
   have h9 := h5.1
   by_cases e : a = x
   ·rw [if_pos e] at h8 ⊢; omega
   ·rw [if_neg e] at h8 ⊢; omega
  ·rw [h5.2 hp, h4.2 ?_]
   have := h5.1
   omega
theorem free_ok {L : List BHeld} (hV : VH L) {ids : List Int} (hl : l4Ids L ids = true) (h : ∀ a, (cnt1 a ids : Int) ≤ us L a) :
  ∃ L', FileFree L ids = some L' ∧ VH L' ∧ ∀ a, us L' a = us L a - (cnt1 a ids : Int) ∧ (0 < us L' a → by_ L' a = by_ L a) := by
 obtain ⟨L', h1, h2⟩ := drops ids hV h
 exact ⟨L', by simp [FileFree, valid_iff.2 hV, hl, h1], h2⟩
theorem keep_step {L : List BHeld} (hV : VH L) {id : Int} {L' : List BHeld} (h : StoreKeep L id = some L') : VH L' ∧ 0 < us L id ∧ ∀ a, us L' a = us L a + (if a = id then 1 else 0) ∧ by_ L' a = by_ L a := by
 have hs : (Sp.atH L id).isSome = true := by
  cases e : (Sp.atH L id).isSome with
  | true => rfl
  | false => rw [keep_no hV (.inl e)] at h; cases h
 have hu : (getH L id).uses < 999 := by
  by_cases h1 : (getH L id).uses < 999
  ·exact h1
  ·rw [keep_no hV (.inr (by omega))] at h; cases h
 obtain ⟨h1, h2⟩ := keep_get hV hs hu
 rw [h1] at h
 cases h
 have hid := get_id hs
 refine ⟨h2, (us_pos hV).2 hs, fun a => ?_⟩
 unfold us by_
 rw [getH_updH hV.nd, ← hid]
 by_cases e : a = id
 ·subst e; simp
 ·simp [e]
theorem put_step {L : List BHeld} (hV : VH L) {b : List Int} (hb : BlockValid b = true) {L' : List BHeld} {id : Int} (h : StorePut L b = some (L', id)) :
  VH L' ∧ (∀ a, us L' a = us L a + (if a = id then 1 else 0) ∧ (0 < us L a → by_ L' a = by_ L a)) ∧ by_ L' id = b := by
 cases e : like L b with
 | none =>
  by_cases hl : L.length < 16
  ·rw [put_new hV hb e hl] at h
   simp only [Option.some.injEq, Prod.mk.injEq] at h
   obtain ⟨rfl, rfl⟩ := h
   have hw := with_valid hV hb e hl
   have hf := (free_lt L).1
   obtain ⟨k, hk⟩ : ∃ k, freeId L = k + 1 := ⟨freeId L - 1, by omega⟩
   have hp := put_perm (L := L) b hk
   have hfi : (freeId L : Int) = (k : Int) + 1 := by omega
   have hg : ∀ a, getH (l3With L b) a = if a = (freeId L : Int) then ⟨(k : Int) + 1, b, 1⟩ else getH L a := fun a => by
    have hnd : ((updH L ⟨(k : Int) + 1, b, 1⟩).map (·.id)).Nodup := (hp.map (·.id)).nodup_iff.2 hw.nd
    rw [getH_perm hnd hp, getH_updH hV.nd, hfi]
   have h0 : getH L (freeId L : Int) = ⟨0, [], 0⟩ := getH_none (free_none L)
   refine ⟨hw, fun a => ?_, ?_⟩
   ·unfold us by_
    rw [hg]
    by_cases ea : a = (freeId L : Int)
    ·subst ea; simp [h0]
    ·simp [ea]
   ·unfold by_
    rw [hg, if_pos rfl]
  ·rw [put_full e (by omega)] at h; cases h
 | some i =>
  obtain ⟨hi, hp, _⟩ := List.findIdx?_eq_some_iff_getElem.1 e
  have hx : L[i]? = some L[i] := List.getElem?_eq_getElem hi
  rw [put_old hV hb e hx] at h
  obtain ⟨l, h1, h2⟩ := Option.map_eq_some_iff.1 h
  simp only [Prod.mk.injEq] at h2
  obtain ⟨rfl, rfl⟩ := h2
  obtain ⟨k1, k2, k3⟩ := keep_step hV h1
  refine ⟨k1, fun a => ⟨(k3 a).1, fun _ => (k3 a).2⟩, ?_⟩
  rw [(k3 _).2]
  unfold by_
  rw [getH_mem hV.nd (List.getElem_mem hi)]
  simpa [l2Same] using hp
end Sp
namespace Sp
open Go Fw
theorem puts : ∀ (bs : List (List Int)) {L : List BHeld} {acc : List Int} {s : List BHeld} {ids : List Int}, VH L → (∀ b, b ∈ bs → BlockValid b = true) → foldB put1 bs (some (L, acc)) = some (s, ids) →
  VH s ∧ ∃ new, ids = acc ++ new ∧ new.length = bs.length ∧ (∀ a, us s a = us L a + (cnt1 a new : Int) ∧ (0 < us L a → by_ s a = by_ L a)) ∧ ∀ (i : Nat) (id : Int), new[i]? = some id → some (by_ s id) = bs[i]?
 | [], L, acc, s, ids, hV, _, h => by
  simp only [foldB, List.foldl_nil, Option.some.injEq, Prod.mk.injEq] at h
  obtain ⟨rfl, rfl⟩ := h
  exact ⟨hV, [], by simp, rfl, fun a => by simp [cnt1], by simp⟩
 | b :: r, L, acc, s, ids, hV, hb, h => by
  cases e : StorePut L b with
  | none =>
   have : foldB put1 (b :: r) (some (L, acc)) = foldB put1 r none := by simp [foldB, put1, e]
   rw [this, foldB_none] at h
   cases h
  | some q =>
   obtain ⟨L1, id⟩ := q
   rw [foldB_cons (a' := (L1, acc ++ [id])) (by simp [put1, e])] at h
   obtain ⟨k1, k2, k3⟩ := put_step hV (hb b (by simp)) e
   obtain ⟨g1, new, g2, g3, g4, g5⟩ := puts r k1 (fun c hc => hb c (by simp [hc])) h
   refine ⟨g1, id :: new, by rw [g2]; simp, by simp [g3], fun a => ?_, fun i z hz => ?_⟩
   ·rw [cnt1_cons]
    have h8 := (k2 a).1
    have h9 := (g4 a).1
    have hn := us_nonneg hV a
    refine ⟨?_, fun hp => ?_⟩
    ·by_cases ea : a = id
     ·rw [if_pos ea] at h8 ⊢; omega
     ·rw [if_neg ea] at h8 ⊢; omega
    ·have h7 : us L a ≤ us L1 a := by
      by_cases ea : a = id
      ·rw [if_pos ea] at h8; omega
      ·rw [if_neg ea] at h8; omega
     rw [(g4 a).2 (by omega), (k2 a).2 hp]
   ·cases i with
    | zero =>
     simp only [List.getElem?_cons_zero, Option.some.injEq] at hz
     subst hz
     have h8 := (k2 id).1
     rw [if_pos rfl] at h8
     have hn := us_nonneg hV id
     rw [(g4 id).2 (by omega), k3]
     rfl
    | succ i =>
     simp only [List.getElem?_cons_succ] at hz ⊢
     exact g5 i z hz
theorem chunks_valid {b : List Int} (h : FileValid b = true) : ∀ c, c ∈ l4Cut b → BlockValid c = true := by
 intro c hc
 unfold l4Cut at hc
 obtain ⟨k, hk, rfl⟩ := List.mem_map.1 hc
 refine chunk_valid h ?_
 rw [chunk_len]
 have := List.mem_range.1 hk
 omega
theorem store_ok {L : List BHeld} (hV : VH L) {b : List Int} {s : List BHeld} {ids : List Int} (h : FileStore L b = some (s, ids)) :
  VH s ∧ ids.length = (l4Cut b).length ∧ (∀ a, us s a = us L a + (cnt1 a ids : Int) ∧ (0 < us L a → by_ s a = by_ L a)) ∧ ∀ (i : Nat) (id : Int), ids[i]? = some id → some (by_ s id) = (l4Cut b)[i]? := by
 unfold FileStore at h
 split at h
 ·rename_i hc
  simp only [Bool.and_eq_true] at hc
  obtain ⟨g1, new, g2, g3, g4, g5⟩ := puts (l4Cut b) hV (chunks_valid hc.2) h
  rw [List.nil_append] at g2
  subst g2
  exact ⟨g1, g3, g4, g5⟩
 ·cases h
theorem ids_stay {L s : List BHeld} (hV : VH L) (hs : VH s) (h : ∀ a, 0 < us L a → 0 < us s a ∧ by_ s a = by_ L a) {ids : List Int} (hl : l4Ids L ids = true) : l4Ids s ids = true := by
 refine ids_true (fun j hj => ?_) (ids_le hl)
 have hz : ids[j]? = some ids[j] := List.getElem?_eq_getElem hj
 have h1 : idsOk L ids j = true := by
  simp only [l4Ids, Bool.and_eq_true] at hl
  exact List.all_eq_true.1 hl.1 j (by simpa using hj)
 have hp : (Sp.atH L ids[j]).isSome = true := by
  cases e : (Sp.atH L ids[j]).isSome with
  | true => rfl
  | false => rw [idsOk_no hz e] at h1; cases h1
 have h2 := h _ ((us_pos hV).2 hp)
 rw [idsOk_get hz ((us_pos hs).1 h2.1)]
 rw [idsOk_get hz hp] at h1
 have h3 : (getH s ids[j]).bytes = (getH L ids[j]).bytes := h2.2
 rw [h3]
 exact h1
theorem ids_in {L : List BHeld} (hV : VH L) {ids : List Int} (hl : l4Ids L ids = true) {a : Int} (ha : a ∈ ids) : 0 < us L a := by
 obtain ⟨j, hz⟩ := List.getElem?_of_mem ha
 have hj := (List.getElem?_eq_some_iff.1 hz).1
 have h1 : idsOk L ids j = true := by
  simp only [l4Ids, Bool.and_eq_true] at hl
  exact List.all_eq_true.1 hl.1 j (by simpa using hj)
 refine (us_pos hV).2 ?_
 cases e : (Sp.atH L a).isSome with
 | true => rfl
 | false => rw [idsOk_no hz e] at h1; cases h1
theorem cnt1_pos {a : Int} {ids : List Int} : 0 < cnt1 a ids ↔ a ∈ ids := by
 unfold cnt1
 rw [List.countP_pos_iff]
 constructor
 ·rintro ⟨x, hx, e⟩
  have : x = a := by simpa using e
  exact this ▸ hx
 ·intro h
  exact ⟨a, h, by simp⟩
end Sp
namespace Sp
open Go Fw Fw.Nd
def cntL (l : List BItem) (a : Int) : Nat := (l.map (fun x => cnt1 a x.ids)).sum
theorem l11Count_eq (l : List BItem) (a : Int) : l11Count l a = cntL l a := by simp [l11Count, cntU, cntL]
theorem cntL_mem {l : List BItem} {x : BItem} (hx : x ∈ l) (a : Int) : cnt1 a x.ids ≤ cntL l a := by
 induction l with
 | nil => simp at hx
 | cons y r ih =>
  simp only [cntL, List.map_cons, List.sum_cons] at *
  rcases List.mem_cons.1 hx with rfl | hx
  ·omega
  ·have := ih hx; omega
theorem cntL_perm {l m : List BItem} (h : l.Perm m) (a : Int) : cntL l a = cntL m a := (h.map _).sum_nat
theorem cntL_cons (x : BItem) (l : List BItem) (a : Int) : cntL (x :: l) a = cnt1 a x.ids + cntL l a := by simp [cntL]
theorem cntL_zero {l : List BItem} {a : Int} (h : ∀ x, x ∈ l → a ∉ x.ids) : cntL l a = 0 := by
 induction l with
 | nil => rfl
 | cons y r ih =>
  rw [cntL_cons, ih (fun x hx => h x (by simp [hx]))]
  have := h y (by simp)
  rw [← cnt1_pos] at this
  omega
theorem item_file {p : Bs} {ids : List Int} (hp : PathValid p = true) (hl : ids.length ≤ 4) (h : ids.all (idOk false) = true) : l5Item ⟨p, false, ids⟩ = true := by
 simp [l5Item, hp, hl, h]
theorem nodup_paths {l : List BItem} (h : l.Pairwise ltp) : l.Nodup := by
 refine List.Pairwise.imp ?_ h
 intro a b hab e
 subst e
 exact absurd hab (by simp [ltp, lt_irrefl])
theorem put_perm2 {l t : List BItem} {x : BItem} (h : TreePut l x = some t) : VT l ∧ VT t ∧ l5Item x = true ∧ t.Perm (x :: l.filter (fun y => decide (y.path ≠ x.path))) := by
 unfold TreePut at h
 split at h
 ·rename_i hc
  simp only [Bool.and_eq_true] at hc
  have hv := tvalid_iff.1 hc.1
  simp at h
  obtain ⟨_, hp, rfl⟩ := h
  have hp := tvalid_iff.1 hp
  refine ⟨hv, hp, hc.2, ?_⟩
  have n1 := nodup_paths hp.asc
  have n2 : (x :: l.filter (fun y => decide (y.path ≠ x.path))).Nodup := by
   rw [List.nodup_cons]
   exact ⟨fun hm => by simpa using (List.mem_filter.1 hm).2, (nodup_paths hv.asc).sublist List.filter_sublist⟩
  rw [List.perm_ext_iff_of_nodup n1 n2]
  intro a
  rw [put_mem, List.mem_cons, List.mem_filter]
  simp
 ·cases h
theorem filter_none {l : List BItem} {p : Bs} (h : ∀ y, y ∈ l → y.path ≠ p) : l.filter (fun y => decide (y.path ≠ p)) = l := by
 rw [List.filter_eq_self]
 intro y hy
 simpa using h y hy
theorem filter_one {l : List BItem} (hs : l.Pairwise ltp) {x : BItem} (hx : x ∈ l) : l.Perm (x :: l.filter (fun y => decide (y.path ≠ x.path))) := by
 have n1 := nodup_paths hs
 have n2 : (x :: l.filter (fun y => decide (y.path ≠ x.path))).Nodup := by
  rw [List.nodup_cons]
  exact ⟨fun hm => by simpa using (List.mem_filter.1 hm).2, n1.sublist List.filter_sublist⟩
 rw [List.perm_ext_iff_of_nodup n1 n2]
 intro a
 rw [List.mem_cons, List.mem_filter]
 constructor
 ·intro ha
  by_cases e : a.path = x.path
  ·left
   obtain ⟨i, h1, h2⟩ := (uniq_at hs (p := x.path)).2.1 _ ha e
   obtain ⟨j, h3, h4⟩ := (uniq_at hs (p := x.path)).2.1 _ hx rfl
   rw [h1] at h3
   cases h3
   rw [h2] at h4
   exact Option.some.inj h4
  ·exact .inr ⟨ha, by simpa using e⟩
 ·rintro (rfl | ⟨h, _⟩)
  ·exact hx
  ·exact h
theorem ids_of_l11 {l : List BItem} (hs : l.Pairwise ltp) (p : Bs) : (l11Ids l p = [] ∧ ∀ y, y ∈ l → y.path = p → y.dir = true) ∨ ∃ x, x ∈ l ∧ x.path = p ∧ x.dir = false ∧ l11Ids l p = [x] := by
 unfold l11Ids
 cases e : atI l p with
 | none =>
  left
  refine ⟨rfl, fun y hy hp => ?_⟩
  obtain ⟨i, h1, _⟩ := (uniq_at hs (p := p)).2.1 _ hy hp
  rw [e] at h1; cases h1
 | some i =>
  obtain ⟨y, h1, h2⟩ := (uniq_at hs (p := p)).1 i e
  simp only [h1]
  cases hd : y.dir with
  | true =>
   left
   refine ⟨by simp, fun z hz hp => ?_⟩
   obtain ⟨j, g1, g2⟩ := (uniq_at hs (p := p)).2.1 _ hz hp
   rw [e] at g1
   cases g1
   rw [h1] at g2
   cases g2
   exact hd
  | false => exact .inr ⟨y, List.mem_of_getElem? h1, h2, hd, by simp⟩
theorem put_dir_no {l : List BItem} (hs : l.Pairwise ltp) {x y : BItem} (hy : y ∈ l) (hp : y.path = x.path) (hd : (y.dir || x.dir) = true) : TreePut l x = none := by
 obtain ⟨i, h1, h2⟩ := (uniq_at hs (p := x.path)).2.1 _ hy hp
 simp [TreePut, h1, h2, hd]
structure Hol (L : List BHeld) (t : List BItem) : Prop where
 vh : VH L
 vt : VT t
 ids : ∀ x, x ∈ t → l4Ids L x.ids = true
 le : ∀ a, (cntL t a : Int) ≤ us L a
theorem ids_keep {s s' : List BHeld} (hs : VH s) (hs' : VH s') {ids : List Int} (h : ∀ a, a ∈ ids → 0 < us s' a ∧ by_ s' a = by_ s a) (hl : l4Ids s ids = true) : l4Ids s' ids = true := by
 refine ids_true (fun j hj => ?_) (ids_le hl)
 have hz : ids[j]? = some ids[j] := List.getElem?_eq_getElem hj
 have h1 : idsOk s ids j = true := by
  simp only [l4Ids, Bool.and_eq_true] at hl
  exact List.all_eq_true.1 hl.1 j (by simpa using hj)
 have hp : (Sp.atH s ids[j]).isSome = true := by
  cases e : (Sp.atH s ids[j]).isSome with
  | true => rfl
  | false => rw [idsOk_no hz e] at h1; cases h1
 have h2 := h ids[j] (List.getElem_mem hj)
 rw [idsOk_get hz ((us_pos hs').1 h2.1)]
 rw [idsOk_get hz hp] at h1
 have h3 : (getH s' ids[j]).bytes = (getH s ids[j]).bytes := h2.2
 rw [h3]
 exact h1
theorem stored_ids {L s : List BHeld} (hV : VH L) {b : List Int} {ids : List Int} (hst : FileStore L b = some (s, ids)) : l4Ids s ids = true := by
 obtain ⟨hs, hlen, hsu, hsb⟩ := store_ok hV hst
 refine ids_true (fun j hj => ?_) ?_
 ·have hz : ids[j]? = some ids[j] := List.getElem?_eq_getElem hj
  have hp : 0 < us s ids[j] := by
   have := (hsu ids[j]).1
   have := us_nonneg hV ids[j]
   have := cnt1_pos.2 (List.getElem_mem hj)
   omega
  rw [idsOk_get hz ((us_pos hs).1 hp)]
  have h5 := hsb j _ hz
  have h6 : (l4Cut b)[j]? = some (chunk b j) := by
   have hj' : j < (l4Cut b).length := by omega
   unfold l4Cut at hj' ⊢
   simp at hj'
   simp [hj']
  rw [h6] at h5
  have h7 : (getH s ids[j]).bytes = chunk b j := Option.some.inj h5
  rw [h7, chunk_len]
  have h8 : ids.length = (b.length + 7) / 8 := by rw [hlen]; simp [l4Cut]
  by_cases hlt : j + 1 < ids.length
  ·have : ¬ (min (8 * j + 8) b.length - 8 * j < 8) := by omega
   simp [this]
  ·simp [hlt]
 ·have : (l4Cut b).length ≤ 4 := by
   unfold FileStore at hst
   split at hst
   ·rename_i hc
    simp only [Bool.and_eq_true] at hc
    have := file_len hc.2
    simp [l4Cut]
    omega
   ·cases hst
  omega
theorem write_ok {L : List BHeld} {l : List BItem} (hu : Hol L l) {p : Bs} {b : List Int} {s : List BHeld} {ids : List Int} (hst : FileStore L b = some (s, ids)) {t : List BItem} (hpt : TreePut l ⟨p, false, ids⟩ = some t) :
  ∃ s', (∀ o, l11Ids l p = [o] → FileFree s o.ids = some s') ∧ (l11Ids l p = [] → s' = s) ∧ l11Write ⟨L, l⟩ p b = some ⟨s', t⟩ ∧ Hol s' t ∧
   ∀ a, us s' a = us L a + (cntL t a : Int) - (cntL l a : Int) ∧ (0 < us s' a → by_ s' a = by_ s a) := by
 obtain ⟨hs, hlen, hsu, hsb⟩ := store_ok hu.vh hst
 obtain ⟨_, ht, hx, hperm⟩ := put_perm2 hpt
 have hstay : ∀ a, 0 < us L a → 0 < us s a ∧ by_ s a = by_ L a := fun a ha => by
  have := hsu a
  exact ⟨by omega, this.2 ha⟩
 have hids := stored_ids hu.vh hst
 have hold : ∀ x, x ∈ t → l4Ids s x.ids = true := fun x hxt => by
  rcases List.mem_cons.1 (hperm.mem_iff.1 hxt) with rfl | hm
  ·exact hids
  ·exact ids_stay hu.vh hs hstay (hu.ids x (List.mem_filter.1 hm).1)
 have hall : ∀ s', VH s' → (∀ a, 0 < cntL t a → 0 < us s' a ∧ by_ s' a = by_ s a) → ∀ x, x ∈ t → l4Ids s' x.ids = true := fun s' hs' hk x hxt =>
  ids_keep hs hs' (fun a ha => hk a (Nat.lt_of_lt_of_le (cnt1_pos.2 ha) (cntL_mem hxt a))) (hold x hxt)
 have hcount : ∀ a, cntL t a = cnt1 a ids + cntL (l.filter (fun y => decide (y.path ≠ p))) a := fun a => by rw [cntL_perm hperm, cntL_cons]
 rcases ids_of_l11 hu.vt.asc p with ⟨h0, hno⟩ | ⟨o, ho, hop, hod, h1⟩
 ·have hne : ∀ y, y ∈ l → y.path ≠ p := fun y hy hp => by
   have := put_dir_no hu.vt.asc (x := ⟨p, false, ids⟩) hy hp (by simp [hno y hy hp])
   rw [this] at hpt; cases hpt
  have hc2 : ∀ a, us s a = us L a + (cntL t a : Int) - (cntL l a : Int) := fun a => by
   rw [hcount, filter_none hne, (hsu a).1]
   omega
  have hle2 : ∀ a, (cntL t a : Int) ≤ us s a := fun a => by have := hc2 a; have := hu.le a; omega
  refine ⟨s, fun o ho => (by rw [h0] at ho; cases ho), fun _ => rfl, ?_, ⟨hs, ht, hall s hs (fun a ha => ⟨by have := hle2 a; omega, rfl⟩), hle2⟩, fun a => ⟨hc2 a, fun _ => rfl⟩⟩
  simp [l11Write, hst, hpt, h0, freeOld]
 ·have hfo := filter_one hu.vt.asc ho
  rw [hop] at hfo
  have hco : ∀ a, cntL l a = cnt1 a o.ids + cntL (l.filter (fun y => decide (y.path ≠ p))) a := fun a => by rw [cntL_perm hfo, cntL_cons]
  have hle : ∀ a, (cnt1 a o.ids : Int) ≤ us s a := fun a => by
   have := (hsu a).1
   have := hu.le a
   have := hco a
   omega
  obtain ⟨s', g1, g2, g3⟩ := free_ok hs (ids_stay hu.vh hs hstay (hu.ids o ho)) hle
  have hc2 : ∀ a, us s' a = us L a + (cntL t a : Int) - (cntL l a : Int) := fun a => by
   have := (hsu a).1
   have := hco a
   have := (g3 a).1
   have := hcount a
   omega
  have hle2 : ∀ a, (cntL t a : Int) ≤ us s' a := fun a => by have := hc2 a; have := hu.le a; omega
  refine ⟨s', fun o' ho' => (by rw [h1] at ho'; cases ho'; exact g1), fun h => (by rw [h1] at h; cases h), ?_, ⟨g2, ht, hall s' g2 (fun a ha => by
    have h5 := hle2 a
    exact ⟨by omega, (g3 a).2 (by omega)⟩), hle2⟩, fun a => ⟨hc2 a, (g3 a).2⟩⟩
  simp [l11Write, hst, hpt, h1, freeOld, g1]
theorem stored_item {L s : List BHeld} (hV : VH L) {p : Bs} (hp : PathValid p = true) {b : List Int} {ids : List Int} (hst : FileStore L b = some (s, ids)) : l5Item ⟨p, false, ids⟩ = true := by
 have h4 := stored_ids hV hst
 obtain ⟨hs, _⟩ := store_ok hV hst
 refine item_file hp (ids_le h4) (List.all_eq_true.2 fun a ha => ?_)
 have := (get_ok hs ((us_pos hs).1 (ids_in hs h4 ha))).1
 simp [idOk, l6In]
 omega
theorem free_nil {s : List BHeld} (h : VH s) : FileFree s [] = some s := by
 have : l4Ids s [] = true := ids_true (by simp) (by simp)
 simp [FileFree, valid_iff.2 h, this, foldB]
theorem write_fin {L : List BHeld} {l : List BItem} {T : Nd} {p : Bs} {b : List Int} {s : List BHeld} {ids : List Int} {nb : Nat} {T' : Nd} (hH : Hol L l) (hT : TOK T l) (hp : PathValid p = true) (hst : FileStore L b = some (s, ids))
  (hput : T.putN ⟨p, false, ids⟩ nb = some T') {fr : List Int} (hfr : (T.find p = none ∧ fr = []) ∨ ∃ d, T.find p = some d ∧ fr = d.ids) :
  ∃ s' t, FileFree s fr = some s' ∧ l11Write ⟨L, l⟩ p b = some ⟨s', t⟩ ∧ TOK T' t ∧ Hol s' t := by
 have hx := stored_item hH.vh hp hst
 obtain ⟨h1, h2⟩ := put_eq nb hT hx
 rw [hput] at h1
 obtain ⟨t, ht⟩ := Option.isSome_iff_exists.1 h1.symm
 have hT' := h2 T' hput
 rw [ht] at hT'
 obtain ⟨s', g1, g2, g3, g4, _⟩ := write_ok hH hst ht
 refine ⟨s', t, ?_, g3, hT', g4⟩
 have hs := (store_ok hH.vh hst).1
 have hfl := find_list hT p
 rcases hfr with ⟨hn, rfl⟩ | ⟨d, hd, rfl⟩
 ·rw [hn] at hfl
  have : l11Ids l p = [] := by
   unfold l11Ids
   cases e : atI l p with
   | none => rfl
   | some i =>
    rw [e] at hfl
    simp only [Option.map_none, Option.bind_some] at hfl
    simp only [← hfl]
  rw [g2 this]
  exact free_nil hs
 ·rw [hd] at hfl
  cases e : atI l p with
  | none => rw [e] at hfl; simp at hfl
  | some i =>
   rw [e] at hfl
   simp only [Option.map_some, Option.bind_some] at hfl
   have hl : l11Ids l p = if d.dir then [] else [⟨p, d.dir, d.ids⟩] := by
    unfold l11Ids
    simp only [e, ← hfl]
   cases hdd : d.dir with
   | true =>
    have := put_dir_no hH.vt.asc (x := ⟨p, false, ids⟩) (List.mem_of_getElem? hfl.symm) rfl (by simp [hdd])
    rw [this] at ht; cases ht
   | false =>
    rw [hdd] at hl
    exact g1 _ hl
theorem write_nop {L : List BHeld} {l : List BItem} {p : Bs} {b : List Int} (hp : PathValid p = false) : l11Write ⟨L, l⟩ p b = none := by
 unfold l11Write
 cases FileStore L b with
 | none => rfl
 | some r =>
  have : TreePut l ⟨p, false, r.2⟩ = none := by simp [TreePut, l5Item, hp]
  simp [this]
theorem write_no2 {L : List BHeld} {l : List BItem} {T : Nd} {p : Bs} {b : List Int} {s : List BHeld} {ids : List Int} {nb : Nat} (hH : Hol L l) (hT : TOK T l) (hp : PathValid p = true) (hst : FileStore L b = some (s, ids))
  (hput : (T.putN ⟨p, false, ids⟩ nb).isSome = false) : l11Write ⟨L, l⟩ p b = none := by
 have h1 := (put_eq nb hT (stored_item hH.vh hp hst)).1
 rw [hput] at h1
 have : TreePut l ⟨p, false, ids⟩ = none := by simpa using h1.symm
 simp [l11Write, hst, this]
end Sp
namespace Sp
open Go Fw Fw.Nd
def readF (L : List BHeld) (l : List BItem) (p : Bs) : Option (List Int) := match l11Ids l p with
 | [] => none
 | o :: _ => some (load L o.ids)
def readN (L : List BHeld) (t : Nd) (p : Bs) : Option (List Int) := match t.find p with
 | none => none
 | some d => if d.dir then none else if l4Ids L d.ids then some (load L d.ids) else none
theorem read_eq {L : List BHeld} {l : List BItem} {T : Nd} (hids : ∀ x, x ∈ l → l4Ids L x.ids = true) (hT : TOK T l) (p : Bs) : readN L T p = readF L l p := by
 have hfl := find_list hT p
 unfold readN readF l11Ids
 cases hf : T.find p with
 | none =>
  rw [hf] at hfl
  cases e : atI l p with
  | none => rfl
  | some i =>
   rw [e] at hfl
   simp only [Option.map_none, Option.bind_some] at hfl
   simp only [← hfl]
 | some d =>
  rw [hf] at hfl
  cases e : atI l p with
  | none => rw [e] at hfl; simp at hfl
  | some i =>
   rw [e] at hfl
   simp only [Option.map_some, Option.bind_some] at hfl
   have := hids _ (List.mem_of_getElem? hfl.symm)
   simp only at this
   simp only [← hfl]
   cases hd : d.dir <;> simp [this]
end Sp
namespace Sp
open Go Fw
end Sp
namespace Fw
open Go
def R1 (v v' : Value) : Prop := v' = v ∨ ∃ p q, v = .int .i64 p ∧ v' = .int .i64 q ∧ inI q
def GRel (G G' : PH) : Prop := ∀ b o v, PCell G b o v → ∃ v', PCell G' b o v' ∧ R1 v v'
def RL : List Value → List Value → Prop
 | [], [] => True
 | v :: r, v' :: r' => R1 v v' ∧ RL r r'
 | _, _ => False
theorem RL.len : ∀ {a b : List Value}, RL a b → b.length = a.length
 | [], [], _ => rfl
 | _ :: _, _ :: _, h => by simp [RL.len h.2]
 | [], _ :: _, h => h.elim
 | _ :: _, [], h => h.elim
theorem prow_rel {G G' : PH} (h : GRel G G') : ∀ (cs : List Value) (b o : Nat), PRow G b o cs → ∃ cs', PRow G' b o cs' ∧ RL cs cs'
 | [], b, o, _ => ⟨[], by intro j v h; simp at h, trivial⟩
 | c :: r, b, o, hr => by
  obtain ⟨c', h1, h2⟩ := h b o c (by simpa using hr 0 c rfl)
  obtain ⟨r', h3, h4⟩ := prow_rel h r b (o + 1) (fun j v hv => by
   have := hr (j + 1) v (by simpa using hv)
   rwa [show o + 1 + j = o + (j + 1) by omega])
  refine ⟨c' :: r', fun j v hv => ?_, h2, h4⟩
  cases j with
  | zero => simp at hv; subst hv; simpa using h1
  | succ j =>
   have := h3 j v (by simpa using hv)
   rwa [show o + (j + 1) = o + 1 + j by omega]
class StE {α : Type} (E : PH → α → List Value → Prop) : Prop where
 st : ∀ {G G' : PH} {x : α} {cs cs' : List Value}, GRel G G' → RL cs cs' → E G x cs → ∃ x', E G' x' cs'
theorem RdS.st {α : Type} {lim : Nat} {E : PH → α → List Value → Prop} [StE E] {sz : Nat} {G G' : PH} {v : Value} {xs : List α} (hg : GRel G G') (h : RdS lim E sz G v xs) : ∃ xs', xs'.length = xs.length ∧ RdS lim E sz G' v xs' := by
 obtain ⟨a, c, rfl, h2, h3, h4⟩ := h
 rcases h4 with rfl | ⟨b, o, rfl, h5⟩
 ·exact ⟨[], rfl, a, c, rfl, h2, h3, .inl rfl⟩
 ·have key : ∀ n, n ≤ xs.length → ∃ xs' : List α, xs'.length = n ∧ ∀ i x, xs'[i]? = some x → ∃ cs, cs.length = sz ∧ E G' x cs ∧ PRow G' b (o + i * sz) cs := by
   intro n
   induction n with
   | zero => intro _; exact ⟨[], rfl, by simp⟩
   | succ n ih =>
    intro hn
    obtain ⟨xs', k1, k2⟩ := ih (by omega)
    obtain ⟨cs, c1, c2, c3⟩ := h5 n xs[n] (by simp)
    obtain ⟨cs', d1, d2⟩ := prow_rel hg cs _ _ c3
    obtain ⟨x', hx'⟩ := StE.st hg d2 c2
    refine ⟨xs' ++ [x'], by simp [k1], fun i x hx => ?_⟩
    by_cases hi : i < n
    ·rw [List.getElem?_append_left (by omega)] at hx
     exact k2 i x hx
    ·rw [List.getElem?_append_right (by omega)] at hx
     have : i = n := by
      have := (List.getElem?_eq_some_iff.1 hx).1
      simp at this
      omega
     subst this
     simp [k1] at hx
     subst hx
     exact ⟨cs', by rw [d2.len]; exact c1, hx', d1⟩
  obtain ⟨xs', k1, k2⟩ := key xs.length (Nat.le_refl _)
  exact ⟨xs', k1, some ⟨b, o, none⟩, c, by rw [k1], by omega, by omega, .inr ⟨b, o, rfl, k2⟩⟩
theorem r1_int {p : Int} {v' : Value} (h : R1 (.int .i64 p) v') (hp : inI p) : ∃ q, v' = .int .i64 q ∧ inI q := by
 rcases h with rfl | ⟨_, q, _, rfl, hq⟩
 ·exact ⟨p, rfl, hp⟩
 ·exact ⟨q, rfl, hq⟩
theorem r1_slice {a : Option Addr} {m c : Nat} {v' : Value} (h : R1 (.slice a m c) v') : v' = .slice a m c := by
 rcases h with rfl | ⟨_, _, h, _⟩
 ·rfl
 ·cases h
theorem r1_str {s : Bs} {v' : Value} (h : R1 (str s) v') : v' = str s := by
 rcases h with rfl | ⟨_, _, h, _⟩
 ·rfl
 ·cases h
theorem r1_bool {b : Bool} {v' : Value} (h : R1 (.bool b) v') : v' = .bool b := by
 rcases h with rfl | ⟨_, _, h, _⟩
 ·rfl
 ·cases h
theorem rl1 {a : Value} {cs' : List Value} (h : RL [a] cs') : ∃ u, cs' = [u] ∧ R1 a u := by
 rcases cs' with _ | ⟨u, _ | ⟨z, r⟩⟩
 ·exact h.elim
 ·exact ⟨u, rfl, h.1⟩
 ·exact h.2.elim
theorem intE_st {G' : PH} {x : Int} {cs' : List Value} (hi : inI x) (hr : RL [.int .i64 x] cs') : ∃ x', intE G' x' cs' := by
 obtain ⟨u, rfl, k1⟩ := rl1 hr
 obtain ⟨q, rfl, hq⟩ := r1_int k1 hi
 exact ⟨q, rfl, hq⟩
instance : StE intE := ⟨fun {_ _ x cs cs'} _ hr h => by
 obtain ⟨h1, h2⟩ := h
 rw [h1] at hr
 exact intE_st h2 hr⟩
theorem rl3 {a b c : Value} {cs' : List Value} (h : RL [a, b, c] cs') : ∃ u v w, cs' = [u, v, w] ∧ R1 a u ∧ R1 b v ∧ R1 c w := by
 rcases cs' with _ | ⟨u, _ | ⟨v, _ | ⟨w, _ | ⟨z, r⟩⟩⟩⟩
 ·exact h.elim
 ·exact h.2.elim
 ·exact h.2.2.elim
 ·exact ⟨u, v, w, rfl, h.1, h.2.1, h.2.2.1⟩
 ·exact h.2.2.2.elim
theorem heldE_st {G G' : PH} {x : BHeld} {a : Option Addr} {m c : Nat} {u v w : Value} (hg : GRel G G') (h1 : inI x.id) (h2 : RdI G (.slice a m c) x.bytes) (h3 : inI x.uses)
  (k1 : R1 (.int .i64 x.id) u) (k2 : R1 (.slice a m c) v) (k3 : R1 (.int .i64 x.uses) w) : ∃ x', heldE G' x' [u, v, w] := by
 obtain ⟨p, rfl, hp⟩ := r1_int k1 h1
 obtain ⟨q, rfl, hq⟩ := r1_int k3 h3
 have e := r1_slice k2
 subst e
 obtain ⟨ys, _, hy⟩ := RdS.st hg h2
 exact ⟨⟨p, ys, q⟩, a, m, c, rfl, hp, hy, hq⟩
instance : StE heldE := ⟨fun {_ _ x cs cs'} hg hr h => by
 obtain ⟨a, m, c, rfl, h1, h2, h3⟩ := h
 obtain ⟨u, v, w, rfl, k1, k2, k3⟩ := rl3 hr
 exact heldE_st hg h1 h2 h3 k1 k2 k3⟩
instance : StE itemE := ⟨fun {_ _ x cs cs'} hg hr h => by
 obtain ⟨a, m, c, rfl, h1, h2⟩ := h
 obtain ⟨u, v, w, rfl, k1, k2, k3⟩ := rl3 hr
 obtain rfl := r1_str k1
 obtain rfl := r1_bool k2
 obtain rfl := r1_slice k3
 obtain ⟨ys, _, hy⟩ := h2.st hg
 exact ⟨⟨x.path, x.dir, ys⟩, a, m, c, rfl, h1, hy⟩⟩
section
variable {w0 w : World} {G0 G : PH} {S : List Nat} {B : List Res}
end
section ops
variable {P : Program} {n : Nat} {ops : Array Oper} {Q : Post} {rest : List Oper} {L : Slots} {ds : List Deferred} {w w0 : World} {G0 : PH} {S : List Nat} {G : PH} {B : List Res}
variable {ty : TypeId} {ps : String} {af : Array Edge}
end ops
def Mine (w0 : World) (G : PH) (v : Value) : Prop := ∀ b o m c, v = .slice (some ⟨b, o, none⟩) m c → w0.heap.size ≤ b ∧ ∃ l e, G b = some (cl l e)
theorem Mine.up {w0 : World} {G G' : PH} {v : Value} (h : Mine w0 G v) (hle : PLe G G') : Mine w0 G' v := fun b o m c e => by
 obtain ⟨h1, l, e, h2⟩ := h b o m c e
 exact ⟨h1, l, e, hle _ _ h2⟩
theorem Mine.nil {w0 : World} {G : PH} : Mine w0 G (.slice none 0 0) := fun b o m c e => by simp at e
section
variable {w0 w : World} {G0 G : PH} {B : List Res}
end
section ops
variable {P : Program} {n : Nat} {ops : Array Oper} {Q : Post} {rest : List Oper} {L : Slots} {ds : List Deferred} {w w0 : World} {G0 : PH} {S : List Nat} {G : PH} {B : List Res}
variable {ty : TypeId} {ps : String} {af : Array Edge}
end ops
theorem PLe.none {G : PH} : PLe (fun _ => none) G := fun _ _ h => by cases h
section ops
variable {P : Program} {n : Nat} {ops : Array Oper} {Q : Post} {rest : List Oper} {L : Slots} {ds : List Deferred} {w : World} {ty : TypeId} {ps : String} {af : Array Edge}
end ops
end Fw
namespace Sp
open Fw
open Nd
section
variable {v u : BVol} {p : Bs} {b : List Int}
end
end Sp
namespace Fw
open Go
section
variable {P : Program} {n : Nat} {ops : Array Oper} {Q : Post} {rest : List Oper} {L : Slots} {ds : List Deferred} {w : World}
variable {ty : TypeId} {ps : String} {af : Array Edge}
theorem o_makefn2 {d : Nat} {f : FuncId} {x y : Operand} {v u : Value} (hd : Nat.blt d n = true) (hx : od L x = some v) (hy : od L y = some u)
  (next : R P n ops Q rest ((d, .func (.func f) #[] #[v, u]) :: L) ds w) : R P n ops Q (⟨some d, .makeFunc (.func f) #[] #[x, y], ty, ps, af, none⟩ :: rest) L ds w :=
 R_run hd (fun a ha => by simp [execOp, Instr.makeFunc, ha.eval hx, ha.eval hy]) next
theorem o_callc2 {d : Nat} {f : FuncId} {c : Operand} {xs : List Operand} {ts : Array TypeId} {vs : List Value} {cv cu : Value} {C : Ending → World → Prop} (hf : ∀ args w, (callFunc f args).run P w = .ok (.enter f args) w) (hd : Nat.blt d n = true)
  (hc0 : od L c = some (.func (.func f) #[] #[cv, cu])) (hx : ods L xs = some vs) (hc : Calls P f (vs ++ [cv, cu]).toArray w C) (next : ∀ e w', C e w' → ∃ v, e = .returned v ∧ R P n ops Q rest ((d, v) :: L) ds w') :
  R P n ops Q (⟨some d, .call ⟨.value c, xs.toArray, ts⟩, ty, ps, af, none⟩ :: rest) L ds w := by
 intro a ha
 refine wpList_plain rfl fun K hK => ?_
 have e : xs.map a.eval = vs := ha.evals xs vs hx
 have hr : (execOp a.eval ⟨some d, .call ⟨.value c, xs.toArray, ts⟩, ty, ps, af, none⟩).run P w = .ok (.enter f (vs ++ [cv, cu]).toArray) w := by
  simp [execOp, resolve, invoke, ha.eval hc0, Deferred.ofValue, e, hf]
 unfold Oper.wp
 rw [hr, Oper.upon_enter]
 refine hc.mono fun e w' hC => ?_
 obtain ⟨v, rfl, h⟩ := next e w' hC
 exact hK _ _ (h _ (ha.put hd v))
end
end Fw
namespace Sp
open Fw Nd
def trees (d : BDisk) : List (List BItem) := d.tree :: d.snaps.map (·.tree)
def cntD (ts : List (List BItem)) (a : Int) : Nat := (ts.map (fun t => cntL t a)).sum
theorem cntD_cons (t : List BItem) (ts : List (List BItem)) (a : Int) : cntD (t :: ts) a = cntL t a + cntD ts a := by simp [cntD]
theorem cntD_mem {ts : List (List BItem)} {t : List BItem} (h : t ∈ ts) (a : Int) : cntL t a ≤ cntD ts a := by
 induction ts with
 | nil => cases h
 | cons y r ih =>
  rw [cntD_cons]
  rcases List.mem_cons.1 h with rfl | h
  ·omega
  ·have := ih h; omega
theorem cntD_zero {ts : List (List BItem)} {a : Int} (h : ∀ t, t ∈ ts → ∀ x, x ∈ t → a ∉ x.ids) : cntD ts a = 0 := by
 induction ts with
 | nil => rfl
 | cons y r ih => rw [cntD_cons, ih (fun t ht => h t (by simp [ht])), cntL_zero (h y (by simp))]
theorem cntD_le {ts : List (List BItem)} (h : ∀ t, t ∈ ts → VT t) (a : Int) : cntD ts a ≤ 48 * ts.length := by
 induction ts with
 | nil => simp [cntD]
 | cons y r ih =>
  rw [cntD_cons, List.length_cons]
  have h1 := ih (fun t ht => h t (by simp [ht]))
  have h2 := l11Count_le (id := a) (tvalid_iff.2 (h y (by simp)))
  rw [l11Count_eq] at h2
  omega
theorem l12Count_eq (d : BDisk) (a : Int) : l12Count d a = cntD (trees d) a := by
 simp [l12Count, cntS, trees, l11Count_eq, cntD, Function.comp_def]
structure DHol (L : List BHeld) (ts : List (List BItem)) : Prop where
 vh : VH L
 vt : ∀ t, t ∈ ts → VT t
 ids : ∀ t, t ∈ ts → ∀ x, x ∈ t → l4Ids L x.ids = true
 use : ∀ a, us L a = (cntD ts a : Int)
def NamesOK (l : List BSnap) : Prop := l.length ≤ 6 ∧ ∀ (k : Nat) (s : BSnap), l[k]? = some s → l1Word s.name = true ∧ (k : Int) ≤ l12At l s.name
theorem dd_iff {d : BDisk} : DiskValid d = true ↔ NamesOK d.snaps ∧ DHol d.store (trees d) := by
 rw [dv_parts, valid_iff, tvalid_iff]
 have hf : ∀ l : List BItem, l11Files d.store l = true ↔ ∀ x, x ∈ l → l4Ids d.store x.ids = true := fun l => by
  unfold l11Files
  rw [List.all_eq_true]
  exact Iff.rfl
 constructor
 ·rintro ⟨h1, h2, h3, h4, ⟨h5, h6⟩, h7⟩
  have hi : ∀ t, t ∈ trees d → ∀ x, x ∈ t → l4Ids d.store x.ids = true := fun t ht => by
   rcases List.mem_cons.1 ht with rfl | ht
   ·exact (hf _).1 h5
   ·obtain ⟨s, hs, rfl⟩ := List.mem_map.1 ht
    obtain ⟨k, hk⟩ := List.getElem?_of_mem hs
    exact (hf _).1 (h6 k s hk)
  refine ⟨⟨h3, fun k s hs => ⟨(h4 k s hs).1, (h4 k s hs).2.1⟩⟩, ⟨h1, fun t ht => ?_, hi, fun a => ?_⟩⟩
  ·rcases List.mem_cons.1 ht with rfl | ht
   ·exact h2
   ·obtain ⟨s, hs, rfl⟩ := List.mem_map.1 ht
    obtain ⟨k, hk⟩ := List.getElem?_of_mem hs
    exact tvalid_iff.1 (h4 k s hk).2.2
  ·by_cases ha : a ∈ d.store.map (·.id)
   ·obtain ⟨h, hh, rfl⟩ := List.mem_map.1 ha
    have := List.all_eq_true.1 h7 h hh
    simp only [usesD, decide_eq_true_eq, l12Count_eq] at this
    rw [this, us, getH_mem h1.nd hh]
   ·rw [us, getH_not ha, cntD_zero]
    ·rfl
    ·intro t ht x hx hax
     have := ids_in h1 (hi t ht x hx) hax
     rw [us, getH_not ha] at this
     exact absurd this (by simp)
 ·rintro ⟨⟨h3, h4⟩, ⟨h1, h2, hi, hu⟩⟩
  have hm : ∀ (k : Nat) (s : BSnap), d.snaps[k]? = some s → s.tree ∈ trees d := fun k s hs => List.mem_cons.2 (.inr (List.mem_map.2 ⟨s, List.mem_of_getElem? hs, rfl⟩))
  refine ⟨h1, h2 _ (by simp [trees]), h3, fun k s hs => ⟨(h4 k s hs).1, (h4 k s hs).2, tvalid_iff.2 (h2 _ (hm k s hs))⟩, ⟨(hf _).2 (hi _ (by simp [trees])), fun k s hs => (hf _).2 (hi _ (hm k s hs))⟩, List.all_eq_true.2 fun h hh => ?_⟩
  simp only [usesD, decide_eq_true_eq, l12Count_eq]
  rw [← hu, us, getH_mem h1.nd hh]
def DiskWrite (d : BDisk) (p : Bs) (b : List Int) : Option BDisk := if DiskValid d && FileValid b then (l11Write ⟨d.store, d.tree⟩ p b).map (fun v => ⟨v.store, v.tree, d.snaps⟩) else none
theorem at_some {l : List BSnap} {n : Bs} {i : Nat} (h : atS l n = some i) : ∃ s, l[i]? = some s ∧ s.name = n ∧ i < l.length ∧ ∀ j s', j < i → l[j]? = some s' → s'.name ≠ n := by
 obtain ⟨h1, h2, h3⟩ := List.findIdx?_eq_some_iff_getElem.1 h
 refine ⟨l[i], by simp [h1], by simpa using h2, h1, fun j s' hj hs e => ?_⟩
 have := h3 j hj
 obtain ⟨hj2, hs2⟩ := List.getElem?_eq_some_iff.1 hs
 rw [hs2] at this
 simp [e] at this
section
variable {d d1 : BDisk} {n : Bs}
theorem snap_in {i : Nat} {s : BSnap} (h : d.snaps[i]? = some s) : s.tree ∈ trees d := List.mem_cons.2 (.inr (List.mem_map.2 ⟨s, List.mem_of_getElem? h, rfl⟩))
theorem DHol.le {L : List BHeld} {ts : List (List BItem)} (h : DHol L ts) (hl : ts.length ≤ 7) (a : Int) : us L a ≤ 336 := by
 have := h.use a
 have := cntD_le h.vt a
 omega
theorem DHol.perm {L : List BHeld} {ts us' : List (List BItem)} (h : DHol L ts) (hp : ts.Perm us') : DHol L us' :=
 ⟨h.vh, fun t ht => h.vt t (hp.mem_iff.2 ht), fun t ht => h.ids t (hp.mem_iff.2 ht), fun a => by rw [h.use a]; exact congrArg _ ((hp.map _).sum_nat)⟩
end
end Sp
namespace Sp
open Fw
theorem free_len (s : List BHeld) (ids : List Int) : ((FileFree s ids).getD []).length ≤ s.length := by
 cases e : FileFree s ids with
 | none => simp
 | some r =>
  unfold FileFree at e
  split at e
  ·exact foldB_inv (P := fun r : List BHeld => r.length ≤ s.length) (f := StoreDrop) (fun a b a' h1 h2 => Nat.le_trans (drop_len h2) h1) _ _ _ (Nat.le_refl _) e
  ·cases e
end Sp
namespace Sp
open Fw Nd
theorem names_nodup {l : List BSnap} : (∀ (k : Nat) (s : BSnap), l[k]? = some s → (k : Int) ≤ l12At l s.name) ↔ (l.map (·.name)).Nodup := by
 constructor
 ·intro h
  rw [List.nodup_iff_pairwise_ne, List.pairwise_map, List.pairwise_iff_getElem]
  intro i j hi hj hij e
  have h1 := h j l[j] (by simp)
  simp only [l12At] at h1
  cases e2 : atS l l[j].name with
  | none => rw [e2] at h1; simp [optI] at h1; omega
  | some m =>
   rw [e2] at h1
   obtain ⟨_, _, _, _, h4⟩ := at_some e2
   simp only [optI] at h1
   exact h4 i l[i] (by omega) (by simp) e
 ·intro h k s hs
  obtain ⟨hk, hk2⟩ := List.getElem?_eq_some_iff.1 hs
  simp only [l12At]
  cases e2 : atS l s.name with
  | none =>
   have := List.findIdx?_eq_none_iff.1 e2 s (List.mem_of_getElem? hs)
   simp at this
  | some m =>
   obtain ⟨s', h1, h2, h3, _⟩ := at_some e2
   simp only [optI]
   by_cases hm : m < k
   ·rw [List.nodup_iff_pairwise_ne, List.pairwise_map, List.pairwise_iff_getElem] at h
    obtain ⟨_, h1'⟩ := List.getElem?_eq_some_iff.1 h1
    exact absurd (by rw [h1', hk2, h2]) (h m k h3 hk hm)
   ·omega
theorem namesOK_iff {l : List BSnap} : NamesOK l ↔ l.length ≤ 6 ∧ (∀ s, s ∈ l → l1Word s.name = true) ∧ (l.map (·.name)).Nodup := by
 rw [← names_nodup]
 constructor
 ·rintro ⟨h1, h2⟩
  refine ⟨h1, fun s hs => ?_, fun k s hs => (h2 k s hs).2⟩
  obtain ⟨k, hk⟩ := List.getElem?_of_mem hs
  exact (h2 k s hk).1
 ·rintro ⟨h1, h2, h3⟩
  exact ⟨h1, fun k s hs => ⟨h2 s (List.mem_of_getElem? hs), h3 k s hs⟩⟩
theorem NamesOK.sub {l m : List BSnap} (h : NamesOK l) (hs : m.Sublist l) : NamesOK m := by
 obtain ⟨h1, h2, h3⟩ := namesOK_iff.1 h
 exact namesOK_iff.2 ⟨Nat.le_trans hs.length_le h1, fun s hm => h2 s (hs.subset hm), (hs.map _).nodup h3⟩
section
variable {d d1 : BDisk} {n : Bs} {p : Bs} {b : List Int}
theorem split_at {α : Type} {l : List α} {i : Nat} {x : α} (h : l[i]? = some x) : l = l.take i ++ x :: l.drop (i + 1) := by
 have := List.take_append_drop i l
 rw [drop_at h] at this
 exact this.symm
theorem dwrite_get (h : DiskWrite d p b = some d1) : DiskValid d = true ∧ FileValid b = true ∧ ∃ v, l11Write ⟨d.store, d.tree⟩ p b = some v ∧ d1 = ⟨v.store, v.tree, d.snaps⟩ := by
 unfold DiskWrite at h
 split at h
 ·rename_i hc
  simp only [Bool.and_eq_true] at hc
  obtain ⟨v, h1, h2⟩ := Option.map_eq_some_iff.1 h
  exact ⟨hc.1, hc.2, v, h1, h2.symm⟩
 ·cases h
theorem DHol.hol {L : List BHeld} {t : List BItem} {ts : List (List BItem)} (h : DHol L (t :: ts)) : Hol L t :=
 ⟨h.vh, h.vt t (by simp), h.ids t (by simp), fun a => by have := h.use a; rw [cntD_cons] at this; omega⟩
theorem dwrite_valid (h : DiskWrite d p b = some d1) : DiskValid d1 = true := by
 obtain ⟨hd, hb, v, hv, rfl⟩ := dwrite_get h
 obtain ⟨hN, hH⟩ := dd_iff.1 hd
 refine dd_iff.2 ⟨hN, ?_⟩
 show DHol v.store (v.tree :: d.snaps.map (·.tree))
 unfold l11Write at hv
 split at hv
 ·cases hv
 ·rename_i r hst
  obtain ⟨s, ids⟩ := r
  split at hv
  ·cases hv
  ·rename_i t ht
   obtain ⟨s', _, _, g1, g2, g3⟩ := write_ok (DHol.hol (ts := d.snaps.map (·.tree)) hH) hst ht
   obtain ⟨_, _, hsu, _⟩ := store_ok hH.vh hst
   have hv' : l11Write ⟨d.store, d.tree⟩ p b = some v := by
    simp only [l11Write, hst, ht]
    exact hv
   rw [g1] at hv'
   cases hv'
   have hu : ∀ a, us s' a = (cntD (t :: d.snaps.map (·.tree)) a : Int) := fun a => by
    have h1 := hH.use a
    have h2 : us s' a = us d.store a + (cntL t a : Int) - (cntL d.tree a : Int) := (g3 a).1
    simp only [trees, cntD_cons] at h1
    rw [cntD_cons]
    omega
   refine ⟨g2.vh, fun u hu2 => ?_, fun u hu2 x hx => ?_, hu⟩
   ·rcases List.mem_cons.1 hu2 with rfl | hu2
    ·exact g2.vt
    ·exact hH.vt u (List.mem_cons.2 (.inr hu2))
   ·rcases List.mem_cons.1 hu2 with rfl | hu2
    ·exact g2.ids x hx
    ·refine ids_keep hH.vh g2.vh (fun a ha => ?_) (hH.ids u (List.mem_cons.2 (.inr hu2)) x hx)
     have h1 : 0 < cnt1 a x.ids := cnt1_pos.2 ha
     have h2 := cntL_mem hx a
     have h3 := cntD_mem hu2 a
     have h4 := hu a
     rw [cntD_cons] at h4
     have h5 : 0 < us s' a := by omega
     have h6 := hH.use a
     simp only [trees, cntD_cons] at h6
     exact ⟨h5, ((g3 a).2 h5).trans ((hsu a).2 (by omega))⟩
end
end Sp
namespace Fw
open Go
section ops
variable {P : Program} {n : Nat} {ops : Array Oper} {Q : Post} {rest : List Oper} {L : Slots} {ds : List Deferred} {w w0 : World} {G0 : PH} {S : List Nat} {G : PH} {B : List Res}
variable {ty : TypeId} {ps : String} {af : Array Edge}
end ops
theorem All2.del {α β : Type} {R : α → β → Prop} {l : List α} {m : List β} (h : All2 R l m) : ∀ (i : Nat), All2 R (l.take i ++ l.drop (i + 1)) (m.take i ++ m.drop (i + 1)) := by
 induction h with
 | nil => intro i; simp; exact .nil
 | cons h t ih =>
  intro i
  cases i with
  | zero => simpa using t
  | succ i => simpa using .cons h (ih i)
end Fw
namespace Fw
open Sp
theorem sn_at {xs : List (Bs × Nd)} {L : List BSnap} {n : Bs} (h : SnOK xs L) (hc : ¬ optI (xs.findIdx? (fun x => decide (x.1 = n))) < 0) :
  ∃ (i : Nat) (x : Bs × Nd) (s : BSnap), optI (xs.findIdx? (fun x => decide (x.1 = n))) = (i : Int) ∧ xs[i]? = some x ∧ L[i]? = some s ∧ atS L n = some i ∧ Nd.TOK x.2 s.tree ∧ i < xs.length := by
 have hf := sn_find h n
 cases e : xs.findIdx? (fun x => decide (x.1 = n)) with
 | none => rw [e] at hc; simp [optI] at hc
 | some i =>
  rw [e] at hf
  obtain ⟨h1, h2, h3⟩ := List.findIdx?_eq_some_iff_getElem.1 e
  obtain ⟨s, h4, h5⟩ := h.at (i := i) (x := xs[i]) (by simp)
  exact ⟨i, xs[i], s, rfl, by simp, h4, hf.symm, h5.2.1, h1⟩
end Fw
namespace Sp
open Fw
section
variable {d d1 : BDisk} {n : Bs} {p : Bs} {b : List Int}
theorem dwrite_isv (h : DiskWrite d p b = some d1) : DiskValid d = true := (dwrite_get h).1
theorem dk_lim {o : Option BDisk} (h : ∀ d1, o = some d1 → DiskValid d1 = true) : ((o.map (·.snaps)).getD []).length ≤ 6 := by
 cases o with
 | none => simp
 | some d1 => exact (dv_parts.1 (h d1 rfl)).2.2.1
end
end Sp
namespace Sp
open Fw
end Sp
namespace Sp
open Fw
theorem freeOld_len (s : List BHeld) (l : List BItem) : (freeOld s l).length ≤ s.length := by
 cases l with
 | nil => exact Nat.le_refl _
 | cons x r => exact free_len s x.ids
theorem l11Write_slen (v : BVol) (p : Bs) (b : List Int) : (((l11Write v p b).map (·.store)).getD []).length ≤ 16 := by
 have h := fileStore_len v.store b
 unfold l11Write
 cases e : FileStore v.store b with
 | none => simp
 | some r =>
  rw [e] at h
  simp only [Option.map_some, Option.getD_some] at h
  have h2 := freeOld_len r.1 (l11Ids v.tree p)
  cases e2 : TreePut v.tree ⟨p, false, r.2⟩ with
  | none => simp [e2]
  | some t => simp [e2]; omega
end Sp
namespace Sp
open Fw
end Sp
namespace Fw
open Go
theorem cnt_bound {α : Type} {c : α → Nat} {K : Nat} : ∀ {l : List α}, (∀ x, x ∈ l → c x ≤ K) → cnt c l ≤ K * l.length
 | [], _ => by simp [cnt]
 | x :: r, h => by
  have h1 := h x (by simp)
  have h2 := cnt_bound (l := r) (fun y hy => h y (by simp [hy]))
  have : cnt c (x :: r) = c x + cnt c r := by simp [cnt]
  rw [this, List.length_cons, Nat.mul_add]
  omega
theorem cnt_ints (l : List Int) : cnt cI l ≤ l.length := by
 have := cnt_bound (c := cI) (K := 1) (l := l) (fun _ _ => Nat.le_refl _)
 omega
theorem held_cnt {L : List BHeld} (h : Sp.VH L) : cnt cHeld L ≤ 160 := by
 have h1 : ∀ x, x ∈ L → cHeld x ≤ 10 := fun x hx => by
  have := (Sp.bv_len (h.ok x hx).2.1).2
  have := cnt_ints x.bytes
  unfold cHeld
  omega
 have := cnt_bound h1
 have := h.len
 omega
theorem tree_cnt {t : List BItem} (h : Sp.VT t) : cnt cItem t ≤ 72 := by
 have h1 : ∀ x, x ∈ t → cItem x ≤ 6 := fun x hx => by
  obtain ⟨k, hk⟩ := List.getElem?_of_mem hx
  have := (Sp.tree_at (Sp.tvalid_iff.2 h) hk).2
  have := cnt_ints x.ids
  unfold cItem
  omega
 have := cnt_bound h1
 have := h.len
 omega
theorem disk_cnt {d : BDisk} (h : Sp.DiskValid d = true) : cDisk d ≤ 700 := by
 obtain ⟨hN, hH⟩ := Sp.dd_iff.1 h
 have h1 := held_cnt hH.vh
 have h2 := tree_cnt (hH.vt d.tree (by simp [Sp.trees]))
 have h3 : ∀ s, s ∈ d.snaps → cSnap s ≤ 73 := fun s hs => by
  have := tree_cnt (hH.vt s.tree (List.mem_cons.2 (.inr (List.mem_map.2 ⟨s, hs, rfl⟩))))
  unfold cSnap
  omega
 have h4 := cnt_bound h3
 have h5 := hN.1
 unfold cDisk
 omega
end Fw
namespace Fw
open Go
theorem dk_cnt {o : Option BDisk} (h : ∀ d1, o = some d1 → Sp.DiskValid d1 = true) : cDisk (o.getD ⟨[], [], []⟩) ≤ 700 := by
 cases o with
 | none => simp [cDisk, cnt]
 | some d1 => exact disk_cnt (h d1 rfl)
end Fw
namespace Sp
open Fw Nd
def SnapRead (d : BDisk) (n p : Bs) : Option (List Int) := match atS d.snaps n with
 | none => none
 | some i => if DiskValid d then readF d.store (((d.snaps[i]?).map (·.tree)).getD []) p else none
end Sp
namespace Sp
open Fw Nd
theorem snapread_noat {d : BDisk} {n p : Bs} (h : optI (atS d.snaps n) < 0) : SnapRead d n p = none := by
 cases e : atS d.snaps n with
 | none => unfold SnapRead; rw [e]
 | some i => rw [e] at h; simp only [optI] at h; omega
theorem snapread_nov {d : BDisk} {n p : Bs} (h : DiskValid d = false) : SnapRead d n p = none := by
 unfold SnapRead
 split
 ·rfl
 ·simp [h]
theorem snapread_eq {d : BDisk} (hd : DiskValid d = true) {n p : Bs} {i : Nat} {s : BSnap} {T : Nd} (hi : atS d.snaps n = some i) (hs : d.snaps[i]? = some s) (hT : TOK T s.tree) : SnapRead d n p = readN d.store T p := by
 obtain ⟨_, hH⟩ := dd_iff.1 hd
 rw [read_eq (hH.ids s.tree (snap_in hs)) hT]
 unfold SnapRead
 rw [hi]
 simp only [hd, if_true, hs, Option.map_some, Option.getD_some]
end Sp
namespace Sp
open Fw
end Sp
namespace Fw
open Go
section
variable {P : Program} {n : Nat} {Q : Post} {L : Slots} {ds : List Deferred} {w : World}
def JP (n : Nat) (ds : List Deferred) (Lf : Slots) (J : Slots → World → Prop) : Post := fun e a w => e = .normal ∧ ∃ M, FrL n (M ++ Lf) ds a ∧ J M w
theorem W_join {x y : Code} (Lf : Slots) (J : Slots → World → Prop) (hf : Sub Lf L) (first : W P n (JP n ds Lf J) x L ds w) (second : ∀ M w, J M w → W P n Q y (M ++ Lf) ds w) : W P n Q (.seq x y) L ds w :=
 W_seq (fun a ha => wp_mono (first a ha) (fun e a' w' hq => by
  obtain ⟨he, M, hF, hJ⟩ := hq
  subst he
  exact second M w' hJ a' hF))
theorem N_J {Lf : Slots} {J : Slots → World → Prop} {M : Slots} (hJ : J M w) (hM : Sub M L := by (repeat (first | exact Sub.nil | refine Sub.cons rfl ?_))) (hf : Sub Lf L := by (repeat (first | exact Sub.nil | refine Sub.cons rfl ?_))) : N n (JP n ds Lf J) .normal L ds w :=
 fun _ ha => ⟨rfl, M, ha.sub (hM.app hf), hJ⟩
end
end Fw
namespace Sp
open Fw Nd
def HistoryBack (d : BDisk) (s p : Bs) : Option BDisk := match SnapRead d s p with
 | none => none
 | some b => DiskWrite d p b
theorem readF_get {L : List BHeld} {l : List BItem} {p : Bs} {b : List Int} (h : readF L l p = some b) : ∃ x, x ∈ l ∧ x.path = p ∧ x.dir = false ∧ l11Ids l p = [x] ∧ b = load L x.ids := by
 unfold readF at h
 cases e : l11Ids l p with
 | nil => rw [e] at h; cases h
 | cons o r =>
  rw [e] at h
  have hl := e
  unfold l11Ids at e
  split at e
  ·rename_i i hi
   split at e
   ·rename_i x hx
    split at e
    ·cases e
    ·rename_i hd
     simp only [List.cons.injEq] at e
     obtain ⟨rfl, rfl⟩ := e
     have hp := List.findIdx?_eq_some_iff_getElem.1 hi
     obtain ⟨h1, h2, _⟩ := hp
     rw [List.getElem?_eq_getElem h1] at hx
     simp only [Option.some.injEq] at hx
     refine ⟨x, hx ▸ List.getElem_mem h1, ?_, by simpa using hd, rfl, ?_⟩
     ·rw [← hx]; simpa using h2
     ·simp only [Option.some.injEq] at h
      exact h.symm
   ·cases e
  ·cases e
theorem hist_get {d d1 : BDisk} {s p : Bs} (h : HistoryBack d s p = some d1) : ∃ b, SnapRead d s p = some b ∧ DiskWrite d p b = some d1 := by
 unfold HistoryBack at h
 split at h
 ·cases h
 ·rename_i b e
  exact ⟨b, e, h⟩
theorem snap_get {d : BDisk} {s p : Bs} {b : List Int} (h : SnapRead d s p = some b) : DiskValid d = true ∧ ∃ (t : List BItem) (x : BItem), t ∈ trees d ∧ x ∈ t ∧ b = load d.store x.ids := by
 unfold SnapRead at h
 split at h
 ·cases h
 ·rename_i i e
  split at h
  ·rename_i hd
   obtain ⟨q, h1, _, _⟩ := at_some e
   simp only [h1, Option.map_some, Option.getD_some] at h
   obtain ⟨x, hx, _, _, _, hb⟩ := readF_get h
   exact ⟨hd, q.tree, x, snap_in h1, hx, hb⟩
  ·cases h
theorem hist_valid {d d1 : BDisk} {s p : Bs} (h : HistoryBack d s p = some d1) : DiskValid d1 = true := by
 obtain ⟨b, _, h2⟩ := hist_get h
 exact dwrite_valid h2
theorem ids_at {L : List BHeld} (hS : StoreValid L = true) {ids : List Int} (hl : l4Ids L ids = true) {k : Nat} {a : Int} (hk : ids[k]? = some a) : ∃ j : Nat, l3At L a = (j : Int) ∧ j < L.length ∧ L[j]? = some (getH L a) := by
 have hV := valid_iff.1 hS
 obtain ⟨i, h1, h2, _⟩ := get_some ((us_pos hV).1 (ids_in hV hl (List.mem_of_getElem? hk)))
 refine ⟨i, ?_, (List.getElem?_eq_some_iff.1 h2).1, h2⟩
 unfold l3At
 rw [h1]
 rfl
theorem l11_mem {l : List BItem} {p : Bs} {x : BItem} (h : x ∈ l11Ids l p) : x ∈ l := by
 unfold l11Ids at h
 split at h
 ·split at h
  ·rename_i y hy
   split at h
   ·cases h
   ·rw [List.mem_singleton.1 h]; exact List.mem_of_getElem? hy
  ·cases h
 ·cases h
theorem snap_ids {d : BDisk} (hd : DiskValid d = true) {i : Nat} {z : BSnap} (hz : d.snaps[i]? = some z) {p : Bs} {j : Nat} {x : BItem} (hx : (l11Ids z.tree p)[j]? = some x) : l4Ids d.store x.ids = true := by
 obtain ⟨_, hH⟩ := dd_iff.1 hd
 exact hH.ids z.tree (snap_in hz) x (l11_mem (List.mem_of_getElem? hx))
theorem dv_store {d : BDisk} (hd : DiskValid d = true) : StoreValid d.store = true := valid_iff.2 (dd_iff.1 hd).2.vh
theorem snapread_at {d : BDisk} (hd : DiskValid d = true) {n p : Bs} {i : Nat} {z : BSnap} (hi : atS d.snaps n = some i) (hz : d.snaps[i]? = some z) : SnapRead d n p = readF d.store z.tree p := by
 unfold SnapRead
 rw [hi]
 simp [hd, hz]
theorem snapread_nil {d : BDisk} (hd : DiskValid d = true) {n p : Bs} {i : Nat} {z : BSnap} (hi : atS d.snaps n = some i) (hz : d.snaps[i]? = some z) (h : (l11Ids z.tree p).length = 0) : SnapRead d n p = none := by
 rw [snapread_at hd hi hz]
 unfold readF
 rw [List.length_eq_zero_iff.1 h]
theorem snapread_one {d : BDisk} (hd : DiskValid d = true) {n p : Bs} {i : Nat} {z : BSnap} (hi : atS d.snaps n = some i) (hz : d.snaps[i]? = some z) {x : BItem} (h : (l11Ids z.tree p)[0]? = some x) : SnapRead d n p = some (load d.store x.ids) := by
 rw [snapread_at hd hi hz]
 unfold readF
 cases e : l11Ids z.tree p with
 | nil => rw [e] at h; cases h
 | cons o r =>
  rw [e] at h
  simp only [List.getElem?_cons_zero, Option.some.injEq] at h
  rw [h]
theorem snapread_len (d : BDisk) (n p : Bs) : ((SnapRead d n p).getD []).length ≤ 32 := by
 cases e : SnapRead d n p with
 | none => simp
 | some b =>
  obtain ⟨hd, t, x, ht, hx, rfl⟩ := snap_get e
  obtain ⟨_, hH⟩ := dd_iff.1 hd
  have h1 := load_len hH.vh x.ids
  have h2 := ids_le (hH.ids t ht x hx)
  simp only [Option.getD_some]
  omega
end Sp
namespace Sp
open Fw Nd
def ids (L : List BHeld) : List Int := L.map (·.id)
end Sp
namespace Fw
open Go
theorem nrm : (∀ (p : Prop) [Decidable p], (decide p = true) = p) ∧ (∀ (p : Prop) [Decidable p], (decide p = false) ↔ ¬p) ∧ (∀ {b : Bool}, ((!b) = true) = (b = false)) ∧ (∀ {b : Bool}, ((!b) = false) = (b = true)) ∧
  (∀ {a b : Bool}, ((!a) = b) ↔ (a = !b)) ∧ ((!true) = false) ∧ ((!false) = true) ∧ (∀ {a b : Int}, (¬ a < b) ↔ b ≤ a) ∧ (∀ {a b : Int}, (¬ a ≤ b) ↔ b < a) ∧ (∀ (x y : Bool), ((x && y) = true) = (x = true ∧ y = true)) ∧ (∀ (x y : Bool), ((x || y) = true) = (x = true ∨ y = true)) ∧
  (∀ (x y : Bool), ((x && y) = false) = (x = false ∨ y = false)) ∧ (∀ (x y : Bool), ((x || y) = false) = (x = false ∧ y = false)) ∧ (∀ {α : Type} [BEq α] [LawfulBEq α] {a b : α}, ((a == b) = true) ↔ a = b) ∧ (∀ {α : Type} [BEq α] [LawfulBEq α] {x y : α}, ((x == y) = false) ↔ x ≠ y) ∧ (∀ (b : Bool), decide (b = true) = b) := by
 refine ⟨?_, ?_, ?_, ?_, ?_, ?_, ?_, ?_, ?_, ?_, ?_, ?_, ?_, ?_, ?_, ?_⟩ <;> intros <;> first | rfl | (simp only [decide_eq_true_eq, decide_eq_false_iff_not, Bool.not_eq_true', Bool.not_eq_false', Bool.not_eq_eq_eq_not, Bool.not_true, Bool.not_false, Int.not_lt, Int.not_le, Bool.and_eq_true, Bool.or_eq_true, Bool.and_eq_false_iff, Bool.or_eq_false_iff, beq_iff_eq, beq_eq_false_iff_ne, Bool.decide_eq_true]) | simp
section
variable {P : Program} {n : Nat} {Q : Post} {L : Slots} {ds : List Deferred} {w : World} {ops : Array Oper} {y c : Code} {id : Nat} {l : List Oper}
theorem q1 (h : R P n l.toArray (K P y Q) l L ds w) : R P n ops (K P (.seq (.region id l.toArray false) y) Q) [] L ds w := R_nil (N_K (W_seq (W_region h)))
theorem q2 (h : R P n l.toArray (K P y Q) l L ds w) : W P n Q (.seq (.region id l.toArray false) y) L ds w := W_seq (W_region h)
theorem q3 (h : W P n Q c L ds w) : R P n ops (K P c Q) [] L ds w := R_nil (N_K h)
variable {d : Nat} {op : Op} {ty : TypeId} {ps : String} {af : Array Edge} {S : World → Prop} {f : Nat} {ls : Array Bool} {v : Value} {j : Nat} {b : Bool}
def rdy (l : List Oper) (ls : Array Bool) (i : Nat) : Bool := Region.noSelect l.toArray && Region.free .any l.toArray ls i && (Region.ready .any l.toArray ls).contains i
theorem RD_t (i : Nat) (hi : nth l i = some ⟨some d, op, ty, ps, af, none⟩) (hb : rdy l ls i = true) (hd : Nat.blt d n = true) (hv : ∀ w, S w → VAL P n L ds w ⟨some d, op, ty, ps, af, none⟩ v)
  (h : RD P n l Q S f (ls.setIfInBounds i true) ((d, v) :: L) ds w) : RD P n l Q S (f + 1) ls L ds w := by
 simp only [rdy, Bool.and_eq_true] at hb
 exact RD_take i hi hb.1.1 hb.1.2 hb.2 hd hv h
theorem RD_tg (i : Nat) (hi : nth l i = some ⟨some d, op, ty, ps, af, some (j, b)⟩) (hb : rdy l ls i = true) (hd : Nat.blt d n = true) (hy : ∀ a, FrL n L ds a → yielded l.toArray a.tmps j = some b) (hv : ∀ w, S w → VAL P n L ds w ⟨some d, op, ty, ps, af, none⟩ v)
  (h : RD P n l Q S f (ls.setIfInBounds i true) ((d, v) :: L) ds w) : RD P n l Q S (f + 1) ls L ds w := by
 simp only [rdy, Bool.and_eq_true] at hb
 exact RD_takeg i hi hb.1.1 hb.1.2 hb.2 hd hy hv h
end
theorem Z.{u} {α : Sort u} {a : α} : a = a := rfl
theorem kR {p : Prop} (h : p := by kernel_rfl) : p := h
theorem oM {p : Prop} (h : p := by omega) : p := h
theorem oO {a b : Prop} (h : (a ∧ b) := by exact ⟨by omega, by omega⟩) : a ∧ b := h
theorem aN {p : Prop} (h : p := by first | assumption | rfl | (simp; done) | (simp; omega) | omega) : p := h
def odl (n d : Nat) (L : Slots) (x : Operand) : Option Value := cond (Nat.blt d n) (od L x) none
theorem odl_some {n d : Nat} {L : Slots} {x : Operand} {v : Value} (h : odl n d L x = some v) : Nat.blt d n = true ∧ od L x = some v := by
 unfold odl at h
 cases e : Nat.blt d n with
 | true => rw [e] at h; exact ⟨rfl, h⟩
 | false => rw [e] at h; cases h
def passOk (n d : Nat) (l : List Oper) (L : Slots) (i : Nat) (c : Bool) : Bool := Nat.blt d n && match gs l i with
 | some t => (match lk L t with | some (.bool b) => !(b == c) | _ => false)
 | none => false
def guardOk (l : List Oper) (L : Slots) (i : Nat) (c : Bool) : Bool := match gs l i with
 | some t => (match lk L t with | some (.bool b) => (b == c) | _ => false)
 | none => false
section
variable {P : Program} {n : Nat} {Q : Post} {L : Slots} {ds : List Deferred} {w : World} {ops : Array Oper} {l rest : List Oper} {ty : TypeId} {ps : String} {af : Array Edge} {d : Nat} {x : Operand} {v : Value} {op : Op} {i : Nat} {b : Bool} {S : World → Prop} {f : Nat} {ls : Array Bool}
theorem mV (h : odl n d L x = some v) (next : R P n ops Q rest ((d, v) :: L) ds w) : R P n ops Q (⟨some d, .move x, ty, ps, af, none⟩ :: rest) L ds w := o_move (odl_some h).1 (odl_some h).2 next
theorem aG (h : odl n d L x = some v) (next : R P n ops Q rest ((d, v) :: L) ds w) : R P n ops Q (⟨some d, .assign x, ty, ps, af, none⟩ :: rest) L ds w := o_assign (odl_some h).1 (odl_some h).2 next
theorem rP (h : passOk n d l L i b = true) (next : R P n l.toArray Q rest ((d, undef) :: L) ds w) : R P n l.toArray Q (⟨some d, op, ty, ps, af, some (i, b)⟩ :: rest) L ds w := by
 unfold passOk at h
 simp only [Bool.and_eq_true] at h
 obtain ⟨h1, h2⟩ := h
 cases e : gs l i with
 | none => rw [e] at h2; cases h2
 | some t =>
  rw [e] at h2
  simp only at h2
  split at h2
  ·rename_i c e2
   exact R_pass h1 (yl_ne e e2 (by simpa using h2)) next
  ·cases h2
theorem gR {dd : Option Nat} (h : guardOk l L i b = true) (next : R P n l.toArray Q (⟨dd, op, ty, ps, af, none⟩ :: rest) L ds w) : R P n l.toArray Q (⟨dd, op, ty, ps, af, some (i, b)⟩ :: rest) L ds w := by
 unfold guardOk at h
 cases e : gs l i with
 | none => rw [e] at h; cases h
 | some t =>
  rw [e] at h
  simp only at h
  split at h
  ·rename_i c e2
   obtain rfl : c = b := by simpa using h
   exact R_guard (yl e e2) next
  ·cases h
theorem vM (i : Nat) (hi : nth l i = some ⟨some d, .move x, ty, ps, af, none⟩) (h : odl n d L x = some v) (next : RD P n l Q S f (ls.setIfInBounds i true) ((d, v) :: L) ds w) (hb : rdy l ls i = true := by kernel_rfl) : RD P n l Q S (f + 1) ls L ds w :=
 RD_t i hi hb (odl_some h).1 (fun _ _ => v_move (odl_some h).2) next
end
section
variable {n : Nat} {P : Program} {Q : Post} {L : Slots} {ds : List Deferred} {w : World} {fn : Func} {C : Ending → World → Prop}
theorem rt1 {t : Nat} {v : Value} (hr : fn.results = #[.tmp t]) (h : lk L t = some v) (hR : C (.returned (tupleOf [v])) w) : N n (bodyPost P fn C) .ret L [] w := ret_gen (rs := [.tmp t]) (vs := [v]) hr ⟨h, trivial⟩ hR
theorem rt2 {t t2 : Nat} {v v2 : Value} (hr : fn.results = #[.tmp t, .tmp t2]) (h : lk L t = some v) (h2 : lk L t2 = some v2) (hR : C (.returned (tupleOf [v, v2])) w) : N n (bodyPost P fn C) .ret L [] w := ret_gen (rs := [.tmp t, .tmp t2]) (vs := [v, v2]) hr ⟨h, h2, trivial⟩ hR
theorem W_lp {c : Code} (Lf : Slots) (J : Slots → World → Nat → Prop) (M0 : Slots) (m0 : Nat) (hf : Sub Lf L) (h0 : J M0 w m0)
  (round : ∀ M w m, J M w m → W P n (LP n ds Lf J m Q) c (M ++ Lf) ds w) (hM : Sub M0 L := by repeat (first | exact Sub.nil | refine Sub.cons rfl ?_)) : W P n Q (.loop c) L ds w := W_loop Lf J M0 m0 hf hM h0 round
theorem N_lp {Lf : Slots} {J : Slots → World → Nat → Prop} {m : Nat} {M : Slots} {m' : Nat} (hJ : J M w m') (hm : m' < m) (hM : Sub M L := by repeat (first | exact Sub.nil | refine Sub.cons rfl ?_)) (hf : Sub Lf L := by repeat (first | exact Sub.nil | refine Sub.cons rfl ?_)) : N n (LP n ds Lf J m Q) .normal L ds w := N_LP hJ hM hf hm
end
end Fw
namespace Go.Proofs.Tst
open Go Fw Tryz
theorem w_szIntS_c (w0 : World) (G0 : PH) (hG : PSub G0 w0) (va : Value) (a : List (Int)) (ha : RdI G0 va a) (left : Int) (hl : -1 ≤ left ∧ left ≤ 1099511627776) :
  Calls Tryz.prog 167 #[va, .int .i64 left] w0 (RetV w0 (fun v => ∃ r : Int, v = .int .i64 r ∧ (r = -1 ∨ (0 ≤ r ∧ r + (List.length a : Int) ≤ left)))) := by
 obtain ⟨aa, ka, rfl⟩ := ha.shape
 have hlima : a.length ≤ 1099511627776 := ha.lim
 have H := Hp.init hG
 refine calls_of_W (l := [.slice aa a.length ka, .int .i64 left]) func167 Z ntmps167 Z (q2 (aG Z (q1 (mV Z (mV Z (o_len_slice underlying33 Z Z (o_sub Z Z Z oO (aG Z (q3 (W_seq (q2 (mV Z (o_lss Z Z Z (q3 ?_))))))))))))))
 refine W_cond Z ?_ ?_
 ·intro hc2
  try simp only [nrm] at hc2
  refine q2 (aG Z (q3 (W_ret (N_K_ret (rt1 results167 Z ?_)))))
  exact H.retV ⟨_, rfl, by first | omega | (simp only [wHeld, wItem, wSnap, wHelds, wItems, wSnaps, wDisk] at *; omega)⟩
 intro hc2'
 try simp only [nrm] at hc2'
 refine W_skip (N_K (q2 (mV Z (aG Z (q3 (W_ret (rt1 results167 Z ?_)))))))
 exact H.retV ⟨_, rfl, by first | omega | (simp only [wHeld, wItem, wSnap, wHelds, wItems, wSnaps, wDisk] at *; omega)⟩
theorem w_szHeld_c (w0 : World) (G0 : PH) (hG : PSub G0 w0) (ca : List Value) (a : BHeld) (ha : heldE G0 a ca) (left : Int) (hl : -1 ≤ left ∧ left ≤ 1099511627776) :
  Calls Tryz.prog 125 #[.agg ca.toArray, .int .i64 left] w0 (RetV w0 (fun v => ∃ r : Int, v = .int .i64 r ∧ (r = -1 ∨ (0 ≤ r ∧ r + (wHeld a : Int) ≤ left)))) := by
 obtain ⟨a1, m1, c1, rfl, hi1, hr1, hj1⟩ := ha; have hn_hr1 := hr1.len; have hx_hr1 : _ ≤ 1099511627776 := hr1.lim
 have H := Hp.init hG
 refine calls_of_W (l := [_, .int .i64 left]) func125 Z ntmps125 Z (q2 (o_box H Z Z Z ?_)); intro b2 w2 hb2 H
 refine aG Z (q1 (o_fieldAddr 1 runUnderlying166 Z sizeOf33 Z Z Z (o_load_B 0 H isAgg33 Z Z Z Z (mV Z (o_call call167 Z Z (w_szIntS_c _ _ H.sub _ _ hr1 _ oO) ?_)))))
 rintro _ w3 ⟨_, rfl, ew3, ⟨r3, rfl, hra3⟩⟩
 skip
 have H := H.step ew3; refine ⟨_, rfl, ?_⟩
 refine aG Z (q3 (W_seq (q2 (mV Z (o_lss Z Z Z (q3 ?_))))))
 refine W_cond Z ?_ ?_
 ·intro hc4
  try simp only [nrm] at hc4
  refine q2 (aG Z (q3 (W_ret (N_K_ret (rt1 results125 Z ?_)))))
  exact H.retV ⟨_, rfl, by first | omega | (simp only [wHeld, wItem, wSnap, wHelds, wItems, wSnaps, wDisk] at *; omega)⟩
 intro hc4'
 try simp only [nrm] at hc4'
 refine W_skip (N_K (q2 (mV Z (aG Z (q3 (W_ret (rt1 results125 Z ?_)))))))
 exact H.retV ⟨_, rfl, by first | omega | (simp only [wHeld, wItem, wSnap, wHelds, wItems, wSnaps, wDisk] at *; omega)⟩
theorem w_szHeldS_c (w0 : World) (G0 : PH) (hG : PSub G0 w0) (va : Value) (a : List (BHeld)) (ha : RdH G0 va a) (left : Int) (hl : -1 ≤ left ∧ left ≤ 1099511627776) :
  Calls Tryz.prog 72 #[va, .int .i64 left] w0 (RetV w0 (fun v => ∃ r : Int, v = .int .i64 r ∧ (r = -1 ∨ (0 ≤ r ∧ r + (wHelds a : Int) ≤ left)))) := by
 obtain ⟨aa, ka, rfl⟩ := ha.shape
 have hlima : a.length ≤ 1099511627776 := ha.lim
 have H := Hp.init hG
 refine calls_of_W (l := [.slice aa a.length ka, .int .i64 left]) func72 Z ntmps72 Z (q2 (aG Z (q1 (mV Z (mV Z (o_len_slice underlying55 Z Z (o_sub Z Z Z oO (aG Z (q3 (W_seq (q2 (mV Z (o_lss Z Z Z (q3 ?_))))))))))))))
 refine W_cond Z ?_ ?_
 ·intro hc2
  try simp only [nrm] at hc2
  refine q2 (aG Z (q3 (W_ret (N_K_ret (rt1 results72 Z ?_)))))
  exact H.retV ⟨_, rfl, by first | omega | (simp only [wHeld, wItem, wSnap, wHelds, wItems, wSnaps, wDisk] at *; omega)⟩
 intro hc2'
 try simp only [nrm] at hc2'
 refine W_skip (N_K (W_seq (q2 (aG Z (q3 (W_block ?_))))))
 refine W_lp (hf := (Sub.cons (t := 0) Z Sub.nil)) (J := fun M w m => ∃ (k : Nat) (lf : Int) (G : PH), M = [(5, .int .i64 (k : Int)), (1, .int .i64 lf)] ∧ PLe G0 G ∧ Hp w0 G0 [] w G [] ∧ (k ≤ a.length ∧ 0 ≤ lf ∧ lf + (a.length : Int) + (cnt wHeld (a.take k) : Int) ≤ left) ∧ m = (a.length - k)) (h0 := ⟨0, (left - (a.length : Int)), _, Z, PLe.refl _, H, ?inv, Z⟩) (round := ?round)
 case inv => exact ⟨by omega, by omega, by (simp only [List.take_zero, cnt]; omega)⟩
 case round =>
  rintro _ w3 _ ⟨k, lf, G3, rfl, hle3, H, hinv3, rfl⟩
  have ha := ha.up hle3
  obtain ⟨hk, hlf1, hlf2⟩ := hinv3
  refine W_seq (q2 (mV Z (mV Z (o_len_slice underlying55 Z Z (o_lss Z Z Z (q3 ?_))))))
  refine W_cond Z ?_ ?_
  ·intro hc4
   try simp only [nrm] at hc4
   refine W_skip (N_K (W_seq (W_block (q2 (mV Z (mV Z (o_index_P k ha underlying55 sizeOf166 Z Z Z Z aN ?_))))))); intro b5 o5 z5 q5 hz5 hE5 hrow5
   obtain ⟨a5, m5, c5, rfl, hi5, hr5, hj5⟩ := hE5; have hn_hr5 := hr5.len; have hx_hr5 : _ ≤ 1099511627776 := hr5.lim
   refine o_loadagg_P H isAgg166 sizeOf166 Z Z hrow5 Z (mV Z ?_)
   refine o_call call125 Z Z (w_szHeld_c _ _ H.sub _ _ ⟨_, _, _, Z, ⟨by first | omega | (dsimp only; omega), by first | omega | (dsimp only; omega)⟩, hr5, ⟨by first | omega | (dsimp only; omega), by first | omega | (dsimp only; omega)⟩⟩ _ oO) ?_
   rintro _ w6 ⟨_, rfl, ew6, ⟨r6, rfl, hra6⟩⟩
   skip
   have H := H.step ew6; refine ⟨_, rfl, ?_⟩
   refine aG Z (q1 (mV Z (o_lss Z Z Z (q3 ?_))))
   refine W_cond Z ?_ ?_
   ·intro hc7
    try simp only [nrm] at hc7
    refine q2 (aG Z (q3 (W_ret (N_B_ret (N_K_ret (N_LP_ret (N_B_ret (N_K_ret (rt1 results72 Z ?_)))))))))
    exact H.retV ⟨_, rfl, by first | omega | (simp only [wHeld, wItem, wSnap, wHelds, wItems, wSnaps, wDisk] at *; omega)⟩
   intro hc7'
   try simp only [nrm] at hc7'
   refine W_skip (N_B (N_K (W_region (mV Z (o_add Z Z Z oO (aG Z (R_nil ?_)))))))
   refine N_lp (hJ := ⟨k + 1, r6, _, Z, hle3, H, ?inv, Z⟩) (hm := ?hm)
   case hm => omega
   case inv => exact ⟨by omega, by omega, by (have hcs := cnt_succ (c := wHeld) hz5; omega)⟩
  intro hc4'
  try simp only [nrm] at hc4'
  refine W_exit (N_K_exit (N_LP_exit (N_B_same (N_K (q2 (mV Z (aG Z (q3 (W_ret (rt1 results72 Z ?_))))))))))
  have hce := cnt_end (c := wHeld) (show k = a.length by omega)
  exact H.retV ⟨_, rfl, by first | omega | (simp only [wHeld, wItem, wSnap, wHelds, wItems, wSnaps, wDisk] at *; omega)⟩
theorem w_szItem_c (w0 : World) (G0 : PH) (hG : PSub G0 w0) (ca : List Value) (a : BItem) (ha : itemE G0 a ca) (left : Int) (hl : -1 ≤ left ∧ left ≤ 1099511627776) :
  Calls Tryz.prog 126 #[.agg ca.toArray, .int .i64 left] w0 (RetV w0 (fun v => ∃ r : Int, v = .int .i64 r ∧ (r = -1 ∨ (0 ≤ r ∧ r + (wItem a : Int) ≤ left)))) := by
 obtain ⟨a1, m1, c1, rfl, hi1, hr1⟩ := ha; have hy_hi1 : _ ≤ 16777216 := hi1; have hn_hr1 := hr1.len; have hx_hr1 : _ ≤ 1099511627776 := hr1.lim
 have H := Hp.init hG
 refine calls_of_W (l := [_, .int .i64 left]) func126 Z ntmps126 Z (q2 (o_box H Z Z Z ?_)); intro b2 w2 hb2 H
 refine aG Z (q1 (mV Z (o_fieldAddr 0 runUnderlying168 Z sizeOf9 Z Z Z (o_load_B 0 H isAgg9 Z Z Z Z (o_len_str underlying9 Z Z (o_sub Z Z Z oO (aG Z (q3 (W_seq (q2 (mV Z (o_lss Z Z Z (q3 ?_)))))))))))))
 refine W_cond Z ?_ ?_
 ·intro hc4
  try simp only [nrm] at hc4
  refine q2 (aG Z (q3 (W_ret (N_K_ret (rt1 results126 Z ?_)))))
  exact H.retV ⟨_, rfl, by first | omega | (simp only [wHeld, wItem, wSnap, wHelds, wItems, wSnaps, wDisk] at *; omega)⟩
 intro hc4'
 try simp only [nrm] at hc4'
 refine W_skip (N_K (q2 (o_fieldAddr 2 runUnderlying168 Z sizeOf33 Z Z Z (o_load_B 0 H isAgg33 Z Z Z Z (mV Z (o_call call167 Z Z (w_szIntS_c _ _ H.sub _ _ hr1 _ oO) ?_))))))
 rintro _ w5 ⟨_, rfl, ew5, ⟨r5, rfl, hra5⟩⟩
 skip
 have H := H.step ew5; refine ⟨_, rfl, ?_⟩
 refine aG Z (q3 (W_seq (q2 (mV Z (o_lss Z Z Z (q3 ?_))))))
 refine W_cond Z ?_ ?_
 ·intro hc6
  try simp only [nrm] at hc6
  refine q2 (aG Z (q3 (W_ret (N_K_ret (rt1 results126 Z ?_)))))
  exact H.retV ⟨_, rfl, by first | omega | (simp only [wHeld, wItem, wSnap, wHelds, wItems, wSnaps, wDisk] at *; omega)⟩
 intro hc6'
 try simp only [nrm] at hc6'
 refine W_skip (N_K (q2 (mV Z (aG Z (q3 (W_ret (rt1 results126 Z ?_)))))))
 exact H.retV ⟨_, rfl, by first | omega | (simp only [wHeld, wItem, wSnap, wHelds, wItems, wSnaps, wDisk] at *; omega)⟩
theorem w_szItemS_c (w0 : World) (G0 : PH) (hG : PSub G0 w0) (va : Value) (a : List (BItem)) (ha : RdItems G0 va a) (left : Int) (hl : -1 ≤ left ∧ left ≤ 1099511627776) :
  Calls Tryz.prog 73 #[va, .int .i64 left] w0 (RetV w0 (fun v => ∃ r : Int, v = .int .i64 r ∧ (r = -1 ∨ (0 ≤ r ∧ r + (wItems a : Int) ≤ left)))) := by
 obtain ⟨aa, ka, rfl⟩ := ha.shape
 have hlima : a.length ≤ 1099511627776 := ha.lim
 have H := Hp.init hG
 refine calls_of_W (l := [.slice aa a.length ka, .int .i64 left]) func73 Z ntmps73 Z (q2 (aG Z (q1 (mV Z (mV Z (o_len_slice underlying56 Z Z (o_sub Z Z Z oO (aG Z (q3 (W_seq (q2 (mV Z (o_lss Z Z Z (q3 ?_))))))))))))))
 refine W_cond Z ?_ ?_
 ·intro hc2
  try simp only [nrm] at hc2
  refine q2 (aG Z (q3 (W_ret (N_K_ret (rt1 results73 Z ?_)))))
  exact H.retV ⟨_, rfl, by first | omega | (simp only [wHeld, wItem, wSnap, wHelds, wItems, wSnaps, wDisk] at *; omega)⟩
 intro hc2'
 try simp only [nrm] at hc2'
 refine W_skip (N_K (W_seq (q2 (aG Z (q3 (W_block ?_))))))
 refine W_lp (hf := (Sub.cons (t := 0) Z Sub.nil)) (J := fun M w m => ∃ (k : Nat) (lf : Int) (G : PH), M = [(5, .int .i64 (k : Int)), (1, .int .i64 lf)] ∧ PLe G0 G ∧ Hp w0 G0 [] w G [] ∧ (k ≤ a.length ∧ 0 ≤ lf ∧ lf + (a.length : Int) + (cnt wItem (a.take k) : Int) ≤ left) ∧ m = (a.length - k)) (h0 := ⟨0, (left - (a.length : Int)), _, Z, PLe.refl _, H, ?inv, Z⟩) (round := ?round)
 case inv => exact ⟨by omega, by omega, by (simp only [List.take_zero, cnt]; omega)⟩
 case round =>
  rintro _ w3 _ ⟨k, lf, G3, rfl, hle3, H, hinv3, rfl⟩
  have ha := ha.up hle3
  obtain ⟨hk, hlf1, hlf2⟩ := hinv3
  refine W_seq (q2 (mV Z (mV Z (o_len_slice underlying56 Z Z (o_lss Z Z Z (q3 ?_))))))
  refine W_cond Z ?_ ?_
  ·intro hc4
   try simp only [nrm] at hc4
   refine W_skip (N_K (W_seq (W_block (q2 (mV Z (mV Z (o_index_P k ha underlying56 sizeOf168 Z Z Z Z aN ?_))))))); intro b5 o5 z5 q5 hz5 hE5 hrow5
   obtain ⟨a5, m5, c5, rfl, hi5, hr5⟩ := hE5; have hy_hi5 : _ ≤ 16777216 := hi5; have hn_hr5 := hr5.len; have hx_hr5 : _ ≤ 1099511627776 := hr5.lim
   refine o_loadagg_P H isAgg168 sizeOf168 Z Z hrow5 Z (mV Z (o_call call126 Z Z (w_szItem_c _ _ H.sub _ _ ⟨_, _, _, Z, hi5, hr5⟩ _ oO) ?_))
   rintro _ w6 ⟨_, rfl, ew6, ⟨r6, rfl, hra6⟩⟩
   skip
   have H := H.step ew6; refine ⟨_, rfl, ?_⟩
   refine aG Z (q1 (mV Z (o_lss Z Z Z (q3 ?_))))
   refine W_cond Z ?_ ?_
   ·intro hc7
    try simp only [nrm] at hc7
    refine q2 (aG Z (q3 (W_ret (N_B_ret (N_K_ret (N_LP_ret (N_B_ret (N_K_ret (rt1 results73 Z ?_)))))))))
    exact H.retV ⟨_, rfl, by first | omega | (simp only [wHeld, wItem, wSnap, wHelds, wItems, wSnaps, wDisk] at *; omega)⟩
   intro hc7'
   try simp only [nrm] at hc7'
   refine W_skip (N_B (N_K (W_region (mV Z (o_add Z Z Z oO (aG Z (R_nil ?_)))))))
   refine N_lp (hJ := ⟨k + 1, r6, _, Z, hle3, H, ?inv, Z⟩) (hm := ?hm)
   case hm => omega
   case inv => exact ⟨by omega, by omega, by (have hcs := cnt_succ (c := wItem) hz5; omega)⟩
  intro hc4'
  try simp only [nrm] at hc4'
  refine W_exit (N_K_exit (N_LP_exit (N_B_same (N_K (q2 (mV Z (aG Z (q3 (W_ret (rt1 results73 Z ?_))))))))))
  have hce := cnt_end (c := wItem) (show k = a.length by omega)
  exact H.retV ⟨_, rfl, by first | omega | (simp only [wHeld, wItem, wSnap, wHelds, wItems, wSnaps, wDisk] at *; omega)⟩
theorem w_szSnap_c (w0 : World) (G0 : PH) (hG : PSub G0 w0) (ca : List Value) (a : BSnap) (ha : snapE G0 a ca) (left : Int) (hl : -1 ≤ left ∧ left ≤ 1099511627776) :
  Calls Tryz.prog 127 #[.agg ca.toArray, .int .i64 left] w0 (RetV w0 (fun v => ∃ r : Int, v = .int .i64 r ∧ (r = -1 ∨ (0 ≤ r ∧ r + (wSnap a : Int) ≤ left)))) := by
 obtain ⟨a1, m1, c1, rfl, hi1, hr1⟩ := ha; have hy_hi1 : _ ≤ 16777216 := hi1; have hn_hr1 := hr1.len; have hx_hr1 : _ ≤ 1099511627776 := hr1.lim
 have H := Hp.init hG
 refine calls_of_W (l := [_, .int .i64 left]) func127 Z ntmps127 Z (q2 (o_box H Z Z Z ?_)); intro b2 w2 hb2 H
 refine aG Z (q1 (mV Z (o_fieldAddr 0 runUnderlying171 Z sizeOf9 Z Z Z (o_load_B 0 H isAgg9 Z Z Z Z (o_len_str underlying9 Z Z (o_sub Z Z Z oO (aG Z (q3 (W_seq (q2 (mV Z (o_lss Z Z Z (q3 ?_)))))))))))))
 refine W_cond Z ?_ ?_
 ·intro hc4
  try simp only [nrm] at hc4
  refine q2 (aG Z (q3 (W_ret (N_K_ret (rt1 results127 Z ?_)))))
  exact H.retV ⟨_, rfl, by first | omega | (simp only [wHeld, wItem, wSnap, wHelds, wItems, wSnaps, wDisk] at *; omega)⟩
 intro hc4'
 try simp only [nrm] at hc4'
 refine W_skip (N_K (q2 (o_fieldAddr 1 runUnderlying171 Z sizeOf56 Z Z Z (o_load_B 0 H isAgg56 Z Z Z Z (mV Z (o_call call73 Z Z (w_szItemS_c _ _ H.sub _ _ hr1 _ oO) ?_))))))
 rintro _ w5 ⟨_, rfl, ew5, ⟨r5, rfl, hra5⟩⟩
 skip
 have H := H.step ew5; refine ⟨_, rfl, ?_⟩
 refine aG Z (q3 (W_seq (q2 (mV Z (o_lss Z Z Z (q3 ?_))))))
 refine W_cond Z ?_ ?_
 ·intro hc6
  try simp only [nrm] at hc6
  refine q2 (aG Z (q3 (W_ret (N_K_ret (rt1 results127 Z ?_)))))
  exact H.retV ⟨_, rfl, by first | omega | (simp only [wHeld, wItem, wSnap, wHelds, wItems, wSnaps, wDisk] at *; omega)⟩
 intro hc6'
 try simp only [nrm] at hc6'
 refine W_skip (N_K (q2 (mV Z (aG Z (q3 (W_ret (rt1 results127 Z ?_)))))))
 exact H.retV ⟨_, rfl, by first | omega | (simp only [wHeld, wItem, wSnap, wHelds, wItems, wSnaps, wDisk] at *; omega)⟩
theorem w_szSnapS_c (w0 : World) (G0 : PH) (hG : PSub G0 w0) (va : Value) (a : List (BSnap)) (ha : RdSn G0 va a) (left : Int) (hl : -1 ≤ left ∧ left ≤ 1099511627776) :
  Calls Tryz.prog 74 #[va, .int .i64 left] w0 (RetV w0 (fun v => ∃ r : Int, v = .int .i64 r ∧ (r = -1 ∨ (0 ≤ r ∧ r + (wSnaps a : Int) ≤ left)))) := by
 obtain ⟨aa, ka, rfl⟩ := ha.shape
 have hlima : a.length ≤ 1099511627776 := ha.lim
 have H := Hp.init hG
 refine calls_of_W (l := [.slice aa a.length ka, .int .i64 left]) func74 Z ntmps74 Z (q2 (aG Z (q1 (mV Z (mV Z (o_len_slice underlying57 Z Z (o_sub Z Z Z oO (aG Z (q3 (W_seq (q2 (mV Z (o_lss Z Z Z (q3 ?_))))))))))))))
 refine W_cond Z ?_ ?_
 ·intro hc2
  try simp only [nrm] at hc2
  refine q2 (aG Z (q3 (W_ret (N_K_ret (rt1 results74 Z ?_)))))
  exact H.retV ⟨_, rfl, by first | omega | (simp only [wHeld, wItem, wSnap, wHelds, wItems, wSnaps, wDisk] at *; omega)⟩
 intro hc2'
 try simp only [nrm] at hc2'
 refine W_skip (N_K (W_seq (q2 (aG Z (q3 (W_block ?_))))))
 refine W_lp (hf := (Sub.cons (t := 0) Z Sub.nil)) (J := fun M w m => ∃ (k : Nat) (lf : Int) (G : PH), M = [(5, .int .i64 (k : Int)), (1, .int .i64 lf)] ∧ PLe G0 G ∧ Hp w0 G0 [] w G [] ∧ (k ≤ a.length ∧ 0 ≤ lf ∧ lf + (a.length : Int) + (cnt wSnap (a.take k) : Int) ≤ left) ∧ m = (a.length - k)) (h0 := ⟨0, (left - (a.length : Int)), _, Z, PLe.refl _, H, ?inv, Z⟩) (round := ?round)
 case inv => exact ⟨by omega, by omega, by (simp only [List.take_zero, cnt]; omega)⟩
 case round =>
  rintro _ w3 _ ⟨k, lf, G3, rfl, hle3, H, hinv3, rfl⟩
  have ha := ha.up hle3
  obtain ⟨hk, hlf1, hlf2⟩ := hinv3
  refine W_seq (q2 (mV Z (mV Z (o_len_slice underlying57 Z Z (o_lss Z Z Z (q3 ?_))))))
  refine W_cond Z ?_ ?_
  ·intro hc4
   try simp only [nrm] at hc4
   refine W_skip (N_K (W_seq (W_block (q2 (mV Z (mV Z (o_index_P k ha underlying57 sizeOf171 Z Z Z Z aN ?_))))))); intro b5 o5 z5 q5 hz5 hE5 hrow5
   obtain ⟨a5, m5, c5, rfl, hi5, hr5⟩ := hE5; have hy_hi5 : _ ≤ 16777216 := hi5; have hn_hr5 := hr5.len; have hx_hr5 : _ ≤ 1099511627776 := hr5.lim
   refine o_loadagg_P H isAgg171 sizeOf171 Z Z hrow5 Z (mV Z (o_call call127 Z Z (w_szSnap_c _ _ H.sub _ _ ⟨_, _, _, Z, hi5, hr5⟩ _ oO) ?_))
   rintro _ w6 ⟨_, rfl, ew6, ⟨r6, rfl, hra6⟩⟩
   skip
   have H := H.step ew6; refine ⟨_, rfl, ?_⟩
   refine aG Z (q1 (mV Z (o_lss Z Z Z (q3 ?_))))
   refine W_cond Z ?_ ?_
   ·intro hc7
    try simp only [nrm] at hc7
    refine q2 (aG Z (q3 (W_ret (N_B_ret (N_K_ret (N_LP_ret (N_B_ret (N_K_ret (rt1 results74 Z ?_)))))))))
    exact H.retV ⟨_, rfl, by first | omega | (simp only [wHeld, wItem, wSnap, wHelds, wItems, wSnaps, wDisk] at *; omega)⟩
   intro hc7'
   try simp only [nrm] at hc7'
   refine W_skip (N_B (N_K (W_region (mV Z (o_add Z Z Z oO (aG Z (R_nil ?_)))))))
   refine N_lp (hJ := ⟨k + 1, r6, _, Z, hle3, H, ?inv, Z⟩) (hm := ?hm)
   case hm => omega
   case inv => exact ⟨by omega, by omega, by (have hcs := cnt_succ (c := wSnap) hz5; omega)⟩
  intro hc4'
  try simp only [nrm] at hc4'
  refine W_exit (N_K_exit (N_LP_exit (N_B_same (N_K (q2 (mV Z (aG Z (q3 (W_ret (rt1 results74 Z ?_))))))))))
  have hce := cnt_end (c := wSnap) (show k = a.length by omega)
  exact H.retV ⟨_, rfl, by first | omega | (simp only [wHeld, wItem, wSnap, wHelds, wItems, wSnaps, wDisk] at *; omega)⟩
theorem w_szDisk_c (w0 : World) (G0 : PH) (hG : PSub G0 w0) (ca : List Value) (a : BDisk) (ha : diskE G0 a ca) (left : Int) (hl : -1 ≤ left ∧ left ≤ 1099511627776) :
  Calls Tryz.prog 31 #[.agg ca.toArray, .int .i64 left] w0 (RetV w0 (fun v => ∃ r : Int, v = .int .i64 r ∧ (r = -1 ∨ (0 ≤ r ∧ r + (wDisk a : Int) ≤ left)))) := by
 obtain ⟨a1, m1, c1, a1', m1', c1', a1'', m1'', c1'', rfl, hr1, hr1', hr1''⟩ := ha; have hn_hr1 := hr1.len; have hx_hr1 : _ ≤ 1099511627776 := hr1.lim; have hn_hr1q := hr1'.len; have hx_hr1q : _ ≤ 1099511627776 := hr1'.lim; have hn_hr1qq := hr1''.len; have hx_hr1qq : _ ≤ 1099511627776 := hr1''.lim
 have H := Hp.init hG
 refine calls_of_W (l := [_, .int .i64 left]) func31 Z ntmps31 Z (q2 (o_box H Z Z Z ?_)); intro b2 w2 hb2 H
 refine aG Z (q1 (o_fieldAddr 0 runUnderlying59 Z sizeOf55 Z Z Z (o_load_B 0 H isAgg55 Z Z Z Z (mV Z (o_call call72 Z Z (w_szHeldS_c _ _ H.sub _ _ hr1 _ oO) ?_)))))
 rintro _ w3 ⟨_, rfl, ew3, ⟨r3, rfl, hra3⟩⟩
 skip
 have H := H.step ew3; refine ⟨_, rfl, ?_⟩
 refine aG Z (q3 (W_seq (q2 (mV Z (o_lss Z Z Z (q3 ?_))))))
 refine W_cond Z ?_ ?_
 ·intro hc4
  try simp only [nrm] at hc4
  refine q2 (aG Z (q3 (W_ret (N_K_ret (rt1 results31 Z ?_)))))
  exact H.retV ⟨_, rfl, by first | omega | (simp only [wHeld, wItem, wSnap, wHelds, wItems, wSnaps, wDisk] at *; omega)⟩
 intro hc4'
 try simp only [nrm] at hc4'
 refine W_skip (N_K (q2 (o_fieldAddr 1 runUnderlying59 Z sizeOf56 Z Z Z (o_load_B 0 H isAgg56 Z Z Z Z (mV Z (o_call call73 Z Z (w_szItemS_c _ _ H.sub _ _ hr1' _ oO) ?_))))))
 rintro _ w5 ⟨_, rfl, ew5, ⟨r5, rfl, hra5⟩⟩
 skip
 have H := H.step ew5; refine ⟨_, rfl, ?_⟩
 refine aG Z (q3 (W_seq (q2 (mV Z (o_lss Z Z Z (q3 ?_))))))
 refine W_cond Z ?_ ?_
 ·intro hc6
  try simp only [nrm] at hc6
  refine q2 (aG Z (q3 (W_ret (N_K_ret (rt1 results31 Z ?_)))))
  exact H.retV ⟨_, rfl, by first | omega | (simp only [wHeld, wItem, wSnap, wHelds, wItems, wSnaps, wDisk] at *; omega)⟩
 intro hc6'
 try simp only [nrm] at hc6'
 refine W_skip (N_K (q2 (o_fieldAddr 2 runUnderlying59 Z sizeOf57 Z Z Z (o_load_B 0 H isAgg57 Z Z Z Z (mV Z (o_call call74 Z Z (w_szSnapS_c _ _ H.sub _ _ hr1'' _ oO) ?_))))))
 rintro _ w7 ⟨_, rfl, ew7, ⟨r7, rfl, hra7⟩⟩
 skip
 have H := H.step ew7; refine ⟨_, rfl, ?_⟩
 refine aG Z (q3 (W_seq (q2 (mV Z (o_lss Z Z Z (q3 ?_))))))
 refine W_cond Z ?_ ?_
 ·intro hc8
  try simp only [nrm] at hc8
  refine q2 (aG Z (q3 (W_ret (N_K_ret (rt1 results31 Z ?_)))))
  exact H.retV ⟨_, rfl, by first | omega | (simp only [wHeld, wItem, wSnap, wHelds, wItems, wSnaps, wDisk] at *; omega)⟩
 intro hc8'
 try simp only [nrm] at hc8'
 refine W_skip (N_K (q2 (mV Z (aG Z (q3 (W_ret (rt1 results31 Z ?_)))))))
 exact H.retV ⟨_, rfl, by first | omega | (simp only [wHeld, wItem, wSnap, wHelds, wItems, wSnaps, wDisk] at *; omega)⟩
end Go.Proofs.Tst

namespace Go.Proofs.Tst
open Go Fw Tryz
theorem w_eqIntS_c (w0 : World) (G0 : PH) (hG : PSub G0 w0) (va : Value) (a : List (Int)) (ha : RdI G0 va a) (vb : Value) (b : List (Int)) (hb : RdI G0 vb b) (hab : a = b) :
  Calls Tryz.prog 169 #[va, vb] w0 (Rets w0 (.bool true)) := by
 obtain ⟨aa, ka, rfl⟩ := ha.shape
 have hlima : a.length ≤ 1099511627776 := ha.lim
 obtain ⟨ab, kb, rfl⟩ := hb.shape
 have hlimb : b.length ≤ 1099511627776 := hb.lim
 have hle := congrArg List.length hab
 have H := Hp.init hG
 refine calls_of_W (l := [.slice aa a.length ka, .slice ab b.length kb]) func169 Z ntmps169 Z (q2 (aG Z (q3 (W_seq (q2 (mV Z (o_len_slice underlying33 Z Z (mV Z (o_len_slice underlying33 Z Z (o_neq Z Z Z (q3 ?_)))))))))))
 refine W_cond Z ?_ ?_
 ·intro hc1
  try simp only [nrm] at hc1
  refine q2 (aG Z (q3 (W_ret (N_K_ret (rt1 results169 Z ?_)))))
  exact absurd (show False from by omega) id
 intro hc1'
 try simp only [nrm] at hc1'
 refine W_skip (N_K (W_seq (q2 (aG Z (q3 (W_block ?_))))))
 refine W_lp (hf := (Sub.cons (t := 0) Z (Sub.cons (t := 1) Z Sub.nil))) (J := fun M w m => ∃ (k : Nat) (G : PH), M = [(5, .int .i64 (k : Int))] ∧ PLe G0 G ∧ Hp w0 G0 [] w G [] ∧ (k ≤ a.length) ∧ m = (a.length - k)) (h0 := ⟨0, _, Z, PLe.refl _, H, ?inv, Z⟩) (round := ?round)
 case inv => omega
 case round =>
  rintro _ w2 _ ⟨k, G2, rfl, hle2, H, hinv2, rfl⟩
  have ha := ha.up hle2
  have hb := hb.up hle2
  have hk := hinv2
  refine W_seq (q2 (mV Z (mV Z (o_len_slice underlying33 Z Z (o_lss Z Z Z (q3 ?_))))))
  refine W_cond Z ?_ ?_
  ·intro hc3
   try simp only [nrm] at hc3
   refine W_skip (N_K (W_seq (W_block (W_seq (W_drawK [] 9 H kR Z ?_))))); intro w4 H; have hd4 := PLe.refl G2
   refine vM 0 Z Z (vM 1 Z Z ?_)
   have hl5 := ha.len
   obtain ⟨b5, o5, z5, q5, ha5, hz5, hq5, hE5, hrow5, _⟩ := ha.at (i := k) oM
   clear hq5
   obtain ⟨rfl, hi5⟩ := hE5
   refine RD_t 2 Z kR Z (fun _ hK => v_index_P (i := k) ha5 underlying33 sizeOf3 Z Z Z oM) (RD_t 3 Z kR Z (fun _ hK => v_load_P hK isAgg3 Z (hrow5 0 _ Z)) (vM 4 Z Z (vM 5 Z Z ?_)))
   have hl6 := hb.len
   obtain ⟨b6, o6, z6, q6, ha6, hz6, hq6, hE6, hrow6, _⟩ := hb.at (i := k) oM
   clear hq6
   obtain ⟨rfl, hi6⟩ := hE6
   refine RD_t 6 Z kR Z (fun _ hK => v_index_P (i := k) ha6 underlying33 sizeOf3 Z Z Z oM) (RD_t 7 Z kR Z (fun _ hK => v_load_P hK isAgg3 Z (hrow6 0 _ Z)) (RD_t 8 Z kR Z (fun _ hK => v_neq Z Z) (RD_done kR (N_K ?_))))
   refine W_cond Z ?_ ?_
   ·intro hc7
    try simp only [nrm] at hc7
    refine q2 (aG Z (q3 (W_ret (N_B_ret (N_K_ret (N_LP_ret (N_B_ret (N_K_ret (rt1 results169 Z ?_)))))))))
    exact absurd (show False from by first | omega | (exact hc7 (Sp.same_at hab hz5 hz6))) id
   intro hc7'
   try simp only [nrm] at hc7'
   refine W_skip (N_B (N_K (W_region (mV Z (o_add Z Z Z oO (aG Z (R_nil ?_)))))))
   refine N_lp (hJ := ⟨k + 1, _, Z, hle2, H, ?inv, Z⟩) (hm := ?hm)
   case hm => omega
   case inv => omega
  intro hc3'
  try simp only [nrm] at hc3'
  refine W_exit (N_K_exit (N_LP_exit (N_B_same (N_K (q2 (aG Z (q3 (W_ret (rt1 results169 Z ?_)))))))))
  exact H.rets Z
theorem w_eqHeld_c (w0 : World) (G0 : PH) (hG : PSub G0 w0) (ca : List Value) (a : BHeld) (ha : heldE G0 a ca) (cb : List Value) (b : BHeld) (hb : heldE G0 b cb) (hab : a = b) :
  Calls Tryz.prog 131 #[.agg ca.toArray, .agg cb.toArray] w0 (Rets w0 (.bool true)) := by
 obtain ⟨a1, m1, c1, rfl, hi1, hr1, hj1⟩ := ha; have hn_hr1 := hr1.len; have hx_hr1 : _ ≤ 1099511627776 := hr1.lim
 obtain ⟨a2, m2, c2, rfl, hi2, hr2, hj2⟩ := hb; have hn_hr2 := hr2.len; have hx_hr2 : _ ≤ 1099511627776 := hr2.lim
 have H := Hp.init hG
 refine calls_of_W (l := [_, _]) func131 Z ntmps131 Z (q2 (o_box H Z Z Z ?_)); intro b3 w3 hb3 H
 refine o_box H Z Z Z ?_; intro b4 w4 hb4 H
 refine aG Z (q3 (W_seq (q2 (o_fieldAddr 0 runUnderlying105 Z sizeOf3 Z Z Z (o_load_B 1 H isAgg3 Z Z Z Z (o_fieldAddr 0 runUnderlying105 Z sizeOf3 Z Z Z (o_load_B 0 H isAgg3 Z Z Z Z (o_neq Z Z Z (q3 ?_)))))))))
 refine W_cond Z ?_ ?_
 ·intro hc5
  try simp only [nrm] at hc5
  refine q2 (aG Z (q3 (W_ret (N_K_ret (rt1 results131 Z ?_)))))
  exact absurd (show False from by simp [hab] at hc5) id
 intro hc5'
 try simp only [nrm] at hc5'
 refine W_skip (N_K (W_seq (q2 (o_fieldAddr 1 runUnderlying105 Z sizeOf33 Z Z Z (o_load_B 1 H isAgg33 Z Z Z Z (o_fieldAddr 1 runUnderlying105 Z sizeOf33 Z Z Z (o_load_B 0 H isAgg33 Z Z Z Z (o_call call169 Z Z (w_eqIntS_c _ _ H.sub _ _ hr1 _ _ hr2 (congrArg BHeld.bytes hab)) ?_))))))))
 rintro _ w6 ⟨rfl, ew6⟩; have H := H.step ew6; refine ⟨_, rfl, ?_⟩
 refine o_not Z Z (q3 (W_false Z (W_skip (N_K (W_seq (q2 (o_fieldAddr 2 runUnderlying105 Z sizeOf3 Z Z Z (o_load_B 1 H isAgg3 Z Z Z Z (o_fieldAddr 2 runUnderlying105 Z sizeOf3 Z Z Z (o_load_B 0 H isAgg3 Z Z Z Z (o_neq Z Z Z (q3 ?_))))))))))))
 refine W_cond Z ?_ ?_
 ·intro hc7
  try simp only [nrm] at hc7
  refine q2 (aG Z (q3 (W_ret (N_K_ret (rt1 results131 Z ?_)))))
  exact absurd (show False from by simp [hab] at hc7) id
 intro hc7'
 try simp only [nrm] at hc7'
 refine W_skip (N_K (q2 (aG Z (q3 (W_ret (rt1 results131 Z ?_))))))
 exact H.rets Z
theorem w_eqHeldS_c (w0 : World) (G0 : PH) (hG : PSub G0 w0) (va : Value) (a : List (BHeld)) (ha : RdH G0 va a) (vb : Value) (b : List (BHeld)) (hb : RdH G0 vb b) (hab : a = b) :
  Calls Tryz.prog 78 #[va, vb] w0 (Rets w0 (.bool true)) := by
 obtain ⟨aa, ka, rfl⟩ := ha.shape
 have hlima : a.length ≤ 1099511627776 := ha.lim
 obtain ⟨ab, kb, rfl⟩ := hb.shape
 have hlimb : b.length ≤ 1099511627776 := hb.lim
 have hle := congrArg List.length hab
 have H := Hp.init hG
 refine calls_of_W (l := [.slice aa a.length ka, .slice ab b.length kb]) func78 Z ntmps78 Z (q2 (aG Z (q3 (W_seq (q2 (mV Z (o_len_slice underlying23 Z Z (mV Z (o_len_slice underlying23 Z Z (o_neq Z Z Z (q3 ?_)))))))))))
 refine W_cond Z ?_ ?_
 ·intro hc1
  try simp only [nrm] at hc1
  refine q2 (aG Z (q3 (W_ret (N_K_ret (rt1 results78 Z ?_)))))
  exact absurd (show False from by omega) id
 intro hc1'
 try simp only [nrm] at hc1'
 refine W_skip (N_K (W_seq (q2 (aG Z (q3 (W_block ?_))))))
 refine W_lp (hf := (Sub.cons (t := 0) Z (Sub.cons (t := 1) Z Sub.nil))) (J := fun M w m => ∃ (k : Nat) (G : PH), M = [(5, .int .i64 (k : Int))] ∧ PLe G0 G ∧ Hp w0 G0 [] w G [] ∧ (k ≤ a.length) ∧ m = (a.length - k)) (h0 := ⟨0, _, Z, PLe.refl _, H, ?inv, Z⟩) (round := ?round)
 case inv => omega
 case round =>
  rintro _ w2 _ ⟨k, G2, rfl, hle2, H, hinv2, rfl⟩
  have ha := ha.up hle2
  have hb := hb.up hle2
  have hk := hinv2
  refine W_seq (q2 (mV Z (mV Z (o_len_slice underlying23 Z Z (o_lss Z Z Z (q3 ?_))))))
  refine W_cond Z ?_ ?_
  ·intro hc3
   try simp only [nrm] at hc3
   refine W_skip (N_K (W_seq (W_block (W_seq (W_drawK [] 10 H kR Z ?_))))); intro w4 H; have hd4 := PLe.refl G2
   refine vM 0 Z Z (vM 1 Z Z ?_)
   have hl5 := ha.len
   obtain ⟨b5, o5, z5, q5, ha5, hz5, hq5, hE5, hrow5, _⟩ := ha.at (i := k) oM
   clear hq5
   obtain ⟨a5, m5, c5, rfl, hi5, hr5, hj5⟩ := hE5; have hn_hr5 := hr5.len; have hx_hr5 : _ ≤ 1099511627776 := hr5.lim
   refine RD_t 2 Z kR Z (fun _ hK => v_index_P (i := k) ha5 underlying23 sizeOf105 Z Z Z oM) (RD_t 3 Z kR Z (fun _ hK => v_loadagg_P hK isAgg105 sizeOf105 Z hrow5 Z) (vM 4 Z Z (vM 5 Z Z ?_)))
   have hl6 := hb.len
   obtain ⟨b6, o6, z6, q6, ha6, hz6, hq6, hE6, hrow6, _⟩ := hb.at (i := k) oM
   clear hq6
   obtain ⟨a6, m6, c6, rfl, hi6, hr6, hj6⟩ := hE6; have hn_hr6 := hr6.len; have hx_hr6 : _ ≤ 1099511627776 := hr6.lim
   refine RD_t 6 Z kR Z (fun _ hK => v_index_P (i := k) ha6 underlying23 sizeOf105 Z Z Z oM) (RD_t 7 Z kR Z (fun _ hK => v_loadagg_P hK isAgg105 sizeOf105 Z hrow6 Z) ?_)
   refine RD_run [8] kR Z (RDs.cons Z ?_ RDs.nil)
   refine o_call call131 Z Z (w_eqHeld_c _ _ H.sub _ _ ⟨_, _, _, Z, ⟨by first | omega | (dsimp only; omega), by first | omega | (dsimp only; omega)⟩, hr5, ⟨by first | omega | (dsimp only; omega), by first | omega | (dsimp only; omega)⟩⟩ _ _ ⟨_, _, _, rfl, ⟨by first | omega | (dsimp only; omega), by first | omega | (dsimp only; omega)⟩, hr6, ⟨by first | omega | (dsimp only; omega), by first | omega | (dsimp only; omega)⟩⟩ (Sp.same_at hab hz5 hz6)) ?_
   rintro _ w7 ⟨rfl, ew7⟩; have H := H.step ew7; refine ⟨_, rfl, ?_⟩
   refine R_nil (N_DK (Kn.of' H hd4 SubL.nil) (RD_t 9 Z kR Z (fun _ hK => v_not Z) (RD_done kR (N_K (W_false Z (W_skip (N_B (N_K (W_region (mV Z (o_add Z Z Z oO (aG Z (R_nil ?_)))))))))))))
   refine N_lp (hJ := ⟨k + 1, _, Z, hle2, H, ?inv, Z⟩) (hm := ?hm)
   case hm => omega
   case inv => omega
  intro hc3'
  try simp only [nrm] at hc3'
  refine W_exit (N_K_exit (N_LP_exit (N_B_same (N_K (q2 (aG Z (q3 (W_ret (rt1 results78 Z ?_)))))))))
  exact H.rets Z
theorem w_eqItem_c (w0 : World) (G0 : PH) (hG : PSub G0 w0) (ca : List Value) (a : BItem) (ha : itemE G0 a ca) (cb : List Value) (b : BItem) (hb : itemE G0 b cb) (hab : a = b) :
  Calls Tryz.prog 132 #[.agg ca.toArray, .agg cb.toArray] w0 (Rets w0 (.bool true)) := by
 obtain ⟨a1, m1, c1, rfl, hi1, hr1⟩ := ha; have hy_hi1 : _ ≤ 16777216 := hi1; have hn_hr1 := hr1.len; have hx_hr1 : _ ≤ 1099511627776 := hr1.lim
 obtain ⟨a2, m2, c2, rfl, hi2, hr2⟩ := hb; have hy_hi2 : _ ≤ 16777216 := hi2; have hn_hr2 := hr2.len; have hx_hr2 : _ ≤ 1099511627776 := hr2.lim
 have H := Hp.init hG
 refine calls_of_W (l := [_, _]) func132 Z ntmps132 Z (q2 (o_box H Z Z Z ?_)); intro b3 w3 hb3 H
 refine o_box H Z Z Z ?_; intro b4 w4 hb4 H
 refine aG Z (q3 (W_seq (q2 (o_fieldAddr 0 runUnderlying37 Z sizeOf9 Z Z Z (o_load_B 1 H isAgg9 Z Z Z Z (o_fieldAddr 0 runUnderlying37 Z sizeOf9 Z Z Z (o_load_B 0 H isAgg9 Z Z Z Z (o_sneq Z Z Z (q3 ?_)))))))))
 refine W_cond Z ?_ ?_
 ·intro hc5
  try simp only [nrm] at hc5
  refine q2 (aG Z (q3 (W_ret (N_K_ret (rt1 results132 Z ?_)))))
  exact absurd (show False from by simp [hab] at hc5) id
 intro hc5'
 try simp only [nrm] at hc5'
 refine W_skip (N_K (W_seq (q2 (o_fieldAddr 1 runUnderlying37 Z sizeOf4 Z Z Z (o_load_B 1 H isAgg4 Z Z Z Z (o_fieldAddr 1 runUnderlying37 Z sizeOf4 Z Z Z (o_load_B 0 H isAgg4 Z Z Z Z (o_bneq underlying4 Z Z Z (q3 ?_)))))))))
 refine W_cond Z ?_ ?_
 ·intro hc6
  try simp only [nrm] at hc6
  refine q2 (aG Z (q3 (W_ret (N_K_ret (rt1 results132 Z ?_)))))
  exact absurd (show False from by simp [hab] at hc6) id
 intro hc6'
 try simp only [nrm] at hc6'
 refine W_skip (N_K (W_seq (q2 (o_fieldAddr 2 runUnderlying37 Z sizeOf33 Z Z Z (o_load_B 1 H isAgg33 Z Z Z Z (o_fieldAddr 2 runUnderlying37 Z sizeOf33 Z Z Z (o_load_B 0 H isAgg33 Z Z Z Z (o_call call169 Z Z (w_eqIntS_c _ _ H.sub _ _ hr1 _ _ hr2 (congrArg BItem.ids hab)) ?_))))))))
 rintro _ w7 ⟨rfl, ew7⟩; have H := H.step ew7; refine ⟨_, rfl, ?_⟩
 refine o_not Z Z (q3 (W_false Z (W_skip (N_K (q2 (aG Z (q3 (W_ret (rt1 results132 Z ?_)))))))))
 exact H.rets Z
theorem w_eqItemS_c (w0 : World) (G0 : PH) (hG : PSub G0 w0) (va : Value) (a : List (BItem)) (ha : RdItems G0 va a) (vb : Value) (b : List (BItem)) (hb : RdItems G0 vb b) (hab : a = b) :
  Calls Tryz.prog 79 #[va, vb] w0 (Rets w0 (.bool true)) := by
 obtain ⟨aa, ka, rfl⟩ := ha.shape
 have hlima : a.length ≤ 1099511627776 := ha.lim
 obtain ⟨ab, kb, rfl⟩ := hb.shape
 have hlimb : b.length ≤ 1099511627776 := hb.lim
 have hle := congrArg List.length hab
 have H := Hp.init hG
 refine calls_of_W (l := [.slice aa a.length ka, .slice ab b.length kb]) func79 Z ntmps79 Z (q2 (aG Z (q3 (W_seq (q2 (mV Z (o_len_slice underlying24 Z Z (mV Z (o_len_slice underlying24 Z Z (o_neq Z Z Z (q3 ?_)))))))))))
 refine W_cond Z ?_ ?_
 ·intro hc1
  try simp only [nrm] at hc1
  refine q2 (aG Z (q3 (W_ret (N_K_ret (rt1 results79 Z ?_)))))
  exact absurd (show False from by omega) id
 intro hc1'
 try simp only [nrm] at hc1'
 refine W_skip (N_K (W_seq (q2 (aG Z (q3 (W_block ?_))))))
 refine W_lp (hf := (Sub.cons (t := 0) Z (Sub.cons (t := 1) Z Sub.nil))) (J := fun M w m => ∃ (k : Nat) (G : PH), M = [(5, .int .i64 (k : Int))] ∧ PLe G0 G ∧ Hp w0 G0 [] w G [] ∧ (k ≤ a.length) ∧ m = (a.length - k)) (h0 := ⟨0, _, Z, PLe.refl _, H, ?inv, Z⟩) (round := ?round)
 case inv => omega
 case round =>
  rintro _ w2 _ ⟨k, G2, rfl, hle2, H, hinv2, rfl⟩
  have ha := ha.up hle2
  have hb := hb.up hle2
  have hk := hinv2
  refine W_seq (q2 (mV Z (mV Z (o_len_slice underlying24 Z Z (o_lss Z Z Z (q3 ?_))))))
  refine W_cond Z ?_ ?_
  ·intro hc3
   try simp only [nrm] at hc3
   refine W_skip (N_K (W_seq (W_block (W_seq (W_drawK [] 10 H kR Z ?_))))); intro w4 H; have hd4 := PLe.refl G2
   refine vM 0 Z Z (vM 1 Z Z ?_)
   have hl5 := ha.len
   obtain ⟨b5, o5, z5, q5, ha5, hz5, hq5, hE5, hrow5, _⟩ := ha.at (i := k) oM
   clear hq5
   obtain ⟨a5, m5, c5, rfl, hi5, hr5⟩ := hE5; have hy_hi5 : _ ≤ 16777216 := hi5; have hn_hr5 := hr5.len; have hx_hr5 : _ ≤ 1099511627776 := hr5.lim
   refine RD_t 2 Z kR Z (fun _ hK => v_index_P (i := k) ha5 underlying24 sizeOf37 Z Z Z oM) (RD_t 3 Z kR Z (fun _ hK => v_loadagg_P hK isAgg37 sizeOf37 Z hrow5 Z) (vM 4 Z Z (vM 5 Z Z ?_)))
   have hl6 := hb.len
   obtain ⟨b6, o6, z6, q6, ha6, hz6, hq6, hE6, hrow6, _⟩ := hb.at (i := k) oM
   clear hq6
   obtain ⟨a6, m6, c6, rfl, hi6, hr6⟩ := hE6; have hy_hi6 : _ ≤ 16777216 := hi6; have hn_hr6 := hr6.len; have hx_hr6 : _ ≤ 1099511627776 := hr6.lim
   refine RD_t 6 Z kR Z (fun _ hK => v_index_P (i := k) ha6 underlying24 sizeOf37 Z Z Z oM) (RD_t 7 Z kR Z (fun _ hK => v_loadagg_P hK isAgg37 sizeOf37 Z hrow6 Z) ?_)
   refine RD_run [8] kR Z (RDs.cons Z ?_ RDs.nil)
   refine o_call call132 Z Z (w_eqItem_c _ _ H.sub _ _ ⟨_, _, _, Z, hi5, hr5⟩ _ _ ⟨_, _, _, Z, hi6, hr6⟩ (Sp.same_at hab hz5 hz6)) ?_
   rintro _ w7 ⟨rfl, ew7⟩; have H := H.step ew7; refine ⟨_, rfl, ?_⟩
   refine R_nil (N_DK (Kn.of' H hd4 SubL.nil) (RD_t 9 Z kR Z (fun _ hK => v_not Z) (RD_done kR (N_K (W_false Z (W_skip (N_B (N_K (W_region (mV Z (o_add Z Z Z oO (aG Z (R_nil ?_)))))))))))))
   refine N_lp (hJ := ⟨k + 1, _, Z, hle2, H, ?inv, Z⟩) (hm := ?hm)
   case hm => omega
   case inv => omega
  intro hc3'
  try simp only [nrm] at hc3'
  refine W_exit (N_K_exit (N_LP_exit (N_B_same (N_K (q2 (aG Z (q3 (W_ret (rt1 results79 Z ?_)))))))))
  exact H.rets Z
theorem w_eqSnap_c (w0 : World) (G0 : PH) (hG : PSub G0 w0) (ca : List Value) (a : BSnap) (ha : snapE G0 a ca) (cb : List Value) (b : BSnap) (hb : snapE G0 b cb) (hab : a = b) :
  Calls Tryz.prog 133 #[.agg ca.toArray, .agg cb.toArray] w0 (Rets w0 (.bool true)) := by
 obtain ⟨a1, m1, c1, rfl, hi1, hr1⟩ := ha; have hy_hi1 : _ ≤ 16777216 := hi1; have hn_hr1 := hr1.len; have hx_hr1 : _ ≤ 1099511627776 := hr1.lim
 obtain ⟨a2, m2, c2, rfl, hi2, hr2⟩ := hb; have hy_hi2 : _ ≤ 16777216 := hi2; have hn_hr2 := hr2.len; have hx_hr2 : _ ≤ 1099511627776 := hr2.lim
 have H := Hp.init hG
 refine calls_of_W (l := [_, _]) func133 Z ntmps133 Z (q2 (o_box H Z Z Z ?_)); intro b3 w3 hb3 H
 refine o_box H Z Z Z ?_; intro b4 w4 hb4 H
 refine aG Z (q3 (W_seq (q2 (o_fieldAddr 0 runUnderlying81 Z sizeOf9 Z Z Z (o_load_B 1 H isAgg9 Z Z Z Z (o_fieldAddr 0 runUnderlying81 Z sizeOf9 Z Z Z (o_load_B 0 H isAgg9 Z Z Z Z (o_sneq Z Z Z (q3 ?_)))))))))
 refine W_cond Z ?_ ?_
 ·intro hc5
  try simp only [nrm] at hc5
  refine q2 (aG Z (q3 (W_ret (N_K_ret (rt1 results133 Z ?_)))))
  exact absurd (show False from by simp [hab] at hc5) id
 intro hc5'
 try simp only [nrm] at hc5'
 refine W_skip (N_K (W_seq (q2 (o_fieldAddr 1 runUnderlying81 Z sizeOf24 Z Z Z (o_load_B 1 H isAgg24 Z Z Z Z (o_fieldAddr 1 runUnderlying81 Z sizeOf24 Z Z Z (o_load_B 0 H isAgg24 Z Z Z Z (o_call call79 Z Z (w_eqItemS_c _ _ H.sub _ _ hr1 _ _ hr2 (congrArg BSnap.tree hab)) ?_))))))))
 rintro _ w6 ⟨rfl, ew6⟩; have H := H.step ew6; refine ⟨_, rfl, ?_⟩
 refine o_not Z Z (q3 (W_false Z (W_skip (N_K (q2 (aG Z (q3 (W_ret (rt1 results133 Z ?_)))))))))
 exact H.rets Z
theorem w_eqSnapS_c (w0 : World) (G0 : PH) (hG : PSub G0 w0) (va : Value) (a : List (BSnap)) (ha : RdSn G0 va a) (vb : Value) (b : List (BSnap)) (hb : RdSn G0 vb b) (hab : a = b) :
  Calls Tryz.prog 80 #[va, vb] w0 (Rets w0 (.bool true)) := by
 obtain ⟨aa, ka, rfl⟩ := ha.shape
 have hlima : a.length ≤ 1099511627776 := ha.lim
 obtain ⟨ab, kb, rfl⟩ := hb.shape
 have hlimb : b.length ≤ 1099511627776 := hb.lim
 have hle := congrArg List.length hab
 have H := Hp.init hG
 refine calls_of_W (l := [.slice aa a.length ka, .slice ab b.length kb]) func80 Z ntmps80 Z (q2 (aG Z (q3 (W_seq (q2 (mV Z (o_len_slice underlying25 Z Z (mV Z (o_len_slice underlying25 Z Z (o_neq Z Z Z (q3 ?_)))))))))))
 refine W_cond Z ?_ ?_
 ·intro hc1
  try simp only [nrm] at hc1
  refine q2 (aG Z (q3 (W_ret (N_K_ret (rt1 results80 Z ?_)))))
  exact absurd (show False from by omega) id
 intro hc1'
 try simp only [nrm] at hc1'
 refine W_skip (N_K (W_seq (q2 (aG Z (q3 (W_block ?_))))))
 refine W_lp (hf := (Sub.cons (t := 0) Z (Sub.cons (t := 1) Z Sub.nil))) (J := fun M w m => ∃ (k : Nat) (G : PH), M = [(5, .int .i64 (k : Int))] ∧ PLe G0 G ∧ Hp w0 G0 [] w G [] ∧ (k ≤ a.length) ∧ m = (a.length - k)) (h0 := ⟨0, _, Z, PLe.refl _, H, ?inv, Z⟩) (round := ?round)
 case inv => omega
 case round =>
  rintro _ w2 _ ⟨k, G2, rfl, hle2, H, hinv2, rfl⟩
  have ha := ha.up hle2
  have hb := hb.up hle2
  have hk := hinv2
  refine W_seq (q2 (mV Z (mV Z (o_len_slice underlying25 Z Z (o_lss Z Z Z (q3 ?_))))))
  refine W_cond Z ?_ ?_
  ·intro hc3
   try simp only [nrm] at hc3
   refine W_skip (N_K (W_seq (W_block (W_seq (W_drawK [] 10 H kR Z ?_))))); intro w4 H; have hd4 := PLe.refl G2
   refine vM 0 Z Z (vM 1 Z Z ?_)
   have hl5 := ha.len
   obtain ⟨b5, o5, z5, q5, ha5, hz5, hq5, hE5, hrow5, _⟩ := ha.at (i := k) oM
   clear hq5
   obtain ⟨a5, m5, c5, rfl, hi5, hr5⟩ := hE5; have hy_hi5 : _ ≤ 16777216 := hi5; have hn_hr5 := hr5.len; have hx_hr5 : _ ≤ 1099511627776 := hr5.lim
   refine RD_t 2 Z kR Z (fun _ hK => v_index_P (i := k) ha5 underlying25 sizeOf81 Z Z Z oM) (RD_t 3 Z kR Z (fun _ hK => v_loadagg_P hK isAgg81 sizeOf81 Z hrow5 Z) (vM 4 Z Z (vM 5 Z Z ?_)))
   have hl6 := hb.len
   obtain ⟨b6, o6, z6, q6, ha6, hz6, hq6, hE6, hrow6, _⟩ := hb.at (i := k) oM
   clear hq6
   obtain ⟨a6, m6, c6, rfl, hi6, hr6⟩ := hE6; have hy_hi6 : _ ≤ 16777216 := hi6; have hn_hr6 := hr6.len; have hx_hr6 : _ ≤ 1099511627776 := hr6.lim
   refine RD_t 6 Z kR Z (fun _ hK => v_index_P (i := k) ha6 underlying25 sizeOf81 Z Z Z oM) (RD_t 7 Z kR Z (fun _ hK => v_loadagg_P hK isAgg81 sizeOf81 Z hrow6 Z) ?_)
   refine RD_run [8] kR Z (RDs.cons Z ?_ RDs.nil)
   refine o_call call133 Z Z (w_eqSnap_c _ _ H.sub _ _ ⟨_, _, _, Z, hi5, hr5⟩ _ _ ⟨_, _, _, Z, hi6, hr6⟩ (Sp.same_at hab hz5 hz6)) ?_
   rintro _ w7 ⟨rfl, ew7⟩; have H := H.step ew7; refine ⟨_, rfl, ?_⟩
   refine R_nil (N_DK (Kn.of' H hd4 SubL.nil) (RD_t 9 Z kR Z (fun _ hK => v_not Z) (RD_done kR (N_K (W_false Z (W_skip (N_B (N_K (W_region (mV Z (o_add Z Z Z oO (aG Z (R_nil ?_)))))))))))))
   refine N_lp (hJ := ⟨k + 1, _, Z, hle2, H, ?inv, Z⟩) (hm := ?hm)
   case hm => omega
   case inv => omega
  intro hc3'
  try simp only [nrm] at hc3'
  refine W_exit (N_K_exit (N_LP_exit (N_B_same (N_K (q2 (aG Z (q3 (W_ret (rt1 results80 Z ?_)))))))))
  exact H.rets Z
theorem w_eqDisk_c (w0 : World) (G0 : PH) (hG : PSub G0 w0) (ca : List Value) (a : BDisk) (ha : diskE G0 a ca) (cb : List Value) (b : BDisk) (hb : diskE G0 b cb) (hab : a = b) :
  Calls Tryz.prog 33 #[.agg ca.toArray, .agg cb.toArray] w0 (Rets w0 (.bool true)) := by
 obtain ⟨a1, m1, c1, a1', m1', c1', a1'', m1'', c1'', rfl, hr1, hr1', hr1''⟩ := ha; have hn_hr1 := hr1.len; have hx_hr1 : _ ≤ 1099511627776 := hr1.lim; have hn_hr1q := hr1'.len; have hx_hr1q : _ ≤ 1099511627776 := hr1'.lim; have hn_hr1qq := hr1''.len; have hx_hr1qq : _ ≤ 1099511627776 := hr1''.lim
 obtain ⟨a2, m2, c2, a2', m2', c2', a2'', m2'', c2'', rfl, hr2, hr2', hr2''⟩ := hb; have hn_hr2 := hr2.len; have hx_hr2 : _ ≤ 1099511627776 := hr2.lim; have hn_hr2q := hr2'.len; have hx_hr2q : _ ≤ 1099511627776 := hr2'.lim; have hn_hr2qq := hr2''.len; have hx_hr2qq : _ ≤ 1099511627776 := hr2''.lim
 have H := Hp.init hG
 refine calls_of_W (l := [_, _]) func33 Z ntmps33 Z (q2 (o_box H Z Z Z ?_)); intro b3 w3 hb3 H
 refine o_box H Z Z Z ?_; intro b4 w4 hb4 H
 refine aG Z (q3 (W_seq (q2 (o_fieldAddr 0 runUnderlying27 Z sizeOf23 Z Z Z (o_load_B 1 H isAgg23 Z Z Z Z (o_fieldAddr 0 runUnderlying27 Z sizeOf23 Z Z Z (o_load_B 0 H isAgg23 Z Z Z Z (o_call call78 Z Z (w_eqHeldS_c _ _ H.sub _ _ hr1 _ _ hr2 (congrArg BDisk.store hab)) ?_))))))))
 rintro _ w5 ⟨rfl, ew5⟩; have H := H.step ew5; refine ⟨_, rfl, ?_⟩
 refine o_not Z Z (q3 (W_false Z (W_skip (N_K (W_seq (q2 (o_fieldAddr 1 runUnderlying27 Z sizeOf24 Z Z Z (o_load_B 1 H isAgg24 Z Z Z Z (o_fieldAddr 1 runUnderlying27 Z sizeOf24 Z Z Z (o_load_B 0 H isAgg24 Z Z Z Z (o_call call79 Z Z (w_eqItemS_c _ _ H.sub _ _ hr1' _ _ hr2' (congrArg BDisk.tree hab)) ?_)))))))))))
 rintro _ w6 ⟨rfl, ew6⟩; have H := H.step ew6; refine ⟨_, rfl, ?_⟩
 refine o_not Z Z (q3 (W_false Z (W_skip (N_K (W_seq (q2 (o_fieldAddr 2 runUnderlying27 Z sizeOf25 Z Z Z (o_load_B 1 H isAgg25 Z Z Z Z (o_fieldAddr 2 runUnderlying27 Z sizeOf25 Z Z Z (o_load_B 0 H isAgg25 Z Z Z Z (o_call call80 Z Z (w_eqSnapS_c _ _ H.sub _ _ hr1'' _ _ hr2'' (congrArg BDisk.snaps hab)) ?_)))))))))))
 rintro _ w7 ⟨rfl, ew7⟩; have H := H.step ew7; refine ⟨_, rfl, ?_⟩
 refine o_not Z Z (q3 (W_false Z (W_skip (N_K (q2 (aG Z (q3 (W_ret (rt1 results33 Z ?_)))))))))
 exact H.rets Z
end Go.Proofs.Tst

namespace Go.Proofs.Tst
open Go Fw Tryz
theorem w_toIntS_c (w0 : World) (G0 : PH) (hG : PSub G0 w0) (va : Value) (a : List (Int)) (ha : RdI G0 va a)  :
  Calls Tryz.prog 168 #[va] w0 (RetO w0 G0 (AccOf intE 1 3 a)) := by
 obtain ⟨aa, ka, rfl⟩ := ha.shape
 have hlima : a.length ≤ 1099511627776 := ha.lim
 have H := Hp.init hG
 refine calls_of_W (l := [.slice aa a.length ka]) func168 Z ntmps168 Z (q2 (aG Z (q1 (mV Z (o_len_slice underlying33 Z Z (o_makeN (c := a.length) (sz := 1) (bytes := 8) H underlying33 typeInfo3 ⟨_, Z, Z⟩ Z Z Z Z Z Z Z Z Z oM Z ?_)))))); intro b1 w1 H
 have hchk1 := Chk.rep (E := intE) (sz := 1) (G := G0) (x0 := 0) (⟨rfl, by decide⟩) rfl (a.length)
 refine aG Z (q3 (W_seq (q2 (aG Z (q3 (W_block ?_))))))
 refine W_lp (hf := (Sub.cons (t := 0) Z (Sub.cons (t := 2) Z Sub.nil))) (J := fun M w m => ∃ (v : Value) (n : Nat) (cs : List Value) (xs : List (Int)) (k : Nat) (G : PH), M = [(4, .int .i64 (k : Int)), (3, v)] ∧ PLe G0 G ∧ Hp w0 G0 [] w G [acc 3 1 v n cs] ∧ (Chk intE 1 G cs xs ∧ n = xs.length ∧ k ≤ a.length ∧ xs.length = a.length ∧ xs.take k = a.take k) ∧ m = (a.length - k)) (h0 := ⟨_, _, _, (List.replicate a.length 0), 0, _, Z, PLe.refl _, H, ?inv, Z⟩) (round := ?round)
 case inv => exact ⟨hchk1,  by first | rfl | simp | (simp; omega) | omega, (by simp)⟩
 case round =>
  rintro _ w2 _ ⟨v, n, cs, xs, k, G2, rfl, hle2, H, hinv2, rfl⟩
  have ha := ha.up hle2
  obtain ⟨hchk2_0, hn2_0, hinv2⟩ := hinv2
  obtain ⟨av2_0, cv2_0, rfl⟩ := H.accShape (k := 0) rfl
  obtain ⟨hk, hxl, hxt⟩ := hinv2
  refine W_seq (q2 (mV Z (mV Z (o_len_slice underlying33 Z Z (o_lss Z Z Z (q3 ?_))))))
  refine W_cond Z ?_ ?_
  ·intro hc3
   try simp only [nrm] at hc3
   refine W_skip (N_K (W_seq (W_block (W_region (mV Z (mV Z (mV Z (mV Z (o_index_P k ha underlying33 sizeOf3 Z Z Z Z aN ?_))))))))); intro b4 o4 z4 q4 hz4 hE4 hrow4
   obtain ⟨rfl, hi4⟩ := hE4
   refine o_load_P H isAgg3 Z Z (hrow4 0 _ Z) (o_index_A 0 H k Z hchk2_0 underlying33 sizeOf3 Z Z Z Z aN aN ?_); intro ba5 z5 q5 hba5 hz5 hE5 hg5; cases hba5
   obtain ⟨rfl, hi5⟩ := hE5
   have hcl6 := hchk2_0.length
   refine o_store_A 0 H sizeOf3 Z Z Z Z Z (by simp only [vc, List.length_cons, List.length_nil]; omega) ?_; intro w6 H
   have hchk6 := hchk2_0.put (x' := z4) (off := 0) (vs := [_]) hz5 (fun cs hl hE => by obtain ⟨rfl, _⟩ := hE; exact ⟨rfl, oO⟩) (by simp only [vc, List.length_cons, List.length_nil]; omega)
   refine R_nil (N_B (N_K (W_region (mV Z (o_add Z Z Z oO (aG Z (R_nil ?_)))))))
   refine N_lp (hJ := ⟨_, _, _, (xs.set k z4), k + 1, _, Z, hle2, H, ?inv, Z⟩) (hm := ?hm)
   case hm => omega
   case inv => exact ⟨hchk6, aN, (by exact ⟨by omega, by simp [hxl], Sp.take_set hxt hxl hz4⟩)⟩
  intro hc3'
  try simp only [nrm] at hc3'
  refine W_exit (N_K_exit (N_LP_exit (N_B_same (N_K (q2 (mV Z (aG Z (q3 (W_ret (rt1 results168 Z ?_))))))))))
  exact H.retO (k := 0) rfl (by (obtain rfl : k = a.length := by omega); (have hxx : xs = a := by (have h9 := hxt; rw [List.take_of_length_le oM, List.take_length] at h9; exact h9)); subst hxx; exact AccOf.mk aN hchk2_0) (acc_nd _ _ _ _ _)
end Go.Proofs.Tst

namespace Go.Proofs.Tst
open Go Fw Tryz
theorem w_toHeld_c (w0 : World) (G0 : PH) (hG : PSub G0 w0) (ca : List Value) (a : BHeld) (ha : heldE G0 a ca)  :
  Calls Tryz.prog 128 #[.agg ca.toArray] w0 (RetN w0 G0 (fun v Bs => ∃ (F : Fr) (cs : List Value), v = .agg cs.toArray ∧ Bs = [frag F] ∧ heldO F a cs)) := by
 obtain ⟨a1, m1, c1, rfl, hi1, hr1, hj1⟩ := ha; have hn_hr1 := hr1.len; have hx_hr1 : _ ≤ 1099511627776 := hr1.lim
 have H := Hp.init hG
 refine calls_of_W (l := [_]) func128 Z ntmps128 Z (q2 (o_box H Z Z Z ?_)); intro b2 w2 hb2 H
 refine o_alloc H zeroValue105 Z Z ?_; intro b3 w3 hb3 H
 refine q1 (o_alloc H zeroValue105 Z Z ?_); intro b4 w4 hb4 H
 refine q1 (o_fieldAddr 0 runUnderlying166 Z sizeOf3 Z Z Z (o_load_B 2 H isAgg3 Z Z Z Z (o_fieldAddr 0 runUnderlying105 Z sizeOf3 Z Z Z (o_store_B 0 H sizeOf3 Z Z Z Z Z Z Z Z ?_)))); intro w5 H
 refine q1 (o_fieldAddr 1 runUnderlying166 Z sizeOf33 Z Z Z (o_load_B 2 H isAgg33 Z Z Z Z (o_call call168 Z Z (w_toIntS_c _ _ H.sub _ _ hr1 ) ?_)))
 rintro _ w6 ⟨G6, v6, _, g6, rfl, ⟨cs6, rfl, hchk6⟩, hp6, hq6, hs6⟩
 have H := H.growO g6 hp6 hq6 hs6; obtain ⟨av6, cv6, rfl⟩ := H.accShape (k := 0) rfl
 refine ⟨_, Z, ?_⟩
 refine o_fieldAddr 1 runUnderlying105 Z sizeOf33 Z Z Z (o_store_B 1 H sizeOf33 Z Z Z Z Z Z Z Z ?_); intro w7 H
 refine q1 (o_fieldAddr 2 runUnderlying166 Z sizeOf3 Z Z Z (o_load_B 3 H isAgg3 Z Z Z Z (o_fieldAddr 2 runUnderlying105 Z sizeOf3 Z Z Z (o_store_B 1 H sizeOf3 Z Z Z Z Z Z Z Z ?_)))); intro w8 H
 refine q1 (o_loadagg_B 1 H isAgg105 sizeOf105 Z Z Z Z Z (o_store_B 2 H sizeOf105 Z Z Z Z Z Z Z Z ?_)); intro w9 H
 refine q3 (W_ret (ret_gen (rs := [.cell 2 105]) (vs := [_]) results128 ⟨⟨_, Z, load_blk 2 H isAgg105 sizeOf105 Z Z Z⟩, trivial⟩ ?_))
 obtain ⟨Fi1, H, hOI1⟩ := H.ownI (k := 0) rfl hchk6 aN aN
 have H := H.del (k := 1) rfl
 have H := H.del (k := 1) rfl
 have H := H.del (k := 1) rfl
 have H := H.forget hG (by simp)
 exact ⟨_, _, Z, H, _, _, Z, Z, ⟨_, _, _, Z, oO, hOI1, oO⟩⟩
theorem w_toItem_c (w0 : World) (G0 : PH) (hG : PSub G0 w0) (ca : List Value) (a : BItem) (ha : itemE G0 a ca)  :
  Calls Tryz.prog 129 #[.agg ca.toArray] w0 (RetN w0 G0 (fun v Bs => ∃ (F : Fr) (cs : List Value), v = .agg cs.toArray ∧ Bs = [frag F] ∧ itemO F a cs)) := by
 obtain ⟨a1, m1, c1, rfl, hi1, hr1⟩ := ha; have hy_hi1 : _ ≤ 16777216 := hi1; have hn_hr1 := hr1.len; have hx_hr1 : _ ≤ 1099511627776 := hr1.lim
 have H := Hp.init hG
 refine calls_of_W (l := [_]) func129 Z ntmps129 Z (q2 (o_box H Z Z Z ?_)); intro b2 w2 hb2 H
 refine o_alloc H zeroValue37 Z Z ?_; intro b3 w3 hb3 H
 refine q1 (o_alloc H zeroValue37 Z Z ?_); intro b4 w4 hb4 H
 refine q1 (o_fieldAddr 0 runUnderlying168 Z sizeOf9 Z Z Z (o_load_B 2 H isAgg9 Z Z Z Z (o_fieldAddr 0 runUnderlying37 Z sizeOf9 Z Z Z (o_store_B 0 H sizeOf9 Z Z Z Z Z Z Z Z ?_)))); intro w5 H
 refine q1 (o_fieldAddr 1 runUnderlying168 Z sizeOf4 Z Z Z (o_load_B 2 H isAgg4 Z Z Z Z (o_fieldAddr 1 runUnderlying37 Z sizeOf4 Z Z Z (o_store_B 0 H sizeOf4 Z Z Z Z Z Z Z Z ?_)))); intro w6 H
 refine q1 (o_fieldAddr 2 runUnderlying168 Z sizeOf33 Z Z Z (o_load_B 2 H isAgg33 Z Z Z Z (o_call call168 Z Z (w_toIntS_c _ _ H.sub _ _ hr1 ) ?_)))
 rintro _ w7 ⟨G7, v7, _, g7, rfl, ⟨cs7, rfl, hchk7⟩, hp7, hq7, hs7⟩
 have H := H.growO g7 hp7 hq7 hs7; obtain ⟨av7, cv7, rfl⟩ := H.accShape (k := 0) rfl
 refine ⟨_, Z, ?_⟩
 refine o_fieldAddr 2 runUnderlying37 Z sizeOf33 Z Z Z (o_store_B 1 H sizeOf33 Z Z Z Z Z Z Z Z ?_); intro w8 H
 refine q1 (o_loadagg_B 1 H isAgg37 sizeOf37 Z Z Z Z Z (o_store_B 2 H sizeOf37 Z Z Z Z Z Z Z Z ?_)); intro w9 H
 refine q3 (W_ret (ret_gen (rs := [.cell 2 37]) (vs := [_]) results129 ⟨⟨_, Z, load_blk 2 H isAgg37 sizeOf37 Z Z Z⟩, trivial⟩ ?_))
 obtain ⟨Fi1, H, hOI1⟩ := H.ownI (k := 0) rfl hchk7 aN aN
 have H := H.del (k := 1) rfl
 have H := H.del (k := 1) rfl
 have H := H.del (k := 1) rfl
 have H := H.forget hG (by simp)
 exact ⟨_, _, Z, H, _, _, Z, Z, ⟨_, _, _, Z, hi1, hOI1⟩⟩
end Go.Proofs.Tst

namespace Go.Proofs.Tst
open Go Fw Tryz
theorem w_toHeldS_c (w0 : World) (G0 : PH) (hG : PSub G0 w0) (va : Value) (a : List (BHeld)) (ha : RdH G0 va a)  :
  Calls Tryz.prog 75 #[va] w0 (RetN w0 G0 (fun v Bs => ∃ (F : Fr), Bs = [frag F] ∧ OHs F v a)) := by
 obtain ⟨aa, ka, rfl⟩ := ha.shape
 have hlima : a.length ≤ 1099511627776 := ha.lim
 have H := Hp.init hG
 refine calls_of_W (l := [.slice aa a.length ka]) func75 Z ntmps75 Z (q2 (aG Z (q1 (mV Z (o_len_slice underlying55 Z Z (o_makeN (c := a.length) (sz := 3) (bytes := 40) H underlying23 typeInfo105 ⟨_, Z, Z⟩ Z Z Z Z Z Z Z Z Z oM Z ?_)))))); intro b1 w1 H
 have hchk1 := Chk.rep (E := heldE) (sz := 3) (G := G0) (x0 := ⟨0, [], 0⟩) (zeroHeld _) rfl (a.length)
 refine aG Z (q3 (W_seq (q2 (aG Z (q3 (W_block ?_))))))
 have H := H.addF
 refine W_lp (hf := (Sub.cons (t := 0) Z (Sub.cons (t := 2) Z Sub.nil))) (J := fun M w m => ∃ (v : Value) (n : Nat) (cs : List Value) (xs : List (BHeld)) (F : Fr) (k : Nat) (G : PH), M = [(4, .int .i64 (k : Int)), (3, v)] ∧ PLe G0 G ∧ Hp w0 G0 [] w G [frag F, acc 105 3 v n cs] ∧ (ChkF heldO 3 cs xs F ∧ n = xs.length ∧ k ≤ a.length ∧ xs.length = a.length ∧ xs.take k = a.take k) ∧ m = (a.length - k)) (h0 := ⟨_, _, _, (List.replicate a.length ⟨0, [], 0⟩), [], 0, _, Z, PLe.refl _, H, ?inv, Z⟩) (round := ?round)
 case inv => exact ⟨(ChkF.rep zeroHeldO rfl (a.length)),  by first | rfl | simp | (simp; omega) | omega, (by simp)⟩
 case round =>
  rintro _ w2 _ ⟨v, n, cs, xs, F, k, G2, rfl, hle2, H, hinv2, rfl⟩
  have ha := ha.up hle2
  obtain ⟨hchk2_0, hn2_0, hinv2⟩ := hinv2
  obtain ⟨av2_0, cv2_0, rfl⟩ := H.accShape (k := 1) rfl
  obtain ⟨hk, hxl, hxt⟩ := hinv2
  refine W_seq (q2 (mV Z (mV Z (o_len_slice underlying55 Z Z (o_lss Z Z Z (q3 ?_))))))
  refine W_cond Z ?_ ?_
  ·intro hc3
   try simp only [nrm] at hc3
   refine W_skip (N_K (W_seq (W_block (W_region (mV Z (mV Z (mV Z (mV Z (o_index_P k ha underlying55 sizeOf166 Z Z Z Z aN ?_))))))))); intro b4 o4 z4 q4 hz4 hE4 hrow4
   obtain ⟨a4, m4, c4, rfl, hi4, hr4, hj4⟩ := hE4; have hn_hr4 := hr4.len; have hx_hr4 : _ ≤ 1099511627776 := hr4.lim
   refine o_loadagg_P H isAgg166 sizeOf166 Z Z hrow4 Z ?_
   refine o_call call128 Z Z (w_toHeld_c _ _ H.sub _ _ ⟨_, _, _, Z, ⟨by first | omega | (dsimp only; omega), by first | omega | (dsimp only; omega)⟩, hr4, ⟨by first | omega | (dsimp only; omega), by first | omega | (dsimp only; omega)⟩⟩ ) ?_
   rintro _ w5 ⟨_, _, rfl, H5', ⟨F5, cs5, rfl, rfl, hO5⟩⟩
   have H := H.readers (fp := []) (by simp) (PLe.refl _) H5'
   obtain ⟨oa5, om5, oc5, rfl, hi5, ho5, hj5⟩ := hO5
   refine ⟨_, Z, ?_⟩
   obtain ⟨z6, hz6⟩ : ∃ z, xs[k]? = some z := ⟨_, List.getElem?_eq_getElem aN⟩
   obtain ⟨q6, P6, Fi6, Q6, hF6, hl6, hE6, hg6, hput6, hpu06⟩ := (hchk2_0).focus hz6
   rw [hF6] at H
   refine o_index_F 2 H k Z underlying23 sizeOf105 Z Z Z Z aN ?_; intro ba6 hba6; cases hba6
   obtain ⟨oa6, om6, oc6, rfl, hi6, ho6, hj6⟩ := hE6
   have hbk6 : ChkF heldO 3 _ (xs.set k z6) _ := hpu06 _ z6 (show heldO _ _ _ from ⟨_, _, _, rfl, hi6, ho6, hj6⟩)
   have hsame6 : xs.set k z6 = xs := Fw.set_same hz6; rw [hsame6] at hbk6
   have hcl7 := (hbk6).length
   have hlt7 : k < xs.length := (List.getElem?_eq_some_iff.1 hz6).1
   try simp only [length_setCs, List.length_set] at hcl7
   try simp only [List.length_set] at hlt7
   refine o_store_A 2 H sizeOf105 Z Z Z Z Z (by simp only [vc, List.length_cons, List.length_nil, length_setCs]; omega) ?_; intro w7 H
   have H := H.toFront (k := 1) rfl
   have H := H.outFi; have H := H.del (k := 0) rfl
   have H := H.toFront (k := 2) rfl
   have H := H.toFront (k := 2) rfl; have H := H.toFront (k := 2) rfl; have H := H.toFront (k := 2) rfl
   have H := H.inFi
   have hchk7 := hput6 F5 z4 0 [_, _, _] (by simp) (show heldO _ _ _ from ⟨_, _, _, rfl, ⟨by first | omega | (dsimp only; omega), by first | omega | (dsimp only; omega)⟩, ho5, ⟨by first | omega | (dsimp only; omega), by first | omega | (dsimp only; omega)⟩⟩)
   refine R_nil (N_B (N_K (W_region (mV Z (o_add Z Z Z oO (aG Z (R_nil ?_)))))))
   refine N_lp (hJ := ⟨_, _, _, (xs.set k z4), (P6 ++ (F5 ++ Q6)), k + 1, _, Z, hle2, H, ?inv, Z⟩) (hm := ?hm)
   case hm => omega
   case inv => exact ⟨hchk7, aN, (by exact ⟨by omega, by simp [hxl], Sp.take_set hxt hxl hz4⟩)⟩
  intro hc3'
  try simp only [nrm] at hc3'
  refine W_exit (N_K_exit (N_LP_exit (N_B_same (N_K (q2 (mV Z (aG Z (q3 (W_ret (rt1 results75 Z ?_))))))))))
  have hke : k = a.length := by omega
  have hxx : xs = a := by (have h9 := hxt; rw [hke, List.take_of_length_le oM, List.take_length] at h9; exact h9)
  have H := H.toFront (k := 1) rfl
  obtain ⟨Fo2, H, hOw2⟩ := H.ownF hchk2_0 aN aN
  have H := H.forget hG (by simp)
  exact ⟨_, _, Z, H, _, Z, hxx ▸ ⟨_, hOw2⟩⟩
theorem w_toItemS_c (w0 : World) (G0 : PH) (hG : PSub G0 w0) (va : Value) (a : List (BItem)) (ha : RdItems G0 va a)  :
  Calls Tryz.prog 76 #[va] w0 (RetN w0 G0 (fun v Bs => ∃ (F : Fr), Bs = [frag F] ∧ OIs F v a)) := by
 obtain ⟨aa, ka, rfl⟩ := ha.shape
 have hlima : a.length ≤ 1099511627776 := ha.lim
 have H := Hp.init hG
 refine calls_of_W (l := [.slice aa a.length ka]) func76 Z ntmps76 Z (q2 (aG Z (q1 (mV Z (o_len_slice underlying56 Z Z (o_makeN (c := a.length) (sz := 3) (bytes := 48) H underlying24 typeInfo37 ⟨_, Z, Z⟩ Z Z Z Z Z Z Z Z Z oM Z ?_)))))); intro b1 w1 H
 have hchk1 := Chk.rep (E := itemE) (sz := 3) (G := G0) (x0 := ⟨[], false, []⟩) (itemE.mk (by decide) (RdS.nil _ _ _)) rfl (a.length)
 refine aG Z (q3 (W_seq (q2 (aG Z (q3 (W_block ?_))))))
 have H := H.addF
 refine W_lp (hf := (Sub.cons (t := 0) Z (Sub.cons (t := 2) Z Sub.nil))) (J := fun M w m => ∃ (v : Value) (n : Nat) (cs : List Value) (xs : List (BItem)) (F : Fr) (k : Nat) (G : PH), M = [(4, .int .i64 (k : Int)), (3, v)] ∧ PLe G0 G ∧ Hp w0 G0 [] w G [frag F, acc 37 3 v n cs] ∧ (ChkF itemO 3 cs xs F ∧ n = xs.length ∧ k ≤ a.length ∧ xs.length = a.length ∧ xs.take k = a.take k) ∧ m = (a.length - k)) (h0 := ⟨_, _, _, (List.replicate a.length ⟨[], false, []⟩), [], 0, _, Z, PLe.refl _, H, ?inv, Z⟩) (round := ?round)
 case inv => exact ⟨(ChkF.rep zeroItemO rfl (a.length)),  by first | rfl | simp | (simp; omega) | omega, (by simp)⟩
 case round =>
  rintro _ w2 _ ⟨v, n, cs, xs, F, k, G2, rfl, hle2, H, hinv2, rfl⟩
  have ha := ha.up hle2
  obtain ⟨hchk2_0, hn2_0, hinv2⟩ := hinv2
  obtain ⟨av2_0, cv2_0, rfl⟩ := H.accShape (k := 1) rfl
  obtain ⟨hk, hxl, hxt⟩ := hinv2
  refine W_seq (q2 (mV Z (mV Z (o_len_slice underlying56 Z Z (o_lss Z Z Z (q3 ?_))))))
  refine W_cond Z ?_ ?_
  ·intro hc3
   try simp only [nrm] at hc3
   refine W_skip (N_K (W_seq (W_block (W_region (mV Z (mV Z (mV Z (mV Z (o_index_P k ha underlying56 sizeOf168 Z Z Z Z aN ?_))))))))); intro b4 o4 z4 q4 hz4 hE4 hrow4
   obtain ⟨a4, m4, c4, rfl, hi4, hr4⟩ := hE4; have hy_hi4 : _ ≤ 16777216 := hi4; have hn_hr4 := hr4.len; have hx_hr4 : _ ≤ 1099511627776 := hr4.lim
   refine o_loadagg_P H isAgg168 sizeOf168 Z Z hrow4 Z (o_call call129 Z Z (w_toItem_c _ _ H.sub _ _ ⟨_, _, _, Z, hi4, hr4⟩ ) ?_)
   rintro _ w5 ⟨_, _, rfl, H5', ⟨F5, cs5, rfl, rfl, hO5⟩⟩
   have H := H.readers (fp := []) (by simp) (PLe.refl _) H5'
   obtain ⟨oa5, om5, oc5, rfl, hi5, ho5⟩ := hO5
   refine ⟨_, Z, ?_⟩
   obtain ⟨z6, hz6⟩ : ∃ z, xs[k]? = some z := ⟨_, List.getElem?_eq_getElem aN⟩
   obtain ⟨q6, P6, Fi6, Q6, hF6, hl6, hE6, hg6, hput6, hpu06⟩ := (hchk2_0).focus hz6
   rw [hF6] at H
   refine o_index_F 2 H k Z underlying24 sizeOf37 Z Z Z Z aN ?_; intro ba6 hba6; cases hba6
   obtain ⟨oa6, om6, oc6, rfl, hi6, ho6⟩ := hE6; have hy_hi6 : _ ≤ 16777216 := hi6
   have hbk6 : ChkF itemO 3 _ (xs.set k z6) _ := hpu06 _ z6 (show itemO _ _ _ from ⟨_, _, _, rfl, hi6, ho6⟩)
   have hsame6 : xs.set k z6 = xs := Fw.set_same hz6; rw [hsame6] at hbk6
   have hcl7 := (hbk6).length
   have hlt7 : k < xs.length := (List.getElem?_eq_some_iff.1 hz6).1
   try simp only [length_setCs, List.length_set] at hcl7
   try simp only [List.length_set] at hlt7
   refine o_store_A 2 H sizeOf37 Z Z Z Z Z (by simp only [vc, List.length_cons, List.length_nil, length_setCs]; omega) ?_; intro w7 H
   have H := H.toFront (k := 1) rfl
   have H := H.outFi; have H := H.del (k := 0) rfl
   have H := H.toFront (k := 2) rfl
   have H := H.toFront (k := 2) rfl; have H := H.toFront (k := 2) rfl; have H := H.toFront (k := 2) rfl
   have H := H.inFi
   have hchk7 := hput6 F5 z4 0 [_, _, _] (by simp) (show itemO _ _ _ from ⟨_, _, _, rfl, hi5, ho5⟩)
   refine R_nil (N_B (N_K (W_region (mV Z (o_add Z Z Z oO (aG Z (R_nil ?_)))))))
   refine N_lp (hJ := ⟨_, _, _, (xs.set k z4), (P6 ++ (F5 ++ Q6)), k + 1, _, Z, hle2, H, ?inv, Z⟩) (hm := ?hm)
   case hm => omega
   case inv => exact ⟨hchk7, aN, (by exact ⟨by omega, by simp [hxl], Sp.take_set hxt hxl hz4⟩)⟩
  intro hc3'
  try simp only [nrm] at hc3'
  refine W_exit (N_K_exit (N_LP_exit (N_B_same (N_K (q2 (mV Z (aG Z (q3 (W_ret (rt1 results76 Z ?_))))))))))
  have hke : k = a.length := by omega
  have hxx : xs = a := by (have h9 := hxt; rw [hke, List.take_of_length_le oM, List.take_length] at h9; exact h9)
  have H := H.toFront (k := 1) rfl
  obtain ⟨Fo2, H, hOw2⟩ := H.ownF hchk2_0 aN aN
  have H := H.forget hG (by simp)
  exact ⟨_, _, Z, H, _, Z, hxx ▸ ⟨_, hOw2⟩⟩
theorem w_toSnap_c (w0 : World) (G0 : PH) (hG : PSub G0 w0) (ca : List Value) (a : BSnap) (ha : snapE G0 a ca)  :
  Calls Tryz.prog 130 #[.agg ca.toArray] w0 (RetN w0 G0 (fun v Bs => ∃ (F : Fr) (cs : List Value), v = .agg cs.toArray ∧ Bs = [frag F] ∧ snapO F a cs)) := by
 obtain ⟨a1, m1, c1, rfl, hi1, hr1⟩ := ha; have hy_hi1 : _ ≤ 16777216 := hi1; have hn_hr1 := hr1.len; have hx_hr1 : _ ≤ 1099511627776 := hr1.lim
 have H := Hp.init hG
 refine calls_of_W (l := [_]) func130 Z ntmps130 Z (q2 (o_box H Z Z Z ?_)); intro b2 w2 hb2 H
 refine o_alloc H zeroValue81 Z Z ?_; intro b3 w3 hb3 H
 refine q1 (o_alloc H zeroValue81 Z Z ?_); intro b4 w4 hb4 H
 refine q1 (o_fieldAddr 0 runUnderlying171 Z sizeOf9 Z Z Z (o_load_B 2 H isAgg9 Z Z Z Z (o_fieldAddr 0 runUnderlying81 Z sizeOf9 Z Z Z (o_store_B 0 H sizeOf9 Z Z Z Z Z Z Z Z ?_)))); intro w5 H
 refine q1 (o_fieldAddr 1 runUnderlying171 Z sizeOf56 Z Z Z (o_load_B 2 H isAgg56 Z Z Z Z (o_call call76 Z Z (w_toItemS_c _ _ H.sub _ _ hr1 ) ?_)))
 rintro _ w6 ⟨_, _, rfl, H6', ⟨F6, rfl, hO6⟩⟩
 have H := H.readers (fp := []) (by simp) (PLe.refl _) H6'
 obtain ⟨e26, hP6⟩ := hO6
 obtain ⟨sa6, sc6, rfl⟩ := OwnS.shape hP6
 have hO6 := OIs.mk hP6
 refine ⟨_, Z, ?_⟩
 refine o_fieldAddr 1 runUnderlying81 Z sizeOf24 Z Z Z (o_store_B 1 H sizeOf24 Z Z Z Z Z Z Z Z ?_); intro w7 H
 refine q1 (o_loadagg_B 1 H isAgg81 sizeOf81 Z Z Z Z Z (o_store_B 2 H sizeOf81 Z Z Z Z Z Z Z Z ?_)); intro w8 H
 refine q3 (W_ret (ret_gen (rs := [.cell 2 81]) (vs := [_]) results130 ⟨⟨_, Z, load_blk 2 H isAgg81 sizeOf81 Z Z Z⟩, trivial⟩ ?_))
 have H := H.del (k := 1) rfl
 have H := H.del (k := 1) rfl
 have H := H.del (k := 1) rfl
 have H := H.forget hG (by simp)
 exact ⟨_, _, Z, H, _, _, Z, Z, ⟨_, _, _, Z, hi1, hO6⟩⟩
theorem w_toSnapS_c (w0 : World) (G0 : PH) (hG : PSub G0 w0) (va : Value) (a : List (BSnap)) (ha : RdSn G0 va a)  :
  Calls Tryz.prog 77 #[va] w0 (RetN w0 G0 (fun v Bs => ∃ (F : Fr), Bs = [frag F] ∧ OSn F v a)) := by
 obtain ⟨aa, ka, rfl⟩ := ha.shape
 have hlima : a.length ≤ 1099511627776 := ha.lim
 have H := Hp.init hG
 refine calls_of_W (l := [.slice aa a.length ka]) func77 Z ntmps77 Z (q2 (aG Z (q1 (mV Z (o_len_slice underlying57 Z Z (o_makeN (c := a.length) (sz := 2) (bytes := 40) H underlying25 typeInfo81 ⟨_, Z, Z⟩ Z Z Z Z Z Z Z Z Z oM Z ?_)))))); intro b1 w1 H
 have hchk1 := Chk.rep (E := snapE) (sz := 2) (G := G0) (x0 := ⟨[], []⟩) (⟨_, _, _, rfl, by decide, RdS.nil _ _ _⟩) rfl (a.length)
 refine aG Z (q3 (W_seq (q2 (aG Z (q3 (W_block ?_))))))
 have H := H.addF
 refine W_lp (hf := (Sub.cons (t := 0) Z (Sub.cons (t := 2) Z Sub.nil))) (J := fun M w m => ∃ (v : Value) (n : Nat) (cs : List Value) (xs : List (BSnap)) (F : Fr) (k : Nat) (G : PH), M = [(4, .int .i64 (k : Int)), (3, v)] ∧ PLe G0 G ∧ Hp w0 G0 [] w G [frag F, acc 81 2 v n cs] ∧ (ChkF snapO 2 cs xs F ∧ n = xs.length ∧ k ≤ a.length ∧ xs.length = a.length ∧ xs.take k = a.take k) ∧ m = (a.length - k)) (h0 := ⟨_, _, _, (List.replicate a.length ⟨[], []⟩), [], 0, _, Z, PLe.refl _, H, ?inv, Z⟩) (round := ?round)
 case inv => exact ⟨(ChkF.rep zeroSnapO rfl (a.length)),  by first | rfl | simp | (simp; omega) | omega, (by simp)⟩
 case round =>
  rintro _ w2 _ ⟨v, n, cs, xs, F, k, G2, rfl, hle2, H, hinv2, rfl⟩
  have ha := ha.up hle2
  obtain ⟨hchk2_0, hn2_0, hinv2⟩ := hinv2
  obtain ⟨av2_0, cv2_0, rfl⟩ := H.accShape (k := 1) rfl
  obtain ⟨hk, hxl, hxt⟩ := hinv2
  refine W_seq (q2 (mV Z (mV Z (o_len_slice underlying57 Z Z (o_lss Z Z Z (q3 ?_))))))
  refine W_cond Z ?_ ?_
  ·intro hc3
   try simp only [nrm] at hc3
   refine W_skip (N_K (W_seq (W_block (W_region (mV Z (mV Z (mV Z (mV Z (o_index_P k ha underlying57 sizeOf171 Z Z Z Z aN ?_))))))))); intro b4 o4 z4 q4 hz4 hE4 hrow4
   obtain ⟨a4, m4, c4, rfl, hi4, hr4⟩ := hE4; have hy_hi4 : _ ≤ 16777216 := hi4; have hn_hr4 := hr4.len; have hx_hr4 : _ ≤ 1099511627776 := hr4.lim
   refine o_loadagg_P H isAgg171 sizeOf171 Z Z hrow4 Z (o_call call130 Z Z (w_toSnap_c _ _ H.sub _ _ ⟨_, _, _, Z, hi4, hr4⟩ ) ?_)
   rintro _ w5 ⟨_, _, rfl, H5', ⟨F5, cs5, rfl, rfl, hO5⟩⟩
   have H := H.readers (fp := []) (by simp) (PLe.refl _) H5'
   obtain ⟨oa5, om5, oc5, rfl, hi5, ho5⟩ := hO5
   refine ⟨_, Z, ?_⟩
   obtain ⟨z6, hz6⟩ : ∃ z, xs[k]? = some z := ⟨_, List.getElem?_eq_getElem aN⟩
   obtain ⟨q6, P6, Fi6, Q6, hF6, hl6, hE6, hg6, hput6, hpu06⟩ := (hchk2_0).focus hz6
   rw [hF6] at H
   refine o_index_F 2 H k Z underlying25 sizeOf81 Z Z Z Z aN ?_; intro ba6 hba6; cases hba6
   obtain ⟨oa6, om6, oc6, rfl, hi6, ho6⟩ := hE6; have hy_hi6 : _ ≤ 16777216 := hi6
   have hbk6 : ChkF snapO 2 _ (xs.set k z6) _ := hpu06 _ z6 (show snapO _ _ _ from ⟨_, _, _, rfl, hi6, ho6⟩)
   have hsame6 : xs.set k z6 = xs := Fw.set_same hz6; rw [hsame6] at hbk6
   have hcl7 := (hbk6).length
   have hlt7 : k < xs.length := (List.getElem?_eq_some_iff.1 hz6).1
   try simp only [length_setCs, List.length_set] at hcl7
   try simp only [List.length_set] at hlt7
   refine o_store_A 2 H sizeOf81 Z Z Z Z Z (by simp only [vc, List.length_cons, List.length_nil, length_setCs]; omega) ?_; intro w7 H
   have H := H.toFront (k := 1) rfl
   have H := H.outFi; have H := H.del (k := 0) rfl
   have H := H.toFront (k := 2) rfl
   have H := H.toFront (k := 2) rfl; have H := H.toFront (k := 2) rfl; have H := H.toFront (k := 2) rfl
   have H := H.inFi
   have hchk7 := hput6 F5 z4 0 [_, _] (by simp) (show snapO _ _ _ from ⟨_, _, _, rfl, hi5, ho5⟩)
   refine R_nil (N_B (N_K (W_region (mV Z (o_add Z Z Z oO (aG Z (R_nil ?_)))))))
   refine N_lp (hJ := ⟨_, _, _, (xs.set k z4), (P6 ++ (F5 ++ Q6)), k + 1, _, Z, hle2, H, ?inv, Z⟩) (hm := ?hm)
   case hm => omega
   case inv => exact ⟨hchk7, aN, (by exact ⟨by omega, by simp [hxl], Sp.take_set hxt hxl hz4⟩)⟩
  intro hc3'
  try simp only [nrm] at hc3'
  refine W_exit (N_K_exit (N_LP_exit (N_B_same (N_K (q2 (mV Z (aG Z (q3 (W_ret (rt1 results77 Z ?_))))))))))
  have hke : k = a.length := by omega
  have hxx : xs = a := by (have h9 := hxt; rw [hke, List.take_of_length_le oM, List.take_length] at h9; exact h9)
  have H := H.toFront (k := 1) rfl
  obtain ⟨Fo2, H, hOw2⟩ := H.ownF hchk2_0 aN aN
  have H := H.forget hG (by simp)
  exact ⟨_, _, Z, H, _, Z, hxx ▸ ⟨_, hOw2⟩⟩
theorem w_toDisk_c (w0 : World) (G0 : PH) (hG : PSub G0 w0) (ca : List Value) (a : BDisk) (ha : diskE G0 a ca)  :
  Calls Tryz.prog 32 #[.agg ca.toArray] w0 (RetN w0 G0 (fun v Bs => ∃ (v1 v2 v3 : Value) (F1 F2 F3 : Fr), v = .agg #[v1, v2, v3] ∧ Bs = [frag F1, frag F2, frag F3] ∧ OHs F1 v1 a.store ∧ OIs F2 v2 a.tree ∧ OSn F3 v3 a.snaps)) := by
 obtain ⟨a1, m1, c1, a1', m1', c1', a1'', m1'', c1'', rfl, hr1, hr1', hr1''⟩ := ha; have hn_hr1 := hr1.len; have hx_hr1 : _ ≤ 1099511627776 := hr1.lim; have hn_hr1q := hr1'.len; have hx_hr1q : _ ≤ 1099511627776 := hr1'.lim; have hn_hr1qq := hr1''.len; have hx_hr1qq : _ ≤ 1099511627776 := hr1''.lim
 have H := Hp.init hG
 refine calls_of_W (l := [_]) func32 Z ntmps32 Z (q2 (o_box H Z Z Z ?_)); intro b2 w2 hb2 H
 refine o_alloc H zeroValue27 Z Z ?_; intro b3 w3 hb3 H
 refine q1 (o_alloc H zeroValue27 Z Z ?_); intro b4 w4 hb4 H
 refine q1 (o_fieldAddr 0 runUnderlying59 Z sizeOf55 Z Z Z (o_load_B 2 H isAgg55 Z Z Z Z (o_call call75 Z Z (w_toHeldS_c _ _ H.sub _ _ hr1 ) ?_)))
 rintro _ w5 ⟨_, _, rfl, H5', ⟨F5, rfl, hO5⟩⟩
 have H := H.readers (fp := []) (by simp) (PLe.refl _) H5'
 obtain ⟨e25, hP5⟩ := hO5
 obtain ⟨sa5, sc5, rfl⟩ := OwnS.shape hP5
 have hO5 := OHs.mk hP5
 refine ⟨_, Z, ?_⟩
 refine o_fieldAddr 0 runUnderlying27 Z sizeOf23 Z Z Z (o_store_B 1 H sizeOf23 Z Z Z Z Z Z Z Z ?_); intro w6 H
 refine q1 (o_fieldAddr 1 runUnderlying59 Z sizeOf56 Z Z Z (o_load_B 3 H isAgg56 Z Z Z Z (o_call call76 Z Z (w_toItemS_c _ _ H.sub _ _ hr1' ) ?_)))
 rintro _ w7 ⟨_, _, rfl, H7', ⟨F7, rfl, hO7⟩⟩
 have H := H.readers (fp := []) (by simp) (PLe.refl _) H7'
 obtain ⟨e27, hP7⟩ := hO7
 obtain ⟨sa7, sc7, rfl⟩ := OwnS.shape hP7
 have hO7 := OIs.mk hP7
 refine ⟨_, Z, ?_⟩
 refine o_fieldAddr 1 runUnderlying27 Z sizeOf24 Z Z Z (o_store_B 2 H sizeOf24 Z Z Z Z Z Z Z Z ?_); intro w8 H
 refine q1 (o_fieldAddr 2 runUnderlying59 Z sizeOf57 Z Z Z (o_load_B 4 H isAgg57 Z Z Z Z (o_call call77 Z Z (w_toSnapS_c _ _ H.sub _ _ hr1'' ) ?_)))
 rintro _ w9 ⟨_, _, rfl, H9', ⟨F9, rfl, hO9⟩⟩
 have H := H.readers (fp := []) (by simp) (PLe.refl _) H9'
 obtain ⟨e29, hP9⟩ := hO9
 obtain ⟨sa9, sc9, rfl⟩ := OwnS.shape hP9
 have hO9 := OSn.mk hP9
 refine ⟨_, Z, ?_⟩
 refine o_fieldAddr 2 runUnderlying27 Z sizeOf25 Z Z Z (o_store_B 3 H sizeOf25 Z Z Z Z Z Z Z Z ?_); intro w10 H
 refine q1 (o_loadagg_B 3 H isAgg27 sizeOf27 Z Z Z Z Z (o_store_B 4 H sizeOf27 Z Z Z Z Z Z Z Z ?_)); intro w11 H
 refine q3 (W_ret (ret_gen (rs := [.cell 2 27]) (vs := [_]) results32 ⟨⟨_, Z, load_blk 4 H isAgg27 sizeOf27 Z Z Z⟩, trivial⟩ ?_))
 have H := H.del (k := 3) rfl
 have H := H.del (k := 3) rfl
 have H := H.del (k := 3) rfl
 have H := H.toFront (k := 1) rfl
 have H := H.toFront (k := 2) rfl
 have H := H.forget hG (by simp)
 exact ⟨_, _, Z, H, _, _, _, _, _, _, Z, Z, hO5, hO7, hO9⟩
end Go.Proofs.Tst

namespace Go.Proofs.Tst
open Go Fw Tryz
theorem w_markText_c (w0 : World) (k : Int) (hk : k ≤ 2199023255552) :
  Calls Tryz.prog 135 #[.int .i64 k] w0 (Rets w0 (str (mtext k))) := by
 have H := Hp.init0 w0
 refine calls_of_W (l := [.int .i64 k]) func135 Z ntmps135 Z (q2 (aG Z (q3 (W_seq (q2 (mV Z (o_leq Z Z Z (q3 ?_))))))))
 refine W_cond Z ?_ ?_
 ·intro hc1
  try simp only [nrm] at hc1
  refine q2 (aG Z (q3 (W_ret (N_K_ret (rt1 results135 Z ?_)))))
  exact H.rets (by (rw [mtext, if_pos oM]; rfl))
 intro hc1'
 try simp only [nrm] at hc1'
 refine W_skip (N_K (q2 (aG Z (q3 (W_seq (W_block ?_))))))
 refine W_lp (hf := (Sub.cons (t := 2) Z Sub.nil)) (J := fun M w m => ∃ (kk : Int) (out : Bs) (G : PH), M = [(0, .int .i64 kk), (3, str out)] ∧ PLe (fun _ => none) G ∧ Hp w0 (fun _ => none) [] w G [] ∧ (0 ≤ kk ∧ kk ≤ k ∧ digs k.toNat = digs kk.toNat ++ out) ∧ m = (kk.toNat)) (h0 := ⟨k, [], _, Z, PLe.refl _, H, ?inv, Z⟩) (round := ?round)
 case inv => exact ⟨by omega, by omega, by simp⟩
 case round =>
  rintro _ w2 _ ⟨kk, out, G2, rfl, hle2, H, hinv2, rfl⟩
  obtain ⟨hk0, hk1, hdg⟩ := hinv2; have hol : out.length ≤ 20 := (by have h8 := congrArg List.length hdg; have h9 := digs_len 13 k.toNat oM; simp at h8; omega)
  refine W_seq (q2 (mV Z (o_gtr Z Z Z (q3 ?_))))
  refine W_cond Z ?_ ?_
  ·intro hc3
   try simp only [nrm] at hc3
   refine W_skip (N_K (W_block (q2 (mV Z (o_rem Z Z Z oM oM (o_add Z Z Z oO (o_conv (by simp [underlying3]) underlying5 Z Z (wrap_u8 oO) (o_buildSlice H underlying22 sizeOf5 (fun w => ⟨_, zeroValue5 w, Z⟩) Z Z Z Z Z Z Z ?_)))))))); intro b5 w5 hb5 H
   refine o_convbytes1 0 H underlying22 underlying5 underlying9 Z Z Z (mV Z ?_)
   refine o_sadd Z Z Z (by simp; omega) ?_
   refine aG Z (q3 (W_region (mV Z (o_quo Z Z Z oM oM oM (aG Z (R_nil (N_B ?_)))))))
   have H := H.del (k := 0) rfl
   refine N_lp (hJ := ⟨kk / 10, ([UInt8.ofNat (48 + kk % 10).toNat] ++ out), _, Z, hle2, H, ?inv, Z⟩) (hm := ?hm)
   case hm => omega
   case inv => exact ⟨by omega, by omega, (by rw [hdg, digs_pos (n := kk.toNat) oM, show (48 + kk % 10).toNat = 48 + kk.toNat % 10 by omega, show (kk / 10).toNat = kk.toNat / 10 by omega, List.append_assoc])⟩
  intro hc3'
  try simp only [nrm] at hc3'
  refine W_exit (N_K_exit (N_LP_exit (N_B_same (N_K (q2 (mV Z ?_))))))
  refine o_sadd Z Z Z (by simp; omega) ?_
  refine aG Z (q3 (W_ret (rt1 results135 Z ?_)))
  obtain rfl : kk = 0 := by omega
  exact H.rets (by (rw [mtext, if_neg oM, hdg, show (0 : Int).toNat = 0 from rfl, digs_zero]; rfl))
theorem w_markIntS_c (w0 : World) (G0 : PH) (hG : PSub G0 w0) (Fa : Fr) (va : Value) (a : List (Int)) (hOa : OI Fa va a) (k : Int) (hLent : Lent w0 G0 [frag Fa]) (hb : 0 ≤ k ∧ k + (cnt cI a : Int) ≤ 2199023255552) :
  Calls Tryz.prog 134 #[va, .int .i64 k] w0 (RetM w0 G0 (fps [frag Fa]) (fun G' v Bs => ∃ (F' : Fr), v = .int .i64 (k + (cnt cI a : Int)) ∧ Bs = [frag F'] ∧ OI F' va (mks mI cI k a))) := by
 obtain ⟨ea, hPa⟩ := hOa; have hlima : a.length ≤ 1099511627776 := hPa.1; obtain ⟨aa, ka, rfl⟩ := OwnS.shape hPa
 have H : Hp w0 G0 (fps [frag Fa]) w0 G0 [frag Fa] := hLent.hp
 obtain ⟨cla, Ra, H, hcka⟩ := H.openF hPa
 refine calls_of_W (l := [.slice aa a.length ka, .int .i64 k]) func134 Z ntmps134 Z (q2 (aG Z (q3 (W_seq (q2 (aG Z (q3 (W_block ?_))))))))
 refine W_lp (hf := (Sub.cons (t := 4) Z Sub.nil)) (J := fun M w m => ∃ (v : Value) (n : Nat) (cs : List Value) (xs : List (Int)) (F : Fr) (i : Nat) (kk : Int) (G : PH), M = [(5, .int .i64 (i : Int)), (1, .int .i64 kk), (0, v)] ∧ PLe G0 G ∧ Hp w0 G0 (fps [frag Fa]) w G [acc ea 1 v n cs, frag F] ∧ (ChkF intO 1 cs xs F ∧ n = xs.length ∧ i ≤ a.length ∧ kk = k + (cnt cI (a.take i) : Int) ∧ xs = mks mI cI k (a.take i) ++ a.drop i ∧ v = .slice aa a.length ka) ∧ m = (a.length - i)) (h0 := ⟨_, _, _, a, Ra, 0, k, _, Z, PLe.refl _, H, ?inv, Z⟩) (round := ?round)
 case inv => exact ⟨hcka,  by first | rfl | simp | (simp; omega) | omega, (by simp [cnt, mks])⟩
 case round =>
  rintro _ w1 _ ⟨v, n, cs, xs, F, i, kk, G1, rfl, hle1, H, hinv1, rfl⟩
  obtain ⟨hchk1_0, hn1_0, hinv1⟩ := hinv1
  obtain ⟨av1_0, cv1_0, rfl⟩ := H.accShape (k := 0) rfl
  obtain ⟨hi, hkk, hxs, hv⟩ := hinv1; have hxl : xs.length = a.length := (by (rw [hxs]; exact half_len hi)); have hctk := cnt_tk (c := cI) a i
  refine W_seq (q2 (mV Z (mV Z (o_len_slice underlying33 Z Z (o_lss Z Z Z (q3 ?_))))))
  refine W_cond Z ?_ ?_
  ·intro hc2
   try simp only [nrm] at hc2
   refine W_skip (N_K (W_seq (W_block (q2 (mV Z (mV Z (mV Z ?_)))))))
   obtain ⟨z3, hz3⟩ : ∃ z, xs[i]? = some z := ⟨_, List.getElem?_eq_getElem aN⟩
   obtain ⟨q3, P3, Fi3, Q3, hF3, hl3, hE3, hg3, hput3, hpu03⟩ := (hchk1_0).focus hz3
   rw [hF3] at H
   refine o_index_F 0 H i Z underlying33 sizeOf3 Z Z Z Z aN ?_; intro ba3 hba3; cases hba3
   obtain ⟨rfl, rfl, hi3⟩ := hE3
   have hbk3 : ChkF intO 1 _ (xs.set i z3) _ := hpu03 [] z3 (show intO _ _ _ from ⟨rfl, rfl, hi3⟩)
   have hsame3 : xs.set i z3 = xs := Fw.set_same hz3; rw [hsame3] at hbk3
   have hat := half_at hxs hz3 hi; have hcl := cnt_le (c := cI) hat
   have hch : cI z3 = 1 := rfl
   have hcl4 := (hbk3).length
   have hlt4 : i < xs.length := (List.getElem?_eq_some_iff.1 hz3).1
   try simp only [length_setCs, List.length_set] at hcl4
   try simp only [List.length_set] at hlt4
   refine o_store_A 0 H sizeOf3 Z Z Z Z Z (by simp only [vc, List.length_cons, List.length_nil, length_setCs]; omega) ?_; intro w4 H
   have hchk4 := hput3 [] kk 0 [_] (by simp) (show intO _ _ _ from ⟨rfl, rfl, oO⟩)
   refine q3 (W_region (mV Z (o_add Z Z Z oO (aG Z (R_nil (N_B (N_K (W_region (mV Z (o_add Z Z Z oO (aG Z (R_nil ?_))))))))))))
   refine N_lp (hJ := ⟨_, _, _, (xs.set i kk), (P3 ++ ([] ++ Q3)), i + 1, kk + 1, _, Z, hle1, H, ?inv, Z⟩) (hm := ?hm)
   case hm => omega
   case inv => exact ⟨hchk4, aN, (by exact ⟨by omega, by (rw [cnt_succ hat]; omega), half_step hxs hz3 hi hkk, hv⟩)⟩
  intro hc2'
  try simp only [nrm] at hc2'
  refine W_exit (N_K_exit (N_LP_exit (N_B_same (N_K (q2 (mV Z (aG Z (q3 (W_ret (rt1 results134 Z ?_))))))))))
  have hie : i = a.length := by omega
  have hxx : xs = mks mI cI k a := by (rw [hxs]; exact half_end hie)
  have hce := cnt_end (c := cI) hie
  have H := H.toFront (k := 1) rfl
  have H := H.toFront (k := 1) rfl
  obtain ⟨Fo1, H, hOw1⟩ := H.ownF hchk1_0 aN aN
  exact H.retM ⟨_, congrArg (Value.int .i64) (by (rw [hkk, hce])), rfl, hxx ▸ hv ▸ ⟨_, hOw1⟩⟩
end Go.Proofs.Tst

namespace Go.Proofs.Tst
open Go Fw Tryz
theorem w_markHeldS_c (w0 : World) (G0 : PH) (hG : PSub G0 w0) (Fa : Fr) (va : Value) (a : List (BHeld)) (hOa : OHs Fa va a) (k : Int) (hLent : Lent w0 G0 [frag Fa]) (hb : 0 ≤ k ∧ k + (cnt cHeld a : Int) ≤ 2199023255552) :
  Calls Tryz.prog 81 #[va, .int .i64 k] w0 (RetM w0 G0 (fps [frag Fa]) (fun G' v Bs => ∃ (F' : Fr), v = .int .i64 (k + (cnt cHeld a : Int)) ∧ Bs = [frag F'] ∧ OHs F' va (mks mHeld cHeld k a))) := by
 obtain ⟨ea, hPa⟩ := hOa; have hlima : a.length ≤ 1099511627776 := hPa.1; obtain ⟨aa, ka, rfl⟩ := OwnS.shape hPa
 have H : Hp w0 G0 (fps [frag Fa]) w0 G0 [frag Fa] := hLent.hp
 obtain ⟨cla, Ra, H, hcka⟩ := H.openF hPa
 refine calls_of_W (l := [.slice aa a.length ka, .int .i64 k]) func81 Z ntmps81 Z (q2 (aG Z (q3 (W_seq (q2 (aG Z (q3 (W_block ?_))))))))
 refine W_lp (hf := (Sub.cons (t := 4) Z Sub.nil)) (J := fun M w m => ∃ (v : Value) (n : Nat) (cs : List Value) (xs : List (BHeld)) (F : Fr) (i : Nat) (kk : Int) (G : PH), M = [(5, .int .i64 (i : Int)), (1, .int .i64 kk), (0, v)] ∧ PLe G0 G ∧ Hp w0 G0 (fps [frag Fa]) w G [acc ea 3 v n cs, frag F] ∧ (ChkF heldO 3 cs xs F ∧ n = xs.length ∧ i ≤ a.length ∧ kk = k + (cnt cHeld (a.take i) : Int) ∧ xs = mks mHeld cHeld k (a.take i) ++ a.drop i ∧ v = .slice aa a.length ka) ∧ m = (a.length - i)) (h0 := ⟨_, _, _, a, Ra, 0, k, _, Z, PLe.refl _, H, ?inv, Z⟩) (round := ?round)
 case inv => exact ⟨hcka,  by first | rfl | simp | (simp; omega) | omega, (by simp [cnt, mks])⟩
 case round =>
  rintro _ w1 _ ⟨v, n, cs, xs, F, i, kk, G1, rfl, hle1, H, hinv1, rfl⟩
  obtain ⟨hchk1_0, hn1_0, hinv1⟩ := hinv1
  obtain ⟨av1_0, cv1_0, rfl⟩ := H.accShape (k := 0) rfl
  obtain ⟨hi, hkk, hxs, hv⟩ := hinv1; have hxl : xs.length = a.length := (by (rw [hxs]; exact half_len hi)); have hctk := cnt_tk (c := cHeld) a i
  refine W_seq (q2 (mV Z (mV Z (o_len_slice underlying23 Z Z (o_lss Z Z Z (q3 ?_))))))
  refine W_cond Z ?_ ?_
  ·intro hc2
   try simp only [nrm] at hc2
   refine W_skip (N_K (W_seq (W_block (q2 (mV Z (mV Z (mV Z ?_)))))))
   obtain ⟨z3, hz3⟩ : ∃ z, xs[i]? = some z := ⟨_, List.getElem?_eq_getElem aN⟩
   obtain ⟨q3, P3, Fi3, Q3, hF3, hl3, hE3, hg3, hput3, hpu03⟩ := (hchk1_0).focus hz3
   rw [hF3] at H
   refine o_index_F 0 H i Z underlying23 sizeOf105 Z Z Z Z aN ?_; intro ba3 hba3; cases hba3
   obtain ⟨oa3, om3, oc3, rfl, hi3, ho3, hj3⟩ := hE3
   have hbk3 : ChkF heldO 3 _ (xs.set i z3) _ := hpu03 _ z3 (show heldO _ _ _ from ⟨_, _, _, rfl, hi3, ho3, hj3⟩)
   have hsame3 : xs.set i z3 = xs := Fw.set_same hz3; rw [hsame3] at hbk3
   have hat := half_at hxs hz3 hi; have hcl := cnt_le (c := cHeld) hat
   have hch : cHeld z3 = 2 + cnt cI z3.bytes := rfl
   refine o_fieldAddr 0 runUnderlying105 Z sizeOf3 Z Z Z ?_
   have hcl4 := (hbk3).length
   have hlt4 : i < xs.length := (List.getElem?_eq_some_iff.1 hz3).1
   try simp only [length_setCs, List.length_set] at hcl4
   try simp only [List.length_set] at hlt4
   refine o_store_A 0 H sizeOf3 Z Z Z Z Z (by simp only [vc, List.length_cons, List.length_nil, length_setCs]; omega) ?_; intro w4 H
   have hchk4 := hput3 _ ⟨kk, z3.bytes, z3.uses⟩ 0 [_] (by simp) (show heldO _ _ _ from ⟨_, _, _, rfl, ⟨by first | omega | (dsimp only; omega), by first | omega | (dsimp only; omega)⟩, ho3, hj3⟩)
   refine q1 (mV Z (o_add Z Z Z oO (aG Z (q1 (mV Z (mV Z ?_))))))
   obtain ⟨z6, hz6⟩ : ∃ z, (xs.set i ⟨kk, z3.bytes, z3.uses⟩)[i]? = some z := ⟨_, List.getElem?_eq_getElem aN⟩
   obtain ⟨q6, P6, Fi6, Q6, hF6, hl6, hE6, hg6, hput6, hpu06⟩ := (hchk4).focus hz6
   rw [hF6] at H
   refine o_index_F 0 H i Z underlying23 sizeOf105 Z Z Z Z aN ?_; intro ba6 hba6; cases hba6
   obtain ⟨oa6, om6, oc6, rfl, hi6, ho6, hj6⟩ := hE6
   have hbk6 : ChkF heldO 3 _ ((xs.set i ⟨kk, z3.bytes, z3.uses⟩).set i z6) _ := hpu06 _ z6 (show heldO _ _ _ from ⟨_, _, _, rfl, hi6, ho6, hj6⟩)
   have hsame6 : (xs.set i ⟨kk, z3.bytes, z3.uses⟩).set i z6 = (xs.set i ⟨kk, z3.bytes, z3.uses⟩) := Fw.set_same hz6; rw [hsame6] at hbk6
   have hze6 := Fw.set_at hz6
   have hzb6 : z6.bytes = z3.bytes := by simp only [hze6]
   have hzc6 : cnt cI z6.bytes = cnt cI z3.bytes := by rw [hzb6]
   refine o_fieldAddr 1 runUnderlying105 Z sizeOf33 Z Z Z (o_load_A 0 H isAgg33 Z Z Z (hg6 1 _ Z) (mV Z ?_))
   have H := H.toFront (k := 1) rfl
   have H := H.outFi
   refine o_call call134 Z Z (w_markIntS_c _ _ H.sub _ _ _ ho6 _ H.lent1 oO) ?_
   rintro _ w7 ⟨G7, _, _, rfl, H7', ⟨F7, rfl, rfl, hO7⟩⟩
   have hle1 := hle1.trans H7'.le
   have H := H.borrow1 H7'
   refine ⟨_, Z, ?_⟩
   have H := H.toFront (k := 2) rfl
   have H := H.toFront (k := 2) rfl
   have H := H.toFront (k := 2) rfl
   have H := H.inFi
   have hcb1 := hpu06 F7 ⟨z6.id, mks mI cI (kk + 1) z6.bytes, z6.uses⟩ (show heldO _ _ _ from ⟨_, _, _, rfl, hi6, hO7, hj6⟩)
   refine aG Z (q1 (mV Z (mV Z (mV Z ?_))))
   obtain ⟨z8, hz8⟩ : ∃ z, ((xs.set i ⟨kk, z3.bytes, z3.uses⟩).set i ⟨z6.id, mks mI cI (kk + 1) z6.bytes, z6.uses⟩)[i]? = some z := ⟨_, List.getElem?_eq_getElem aN⟩
   obtain ⟨q8, P8, Fi8, Q8, hF8, hl8, hE8, hg8, hput8, hpu08⟩ := (hcb1).focus hz8
   rw [hF8] at H
   refine o_index_F 1 H i Z underlying23 sizeOf105 Z Z Z Z aN ?_; intro ba8 hba8; cases hba8
   obtain ⟨oa8, om8, oc8, rfl, hi8, ho8, hj8⟩ := hE8
   have hbk8 : ChkF heldO 3 _ (((xs.set i ⟨kk, z3.bytes, z3.uses⟩).set i ⟨z6.id, mks mI cI (kk + 1) z6.bytes, z6.uses⟩).set i z8) _ := hpu08 _ z8 (show heldO _ _ _ from ⟨_, _, _, rfl, hi8, ho8, hj8⟩)
   have hsame8 : ((xs.set i ⟨kk, z3.bytes, z3.uses⟩).set i ⟨z6.id, mks mI cI (kk + 1) z6.bytes, z6.uses⟩).set i z8 = ((xs.set i ⟨kk, z3.bytes, z3.uses⟩).set i ⟨z6.id, mks mI cI (kk + 1) z6.bytes, z6.uses⟩) := Fw.set_same hz8; rw [hsame8] at hbk8
   have hze8 := Fw.set_at hz8
   refine o_fieldAddr 2 runUnderlying105 Z sizeOf3 Z Z Z ?_
   have hcl9 := (hbk8).length
   have hlt9 : i < ((xs.set i ⟨kk, z3.bytes, z3.uses⟩).set i ⟨z6.id, mks mI cI (kk + 1) z6.bytes, z6.uses⟩).length := (List.getElem?_eq_some_iff.1 hz8).1
   try simp only [length_setCs, List.length_set] at hcl9
   try simp only [List.length_set] at hlt9
   refine o_store_A 1 H sizeOf3 Z Z Z Z Z (by simp only [vc, List.length_cons, List.length_nil, length_setCs]; omega) ?_; intro w9 H
   have hchk9 := hput8 _ ⟨z8.id, z8.bytes, kk + 1 + (cnt cI z6.bytes : Int)⟩ 2 [_] (by simp) (show heldO _ _ _ from ⟨_, _, _, rfl, hi8, ho8, ⟨by first | omega | (dsimp only; omega), by first | omega | (dsimp only; omega)⟩⟩)
   refine q3 (W_region (mV Z (o_add Z Z Z oO (aG Z (R_nil (N_B (N_K (W_region (mV Z (o_add Z Z Z oO (aG Z (R_nil ?_))))))))))))
   have H := H.toFront (k := 1) rfl
   refine N_lp (hJ := ⟨_, _, _, (((xs.set i ⟨kk, z3.bytes, z3.uses⟩).set i ⟨z6.id, mks mI cI (kk + 1) z6.bytes, z6.uses⟩).set i ⟨z8.id, z8.bytes, kk + 1 + (cnt cI z6.bytes : Int)⟩), (P8 ++ (Fi8 ++ Q8)), i + 1, kk + 1 + (cnt cI z6.bytes : Int) + 1, _, Z, hle1, H, ?inv, Z⟩) (hm := ?hm)
   case hm => omega
   case inv => exact ⟨hchk9, aN, (by exact ⟨by omega, by (rw [cnt_succ hat]; omega), (by (subst hze8; subst hze6; simp only [List.set_set]; exact half_step hxs hz3 hi (by (rw [← hkk]; rfl)))), hv⟩)⟩
  intro hc2'
  try simp only [nrm] at hc2'
  refine W_exit (N_K_exit (N_LP_exit (N_B_same (N_K (q2 (mV Z (aG Z (q3 (W_ret (rt1 results81 Z ?_))))))))))
  have hie : i = a.length := by omega
  have hxx : xs = mks mHeld cHeld k a := by (rw [hxs]; exact half_end hie)
  have hce := cnt_end (c := cHeld) hie
  have H := H.toFront (k := 1) rfl
  have H := H.toFront (k := 1) rfl
  obtain ⟨Fo2, H, hOw2⟩ := H.ownF hchk1_0 aN aN
  exact H.retM ⟨_, congrArg (Value.int .i64) (by (rw [hkk, hce])), rfl, hxx ▸ hv ▸ ⟨_, hOw2⟩⟩
theorem w_markItemS_c (w0 : World) (G0 : PH) (hG : PSub G0 w0) (Fa : Fr) (va : Value) (a : List (BItem)) (hOa : OIs Fa va a) (k : Int) (hLent : Lent w0 G0 [frag Fa]) (hb : 0 ≤ k ∧ k + (cnt cItem a : Int) ≤ 2199023255552) :
  Calls Tryz.prog 82 #[va, .int .i64 k] w0 (RetM w0 G0 (fps [frag Fa]) (fun G' v Bs => ∃ (F' : Fr), v = .int .i64 (k + (cnt cItem a : Int)) ∧ Bs = [frag F'] ∧ OIs F' va (mks mItem cItem k a))) := by
 obtain ⟨ea, hPa⟩ := hOa; have hlima : a.length ≤ 1099511627776 := hPa.1; obtain ⟨aa, ka, rfl⟩ := OwnS.shape hPa
 have H : Hp w0 G0 (fps [frag Fa]) w0 G0 [frag Fa] := hLent.hp
 obtain ⟨cla, Ra, H, hcka⟩ := H.openF hPa
 refine calls_of_W (l := [.slice aa a.length ka, .int .i64 k]) func82 Z ntmps82 Z (q2 (aG Z (q3 (W_seq (q2 (aG Z (q3 (W_block ?_))))))))
 refine W_lp (hf := (Sub.cons (t := 4) Z Sub.nil)) (J := fun M w m => ∃ (v : Value) (n : Nat) (cs : List Value) (xs : List (BItem)) (F : Fr) (i : Nat) (kk : Int) (G : PH), M = [(5, .int .i64 (i : Int)), (1, .int .i64 kk), (0, v)] ∧ PLe G0 G ∧ Hp w0 G0 (fps [frag Fa]) w G [acc ea 3 v n cs, frag F] ∧ (ChkF itemO 3 cs xs F ∧ n = xs.length ∧ i ≤ a.length ∧ kk = k + (cnt cItem (a.take i) : Int) ∧ xs = mks mItem cItem k (a.take i) ++ a.drop i ∧ v = .slice aa a.length ka) ∧ m = (a.length - i)) (h0 := ⟨_, _, _, a, Ra, 0, k, _, Z, PLe.refl _, H, ?inv, Z⟩) (round := ?round)
 case inv => exact ⟨hcka,  by first | rfl | simp | (simp; omega) | omega, (by simp [cnt, mks])⟩
 case round =>
  rintro _ w1 _ ⟨v, n, cs, xs, F, i, kk, G1, rfl, hle1, H, hinv1, rfl⟩
  obtain ⟨hchk1_0, hn1_0, hinv1⟩ := hinv1
  obtain ⟨av1_0, cv1_0, rfl⟩ := H.accShape (k := 0) rfl
  obtain ⟨hi, hkk, hxs, hv⟩ := hinv1; have hxl : xs.length = a.length := (by (rw [hxs]; exact half_len hi)); have hctk := cnt_tk (c := cItem) a i; have hmt : (mtext kk).length ≤ 16777216 := (by have h9 := mtext_len (k := kk) oM; omega)
  refine W_seq (q2 (mV Z (mV Z (o_len_slice underlying24 Z Z (o_lss Z Z Z (q3 ?_))))))
  refine W_cond Z ?_ ?_
  ·intro hc2
   try simp only [nrm] at hc2
   refine W_skip (N_K (W_seq (W_block (q2 (mV Z (mV Z (mV Z (o_call call135 Z Z (w_markText_c _ _ oM) ?_))))))))
   rintro _ w3 ⟨rfl, ew3⟩; have H := H.step ew3; refine ⟨_, rfl, ?_⟩
   obtain ⟨z4, hz4⟩ : ∃ z, xs[i]? = some z := ⟨_, List.getElem?_eq_getElem aN⟩
   obtain ⟨q4, P4, Fi4, Q4, hF4, hl4, hE4, hg4, hput4, hpu04⟩ := (hchk1_0).focus hz4
   rw [hF4] at H
   refine o_index_F 0 H i Z underlying24 sizeOf37 Z Z Z Z aN ?_; intro ba4 hba4; cases hba4
   obtain ⟨oa4, om4, oc4, rfl, hi4, ho4⟩ := hE4; have hy_hi4 : _ ≤ 16777216 := hi4
   have hbk4 : ChkF itemO 3 _ (xs.set i z4) _ := hpu04 _ z4 (show itemO _ _ _ from ⟨_, _, _, rfl, hi4, ho4⟩)
   have hsame4 : xs.set i z4 = xs := Fw.set_same hz4; rw [hsame4] at hbk4
   have hat := half_at hxs hz4 hi; have hcl := cnt_le (c := cItem) hat
   have hch : cItem z4 = 2 + cnt cI z4.ids := rfl
   refine o_fieldAddr 0 runUnderlying37 Z sizeOf9 Z Z Z ?_
   have hcl5 := (hbk4).length
   have hlt5 : i < xs.length := (List.getElem?_eq_some_iff.1 hz4).1
   try simp only [length_setCs, List.length_set] at hcl5
   try simp only [List.length_set] at hlt5
   refine o_store_A 0 H sizeOf9 Z Z Z Z Z (by simp only [vc, List.length_cons, List.length_nil, length_setCs]; omega) ?_; intro w5 H
   have hchk5 := hput4 _ ⟨mtext kk, z4.dir, z4.ids⟩ 0 [_] (by simp) (show itemO _ _ _ from ⟨_, _, _, rfl, (by (first | assumption | (refine Sp.l5Parent_lim ?_; assumption) | (simp; done) | (simp; omega) | omega)), ho4⟩)
   refine q1 (mV Z (o_add Z Z Z oO (aG Z (q1 (mV Z (mV Z (mV Z (o_rem Z Z Z oM oM (o_eql Z Z Z ?_)))))))))
   obtain ⟨z7, hz7⟩ : ∃ z, (xs.set i ⟨mtext kk, z4.dir, z4.ids⟩)[i]? = some z := ⟨_, List.getElem?_eq_getElem aN⟩
   obtain ⟨q7, P7, Fi7, Q7, hF7, hl7, hE7, hg7, hput7, hpu07⟩ := (hchk5).focus hz7
   rw [hF7] at H
   refine o_index_F 0 H i Z underlying24 sizeOf37 Z Z Z Z aN ?_; intro ba7 hba7; cases hba7
   obtain ⟨oa7, om7, oc7, rfl, hi7, ho7⟩ := hE7; have hy_hi7 : _ ≤ 16777216 := hi7
   have hbk7 : ChkF itemO 3 _ ((xs.set i ⟨mtext kk, z4.dir, z4.ids⟩).set i z7) _ := hpu07 _ z7 (show itemO _ _ _ from ⟨_, _, _, rfl, hi7, ho7⟩)
   have hsame7 : (xs.set i ⟨mtext kk, z4.dir, z4.ids⟩).set i z7 = (xs.set i ⟨mtext kk, z4.dir, z4.ids⟩) := Fw.set_same hz7; rw [hsame7] at hbk7
   have hze7 := Fw.set_at hz7
   have hzb7 : z7.ids = z4.ids := by simp only [hze7]
   have hzc7 : cnt cI z7.ids = cnt cI z4.ids := by rw [hzb7]
   refine o_fieldAddr 1 runUnderlying37 Z sizeOf4 Z Z Z ?_
   have hcl8 := (hbk7).length
   have hlt8 : i < (xs.set i ⟨mtext kk, z4.dir, z4.ids⟩).length := (List.getElem?_eq_some_iff.1 hz7).1
   try simp only [length_setCs, List.length_set] at hcl8
   try simp only [List.length_set] at hlt8
   refine o_store_A 0 H sizeOf4 Z Z Z Z Z (by simp only [vc, List.length_cons, List.length_nil, length_setCs]; omega) ?_; intro w8 H
   have hchk8 := hput7 _ ⟨z7.path, decide ((kk + 1) % 3 = 0), z7.ids⟩ 1 [_] (by simp) (show itemO _ _ _ from ⟨_, _, _, rfl, hi7, ho7⟩)
   refine q1 (mV Z (o_add Z Z Z oO (aG Z (q3 (W_region (mV Z (mV Z ?_)))))))
   obtain ⟨z10, hz10⟩ : ∃ z, ((xs.set i ⟨mtext kk, z4.dir, z4.ids⟩).set i ⟨z7.path, decide ((kk + 1) % 3 = 0), z7.ids⟩)[i]? = some z := ⟨_, List.getElem?_eq_getElem aN⟩
   obtain ⟨q10, P10, Fi10, Q10, hF10, hl10, hE10, hg10, hput10, hpu010⟩ := (hchk8).focus hz10
   rw [hF10] at H
   refine o_index_F 0 H i Z underlying24 sizeOf37 Z Z Z Z aN ?_; intro ba10 hba10; cases hba10
   obtain ⟨oa10, om10, oc10, rfl, hi10, ho10⟩ := hE10; have hy_hi10 : _ ≤ 16777216 := hi10
   have hbk10 : ChkF itemO 3 _ (((xs.set i ⟨mtext kk, z4.dir, z4.ids⟩).set i ⟨z7.path, decide ((kk + 1) % 3 = 0), z7.ids⟩).set i z10) _ := hpu010 _ z10 (show itemO _ _ _ from ⟨_, _, _, rfl, hi10, ho10⟩)
   have hsame10 : ((xs.set i ⟨mtext kk, z4.dir, z4.ids⟩).set i ⟨z7.path, decide ((kk + 1) % 3 = 0), z7.ids⟩).set i z10 = ((xs.set i ⟨mtext kk, z4.dir, z4.ids⟩).set i ⟨z7.path, decide ((kk + 1) % 3 = 0), z7.ids⟩) := Fw.set_same hz10; rw [hsame10] at hbk10
   have hze10 := Fw.set_at hz10
   have hzb10 : z10.ids = z4.ids := by simp only [hze10, hze7]
   have hzc10 : cnt cI z10.ids = cnt cI z4.ids := by rw [hzb10]
   refine o_fieldAddr 2 runUnderlying37 Z sizeOf33 Z Z Z (o_load_A 0 H isAgg33 Z Z Z (hg10 2 _ Z) (mV Z ?_))
   have H := H.toFront (k := 1) rfl
   have H := H.outFi
   refine o_call call134 Z Z (w_markIntS_c _ _ H.sub _ _ _ ho10 _ H.lent1 oO) ?_
   rintro _ w11 ⟨G11, _, _, rfl, H11', ⟨F11, rfl, rfl, hO11⟩⟩
   have hle1 := hle1.trans H11'.le
   have H := H.borrow1 H11'
   refine ⟨_, Z, ?_⟩
   have H := H.toFront (k := 2) rfl
   have H := H.toFront (k := 2) rfl
   have H := H.toFront (k := 2) rfl
   have H := H.inFi
   have hcb1 := hpu010 F11 ⟨z10.path, z10.dir, mks mI cI (kk + 1 + 1) z10.ids⟩ (show itemO _ _ _ from ⟨_, _, _, rfl, hi10, hO11⟩)
   refine aG Z (R_nil (N_B (N_K (W_region (mV Z (o_add Z Z Z oO (aG Z (R_nil ?_))))))))
   have H := H.toFront (k := 1) rfl
   refine N_lp (hJ := ⟨_, _, _, (((xs.set i ⟨mtext kk, z4.dir, z4.ids⟩).set i ⟨z7.path, decide ((kk + 1) % 3 = 0), z7.ids⟩).set i ⟨z10.path, z10.dir, mks mI cI (kk + 1 + 1) z10.ids⟩), (P10 ++ (F11 ++ Q10)), i + 1, kk + 1 + 1 + (cnt cI z10.ids : Int), _, Z, hle1, H, ?inv, Z⟩) (hm := ?hm)
   case hm => omega
   case inv => exact ⟨hcb1, aN, (by exact ⟨by omega, by (rw [cnt_succ hat]; omega), (by (subst hze10; subst hze7; simp only [List.set_set]; exact half_step hxs hz4 hi (by (rw [← hkk]; rfl)))), hv⟩)⟩
  intro hc2'
  try simp only [nrm] at hc2'
  refine W_exit (N_K_exit (N_LP_exit (N_B_same (N_K (q2 (mV Z (aG Z (q3 (W_ret (rt1 results82 Z ?_))))))))))
  have hie : i = a.length := by omega
  have hxx : xs = mks mItem cItem k a := by (rw [hxs]; exact half_end hie)
  have hce := cnt_end (c := cItem) hie
  have H := H.toFront (k := 1) rfl
  have H := H.toFront (k := 1) rfl
  obtain ⟨Fo2, H, hOw2⟩ := H.ownF hchk1_0 aN aN
  exact H.retM ⟨_, congrArg (Value.int .i64) (by (rw [hkk, hce])), rfl, hxx ▸ hv ▸ ⟨_, hOw2⟩⟩
theorem w_markSnapS_c (w0 : World) (G0 : PH) (hG : PSub G0 w0) (Fa : Fr) (va : Value) (a : List (BSnap)) (hOa : OSn Fa va a) (k : Int) (hLent : Lent w0 G0 [frag Fa]) (hb : 0 ≤ k ∧ k + (cnt cSnap a : Int) ≤ 2199023255552) :
  Calls Tryz.prog 83 #[va, .int .i64 k] w0 (RetM w0 G0 (fps [frag Fa]) (fun G' v Bs => ∃ (F' : Fr), v = .int .i64 (k + (cnt cSnap a : Int)) ∧ Bs = [frag F'] ∧ OSn F' va (mks mSnap cSnap k a))) := by
 obtain ⟨ea, hPa⟩ := hOa; have hlima : a.length ≤ 1099511627776 := hPa.1; obtain ⟨aa, ka, rfl⟩ := OwnS.shape hPa
 have H : Hp w0 G0 (fps [frag Fa]) w0 G0 [frag Fa] := hLent.hp
 obtain ⟨cla, Ra, H, hcka⟩ := H.openF hPa
 refine calls_of_W (l := [.slice aa a.length ka, .int .i64 k]) func83 Z ntmps83 Z (q2 (aG Z (q3 (W_seq (q2 (aG Z (q3 (W_block ?_))))))))
 refine W_lp (hf := (Sub.cons (t := 4) Z Sub.nil)) (J := fun M w m => ∃ (v : Value) (n : Nat) (cs : List Value) (xs : List (BSnap)) (F : Fr) (i : Nat) (kk : Int) (G : PH), M = [(5, .int .i64 (i : Int)), (1, .int .i64 kk), (0, v)] ∧ PLe G0 G ∧ Hp w0 G0 (fps [frag Fa]) w G [acc ea 2 v n cs, frag F] ∧ (ChkF snapO 2 cs xs F ∧ n = xs.length ∧ i ≤ a.length ∧ kk = k + (cnt cSnap (a.take i) : Int) ∧ xs = mks mSnap cSnap k (a.take i) ++ a.drop i ∧ v = .slice aa a.length ka) ∧ m = (a.length - i)) (h0 := ⟨_, _, _, a, Ra, 0, k, _, Z, PLe.refl _, H, ?inv, Z⟩) (round := ?round)
 case inv => exact ⟨hcka,  by first | rfl | simp | (simp; omega) | omega, (by simp [cnt, mks])⟩
 case round =>
  rintro _ w1 _ ⟨v, n, cs, xs, F, i, kk, G1, rfl, hle1, H, hinv1, rfl⟩
  obtain ⟨hchk1_0, hn1_0, hinv1⟩ := hinv1
  obtain ⟨av1_0, cv1_0, rfl⟩ := H.accShape (k := 0) rfl
  obtain ⟨hi, hkk, hxs, hv⟩ := hinv1; have hxl : xs.length = a.length := (by (rw [hxs]; exact half_len hi)); have hctk := cnt_tk (c := cSnap) a i; have hmt : (mtext kk).length ≤ 16777216 := (by have h9 := mtext_len (k := kk) oM; omega)
  refine W_seq (q2 (mV Z (mV Z (o_len_slice underlying25 Z Z (o_lss Z Z Z (q3 ?_))))))
  refine W_cond Z ?_ ?_
  ·intro hc2
   try simp only [nrm] at hc2
   refine W_skip (N_K (W_seq (W_block (q2 (mV Z (mV Z (mV Z (o_call call135 Z Z (w_markText_c _ _ oM) ?_))))))))
   rintro _ w3 ⟨rfl, ew3⟩; have H := H.step ew3; refine ⟨_, rfl, ?_⟩
   obtain ⟨z4, hz4⟩ : ∃ z, xs[i]? = some z := ⟨_, List.getElem?_eq_getElem aN⟩
   obtain ⟨q4, P4, Fi4, Q4, hF4, hl4, hE4, hg4, hput4, hpu04⟩ := (hchk1_0).focus hz4
   rw [hF4] at H
   refine o_index_F 0 H i Z underlying25 sizeOf81 Z Z Z Z aN ?_; intro ba4 hba4; cases hba4
   obtain ⟨oa4, om4, oc4, rfl, hi4, ho4⟩ := hE4; have hy_hi4 : _ ≤ 16777216 := hi4
   have hbk4 : ChkF snapO 2 _ (xs.set i z4) _ := hpu04 _ z4 (show snapO _ _ _ from ⟨_, _, _, rfl, hi4, ho4⟩)
   have hsame4 : xs.set i z4 = xs := Fw.set_same hz4; rw [hsame4] at hbk4
   have hat := half_at hxs hz4 hi; have hcl := cnt_le (c := cSnap) hat
   have hch : cSnap z4 = 1 + cnt cItem z4.tree := rfl
   refine o_fieldAddr 0 runUnderlying81 Z sizeOf9 Z Z Z ?_
   have hcl5 := (hbk4).length
   have hlt5 : i < xs.length := (List.getElem?_eq_some_iff.1 hz4).1
   try simp only [length_setCs, List.length_set] at hcl5
   try simp only [List.length_set] at hlt5
   refine o_store_A 0 H sizeOf9 Z Z Z Z Z (by simp only [vc, List.length_cons, List.length_nil, length_setCs]; omega) ?_; intro w5 H
   have hchk5 := hput4 _ ⟨mtext kk, z4.tree⟩ 0 [_] (by simp) (show snapO _ _ _ from ⟨_, _, _, rfl, (by (first | assumption | (refine Sp.l5Parent_lim ?_; assumption) | (simp; done) | (simp; omega) | omega)), ho4⟩)
   refine q1 (mV Z (o_add Z Z Z oO (aG Z (q3 (W_region (mV Z (mV Z ?_)))))))
   obtain ⟨z7, hz7⟩ : ∃ z, (xs.set i ⟨mtext kk, z4.tree⟩)[i]? = some z := ⟨_, List.getElem?_eq_getElem aN⟩
   obtain ⟨q7, P7, Fi7, Q7, hF7, hl7, hE7, hg7, hput7, hpu07⟩ := (hchk5).focus hz7
   rw [hF7] at H
   refine o_index_F 0 H i Z underlying25 sizeOf81 Z Z Z Z aN ?_; intro ba7 hba7; cases hba7
   obtain ⟨oa7, om7, oc7, rfl, hi7, ho7⟩ := hE7; have hy_hi7 : _ ≤ 16777216 := hi7
   have hbk7 : ChkF snapO 2 _ ((xs.set i ⟨mtext kk, z4.tree⟩).set i z7) _ := hpu07 _ z7 (show snapO _ _ _ from ⟨_, _, _, rfl, hi7, ho7⟩)
   have hsame7 : (xs.set i ⟨mtext kk, z4.tree⟩).set i z7 = (xs.set i ⟨mtext kk, z4.tree⟩) := Fw.set_same hz7; rw [hsame7] at hbk7
   have hze7 := Fw.set_at hz7
   have hzb7 : z7.tree = z4.tree := by simp only [hze7]
   have hzc7 : cnt cItem z7.tree = cnt cItem z4.tree := by rw [hzb7]
   refine o_fieldAddr 1 runUnderlying81 Z sizeOf24 Z Z Z (o_load_A 0 H isAgg24 Z Z Z (hg7 1 _ Z) (mV Z ?_))
   have H := H.toFront (k := 1) rfl
   have H := H.outFi
   refine o_call call82 Z Z (w_markItemS_c _ _ H.sub _ _ _ ho7 _ H.lent1 oO) ?_
   rintro _ w8 ⟨G8, _, _, rfl, H8', ⟨F8, rfl, rfl, hO8⟩⟩
   have hle1 := hle1.trans H8'.le
   have H := H.borrow1 H8'
   refine ⟨_, Z, ?_⟩
   have H := H.toFront (k := 2) rfl
   have H := H.toFront (k := 2) rfl
   have H := H.toFront (k := 2) rfl
   have H := H.inFi
   have hcb1 := hpu07 F8 ⟨z7.name, mks mItem cItem (kk + 1) z7.tree⟩ (show snapO _ _ _ from ⟨_, _, _, rfl, hi7, hO8⟩)
   refine aG Z (R_nil (N_B (N_K (W_region (mV Z (o_add Z Z Z oO (aG Z (R_nil ?_))))))))
   have H := H.toFront (k := 1) rfl
   refine N_lp (hJ := ⟨_, _, _, ((xs.set i ⟨mtext kk, z4.tree⟩).set i ⟨z7.name, mks mItem cItem (kk + 1) z7.tree⟩), (P7 ++ (F8 ++ Q7)), i + 1, kk + 1 + (cnt cItem z7.tree : Int), _, Z, hle1, H, ?inv, Z⟩) (hm := ?hm)
   case hm => omega
   case inv => exact ⟨hcb1, aN, (by exact ⟨by omega, by (rw [cnt_succ hat]; omega), (by (subst hze7; simp only [List.set_set]; exact half_step hxs hz4 hi (by (rw [← hkk]; rfl)))), hv⟩)⟩
  intro hc2'
  try simp only [nrm] at hc2'
  refine W_exit (N_K_exit (N_LP_exit (N_B_same (N_K (q2 (mV Z (aG Z (q3 (W_ret (rt1 results83 Z ?_))))))))))
  have hie : i = a.length := by omega
  have hxx : xs = mks mSnap cSnap k a := by (rw [hxs]; exact half_end hie)
  have hce := cnt_end (c := cSnap) hie
  have H := H.toFront (k := 1) rfl
  have H := H.toFront (k := 1) rfl
  obtain ⟨Fo2, H, hOw2⟩ := H.ownF hchk1_0 aN aN
  exact H.retM ⟨_, congrArg (Value.int .i64) (by (rw [hkk, hce])), rfl, hxx ▸ hv ▸ ⟨_, hOw2⟩⟩
end Go.Proofs.Tst

namespace Go.Proofs.Tst
open Go Fw Tryz
theorem w_heldIntS_c (w0 : World) (G0 : PH) (hG : PSub G0 w0) (vb : Value) (b : List (Int)) (hb : RdI G0 vb b) (k : Int) (a : List (Int)) (hab : b = mks mI cI k a) (hb2 : 0 ≤ k ∧ k + (cnt cI a : Int) ≤ 2199023255552) :
  Calls Tryz.prog 136 #[vb, .int .i64 k] w0 (Rets w0 (.int .i64 (k + (cnt cI a : Int)))) := by
 obtain ⟨ab, kb, rfl⟩ := hb.shape
 have hlimb : b.length ≤ 1099511627776 := hb.lim
 have hle : b.length = a.length := by (rw [hab]; exact mks_len _ _)
 have H := Hp.init hG
 refine calls_of_W (l := [.slice ab b.length kb, .int .i64 k]) func136 Z ntmps136 Z (q2 (aG Z (q3 (W_seq (q2 (aG Z (q3 (W_block ?_))))))))
 refine W_lp (hf := (Sub.cons (t := 0) Z Sub.nil)) (J := fun M w m => ∃ (i : Nat) (kk : Int) (G : PH), M = [(5, .int .i64 (i : Int)), (1, .int .i64 kk)] ∧ PLe G0 G ∧ Hp w0 G0 [] w G [] ∧ (i ≤ a.length ∧ kk = k + (cnt cI (a.take i) : Int)) ∧ m = (a.length - i)) (h0 := ⟨0, k, _, Z, PLe.refl _, H, ?inv, Z⟩) (round := ?round)
 case inv => simp [cnt]
 case round =>
  rintro _ w1 _ ⟨i, kk, G1, rfl, hle1, H, hinv1, rfl⟩
  have hb := hb.up hle1
  obtain ⟨hi, hkk⟩ := hinv1; have hctk := cnt_tk (c := cI) a i
  refine W_seq (q2 (mV Z (mV Z (o_len_slice underlying33 Z Z (o_lss Z Z Z (q3 ?_))))))
  refine W_cond Z ?_ ?_
  ·intro hc2
   try simp only [nrm] at hc2
   refine W_skip (N_K (W_seq (W_block (W_seq (q2 (mV Z (mV Z (o_index_P i hb underlying33 sizeOf3 Z Z Z Z aN ?_)))))))); intro b3 o3 z3 q3 hz3 hE3 hrow3
   obtain ⟨rfl, hi3⟩ := hE3
   obtain ⟨x, hx⟩ : ∃ x, a[i]? = some x := ⟨_, List.getElem?_eq_getElem oM⟩
   have hzm := mks_get hx (hab ▸ hz3); rw [← hkk] at hzm; have hcl := cnt_le (c := cI) hx
   have hzi : z3 = kk := hzm; have hch : cI x = 1 := rfl
   refine o_load_P H isAgg3 Z Z (hrow3 0 _ Z) (mV Z (o_neq Z Z Z (q3 ?_)))
   refine W_cond Z ?_ ?_
   ·intro hc4
    try simp only [nrm] at hc4
    refine q2 (aG Z (q3 (W_ret (N_K_ret (N_B_ret (N_K_ret (N_LP_ret (N_B_ret (N_K_ret (rt1 results136 Z ?_))))))))))
    exact absurd (show False from by first | omega | (exact hc4 (by (rw [hzm]; first | rfl | (rw [← hkk]; rfl)))) | (have h9 := hc4; rw [hzm] at h9; simp [mI] at h9; done)) id
   intro hc4'
   try simp only [nrm] at hc4'
   refine W_skip (N_K (W_region (mV Z (o_add Z Z Z oO (aG Z (R_nil (N_B (N_K (W_region (mV Z (o_add Z Z Z oO (aG Z (R_nil ?_)))))))))))))
   refine N_lp (hJ := ⟨i + 1, kk + 1, _, Z, hle1, H, ?inv, Z⟩) (hm := ?hm)
   case hm => omega
   case inv => exact ⟨by omega, by (rw [cnt_succ hx]; omega)⟩
  intro hc2'
  try simp only [nrm] at hc2'
  refine W_exit (N_K_exit (N_LP_exit (N_B_same (N_K (q2 (mV Z (aG Z (q3 (W_ret (rt1 results136 Z ?_))))))))))
  have hie : i = a.length := by omega
  have hce := cnt_end (c := cI) hie
  exact H.rets (congrArg (Value.int .i64) (by (rw [hkk, hce])))
theorem w_heldHeldS_c (w0 : World) (G0 : PH) (hG : PSub G0 w0) (vb : Value) (b : List (BHeld)) (hb : RdH G0 vb b) (k : Int) (a : List (BHeld)) (hab : b = mks mHeld cHeld k a) (hb2 : 0 ≤ k ∧ k + (cnt cHeld a : Int) ≤ 2199023255552) :
  Calls Tryz.prog 84 #[vb, .int .i64 k] w0 (Rets w0 (.int .i64 (k + (cnt cHeld a : Int)))) := by
 obtain ⟨ab, kb, rfl⟩ := hb.shape
 have hlimb : b.length ≤ 1099511627776 := hb.lim
 have hle : b.length = a.length := by (rw [hab]; exact mks_len _ _)
 have H := Hp.init hG
 refine calls_of_W (l := [.slice ab b.length kb, .int .i64 k]) func84 Z ntmps84 Z (q2 (aG Z (q3 (W_seq (q2 (aG Z (q3 (W_block ?_))))))))
 refine W_lp (hf := (Sub.cons (t := 0) Z Sub.nil)) (J := fun M w m => ∃ (i : Nat) (kk : Int) (G : PH), M = [(5, .int .i64 (i : Int)), (1, .int .i64 kk)] ∧ PLe G0 G ∧ Hp w0 G0 [] w G [] ∧ (i ≤ a.length ∧ kk = k + (cnt cHeld (a.take i) : Int)) ∧ m = (a.length - i)) (h0 := ⟨0, k, _, Z, PLe.refl _, H, ?inv, Z⟩) (round := ?round)
 case inv => simp [cnt]
 case round =>
  rintro _ w1 _ ⟨i, kk, G1, rfl, hle1, H, hinv1, rfl⟩
  have hb := hb.up hle1
  obtain ⟨hi, hkk⟩ := hinv1; have hctk := cnt_tk (c := cHeld) a i
  refine W_seq (q2 (mV Z (mV Z (o_len_slice underlying23 Z Z (o_lss Z Z Z (q3 ?_))))))
  refine W_cond Z ?_ ?_
  ·intro hc2
   try simp only [nrm] at hc2
   refine W_skip (N_K (W_seq (W_block (W_seq (q2 (mV Z (mV Z (o_index_P i hb underlying23 sizeOf105 Z Z Z Z aN ?_)))))))); intro b3 o3 z3 q3 hz3 hE3 hrow3
   obtain ⟨a3, m3, c3, rfl, hi3, hr3, hj3⟩ := hE3; have hn_hr3 := hr3.len; have hx_hr3 : _ ≤ 1099511627776 := hr3.lim
   obtain ⟨x, hx⟩ : ∃ x, a[i]? = some x := ⟨_, List.getElem?_eq_getElem oM⟩
   have hzm := mks_get hx (hab ▸ hz3); rw [← hkk] at hzm; have hcl := cnt_le (c := cHeld) hx
   have hch : cHeld x = 2 + cnt cI x.bytes := rfl
   have hzi : z3.id = kk := by (rw [hzm]; rfl)
   have hzu : z3.uses = kk + 1 + (cnt cI x.bytes : Int) := by (rw [hzm]; rfl)
   refine o_fieldAddr 0 runUnderlying105 Z sizeOf3 Z Z Z (o_load_P H isAgg3 Z Z (hrow3 0 _ Z) (mV Z (o_neq Z Z Z (q3 ?_))))
   refine W_cond Z ?_ ?_
   ·intro hc4
    try simp only [nrm] at hc4
    refine q2 (aG Z (q3 (W_ret (N_K_ret (N_B_ret (N_K_ret (N_LP_ret (N_B_ret (N_K_ret (rt1 results84 Z ?_))))))))))
    exact absurd (show False from by first | omega | (exact hc4 (by (rw [hzm]; first | rfl | (rw [← hkk]; rfl)))) | (have h9 := hc4; rw [hzm] at h9; simp [mHeld] at h9; done)) id
   intro hc4'
   try simp only [nrm] at hc4'
   refine W_skip (N_K (q2 (mV Z (o_add Z Z Z oO (aG Z (q1 (mV Z (mV Z (o_index_P i hb underlying23 sizeOf105 Z Z Z Z aN ?_))))))))); intro b6 o6 z6 q6 hz6 hE6 hrow6
   obtain ⟨a6, m6, c6, rfl, hi6, hr6, hj6⟩ := hE6; have hn_hr6 := hr6.len; have hx_hr6 : _ ≤ 1099511627776 := hr6.lim
   have hzz6 : z3 = z6 := Option.some.inj (hz3.symm.trans hz6)
   subst hzz6
   refine o_fieldAddr 1 runUnderlying105 Z sizeOf33 Z Z Z (o_load_P H isAgg33 Z Z (hrow6 1 _ Z) (mV Z ?_))
   refine o_call call136 Z Z (w_heldIntS_c _ _ H.sub _ _ hr6 _ x.bytes (by (rw [hzm]; rfl)) oO) ?_
   rintro _ w7 ⟨rfl, ew7⟩; have H := H.step ew7; refine ⟨_, rfl, ?_⟩
   refine aG Z (q3 (W_seq (q2 (mV Z (o_lss Z Z Z (q3 ?_))))))
   refine W_cond Z ?_ ?_
   ·intro hc8
    try simp only [nrm] at hc8
    refine q2 (aG Z (q3 (W_ret (N_K_ret (N_B_ret (N_K_ret (N_LP_ret (N_B_ret (N_K_ret (rt1 results84 Z ?_))))))))))
    exact absurd (show False from by first | omega | (exact hc8 (by (rw [hzm]; first | rfl | (rw [← hkk]; rfl)))) | (have h9 := hc8; rw [hzm] at h9; simp [mHeld] at h9; done)) id
   intro hc8'
   try simp only [nrm] at hc8'
   refine W_skip (N_K (W_seq (q2 (mV Z (mV Z (o_index_P i hb underlying23 sizeOf105 Z Z Z Z aN ?_)))))); intro b9 o9 z9 q9 hz9 hE9 hrow9
   obtain ⟨a9, m9, c9, rfl, hi9, hr9, hj9⟩ := hE9; have hn_hr9 := hr9.len; have hx_hr9 : _ ≤ 1099511627776 := hr9.lim
   have hzz9 : z3 = z9 := Option.some.inj (hz3.symm.trans hz9)
   subst hzz9
   refine o_fieldAddr 2 runUnderlying105 Z sizeOf3 Z Z Z (o_load_P H isAgg3 Z Z (hrow9 2 _ Z) (mV Z (o_neq Z Z Z (q3 ?_))))
   refine W_cond Z ?_ ?_
   ·intro hc10
    try simp only [nrm] at hc10
    refine q2 (aG Z (q3 (W_ret (N_K_ret (N_B_ret (N_K_ret (N_LP_ret (N_B_ret (N_K_ret (rt1 results84 Z ?_))))))))))
    exact absurd (show False from by first | omega | (exact hc10 (by (rw [hzm]; first | rfl | (rw [← hkk]; rfl)))) | (have h9 := hc10; rw [hzm] at h9; simp [mHeld] at h9; done)) id
   intro hc10'
   try simp only [nrm] at hc10'
   refine W_skip (N_K (W_region (mV Z (o_add Z Z Z oO (aG Z (R_nil (N_B (N_K (W_region (mV Z (o_add Z Z Z oO (aG Z (R_nil ?_)))))))))))))
   refine N_lp (hJ := ⟨i + 1, kk + 1 + (cnt cI x.bytes : Int) + 1, _, Z, hle1, H, ?inv, Z⟩) (hm := ?hm)
   case hm => omega
   case inv => exact ⟨by omega, by (rw [cnt_succ hx]; omega)⟩
  intro hc2'
  try simp only [nrm] at hc2'
  refine W_exit (N_K_exit (N_LP_exit (N_B_same (N_K (q2 (mV Z (aG Z (q3 (W_ret (rt1 results84 Z ?_))))))))))
  have hie : i = a.length := by omega
  have hce := cnt_end (c := cHeld) hie
  exact H.rets (congrArg (Value.int .i64) (by (rw [hkk, hce])))
theorem w_heldItemS_c (w0 : World) (G0 : PH) (hG : PSub G0 w0) (vb : Value) (b : List (BItem)) (hb : RdItems G0 vb b) (k : Int) (a : List (BItem)) (hab : b = mks mItem cItem k a) (hb2 : 0 ≤ k ∧ k + (cnt cItem a : Int) ≤ 2199023255552) :
  Calls Tryz.prog 85 #[vb, .int .i64 k] w0 (Rets w0 (.int .i64 (k + (cnt cItem a : Int)))) := by
 obtain ⟨ab, kb, rfl⟩ := hb.shape
 have hlimb : b.length ≤ 1099511627776 := hb.lim
 have hle : b.length = a.length := by (rw [hab]; exact mks_len _ _)
 have H := Hp.init hG
 refine calls_of_W (l := [.slice ab b.length kb, .int .i64 k]) func85 Z ntmps85 Z (q2 (aG Z (q3 (W_seq (q2 (aG Z (q3 (W_block ?_))))))))
 refine W_lp (hf := (Sub.cons (t := 0) Z Sub.nil)) (J := fun M w m => ∃ (i : Nat) (kk : Int) (G : PH), M = [(5, .int .i64 (i : Int)), (1, .int .i64 kk)] ∧ PLe G0 G ∧ Hp w0 G0 [] w G [] ∧ (i ≤ a.length ∧ kk = k + (cnt cItem (a.take i) : Int)) ∧ m = (a.length - i)) (h0 := ⟨0, k, _, Z, PLe.refl _, H, ?inv, Z⟩) (round := ?round)
 case inv => simp [cnt]
 case round =>
  rintro _ w1 _ ⟨i, kk, G1, rfl, hle1, H, hinv1, rfl⟩
  have hb := hb.up hle1
  obtain ⟨hi, hkk⟩ := hinv1; have hctk := cnt_tk (c := cItem) a i
  refine W_seq (q2 (mV Z (mV Z (o_len_slice underlying24 Z Z (o_lss Z Z Z (q3 ?_))))))
  refine W_cond Z ?_ ?_
  ·intro hc2
   try simp only [nrm] at hc2
   refine W_skip (N_K (W_seq (W_block (W_seq (W_seq (W_drawK [] 8 H kR Z ?_)))))); intro w3 H; have hd3 := PLe.refl G1
   refine vM 0 Z Z (vM 1 Z Z ?_)
   have hl4 := hb.len
   obtain ⟨b4, o4, z4, q4, ha4, hz4, hq4, hE4, hrow4, _⟩ := hb.at (i := i) oM
   clear hq4
   obtain ⟨a4, m4, c4, rfl, hi4, hr4⟩ := hE4; have hy_hi4 : _ ≤ 16777216 := hi4; have hn_hr4 := hr4.len; have hx_hr4 : _ ≤ 1099511627776 := hr4.lim
   obtain ⟨x, hx⟩ : ∃ x, a[i]? = some x := ⟨_, List.getElem?_eq_getElem oM⟩
   have hzm := mks_get hx (hab ▸ hz4); rw [← hkk] at hzm; have hcl := cnt_le (c := cItem) hx
   have hch : cItem x = 2 + cnt cI x.ids := rfl
   refine RD_t 2 Z kR Z (fun _ hK => v_index_P (i := i) ha4 underlying24 sizeOf37 Z Z Z oM) (RD_t 3 Z kR Z (fun _ hK => v_fieldAddr 0 runUnderlying37 Z sizeOf9 Z Z) (RD_t 4 Z kR Z (fun _ hK => v_load_P hK isAgg9 Z (hrow4 0 _ Z)) (vM 5 Z Z ?_)))
   refine RD_run [6] kR Z (RDs.cons Z ?_ RDs.nil)
   refine o_call call135 Z Z (w_markText_c _ _ oM) ?_
   rintro _ w5 ⟨rfl, ew5⟩; have H := H.step ew5; refine ⟨_, rfl, ?_⟩
   refine R_nil (N_DK (Kn.of' H hd3 SubL.nil) (RD_t 7 Z kR Z (fun _ hK => v_sneq Z Z) (RD_done kR (N_K ?_))))
   refine W_cond Z ?_ ?_
   ·intro hc6
    try simp only [nrm] at hc6
    refine q2 (aG Z (q3 (W_ret (N_K_ret (N_B_ret (N_K_ret (N_LP_ret (N_B_ret (N_K_ret (rt1 results85 Z ?_))))))))))
    exact absurd (show False from by first | omega | (exact hc6 (by (rw [hzm]; first | rfl | (rw [← hkk]; rfl)))) | (have h9 := hc6; rw [hzm] at h9; simp [mItem] at h9; done)) id
   intro hc6'
   try simp only [nrm] at hc6'
   refine W_skip (N_K (q2 (mV Z (o_add Z Z Z oO (aG Z (q3 (W_seq (q2 (mV Z (mV Z (o_index_P i hb underlying24 sizeOf37 Z Z Z Z aN ?_))))))))))); intro b8 o8 z8 q8 hz8 hE8 hrow8
   obtain ⟨a8, m8, c8, rfl, hi8, hr8⟩ := hE8; have hy_hi8 : _ ≤ 16777216 := hi8; have hn_hr8 := hr8.len; have hx_hr8 : _ ≤ 1099511627776 := hr8.lim
   have hzz8 : z4 = z8 := Option.some.inj (hz4.symm.trans hz8)
   subst hzz8
   refine o_fieldAddr 1 runUnderlying37 Z sizeOf4 Z Z Z (o_load_P H isAgg4 Z Z (hrow8 1 _ Z) (mV Z (o_rem Z Z Z oM oM (o_eql Z Z Z (o_bneq underlying4 Z Z Z (q3 ?_))))))
   refine W_cond Z ?_ ?_
   ·intro hc9
    try simp only [nrm] at hc9
    refine q2 (aG Z (q3 (W_ret (N_K_ret (N_B_ret (N_K_ret (N_LP_ret (N_B_ret (N_K_ret (rt1 results85 Z ?_))))))))))
    exact absurd (show False from by first | omega | (exact hc9 (by (rw [hzm]; first | rfl | (rw [← hkk]; rfl)))) | (have h9 := hc9; rw [hzm] at h9; simp [mItem] at h9; done)) id
   intro hc9'
   try simp only [nrm] at hc9'
   refine W_skip (N_K (q2 (mV Z (o_add Z Z Z oO (aG Z (q1 (mV Z (mV Z (o_index_P i hb underlying24 sizeOf37 Z Z Z Z aN ?_))))))))); intro b11 o11 z11 q11 hz11 hE11 hrow11
   obtain ⟨a11, m11, c11, rfl, hi11, hr11⟩ := hE11; have hy_hi11 : _ ≤ 16777216 := hi11; have hn_hr11 := hr11.len; have hx_hr11 : _ ≤ 1099511627776 := hr11.lim
   have hzz11 : z4 = z11 := Option.some.inj (hz4.symm.trans hz11)
   subst hzz11
   refine o_fieldAddr 2 runUnderlying37 Z sizeOf33 Z Z Z (o_load_P H isAgg33 Z Z (hrow11 2 _ Z) (mV Z ?_))
   refine o_call call136 Z Z (w_heldIntS_c _ _ H.sub _ _ hr11 _ x.ids (by (rw [hzm]; rfl)) oO) ?_
   rintro _ w12 ⟨rfl, ew12⟩; have H := H.step ew12; refine ⟨_, rfl, ?_⟩
   refine aG Z (q1 (mV Z (o_lss Z Z Z (q3 ?_))))
   refine W_cond Z ?_ ?_
   ·intro hc13
    try simp only [nrm] at hc13
    refine q2 (aG Z (q3 (W_ret (N_B_ret (N_K_ret (N_LP_ret (N_B_ret (N_K_ret (rt1 results85 Z ?_)))))))))
    exact absurd (show False from by first | omega | (exact hc13 (by (rw [hzm]; first | rfl | (rw [← hkk]; rfl)))) | (have h9 := hc13; rw [hzm] at h9; simp [mItem] at h9; done)) id
   intro hc13'
   try simp only [nrm] at hc13'
   refine W_skip (N_B (N_K (W_region (mV Z (o_add Z Z Z oO (aG Z (R_nil ?_)))))))
   refine N_lp (hJ := ⟨i + 1, kk + 1 + 1 + (cnt cI x.ids : Int), _, Z, hle1, H, ?inv, Z⟩) (hm := ?hm)
   case hm => omega
   case inv => exact ⟨by omega, by (rw [cnt_succ hx]; omega)⟩
  intro hc2'
  try simp only [nrm] at hc2'
  refine W_exit (N_K_exit (N_LP_exit (N_B_same (N_K (q2 (mV Z (aG Z (q3 (W_ret (rt1 results85 Z ?_))))))))))
  have hie : i = a.length := by omega
  have hce := cnt_end (c := cItem) hie
  exact H.rets (congrArg (Value.int .i64) (by (rw [hkk, hce])))
theorem w_heldSnapS_c (w0 : World) (G0 : PH) (hG : PSub G0 w0) (vb : Value) (b : List (BSnap)) (hb : RdSn G0 vb b) (k : Int) (a : List (BSnap)) (hab : b = mks mSnap cSnap k a) (hb2 : 0 ≤ k ∧ k + (cnt cSnap a : Int) ≤ 2199023255552) :
  Calls Tryz.prog 86 #[vb, .int .i64 k] w0 (Rets w0 (.int .i64 (k + (cnt cSnap a : Int)))) := by
 obtain ⟨ab, kb, rfl⟩ := hb.shape
 have hlimb : b.length ≤ 1099511627776 := hb.lim
 have hle : b.length = a.length := by (rw [hab]; exact mks_len _ _)
 have H := Hp.init hG
 refine calls_of_W (l := [.slice ab b.length kb, .int .i64 k]) func86 Z ntmps86 Z (q2 (aG Z (q3 (W_seq (q2 (aG Z (q3 (W_block ?_))))))))
 refine W_lp (hf := (Sub.cons (t := 0) Z Sub.nil)) (J := fun M w m => ∃ (i : Nat) (kk : Int) (G : PH), M = [(5, .int .i64 (i : Int)), (1, .int .i64 kk)] ∧ PLe G0 G ∧ Hp w0 G0 [] w G [] ∧ (i ≤ a.length ∧ kk = k + (cnt cSnap (a.take i) : Int)) ∧ m = (a.length - i)) (h0 := ⟨0, k, _, Z, PLe.refl _, H, ?inv, Z⟩) (round := ?round)
 case inv => simp [cnt]
 case round =>
  rintro _ w1 _ ⟨i, kk, G1, rfl, hle1, H, hinv1, rfl⟩
  have hb := hb.up hle1
  obtain ⟨hi, hkk⟩ := hinv1; have hctk := cnt_tk (c := cSnap) a i
  refine W_seq (q2 (mV Z (mV Z (o_len_slice underlying25 Z Z (o_lss Z Z Z (q3 ?_))))))
  refine W_cond Z ?_ ?_
  ·intro hc2
   try simp only [nrm] at hc2
   refine W_skip (N_K (W_seq (W_block (W_seq (W_seq (W_drawK [] 8 H kR Z ?_)))))); intro w3 H; have hd3 := PLe.refl G1
   refine vM 0 Z Z (vM 1 Z Z ?_)
   have hl4 := hb.len
   obtain ⟨b4, o4, z4, q4, ha4, hz4, hq4, hE4, hrow4, _⟩ := hb.at (i := i) oM
   clear hq4
   obtain ⟨a4, m4, c4, rfl, hi4, hr4⟩ := hE4; have hy_hi4 : _ ≤ 16777216 := hi4; have hn_hr4 := hr4.len; have hx_hr4 : _ ≤ 1099511627776 := hr4.lim
   obtain ⟨x, hx⟩ : ∃ x, a[i]? = some x := ⟨_, List.getElem?_eq_getElem oM⟩
   have hzm := mks_get hx (hab ▸ hz4); rw [← hkk] at hzm; have hcl := cnt_le (c := cSnap) hx
   have hch : cSnap x = 1 + cnt cItem x.tree := rfl
   refine RD_t 2 Z kR Z (fun _ hK => v_index_P (i := i) ha4 underlying25 sizeOf81 Z Z Z oM) (RD_t 3 Z kR Z (fun _ hK => v_fieldAddr 0 runUnderlying81 Z sizeOf9 Z Z) (RD_t 4 Z kR Z (fun _ hK => v_load_P hK isAgg9 Z (hrow4 0 _ Z)) (vM 5 Z Z ?_)))
   refine RD_run [6] kR Z (RDs.cons Z ?_ RDs.nil)
   refine o_call call135 Z Z (w_markText_c _ _ oM) ?_
   rintro _ w5 ⟨rfl, ew5⟩; have H := H.step ew5; refine ⟨_, rfl, ?_⟩
   refine R_nil (N_DK (Kn.of' H hd3 SubL.nil) (RD_t 7 Z kR Z (fun _ hK => v_sneq Z Z) (RD_done kR (N_K ?_))))
   refine W_cond Z ?_ ?_
   ·intro hc6
    try simp only [nrm] at hc6
    refine q2 (aG Z (q3 (W_ret (N_K_ret (N_B_ret (N_K_ret (N_LP_ret (N_B_ret (N_K_ret (rt1 results86 Z ?_))))))))))
    exact absurd (show False from by first | omega | (exact hc6 (by (rw [hzm]; first | rfl | (rw [← hkk]; rfl)))) | (have h9 := hc6; rw [hzm] at h9; simp [mSnap] at h9; done)) id
   intro hc6'
   try simp only [nrm] at hc6'
   refine W_skip (N_K (q2 (mV Z (o_add Z Z Z oO (aG Z (q1 (mV Z (mV Z (o_index_P i hb underlying25 sizeOf81 Z Z Z Z aN ?_))))))))); intro b8 o8 z8 q8 hz8 hE8 hrow8
   obtain ⟨a8, m8, c8, rfl, hi8, hr8⟩ := hE8; have hy_hi8 : _ ≤ 16777216 := hi8; have hn_hr8 := hr8.len; have hx_hr8 : _ ≤ 1099511627776 := hr8.lim
   have hzz8 : z4 = z8 := Option.some.inj (hz4.symm.trans hz8)
   subst hzz8
   refine o_fieldAddr 1 runUnderlying81 Z sizeOf24 Z Z Z (o_load_P H isAgg24 Z Z (hrow8 1 _ Z) (mV Z ?_))
   refine o_call call85 Z Z (w_heldItemS_c _ _ H.sub _ _ hr8 _ x.tree (by (rw [hzm]; rfl)) oO) ?_
   rintro _ w9 ⟨rfl, ew9⟩; have H := H.step ew9; refine ⟨_, rfl, ?_⟩
   refine aG Z (q1 (mV Z (o_lss Z Z Z (q3 ?_))))
   refine W_cond Z ?_ ?_
   ·intro hc10
    try simp only [nrm] at hc10
    refine q2 (aG Z (q3 (W_ret (N_B_ret (N_K_ret (N_LP_ret (N_B_ret (N_K_ret (rt1 results86 Z ?_)))))))))
    exact absurd (show False from by first | omega | (exact hc10 (by (rw [hzm]; first | rfl | (rw [← hkk]; rfl)))) | (have h9 := hc10; rw [hzm] at h9; simp [mSnap] at h9; done)) id
   intro hc10'
   try simp only [nrm] at hc10'
   refine W_skip (N_B (N_K (W_region (mV Z (o_add Z Z Z oO (aG Z (R_nil ?_)))))))
   refine N_lp (hJ := ⟨i + 1, kk + 1 + (cnt cItem x.tree : Int), _, Z, hle1, H, ?inv, Z⟩) (hm := ?hm)
   case hm => omega
   case inv => exact ⟨by omega, by (rw [cnt_succ hx]; omega)⟩
  intro hc2'
  try simp only [nrm] at hc2'
  refine W_exit (N_K_exit (N_LP_exit (N_B_same (N_K (q2 (mV Z (aG Z (q3 (W_ret (rt1 results86 Z ?_))))))))))
  have hie : i = a.length := by omega
  have hce := cnt_end (c := cSnap) hie
  exact H.rets (congrArg (Value.int .i64) (by (rw [hkk, hce])))
end Go.Proofs.Tst

namespace Go.Proofs.Tst
open Go Fw Tryz
theorem w_heldDisk_c (w0 : World) (G0 : PH) (hG : PSub G0 w0) (cb : List Value) (b : BDisk) (hb : diskE G0 b cb) (k : Int) (a : BDisk) (hab : b = mDisk k a) (hb2 : 0 ≤ k ∧ k + (cDisk a : Int) ≤ 2199023255552) :
  Calls Tryz.prog 35 #[.agg cb.toArray, .int .i64 k] w0 (Rets w0 (.int .i64 (k + (cDisk a : Int)))) := by
 obtain ⟨a1, m1, c1, a1', m1', c1', a1'', m1'', c1'', rfl, hr1, hr1', hr1''⟩ := hb; have hn_hr1 := hr1.len; have hx_hr1 : _ ≤ 1099511627776 := hr1.lim; have hn_hr1q := hr1'.len; have hx_hr1q : _ ≤ 1099511627776 := hr1'.lim; have hn_hr1qq := hr1''.len; have hx_hr1qq : _ ≤ 1099511627776 := hr1''.lim
 have hcd : cDisk a = cnt cHeld a.store + cnt cItem a.tree + cnt cSnap a.snaps := rfl
 have H := Hp.init hG
 refine calls_of_W (l := [_, .int .i64 k]) func35 Z ntmps35 Z (q2 (o_box H Z Z Z ?_)); intro b2 w2 hb2 H
 refine aG Z (q1 (o_fieldAddr 0 runUnderlying27 Z sizeOf23 Z Z Z (o_load_B 0 H isAgg23 Z Z Z Z (mV Z ?_))))
 refine o_call call84 Z Z (w_heldHeldS_c _ _ H.sub _ _ hr1 _ a.store (by (rw [hab]; rfl)) oO) ?_
 rintro _ w3 ⟨rfl, ew3⟩; have H := H.step ew3; refine ⟨_, rfl, ?_⟩
 refine aG Z (q3 (W_seq (q2 (mV Z (o_lss Z Z Z (q3 ?_))))))
 refine W_cond Z ?_ ?_
 ·intro hc4
  try simp only [nrm] at hc4
  refine q2 (aG Z (q3 (W_ret (N_K_ret (rt1 results35 Z ?_)))))
  first | exact H.rets (congrArg (Value.int .i64) oM) | exact absurd (show False from by omega) id
 intro hc4'
 try simp only [nrm] at hc4'
 refine W_skip (N_K (q2 (o_fieldAddr 1 runUnderlying27 Z sizeOf24 Z Z Z (o_load_B 0 H isAgg24 Z Z Z Z (mV Z ?_)))))
 refine o_call call85 Z Z (w_heldItemS_c _ _ H.sub _ _ hr1' _ a.tree (by (rw [hab]; rfl)) oO) ?_
 rintro _ w5 ⟨rfl, ew5⟩; have H := H.step ew5; refine ⟨_, rfl, ?_⟩
 refine aG Z (q3 (W_seq (q2 (mV Z (o_lss Z Z Z (q3 ?_))))))
 refine W_cond Z ?_ ?_
 ·intro hc6
  try simp only [nrm] at hc6
  refine q2 (aG Z (q3 (W_ret (N_K_ret (rt1 results35 Z ?_)))))
  first | exact H.rets (congrArg (Value.int .i64) oM) | exact absurd (show False from by omega) id
 intro hc6'
 try simp only [nrm] at hc6'
 refine W_skip (N_K (q2 (o_fieldAddr 2 runUnderlying27 Z sizeOf25 Z Z Z (o_load_B 0 H isAgg25 Z Z Z Z (mV Z ?_)))))
 refine o_call call86 Z Z (w_heldSnapS_c _ _ H.sub _ _ hr1'' _ a.snaps (by (rw [hab]; rfl)) oO) ?_
 rintro _ w7 ⟨rfl, ew7⟩; have H := H.step ew7; refine ⟨_, rfl, ?_⟩
 refine aG Z (q3 (W_seq (q2 (mV Z (o_lss Z Z Z (q3 ?_))))))
 refine W_cond Z ?_ ?_
 ·intro hc8
  try simp only [nrm] at hc8
  refine q2 (aG Z (q3 (W_ret (N_K_ret (rt1 results35 Z ?_)))))
  first | exact H.rets (congrArg (Value.int .i64) oM) | exact absurd (show False from by omega) id
 intro hc8'
 try simp only [nrm] at hc8'
 refine W_skip (N_K (q2 (mV Z (aG Z (q3 (W_ret (rt1 results35 Z ?_)))))))
 first | exact H.rets (congrArg (Value.int .i64) oM) | exact absurd (show False from by omega) id
theorem w_markDisk_c (w0 : World) (G0 : PH) (hG : PSub G0 w0) (Fa1 Fa2 Fa3 : Fr) (va1 va2 va3 : Value) (a : BDisk) (hO1 : OHs Fa1 va1 a.store) (hO2 : OIs Fa2 va2 a.tree) (hO3 : OSn Fa3 va3 a.snaps) (k : Int) (hLent : Lent w0 G0 [frag Fa1, frag Fa2, frag Fa3]) (hb : 0 ≤ k ∧ k + (cDisk a : Int) ≤ 2199023255552) :
  Calls Tryz.prog 34 #[.agg #[va1, va2, va3], .int .i64 k] w0 (RetM w0 G0 (fps [frag Fa1, frag Fa2, frag Fa3]) (fun G' v Bs => ∃ (F1 F2 F3 : Fr), v = .int .i64 (k + (cDisk a : Int)) ∧ Bs = [frag F1, frag F2, frag F3] ∧ OHs F1 va1 (mDisk k a).store ∧ OIs F2 va2 (mDisk k a).tree ∧ OSn F3 va3 (mDisk k a).snaps)) := by
 obtain ⟨x1, p1⟩ := hO1
 obtain ⟨sa1, sc1, rfl⟩ := OwnS.shape p1
 obtain ⟨x2, p2⟩ := hO2
 obtain ⟨sa2, sc2, rfl⟩ := OwnS.shape p2
 obtain ⟨x3, p3⟩ := hO3
 obtain ⟨sa3, sc3, rfl⟩ := OwnS.shape p3
 have hcd : cDisk a = cnt cHeld a.store + cnt cItem a.tree + cnt cSnap a.snaps := rfl
 have H : Hp w0 G0 (fps [frag Fa1, frag Fa2, frag Fa3]) w0 G0 [frag Fa1, frag Fa2, frag Fa3] := hLent.hp
 refine calls_of_W (l := [_, .int .i64 k]) func34 Z ntmps34 Z (q2 (o_box H Z Z Z ?_)); intro b1 w1 hb1 H
 refine aG Z (q1 (o_fieldAddr 0 runUnderlying27 Z sizeOf23 Z Z Z (o_load_B 0 H isAgg23 Z Z Z Z (mV Z ?_))))
 have H := H.toFront (k := 1) rfl
 refine o_call call81 Z Z (w_markHeldS_c _ _ H.sub _ _ _ (show OHs Fa1 _ _ from ⟨_, p1⟩) _ H.lent1 oO) ?_
 rintro _ w2 ⟨G2, _, _, rfl, H2', ⟨F2, rfl, rfl, hO2⟩⟩
 have H := H.borrow1 H2'
 refine ⟨_, Z, ?_⟩
 refine aG Z (q1 (o_fieldAddr 1 runUnderlying27 Z sizeOf24 Z Z Z (o_load_B 1 H isAgg24 Z Z Z Z (mV Z ?_))))
 have H := H.toFront (k := 2) rfl
 refine o_call call82 Z Z (w_markItemS_c _ _ H.sub _ _ _ (show OIs Fa2 _ _ from ⟨_, p2⟩) _ H.lent1 oO) ?_
 rintro _ w3 ⟨G3, _, _, rfl, H3', ⟨F3, rfl, rfl, hO3⟩⟩
 have H := H.borrow1 H3'
 refine ⟨_, Z, ?_⟩
 refine aG Z (q1 (o_fieldAddr 2 runUnderlying27 Z sizeOf25 Z Z Z (o_load_B 2 H isAgg25 Z Z Z Z (mV Z ?_))))
 have H := H.toFront (k := 3) rfl
 refine o_call call83 Z Z (w_markSnapS_c _ _ H.sub _ _ _ (show OSn Fa3 _ _ from ⟨_, p3⟩) _ H.lent1 oO) ?_
 rintro _ w4 ⟨G4, _, _, rfl, H4', ⟨F4, rfl, rfl, hO4⟩⟩
 have H := H.borrow1 H4'
 refine ⟨_, Z, ?_⟩
 refine aG Z (q1 (mV Z (aG Z (q3 (W_ret (rt1 results34 Z ?_))))))
 have H := H.del (k := 3) rfl
 have H := H.toFront (k := 1) rfl
 have H := H.toFront (k := 2) rfl
 exact H.retM ⟨_, _, _, congrArg (Value.int .i64) oM, Z, (show _ from hO2), (show _ from hO3), (show _ from hO4)⟩
end Go.Proofs.Tst

namespace Go.Proofs.Tst
open Go Fw Tryz
theorem bf27 : BuildFact Tryz.prog 27 [(0, 1), (1, 1), (2, 1)] [.slice none 0 0, .slice none 0 0, .slice none 0 0] := buildFact zeroValue27 runUnderlying27 (fun w => by simp [sizeOf23, sizeOf24, sizeOf25])
theorem bf37 : BuildFact Tryz.prog 37 [(0, 1), (1, 1), (2, 1)] [str [], .bool false, .slice none 0 0] := buildFact zeroValue37 runUnderlying37 (fun w => by simp [sizeOf4, sizeOf9, sizeOf33])
theorem bf47 : BuildFact Tryz.prog 47 [(0, 1), (1, 1)] [.slice none 0 0, .slice none 0 0] := buildFact zeroValue47 runUnderlying47 (fun w => by simp [sizeOf23, sizeOf24])
theorem bf81 : BuildFact Tryz.prog 81 [(0, 1), (1, 1)] [str [], .slice none 0 0] := buildFact zeroValue81 runUnderlying81 (fun w => by simp [sizeOf9, sizeOf24])
theorem bf99 : BuildFact Tryz.prog 99 [(0, 1), (1, 1)] [.map none, .pointer none] := buildFact zeroValue99 runUnderlying99 (fun w => by simp [sizeOf96, sizeOf97])
theorem bf105 : BuildFact Tryz.prog 105 [(0, 1), (1, 1), (2, 1)] [.int .i64 0, .slice none 0 0, .int .i64 0] := buildFact zeroValue105 runUnderlying105 (fun w => by simp [sizeOf3, sizeOf33])
theorem bf131 : BuildFact Tryz.prog 131 [(0, 2), (2, 2), (4, 1)] [.int .i32 0, .int .u32 0, .map none, .pointer none, .slice none 0 0] := buildFact zeroValue131 runUnderlying131 (fun w => by simp [sizeOf99, sizeOf128, sizeOf129])
theorem bf135 : BuildFact Tryz.prog 135 [(0, 1), (1, 1)] [str [], .pointer none] := buildFact zeroValue135 runUnderlying135 (fun w => by simp [sizeOf9, sizeOf97])
theorem bf149 : BuildFact Tryz.prog 149 [(0, 1), (1, 1), (2, 1), (3, 1)] [str [], .bool false, .slice none 0 0, .slice none 0 0] := buildFact zeroValue149 runUnderlying149 (fun w => by simp [sizeOf4, sizeOf9, sizeOf33, sizeOf147])
theorem bf195 : BuildFact Tryz.prog 195 [(0, 1), (1, 1)] [.slice none 0 0, .int .i64 0] := buildFact zeroValue195 runUnderlying195 (fun w => by simp [sizeOf3, sizeOf33])
end Go.Proofs.Tst

