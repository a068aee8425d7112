/- Part 4 of the proof: the program logic and plain functions. Conditions: none. -/
import Derived.Conc.MuLone
import Derived.Test.YtddaepdfmhkaeaaGreatDoorG03
import Derived.Test.YtddaepdfmhkaeaaGreatDoorG02
import Derived.Laws.BytesArg
import Derived.KernelRfl
import Derived.Test.YtddaepdfmhkaeaaGreatDoorProg
import Derived.Shelf.SlGeneric
import Derived.Shelf.Strings.Search1
import Derived.Shelf.Strings.Search2
import Derived.Shelf.Strings.Count
import Derived.Shelf.SlIterI.Nil
import Derived.Shelf.SortM.Plain
import Derived.Shelf.SortM.SortNone
import Derived.Ground.GgzProg
import Derived.Ground.SlgmProg
set_option linter.all false
set_option maxRecDepth 100000
set_option maxHeartbeats 1000000
namespace Fw
open Go
theorem calls_of_WD {P : Program} {f : FuncId} {fn : Func} {c : Code} {l : List Value} {w : World} {R : Ending → World → Prop} {n : Nat}
  (hf : P.funcs[f]? = some fn) (hb : fn.body = some c) (hn : fn.ntmps = n) (hl : Nat.ble l.length n = true)
  (h : W P n (bodyPostD P fn R) c (initL 0 l) [] w) : Calls P f l.toArray w R := by
 refine calls_of_wp_defers hf hb (h _ ⟨?_, ?_, rfl⟩)
 ·have : l.length ≤ n := by simpa using hl
  simp [hn]; omega
 ·intro t v hv
  obtain ⟨_, h2⟩ := lk_initL l 0 t v hv
  have hlt : t < l.length := by
   have := List.getElem?_eq_some_iff.1 h2
   obtain ⟨h, _⟩ := this
   simpa using h
  simp only [Nat.sub_zero] at h2
  rw [Array.getElem?_append_left (by simpa using hlt)]
  simpa using h2
section
variable {P : Program} {n : Nat} {ops : Array Oper} {Q : Post} {rest : List Oper} {L : Slots} {ds : List Deferred} {w w0 : World} {G0 : PH} {S : List Nat} {G : PH} {B : List Res}
variable {ty : TypeId} {ps : String} {af : Array Edge}
theorem o_defer {f : FuncId} {xs : List Operand} {ts : Array TypeId} {vs : List Value} (hx : ods L xs = some vs)
  (next : R P n ops Q rest L ({ target := .fn (.func f) #[], args := vs.toArray } :: ds) w) : R P n ops Q (⟨none, .defer ⟨.value (.func f), xs.toArray, ts⟩, ty, ps, af, none⟩ :: rest) L ds w := by
 intro a ha
 refine wpList_plain rfl fun K hK => ?_
 have e : xs.map a.eval = vs := ha.evals xs vs hx
 have hr : (execOp a.eval ⟨none, .defer ⟨.value (.func f), xs.toArray, ts⟩, ty, ps, af, none⟩).run P w = .ok (.defer { target := .fn (.func f) #[], args := vs.toArray }) w := by
  simp [execOp, resolve, Act.eval, Deferred.ofValue, e]
 unfold Oper.wp
 rw [hr, Oper.upon_defer]
 exact hK _ _ (next _ ⟨ha.size, ha.get, by simp [Act.put, ha.defers]⟩)
variable {fn : Func} {C : Ending → World → Prop}
theorem ret_unlock (k : Nat) (H : Hp w0 G0 S w G B) {LL : Go.Conc.Locks.MuLink} (M : Go.Conc.Locks.MuLib P LL) {b o : Nat} {l : List Value} {e : TypeId} {f : FuncId} {rs : List ResultVar} (hf : f = LL.unlock) (henter : ∀ args w, (callFunc f args).run P w = .ok (.enter f args) w)
  (hk : nth B k = some (blk b (cl l e))) (hl : nth l o = some (.int .i32 1)) (hr : fn.results = rs.toArray)
  (next : ∀ w', Hp w0 G0 S w' G (setN B k (blk b (cl (setN l o (.int .i32 0)) e))) → ∃ vs, RV P w' L rs vs ∧ C (.returned (tupleOf vs)) w') :
  N n (bodyPostD P fn C) .ret L [{ target := .fn (.func f) #[], args := [.pointer (some ⟨b, o, none⟩)].toArray }] w := by
 subst hf
 intro a ha
 show Leaves P fn a.tmps C a.defers .returning w
 rw [ha.defers]
 have hc : w.cell? ⟨b, o, none⟩ = some (.int .i32 1) := blk_cell H hk (by rw [nth_eq] at hl; simpa using hl)
 refine leaves_cons (f := LL.unlock) (args := #[.pointer (some ⟨b, o, none⟩)]) (by simp) (by simp [invoke, henter]) ?_
 refine (Go.MuLone.unlock_deferred M ⟨b, o, none⟩ .returning w hc (frozen_blk H hk)).mono ?_
 rintro e u' w' ⟨rfl, rfl, rfl⟩
 obtain ⟨vs, h1, h2⟩ := next _ (setCell_blk H hk (o := o) (.int .i32 0))
 exact ⟨_, run_results' hr ⟨ha.size, ha.get, rfl⟩ h1, h2⟩
theorem o_lock (k : Nat) (H : Hp w0 G0 S w G B) {LL : Go.Conc.Locks.MuLink} (M : Go.Conc.Locks.MuLib P LL) {d b o : Nat} {l : List Value} {e : TypeId} {f : FuncId} {xs : List Operand} {ts : Array TypeId} (hf : f = LL.lock) (henter : ∀ args w, (callFunc f args).run P w = .ok (.enter f args) w) (hd : Nat.blt d n = true)
  (hx : ods L xs = some [.pointer (some ⟨b, o, none⟩)]) (hk : nth B k = some (blk b (cl l e))) (hl : nth l o = some (.int .i32 0))
  (next : ∀ w', Hp w0 G0 S w' G (setN B k (blk b (cl (setN l o (.int .i32 1)) e))) → R P n ops Q rest ((d, .tuple #[]) :: L) ds w') :
  R P n ops Q (⟨some d, .call ⟨.value (.func f), xs.toArray, ts⟩, ty, ps, af, none⟩ :: rest) L ds w := by
 subst hf
 have hc : w.cell? ⟨b, o, none⟩ = some (.int .i32 0) := blk_cell H hk (by rw [nth_eq] at hl; simpa using hl)
 refine o_call henter hd hx (Go.MuLone.lock_free M ⟨b, o, none⟩ w hc (frozen_blk H hk)) ?_
 rintro _ w' ⟨rfl, rfl⟩
 exact ⟨_, rfl, next _ (setCell_blk H hk (o := o) (.int .i32 1))⟩
end
def osE : PH → (Bs × Nd) → List Value → Prop := fun _ x cs => cs = [str x.1, ptr x.2.b] ∧ x.1.length ≤ 16777216
instance : MonoE osE := ⟨fun _ h => h⟩
theorem prow_blk {G : PH} {b : Nat} {l : List Value} {e : TypeId} (h : (blk b (cl l e)).pred G) : PRow G b 0 l := fun j v hv => ⟨l.toArray, e, (0, 0), h, by rw [Nat.zero_add]; simpa using hv⟩
abbrev SnOK (xs : List (Bs × Nd)) (L : List BSnap) : Prop := All2 (fun x s => x.1 = s.name ∧ Nd.TOK x.2 s.tree ∧ Sp.TreeValid s.tree = true) xs L
theorem All2.len {α β : Type} {R : α → β → Prop} {l : List α} {m : List β} (h : All2 R l m) : l.length = m.length := by
 induction h with
 | nil => rfl
 | cons _ _ ih => simp [ih]
theorem All2.snoc {α β : Type} {R : α → β → Prop} {l : List α} {m : List β} {x : α} {y : β} (h : All2 R l m) (hx : R x y) : All2 R (l ++ [x]) (m ++ [y]) := by
 induction h with
 | nil => exact .cons hx .nil
 | cons h _ ih => exact .cons h ih
theorem All2.at {α β : Type} {R : α → β → Prop} {l : List α} {m : List β} (h : All2 R l m) : ∀ {i : Nat} {x : α}, l[i]? = some x → ∃ y, m[i]? = some y ∧ R x y := by
 induction h with
 | nil => intro i x hx; simp at hx
 | cons h _ ih =>
  intro i x hx
  cases i with
  | zero => simp at hx; subst hx; exact ⟨_, rfl, h⟩
  | succ i => exact ih (by simpa using hx)
end Fw
namespace Fw
open Go
end Fw
namespace Fw
open Go
section
variable {P : Program} {n : Nat} {ops : Array Oper} {Q : Post} {rest : List Oper} {L : Slots} {ds : List Deferred} {w : World}
variable {ty : TypeId} {ps : String} {af : Array Edge}
theorem o_makefn1 {d : Nat} {f : FuncId} {x : Operand} {v : Value} (hd : Nat.blt d n = true) (hx : od L x = some v)
  (next : R P n ops Q rest ((d, .func (.func f) #[] #[v]) :: L) ds w) : R P n ops Q (⟨some d, .makeFunc (.func f) #[] #[x], ty, ps, af, none⟩ :: rest) L ds w :=
 R_run hd (fun a ha => by simp [execOp, Instr.makeFunc, ha.eval hx]) next
theorem o_callc {d : Nat} {f : FuncId} {c : Operand} {xs : List Operand} {ts : Array TypeId} {vs : List Value} {cv : Value} {C : Ending → World → Prop} (hf : ∀ args w, (callFunc f args).run P w = .ok (.enter f args) w) (hd : Nat.blt d n = true)
  (hc0 : od L c = some (.func (.func f) #[] #[cv])) (hx : ods L xs = some vs) (hc : Calls P f (vs ++ [cv]).toArray w C) (next : ∀ e w', C e w' → ∃ v, e = .returned v ∧ R P n ops Q rest ((d, v) :: L) ds w') :
  R P n ops Q (⟨some d, .call ⟨.value c, xs.toArray, ts⟩, ty, ps, af, none⟩ :: rest) L ds w := by
 intro a ha
 refine wpList_plain rfl fun K hK => ?_
 have e : xs.map a.eval = vs := ha.evals xs vs hx
 have hr : (execOp a.eval ⟨some d, .call ⟨.value c, xs.toArray, ts⟩, ty, ps, af, none⟩).run P w = .ok (.enter f (vs ++ [cv]).toArray) w := by
  simp [execOp, resolve, invoke, ha.eval hc0, Deferred.ofValue, e, hf]
 unfold Oper.wp
 rw [hr, Oper.upon_enter]
 refine hc.mono fun e w' hC => ?_
 obtain ⟨v, rfl, h⟩ := next e w' hC
 exact hK _ _ (h _ (ha.put hd v))
end
end Fw
namespace Fw
open Go
section
variable {NT PT : TypeId} {w0 w : World} {G0 G : PH} {S : List Nat} {B : List Res}
theorem NdsO.snoc {k : Nd} {Fk : Fr} {l : List Nd} {F : Fr} (h : NdsO NT PT G l F) (hk : NdO NT PT G k Fk) : NdsO NT PT G (l ++ [k]) (F ++ Fk) :=
 NdsO.app.2 ⟨F, Fk, rfl, h, by simp only [NdsO]; exact ⟨Fk, [], by simp, hk, rfl⟩⟩
theorem Hp.lendNs (H : Hp w0 G0 S w G B) {ks : List Nat} {k : Nat} {F : Fr} {l : List Nd} (hk : nth B k = some (frag F)) (hm : ks.contains k = true) (h : NdsO NT PT G l F) : ∀ t, t ∈ l → RdN (PPlus G w (fpsAt B ks)) t :=
 RdNs_iff.1 (NdsO.rd (PPlus.le _ _ _) h (H.lendPredL hk hm) (nd_front (H.toFront hk)))
end
end Fw
namespace Sp
open Fw
def useOK (s : List BHeld) (ts : List Nd) : Bool := ts.all (fun t => (t.flat []).all (fun x => l4Ids s x.ids)) && s.all (fun h => decide ((cntT ts h.id : Int) = h.uses))
theorem dv_parts {d : BDisk} : DiskValid d = true ↔ StoreValid d.store = true ∧ TreeValid d.tree = true ∧ d.snaps.length ≤ 6 ∧ (∀ (k : Nat) (s : BSnap), d.snaps[k]? = some s → l1Word s.name = true ∧ (k : Int) ≤ l12At d.snaps s.name ∧ TreeValid s.tree = true) ∧
  (l11Files d.store d.tree = true ∧ ∀ (k : Nat) (s : BSnap), d.snaps[k]? = some s → l11Files d.store s.tree = true) ∧ d.store.all (usesD d) = true := by
 simp only [DiskValid, l12Snaps, Bool.and_eq_true, decide_eq_true_eq]
 constructor
 ·rintro ⟨h1, ⟨⟨h2, h3⟩, h4⟩, h5, h6⟩
  have key : ∀ (k : Nat) (s : BSnap), d.snaps[k]? = some s → okS d k = true := fun k s hk => List.all_eq_true.1 h5 k (by simpa using (List.getElem?_eq_some_iff.1 hk).1)
  refine ⟨h2, h3, h6, fun k s hk => ?_, ⟨h4, fun k s hk => ?_⟩, h1⟩
  ·have := key k s hk
   rw [okS_at hk] at this
   simp only [Bool.and_eq_true, decide_eq_true_eq] at this
   exact ⟨this.1.1.1, this.1.1.2, this.1.2⟩
  ·have := key k s hk
   rw [okS_at hk] at this
   simp only [Bool.and_eq_true] at this
   exact this.2
 ·rintro ⟨h2, h3, h6, h7, ⟨h4, h8⟩, h1⟩
  refine ⟨h1, ⟨⟨h2, h3⟩, h4⟩, ?_, h6⟩
  rw [List.all_eq_true]
  intro k hk
  have hk' : k < d.snaps.length := by simpa using hk
  rw [okS_at (List.getElem?_eq_getElem hk')]
  obtain ⟨g1, g2, g3⟩ := h7 k _ (List.getElem?_eq_getElem hk')
  simp only [Bool.and_eq_true, decide_eq_true_eq]
  exact ⟨⟨⟨g1, g2⟩, g3⟩, h8 k _ (List.getElem?_eq_getElem hk')⟩
theorem cntT_sn {xs : List (Bs × Nd)} {L : List BSnap} (h : SnOK xs L) (id : Int) : cntT (xs.map (·.2)) id = cntS L id L.length := by
 induction h with
 | nil => rfl
 | cons h t ih =>
  obtain ⟨h1, h2, h3⟩ := h
  simp only [cntT, cntS, List.map_cons, List.sum_cons, List.take_length] at ih ⊢
  rw [h2.flat]
  omega
theorem dv_use {d : BDisk} {T : Nd} {xs : List (Bs × Nd)} (hS : StoreValid d.store = true) (hT : Nd.TOK T d.tree) (hl : d.snaps.length ≤ 6) (hx : SnOK xs d.snaps) (hw : ∀ (k : Nat) (s : BSnap), d.snaps[k]? = some s → l1Word s.name = true ∧ (k : Int) ≤ l12At d.snaps s.name) :
  DiskValid d = useOK d.store (T :: xs.map (·.2)) := by
 rw [Bool.eq_iff_iff, dv_parts]
 have hc : ∀ id, cntT (T :: xs.map (·.2)) id = l12Count d id := fun id => by
  have := cntT_sn hx id
  simp only [cntT, List.map_cons, List.sum_cons, hT.flat] at this ⊢
  rw [this]; rfl
 have hf : (T :: xs.map (·.2)).all (fun t => (t.flat []).all (fun x => l4Ids d.store x.ids)) = true ↔ l11Files d.store d.tree = true ∧ ∀ (k : Nat) (s : BSnap), d.snaps[k]? = some s → l11Files d.store s.tree = true := by
  simp only [List.all_cons, Bool.and_eq_true, hT.flat]
  refine and_congr Iff.rfl ?_
  rw [List.all_eq_true]
  constructor
  ·intro h k s hk
   obtain ⟨x, hx1, hx2⟩ := f2_mem_right hx (List.mem_of_getElem? hk)
   have := h x.2 (List.mem_map_of_mem hx1)
   rw [hx2.2.1.flat] at this
   exact this
  ·intro h t ht
   obtain ⟨x, hx1, rfl⟩ := List.mem_map.1 ht
   obtain ⟨s, hs1, hs2⟩ := f2_mem_left hx hx1
   obtain ⟨k, hk⟩ := List.getElem?_of_mem hs1
   rw [hs2.2.1.flat]
   exact h k s hk
 have hu : d.store.all (fun h => decide ((cntT (T :: xs.map (·.2)) h.id : Int) = h.uses)) = d.store.all (usesD d) := by
  congr 1
  funext h
  rw [hc]; rfl
 simp only [useOK, Bool.and_eq_true, hu, hf]
 constructor
 ·rintro ⟨_, _, _, _, h5, h6⟩; exact ⟨h5, h6⟩
 ·rintro ⟨h5, h6⟩
  refine ⟨hS, hT.valid, hl, fun k s hk => ⟨(hw k s hk).1, (hw k s hk).2, ?_⟩, h5, h6⟩
  obtain ⟨x, hx1, hx2⟩ := f2_mem_right hx (List.mem_of_getElem? hk)
  exact hx2.2.2
theorem dv_no {d : BDisk} (h : ¬ (StoreValid d.store = true ∧ TreeValid d.tree = true ∧ d.snaps.length ≤ 6 ∧ ∀ (k : Nat) (s : BSnap), d.snaps[k]? = some s → l1Word s.name = true ∧ (k : Int) ≤ l12At d.snaps s.name ∧ TreeValid s.tree = true)) : DiskValid d = false := by
 cases e : DiskValid d with
 | false => rfl
 | true =>
  obtain ⟨h1, h2, h3, h4, _⟩ := dv_parts.1 e
  exact absurd ⟨h1, h2, h3, h4⟩ h
theorem sn_find {xs : List (Bs × Nd)} {L : List BSnap} (h : SnOK xs L) (n : Bs) : xs.findIdx? (fun x => decide (x.1 = n)) = atS L n := by
 induction h with
 | nil => rfl
 | cons h t ih =>
  simp only [atS, List.findIdx?_cons] at ih ⊢
  rw [h.1, ih]
theorem at_take {L : List BSnap} {k : Nat} {s : BSnap} (hk : L[k]? = some s) : ((k : Int) ≤ l12At L s.name) ↔ optI (atS (L.take k) s.name) < 0 := by
 have hkl := (List.getElem?_eq_some_iff.1 hk).1
 simp only [l12At]
 cases e : atS (L.take k) s.name with
 | none =>
  have h1 : atS L s.name = some k := fidx_some (fun j x hj hx => by
   simp only [atS, List.findIdx?_eq_none_iff] at e
   exact e x (List.mem_of_getElem? (i := j) (by rw [List.getElem?_take, if_pos hj]; exact hx))) hk (by simp)
  simp [h1, optI]
 | some j =>
  have h2 : j < k ∧ ∃ x, L[j]? = some x ∧ x.name = s.name := by
   simp only [atS] at e
   obtain ⟨g1, g2, _⟩ := List.findIdx?_eq_some_iff_getElem.1 e
   have : j < k := by simp at g1; omega
   exact ⟨this, L[j], by simp, by simpa using g2⟩
  obtain ⟨h3, x, h4, h5⟩ := h2
  cases e2 : atS L s.name with
  | none =>
   simp only [atS, List.findIdx?_eq_none_iff] at e2
   have := e2 x (List.mem_of_getElem? h4)
   simp [h5] at this
  | some i =>
   have : i ≤ j := by
    simp only [atS] at e2
    obtain ⟨_, _, g3⟩ := List.findIdx?_eq_some_iff_getElem.1 e2
    rcases Nat.lt_or_ge j i with h | h
    ·have := g3 j h
     obtain ⟨h6, rfl⟩ := List.getElem?_eq_some_iff.1 h4
     simp [h5] at this
    ·exact h
   simp [optI]; omega
end Sp
namespace Fw
open Sp
theorem All2.snoc2 {xs : List (Bs × Nd)} {L : List BSnap} {k : Nat} {s : BSnap} {x : Bs × Nd} (h : SnOK xs (L.take k)) (hs : L[k]? = some s) (h1 : x.1 = s.name) (h2 : Nd.TOK x.2 s.tree) (h3 : TreeValid s.tree = true) : SnOK (xs ++ [x]) (L.take (k + 1)) := by
 rw [take_succ' hs]
 exact h.snoc ⟨h1, h2, h3⟩
theorem names_step {xs : List (Bs × Nd)} {L : List BSnap} {k : Nat} {s : BSnap} (hw : ∀ (j : Nat) (s : BSnap), j < k → L[j]? = some s → l1Word s.name = true ∧ (j : Int) ≤ l12At L s.name) (hz : L[k]? = some s) (h1 : l1Word s.name = true) (hSn : SnOK xs (L.take k)) (h2 : optI (xs.findIdx? (fun x => decide (x.1 = s.name))) < 0) :
  ∀ (j : Nat) (s : BSnap), j < k + 1 → L[j]? = some s → l1Word s.name = true ∧ (j : Int) ≤ l12At L s.name := by
 intro j t hj ht
 rcases Nat.lt_or_ge j k with h | h
 ·exact hw j t h ht
 ·obtain rfl : j = k := by omega
  rw [ht] at hz; cases hz
  exact ⟨h1, (at_take ht).2 (by rw [← sn_find hSn]; exact h2)⟩
end Fw
namespace Fw
open Sp
theorem sn_ok {xs : List (Bs × Nd)} {L : List BSnap} (h : SnOK xs L) : ∀ t, t ∈ xs.map (·.2) → t.wf ∧ t.cnt ≤ 12 := by
 intro t ht
 obtain ⟨x, hx, rfl⟩ := List.mem_map.1 ht
 obtain ⟨s, _, hs⟩ := f2_mem_left h hx
 have := hs.2.1.cnt
 have := tree_len hs.2.2
 exact ⟨hs.2.1.wf, by omega⟩
end Fw
namespace Fw
open Go Sp
theorem take_no {d : BDisk} {n : Bs} (h : ¬ (l1Word n = true ∧ (atS d.snaps n).isNone = true ∧ d.snaps.length ≠ 6)) : SnapTake d n = none := by
 unfold SnapTake
 rw [if_neg]
 simp only [Bool.and_eq_true, decide_eq_true_eq]
 exact fun hh => h ⟨hh.1.1.2, hh.1.2, hh.2⟩
theorem take_eq {d : BDisk} {n : Bs} (hd : DiskValid d = true) (h1 : l1Word n = true) (h2 : (atS d.snaps n).isNone = true) (h3 : d.snaps.length ≠ 6) : SnapTake d n = (l12Keep d.store d.tree).map (fun s => ⟨s, d.tree, d.snaps ++ [⟨n, d.tree⟩]⟩) := by
 unfold SnapTake
 rw [if_pos]
 simp [hd, h1, h2, h3]
theorem optI_neg {o : Option Nat} : optI o < 0 ↔ o.isNone = true := by
 cases o <;> simp [optI]
theorem All2.push {xs : List (Bs × Nd)} {L : List BSnap} {x : Bs × Nd} {s : BSnap} (h : SnOK xs L) (h1 : x.1 = s.name) (h2 : Nd.TOK x.2 s.tree) (h3 : TreeValid s.tree = true) : SnOK (xs ++ [x]) (L ++ [s]) := h.snoc ⟨h1, h2, h3⟩
end Fw
namespace Fw
open Go Sp
theorem OHs.mk {e : TypeId} {F : Fr} {v : Value} {xs : List BHeld} (h : OwnS heldO 3 e F v xs) : OHs F v xs := ⟨e, h⟩
theorem sn_list {xs : List (Bs × Nd)} {L : List BSnap} (h : SnOK xs L) : xs.map (fun x => (⟨x.1, x.2.flat []⟩ : BSnap)) = L := by
 induction h with
 | nil => rfl
 | cons h t ih =>
  rw [List.map_cons, ih, h.2.1.flat, h.1]
end Fw
namespace Fw
theorem oh_nil : OHs [] (.slice none 0 0) [] := ⟨0, by simp, .inl ⟨rfl, rfl, rfl⟩⟩
theorem oi_nil : OIs [] (.slice none 0 0) [] := ⟨0, by simp, .inl ⟨rfl, rfl, rfl⟩⟩
theorem os_nil : OSn [] (.slice none 0 0) [] := ⟨0, by simp, .inl ⟨rfl, rfl, rfl⟩⟩
end Fw
namespace Fw
open Sp
theorem take_len {d d2 : BDisk} {n : Bs} (hd : DiskValid d = true) (h : SnapTake d n = some d2) : d2.snaps.length ≤ 6 := by
 have h6 := (dv_parts.1 hd).2.2.1
 unfold SnapTake at h
 split at h
 ·rename_i hc
  simp only [Bool.and_eq_true, decide_eq_true_eq] at hc
  obtain ⟨s, _, rfl⟩ := Option.map_eq_some_iff.1 h
  have := hc.2
  simp; omega
 ·cases h
end Fw
namespace Sp
theorem same_at {α : Type} {a b : List α} {k : Nat} {x y : α} (h : a = b) (hx : a[k]? = some x) (hy : b[k]? = some y) : x = y := by subst h; rw [hx] at hy; exact Option.some.inj hy
end Sp
namespace Sp
theorem take_set {α : Type} {xs a : List α} {k : Nat} {z : α} (h : xs.take k = a.take k) (hl : xs.length = a.length) (hz : a[k]? = some z) : (xs.set k z).take (k + 1) = a.take (k + 1) := by
 have hk := (List.getElem?_eq_some_iff.1 hz).1
 rw [take_succ' hz, ← h]
 apply List.ext_getElem?
 intro j
 rw [List.getElem?_take]
 rcases Nat.lt_trichotomy j k with h1 | h1 | h1
 ·rw [if_pos (by omega), List.getElem?_set_ne (by omega), List.getElem?_append_left (by simp; omega), List.getElem?_take, if_pos h1]
 ·subst h1
  rw [if_pos (by omega), List.getElem?_set_self (by omega), List.getElem?_append_right (by simp; omega)]
  simp [Nat.min_eq_left (by omega : j ≤ xs.length)]
 ·rw [if_neg (by omega), List.getElem?_eq_none (by simp; omega)]
end Sp
namespace Fw
open Go
theorem split_at {α : Type} : ∀ (Fs : List (List α)) (i : Nat) (Fi : List α), Fs[i]? = some Fi → Fs.flatten = (Fs.take i).flatten ++ (Fi ++ (Fs.drop (i + 1)).flatten)
 | [], i, _, h => by simp at h
 | x :: r, 0, Fi, h => by simp at h; subst h; simp
 | x :: r, i + 1, Fi, h => by
  simp only [List.getElem?_cons_succ] at h
  simp only [List.flatten_cons, List.take_succ_cons, List.drop_succ_cons, List.append_assoc]
  rw [split_at r i Fi h]
theorem set_flat {α : Type} (Fs : List (List α)) (i : Nat) (F' : List α) (hi : i < Fs.length) : (Fs.set i F').flatten = (Fs.take i).flatten ++ (F' ++ (Fs.drop (i + 1)).flatten) := by
 have h := split_at (Fs.set i F') i F' (by simp [hi])
 rw [h, List.take_set_of_le (Nat.le_refl _), List.drop_set_of_lt (by omega)]
theorem flat_get {α : Type} {sz : Nat} : ∀ (css : List (List α)) (i : Nat) (cs : List α), (∀ c ∈ css, c.length = sz) → css[i]? = some cs → ∀ j v, cs[j]? = some v → css.flatten[i * sz + j]? = some v
 | [], i, cs, _, h, j, v, hv => by simp at h
 | c :: r, 0, cs, hl, h, j, v, hv => by
  simp at h
  subst h
  rw [List.flatten_cons, Nat.zero_mul, Nat.zero_add, List.getElem?_append_left (List.getElem?_eq_some_iff.1 hv).1]
  exact hv
 | c :: r, i + 1, cs, hl, h, j, v, hv => by
  have hc := hl c (by simp)
  simp only [List.getElem?_cons_succ] at h
  rw [List.flatten_cons, List.getElem?_append_right (by rw [hc, Nat.add_mul]; omega), hc, Nat.add_mul, show i * sz + 1 * sz + j - sz = i * sz + j by omega]
  exact flat_get r i cs (fun d hd => hl d (by simp [hd])) h j v hv
section
variable {α : Type} {E : Fr → α → List Value → Prop} {sz : Nat}
theorem ChkF.focus {c : List Value} {xs : List α} {F : Fr} (h : ChkF E sz c xs F) {i : Nat} {x : α} (hx : xs[i]? = some x) :
  ∃ (cs : List Value) (F1 Fi F2 : Fr), F = F1 ++ (Fi ++ F2) ∧ cs.length = sz ∧ E Fi x cs ∧ (∀ j v, cs[j]? = some v → c[i * sz + j]? = some v) ∧
   (∀ (Fi' : Fr) (x' : α) (off : Nat) (vs : List Value), off + vs.length ≤ sz → E Fi' x' (setCs cs off vs) → ChkF E sz (setCs c (i * sz + off) vs) (xs.set i x') (F1 ++ (Fi' ++ F2))) ∧
   ∀ (Fi' : Fr) (x' : α), E Fi' x' cs → ChkF E sz c (xs.set i x') (F1 ++ (Fi' ++ F2)) := by
 obtain ⟨css, Fs, rfl, rfl, h3, h4, h5⟩ := h
 obtain ⟨cs, Fi, e1, e2, e3, e4⟩ := h5 i x hx
 have hsz := ChkF.szs h3 h5
 have hil : i < css.length := (List.getElem?_eq_some_iff.1 e1).1
 suffices key : ∀ (Fi' : Fr) (x' : α) (off : Nat) (vs : List Value), off + vs.length ≤ sz → E Fi' x' (setCs cs off vs) → ChkF E sz (setCs css.flatten (i * sz + off) vs) (xs.set i x') ((Fs.take i).flatten ++ (Fi' ++ (Fs.drop (i + 1)).flatten)) from
  ⟨cs, _, Fi, _, split_at Fs i Fi e2, e3, e4, flat_get css i cs hsz e1, key, fun Fi' x' hE => key Fi' x' 0 [] (by simp) hE⟩
 intro Fi' x' off vs ho hE
 refine ⟨css.set i (setCs cs off vs), Fs.set i Fi', setCs_flatten ho css i cs hsz e1, (set_flat Fs i Fi' (by omega)).symm, by simp [h3], by simp [h4], ?_⟩
 intro j y hy
 rw [List.getElem?_set] at hy
 rw [List.getElem?_set, List.getElem?_set]
 by_cases hij : i = j
 ·subst hij
  rw [if_pos rfl, if_pos (by omega)] at hy
  simp only [Option.some.injEq] at hy
  subst hy
  rw [if_pos rfl, if_pos hil, if_pos rfl, if_pos (by omega)]
  exact ⟨_, _, rfl, rfl, by rw [length_setCs]; exact e3, hE⟩
 ·rw [if_neg hij] at hy
  rw [if_neg hij, if_neg hij]
  exact h5 j y hy
theorem ChkF.rep {z : List Value} {x0 : α} (h : E [] x0 z) (hl : z.length = sz) (n : Nat) : ChkF E sz (Fw.rep n z) (List.replicate n x0) [] := by
 refine ⟨List.replicate n z, List.replicate n [], rep_flat z n, by simp, by simp, by simp, fun i x hx => ?_⟩
 have hi := (List.getElem?_eq_some_iff.1 hx).1
 simp only [List.length_replicate] at hi
 simp [hi] at hx
 subst hx
 exact ⟨z, [], by simp [hi], by simp [hi], hl, h⟩
variable {w0 w w' : World} {G0 G G' : PH} {S : List Nat} {B Bs : List Res}
end
section ops
variable {P : Program} {n : Nat} {ops : Array Oper} {Q : Post} {rest : List Oper} {L : Slots} {ds : List Deferred} {w w0 : World} {G0 : PH} {S : List Nat} {G : PH} {B : List Res}
variable {ty : TypeId} {ps : String} {af : Array Edge}
theorem o_bneq_same {d : Nat} {x y : Operand} {t u : TypeId} {p : Bool} (hT : P.underlying t = some .bool) (hd : Nat.blt d n = true) (hx : od L x = some (.bool p)) (hy : od L y = some (.bool p))
  (next : R P n ops Q rest ((d, .bool false) :: L) ds w) : R P n ops Q (⟨some d, .binOp .neq t x y u, ty, ps, af, none⟩ :: rest) L ds w :=
 o_bneq hT hd hx hy (by simpa using next)
end ops
section
variable {w0 w w' : World} {G0 G G' : PH} {S : List Nat} {B Bs : List Res}
theorem Hp.lendOHs (H : Hp w0 G0 S w G B) {ks : List Nat} {k : Nat} {F : Fr} {v : Value} {xs : List BHeld} (hk : nth B k = some (frag F)) (hm : ks.contains k = true) (h : OHs F v xs) : RdH (PPlus G w (fpsAt B ks)) v xs :=
 h.rd (fun b o hb => H.lendPredL hk hm b o hb) (dm_nodup H hk)
theorem Hp.lendOIs (H : Hp w0 G0 S w G B) {ks : List Nat} {k : Nat} {F : Fr} {v : Value} {xs : List BItem} (hk : nth B k = some (frag F)) (hm : ks.contains k = true) (h : OIs F v xs) : RdItems (PPlus G w (fpsAt B ks)) v xs :=
 h.rd (fun b o hb => H.lendPredL hk hm b o hb) (dm_nodup H hk)
theorem Hp.lendOSn (H : Hp w0 G0 S w G B) {ks : List Nat} {k : Nat} {F : Fr} {v : Value} {xs : List BSnap} (hk : nth B k = some (frag F)) (hm : ks.contains k = true) (h : OSn F v xs) : RdSn (PPlus G w (fpsAt B ks)) v xs :=
 h.rd (fun b o hb => H.lendPredL hk hm b o hb) (dm_nodup H hk)
theorem OSn.mk {e : TypeId} {F : Fr} {v : Value} {xs : List BSnap} (h : OwnS snapO 2 e F v xs) : OSn F v xs := ⟨_, h⟩
theorem OI.mk {e : TypeId} {F : Fr} {v : Value} {xs : List Int} (h : OwnS intO 1 e F v xs) : OI F v xs := ⟨_, h⟩
end
end Fw
namespace Fw
open Go
section
variable {α : Type}
def cnt (c : α → Nat) : List α → Nat
 | [] => 0
 | x :: r => c x + cnt c r
variable {f : Int → α → α} {c : α → Nat}
theorem cnt_append : ∀ (a b : List α), cnt c (a ++ b) = cnt c a + cnt c b
 | [], b => by simp [cnt]
 | x :: r, b => by simp [cnt, cnt_append r b]; omega
theorem take_succ {a : List α} {i : Nat} {x : α} (h : a[i]? = some x) : a.take (i + 1) = a.take i ++ [x] := by
 rw [List.take_add_one, h]; rfl
theorem cnt_succ {a : List α} {i : Nat} {x : α} (h : a[i]? = some x) : cnt c (a.take (i + 1)) = cnt c (a.take i) + c x := by
 rw [take_succ h, cnt_append]; simp [cnt]
theorem cnt_le {a : List α} {i : Nat} {x : α} (h : a[i]? = some x) : cnt c (a.take i) + c x ≤ cnt c a := by
 rw [← cnt_succ h]
 conv => rhs; rw [← List.take_append_drop (i + 1) a, cnt_append]
 omega
end
end Fw
namespace Fw
open Go
end Fw
namespace Sp
open Go Fw
theorem getH_mem {L : List BHeld} (nd : (L.map (·.id)).Nodup) {x : BHeld} (h : x ∈ L) : getH L x.id = x := by
 cases e : Sp.atH L x.id with
 | none => exact absurd (List.mem_map_of_mem h) (Fw.atH_none e)
 | some j =>
  obtain ⟨y, hy, hid⟩ := Fw.atH_some e
  rw [getH_some e hy]
  obtain ⟨i, hi⟩ := List.getElem?_of_mem h
  have h1 : (L.map (·.id))[i]? = some x.id := by simp [hi]
  have h2 : (L.map (·.id))[j]? = some x.id := by simp [hy, hid]
  obtain ⟨l1, e1⟩ := List.getElem?_eq_some_iff.1 h1
  obtain ⟨l2, e2⟩ := List.getElem?_eq_some_iff.1 h2
  have : i = j := by
   have hp := List.pairwise_iff_getElem.1 nd
   rcases Nat.lt_trichotomy i j with hlt | heq | hlt
   ·exact absurd (e1.trans e2.symm) (hp i j l1 l2 hlt)
   ·exact heq
   ·exact absurd (e2.trans e1.symm) (hp j i l2 l1 hlt)
  subst this
  rw [hi] at hy
  exact (Option.some.inj hy).symm
theorem at_mem {L : List BHeld} {a : Int} : (Sp.atH L a).isSome = true ↔ a ∈ L.map (·.id) := by
 constructor
 ·intro h
  obtain ⟨i, hi⟩ := Option.isSome_iff_exists.1 h
  obtain ⟨y, hy, rfl⟩ := Fw.atH_some hi
  exact List.mem_map_of_mem (List.mem_of_getElem? hy)
 ·intro h
  cases e : Sp.atH L a with
  | none => exact absurd h (Fw.atH_none e)
  | some i => rfl
theorem getH_not {L : List BHeld} {a : Int} (h : a ∉ L.map (·.id)) : getH L a = ⟨0, [], 0⟩ := by
 refine get_no ?_
 cases e : (Sp.atH L a).isSome with
 | false => rfl
 | true => exact absurd (at_mem.1 e) h
theorem getH_perm {L L' : List BHeld} (nd : (L.map (·.id)).Nodup) (hp : L.Perm L') (a : Int) : getH L' a = getH L a := by
 have hp2 : (L.map (·.id)).Perm (L'.map (·.id)) := hp.map _
 by_cases h : a ∈ L.map (·.id)
 ·obtain ⟨x, hx, rfl⟩ := List.mem_map.1 h
  rw [getH_mem nd hx, getH_mem (hp2.nodup_iff.1 nd) (hp.mem_iff.1 hx)]
 ·rw [getH_not h, getH_not (fun h' => h (hp2.mem_iff.2 h'))]
theorem getH_updH {L : List BHeld} (nd : (L.map (·.id)).Nodup) (y : BHeld) (a : Int) : getH (updH L y) a = if a = y.id then y else getH L a := by
 have hp := updH_perm nd y
 have hsub : ∀ x, x ∈ L.filter (fun x => decide (x.id ≠ y.id)) → x ∈ L ∧ x.id ≠ y.id := fun x hx => by simpa using List.mem_filter.1 hx
 have nd2 : ((y :: L.filter (fun x => decide (x.id ≠ y.id))).map (·.id)).Nodup := by
  rw [List.map_cons, List.nodup_cons]
  refine ⟨fun h => ?_, List.Nodup.sublist ((List.filter_sublist).map _) nd⟩
  obtain ⟨x, hx, e⟩ := List.mem_map.1 h
  exact (hsub x hx).2 e
 rw [getH_perm nd2 hp.symm]
 split
 ·next e => subst e; exact getH_mem nd2 (by simp)
 ·next e =>
  by_cases h : a ∈ L.map (·.id)
  ·obtain ⟨x, hx, rfl⟩ := List.mem_map.1 h
   rw [getH_mem nd hx]
   exact getH_mem nd2 (List.mem_cons_of_mem _ (List.mem_filter.2 ⟨hx, by simpa using e⟩))
  ·rw [getH_not h]
   refine getH_not (fun h' => ?_)
   simp only [List.map_cons, List.mem_cons] at h'
   rcases h' with h' | h'
   ·exact e h'
   ·obtain ⟨x, hx, rfl⟩ := List.mem_map.1 h'
    exact h (List.mem_map_of_mem (hsub x hx).1)
theorem getH_delH {L : List BHeld} (nd : (L.map (·.id)).Nodup) (id a : Int) : getH (delH L id) a = if a = id then ⟨0, [], 0⟩ else getH L a := by
 have hp := delH_perm nd id
 have hsub : ∀ x, x ∈ L.filter (fun x => decide (x.id ≠ id)) → x ∈ L ∧ x.id ≠ id := fun x hx => by simpa using List.mem_filter.1 hx
 have nd2 : ((L.filter (fun x => decide (x.id ≠ id))).map (·.id)).Nodup := List.Nodup.sublist ((List.filter_sublist).map _) nd
 rw [getH_perm nd2 hp.symm]
 split
 ·next e =>
  subst e
  refine getH_not (fun h' => ?_)
  obtain ⟨x, hx, e⟩ := List.mem_map.1 h'
  exact (hsub x hx).2 e
 ·next e =>
  by_cases h : a ∈ L.map (·.id)
  ·obtain ⟨x, hx, rfl⟩ := List.mem_map.1 h
   rw [getH_mem nd hx]
   exact getH_mem nd2 (List.mem_filter.2 ⟨hx, by simpa using e⟩)
  ·rw [getH_not h]
   refine getH_not (fun h' => ?_)
   obtain ⟨x, hx, rfl⟩ := List.mem_map.1 h'
   exact h (List.mem_map_of_mem (hsub x hx).1)
def us (L : List BHeld) (a : Int) : Int := (getH L a).uses
def by_ (L : List BHeld) (a : Int) : List Int := (getH L a).bytes
theorem us_nonneg {L : List BHeld} (hV : VH L) (a : Int) : 0 ≤ us L a := by
 unfold us
 cases h : (Sp.atH L a).isSome with
 | false => rw [get_no h]; simp
 | true => have := (get_ok hV h).2.2.1; omega
theorem us_pos {L : List BHeld} (hV : VH L) {a : Int} : 0 < us L a ↔ (Sp.atH L a).isSome = true := by
 unfold us
 cases h : (Sp.atH L a).isSome with
 | false => rw [get_no h]; simp
 | true => have := (get_ok hV h).2.2.1; simp; omega
theorem drop_step {L : List BHeld} (hV : VH L) {id : Int} (h : 0 < us L id) :
  ∃ L', StoreDrop L id = some L' ∧ VH L' ∧ ∀ a, us L' a = us L a - (if a = id then 1 else 0) ∧ (0 < us L' a → by_ L' a = by_ L a) := by
 have hs := (us_pos hV).1 h
 have hid := get_id hs
 by_cases hu : (getH L id).uses = 1
 ·obtain ⟨h1, h2⟩ := drop_get1 hV hs hu
  refine ⟨_, h1, h2, fun a => ?_⟩
  unfold us by_
  rw [getH_delH hV.nd]
  by_cases e : a = id
  ·subst e; simp [hu]
  ·simp [e]
 ·obtain ⟨h1, h2⟩ := drop_get2 hV hs hu
  refine ⟨_, h1, h2, fun a => ?_⟩
  unfold us by_
  rw [getH_updH hV.nd, ← hid]
  by_cases e : a = id
  ·subst e; simp
  ·simp [e]
theorem cnt1_cons (a x : Int) (r : List Int) : cnt1 a (x :: r) = (if a = x then 1 else 0) + cnt1 a r := by
 unfold cnt1
 rw [List.countP_cons]
 by_cases e : a = x
 ·subst e; simp; omega
 ·have : ¬ x = a := fun h => e h.symm
  simp [e, this]
theorem foldB_cons {α β : Type} {f : α → β → Option α} {b : β} {r : List β} {a a' : α} (h : f a b = some a') : foldB f (b :: r) (some a) = foldB f r (some a') := by
 simp [foldB, h]
theorem drops : ∀ (ids : List Int) {L : List BHeld}, VH L → (∀ a, (cnt1 a ids : Int) ≤ us L a) →
  ∃ L', foldB StoreDrop ids (some L) = some L' ∧ VH L' ∧ ∀ a, us L' a = us L a - (cnt1 a ids : Int) ∧ (0 < us L' a → by_ L' a = by_ L a)
 | [], L, hV, _ => ⟨L, rfl, hV, fun a => by simp [cnt1]⟩
 | x :: r, L, hV, h => by
  have hx := h x
  rw [cnt1_cons, if_pos rfl] at hx
  obtain ⟨L1, h1, h2, h3⟩ := drop_step hV (id := x) (by push_cast at hx; omega)
  obtain ⟨L2, g1, g2, g3⟩ := drops r h2 (fun a => by
   have h8 := h a
   rw [cnt1_cons] at h8
   have h4 := (h3 a).1
   by_cases e : a = x
   ·rw [if_pos e] at h8 h4; omega
   ·rw [if_neg e] at h8 h4; omega)
  refine ⟨L2, by rw [foldB_cons h1]; exact g1, g2, fun a => ?_⟩
  have h4 := h3 a
  have h5 := g3 a
  rw [cnt1_cons]
  refine ⟨?_, fun hp => ?_⟩
  ·have h8 := h4.1
   have h9 := h5.1
   by_cases e : a = x
   ·rw [if_pos e] at h8 ⊢; omega
   ·rw [if_neg e] at h8 ⊢; omega
  ·rw [h5.2 hp, h4.2 ?_]
   have := h5.1
   omega
theorem free_ok {L : List BHeld} (hV : VH L) {ids : List Int} (hl : l4Ids L ids = true) (h : ∀ a, (cnt1 a ids : Int) ≤ us L a) :
  ∃ L', FileFree L ids = some L' ∧ VH L' ∧ ∀ a, us L' a = us L a - (cnt1 a ids : Int) ∧ (0 < us L' a → by_ L' a = by_ L a) := by
 obtain ⟨L', h1, h2⟩ := drops ids hV h
 exact ⟨L', by simp [FileFree, valid_iff.2 hV, hl, h1], h2⟩
theorem keep_step {L : List BHeld} (hV : VH L) {id : Int} {L' : List BHeld} (h : StoreKeep L id = some L') : VH L' ∧ 0 < us L id ∧ ∀ a, us L' a = us L a + (if a = id then 1 else 0) ∧ by_ L' a = by_ L a := by
 have hs : (Sp.atH L id).isSome = true := by
  cases e : (Sp.atH L id).isSome with
  | true => rfl
  | false => rw [keep_no hV (.inl e)] at h; cases h
 have hu : (getH L id).uses < 999 := by
  by_cases h1 : (getH L id).uses < 999
  ·exact h1
  ·rw [keep_no hV (.inr (by omega))] at h; cases h
 obtain ⟨h1, h2⟩ := keep_get hV hs hu
 rw [h1] at h
 cases h
 have hid := get_id hs
 refine ⟨h2, (us_pos hV).2 hs, fun a => ?_⟩
 unfold us by_
 rw [getH_updH hV.nd, ← hid]
 by_cases e : a = id
 ·subst e; simp
 ·simp [e]
theorem put_step {L : List BHeld} (hV : VH L) {b : List Int} (hb : BlockValid b = true) {L' : List BHeld} {id : Int} (h : StorePut L b = some (L', id)) :
  VH L' ∧ (∀ a, us L' a = us L a + (if a = id then 1 else 0) ∧ (0 < us L a → by_ L' a = by_ L a)) ∧ by_ L' id = b := by
 cases e : like L b with
 | none =>
  by_cases hl : L.length < 16
  ·rw [put_new hV hb e hl] at h
   simp only [Option.some.injEq, Prod.mk.injEq] at h
   obtain ⟨rfl, rfl⟩ := h
   have hw := with_valid hV hb e hl
   have hf := (free_lt L).1
   obtain ⟨k, hk⟩ : ∃ k, freeId L = k + 1 := ⟨freeId L - 1, by omega⟩
   have hp := put_perm (L := L) b hk
   have hfi : (freeId L : Int) = (k : Int) + 1 := by omega
   have hg : ∀ a, getH (l3With L b) a = if a = (freeId L : Int) then ⟨(k : Int) + 1, b, 1⟩ else getH L a := fun a => by
    have hnd : ((updH L ⟨(k : Int) + 1, b, 1⟩).map (·.id)).Nodup := (hp.map (·.id)).nodup_iff.2 hw.nd
    rw [getH_perm hnd hp, getH_updH hV.nd, hfi]
   have h0 : getH L (freeId L : Int) = ⟨0, [], 0⟩ := getH_none (free_none L)
   refine ⟨hw, fun a => ?_, ?_⟩
   ·unfold us by_
    rw [hg]
    by_cases ea : a = (freeId L : Int)
    ·subst ea; simp [h0]
    ·simp [ea]
   ·unfold by_
    rw [hg, if_pos rfl]
  ·rw [put_full e (by omega)] at h; cases h
 | some i =>
  obtain ⟨hi, hp, _⟩ := List.findIdx?_eq_some_iff_getElem.1 e
  have hx : L[i]? = some L[i] := List.getElem?_eq_getElem hi
  rw [put_old hV hb e hx] at h
  obtain ⟨l, h1, h2⟩ := Option.map_eq_some_iff.1 h
  simp only [Prod.mk.injEq] at h2
  obtain ⟨rfl, rfl⟩ := h2
  obtain ⟨k1, k2, k3⟩ := keep_step hV h1
  refine ⟨k1, fun a => ⟨(k3 a).1, fun _ => (k3 a).2⟩, ?_⟩
  rw [(k3 _).2]
  unfold by_
  rw [getH_mem hV.nd (List.getElem_mem hi)]
  simpa [l2Same] using hp
end Sp
namespace Sp
open Go Fw
theorem puts : ∀ (bs : List (List Int)) {L : List BHeld} {acc : List Int} {s : List BHeld} {ids : List Int}, VH L → (∀ b, b ∈ bs → BlockValid b = true) → foldB put1 bs (some (L, acc)) = some (s, ids) →
  VH s ∧ ∃ new, ids = acc ++ new ∧ new.length = bs.length ∧ (∀ a, us s a = us L a + (cnt1 a new : Int) ∧ (0 < us L a → by_ s a = by_ L a)) ∧ ∀ (i : Nat) (id : Int), new[i]? = some id → some (by_ s id) = bs[i]?
 | [], L, acc, s, ids, hV, _, h => by
  simp only [foldB, List.foldl_nil, Option.some.injEq, Prod.mk.injEq] at h
  obtain ⟨rfl, rfl⟩ := h
  exact ⟨hV, [], by simp, rfl, fun a => by simp [cnt1], by simp⟩
 | b :: r, L, acc, s, ids, hV, hb, h => by
  cases e : StorePut L b with
  | none =>
   have : foldB put1 (b :: r) (some (L, acc)) = foldB put1 r none := by simp [foldB, put1, e]
   rw [this, foldB_none] at h
   cases h
  | some q =>
   obtain ⟨L1, id⟩ := q
   rw [foldB_cons (a' := (L1, acc ++ [id])) (by simp [put1, e])] at h
   obtain ⟨k1, k2, k3⟩ := put_step hV (hb b (by simp)) e
   obtain ⟨g1, new, g2, g3, g4, g5⟩ := puts r k1 (fun c hc => hb c (by simp [hc])) h
   refine ⟨g1, id :: new, by rw [g2]; simp, by simp [g3], fun a => ?_, fun i z hz => ?_⟩
   ·rw [cnt1_cons]
    have h8 := (k2 a).1
    have h9 := (g4 a).1
    have hn := us_nonneg hV a
    refine ⟨?_, fun hp => ?_⟩
    ·by_cases ea : a = id
     ·rw [if_pos ea] at h8 ⊢; omega
     ·rw [if_neg ea] at h8 ⊢; omega
    ·have h7 : us L a ≤ us L1 a := by
      by_cases ea : a = id
      ·rw [if_pos ea] at h8; omega
      ·rw [if_neg ea] at h8; omega
     rw [(g4 a).2 (by omega), (k2 a).2 hp]
   ·cases i with
    | zero =>
     simp only [List.getElem?_cons_zero, Option.some.injEq] at hz
     subst hz
     have h8 := (k2 id).1
     rw [if_pos rfl] at h8
     have hn := us_nonneg hV id
     rw [(g4 id).2 (by omega), k3]
     rfl
    | succ i =>
     simp only [List.getElem?_cons_succ] at hz ⊢
     exact g5 i z hz
theorem chunks_valid {b : List Int} (h : FileValid b = true) : ∀ c, c ∈ l4Cut b → BlockValid c = true := by
 intro c hc
 unfold l4Cut at hc
 obtain ⟨k, hk, rfl⟩ := List.mem_map.1 hc
 refine chunk_valid h ?_
 rw [chunk_len]
 have := List.mem_range.1 hk
 omega
theorem store_ok {L : List BHeld} (hV : VH L) {b : List Int} {s : List BHeld} {ids : List Int} (h : FileStore L b = some (s, ids)) :
  VH s ∧ ids.length = (l4Cut b).length ∧ (∀ a, us s a = us L a + (cnt1 a ids : Int) ∧ (0 < us L a → by_ s a = by_ L a)) ∧ ∀ (i : Nat) (id : Int), ids[i]? = some id → some (by_ s id) = (l4Cut b)[i]? := by
 unfold FileStore at h
 split at h
 ·rename_i hc
  simp only [Bool.and_eq_true] at hc
  obtain ⟨g1, new, g2, g3, g4, g5⟩ := puts (l4Cut b) hV (chunks_valid hc.2) h
  rw [List.nil_append] at g2
  subst g2
  exact ⟨g1, g3, g4, g5⟩
 ·cases h
theorem ids_stay {L s : List BHeld} (hV : VH L) (hs : VH s) (h : ∀ a, 0 < us L a → 0 < us s a ∧ by_ s a = by_ L a) {ids : List Int} (hl : l4Ids L ids = true) : l4Ids s ids = true := by
 refine ids_true (fun j hj => ?_) (ids_le hl)
 have hz : ids[j]? = some ids[j] := List.getElem?_eq_getElem hj
 have h1 : idsOk L ids j = true := by
  simp only [l4Ids, Bool.and_eq_true] at hl
  exact List.all_eq_true.1 hl.1 j (by simpa using hj)
 have hp : (Sp.atH L ids[j]).isSome = true := by
  cases e : (Sp.atH L ids[j]).isSome with
  | true => rfl
  | false => rw [idsOk_no hz e] at h1; cases h1
 have h2 := h _ ((us_pos hV).2 hp)
 rw [idsOk_get hz ((us_pos hs).1 h2.1)]
 rw [idsOk_get hz hp] at h1
 have h3 : (getH s ids[j]).bytes = (getH L ids[j]).bytes := h2.2
 rw [h3]
 exact h1
theorem ids_in {L : List BHeld} (hV : VH L) {ids : List Int} (hl : l4Ids L ids = true) {a : Int} (ha : a ∈ ids) : 0 < us L a := by
 obtain ⟨j, hz⟩ := List.getElem?_of_mem ha
 have hj := (List.getElem?_eq_some_iff.1 hz).1
 have h1 : idsOk L ids j = true := by
  simp only [l4Ids, Bool.and_eq_true] at hl
  exact List.all_eq_true.1 hl.1 j (by simpa using hj)
 refine (us_pos hV).2 ?_
 cases e : (Sp.atH L a).isSome with
 | true => rfl
 | false => rw [idsOk_no hz e] at h1; cases h1
theorem cnt1_pos {a : Int} {ids : List Int} : 0 < cnt1 a ids ↔ a ∈ ids := by
 unfold cnt1
 rw [List.countP_pos_iff]
 constructor
 ·rintro ⟨x, hx, e⟩
  have : x = a := by simpa using e
  exact this ▸ hx
 ·intro h
  exact ⟨a, h, by simp⟩
end Sp
namespace Sp
open Go Fw Fw.Nd
def cntL (l : List BItem) (a : Int) : Nat := (l.map (fun x => cnt1 a x.ids)).sum
theorem l11Count_eq (l : List BItem) (a : Int) : l11Count l a = cntL l a := by simp [l11Count, cntU, cntL]
theorem cntL_mem {l : List BItem} {x : BItem} (hx : x ∈ l) (a : Int) : cnt1 a x.ids ≤ cntL l a := by
 induction l with
 | nil => simp at hx
 | cons y r ih =>
  simp only [cntL, List.map_cons, List.sum_cons] at *
  rcases List.mem_cons.1 hx with rfl | hx
  ·omega
  ·have := ih hx; omega
theorem cntL_perm {l m : List BItem} (h : l.Perm m) (a : Int) : cntL l a = cntL m a := (h.map _).sum_nat
theorem cntL_cons (x : BItem) (l : List BItem) (a : Int) : cntL (x :: l) a = cnt1 a x.ids + cntL l a := by simp [cntL]
theorem cntL_zero {l : List BItem} {a : Int} (h : ∀ x, x ∈ l → a ∉ x.ids) : cntL l a = 0 := by
 induction l with
 | nil => rfl
 | cons y r ih =>
  rw [cntL_cons, ih (fun x hx => h x (by simp [hx]))]
  have := h y (by simp)
  rw [← cnt1_pos] at this
  omega
theorem vv_iff {u : BVol} : VolumeValid u = true ↔ VH u.store ∧ VT u.tree ∧ (∀ x, x ∈ u.tree → l4Ids u.store x.ids = true) ∧ ∀ a, us u.store a = (cntL u.tree a : Int) := by
 simp only [VolumeValid, Bool.and_eq_true, valid_iff, tvalid_iff]
 constructor
 ·rintro ⟨h1, ⟨h2, h3⟩, h4⟩
  have h4 : ∀ x, x ∈ u.tree → l4Ids u.store x.ids = true := fun x hx => List.all_eq_true.1 h4 x hx
  refine ⟨h2, h3, h4, fun a => ?_⟩
  by_cases ha : a ∈ u.store.map (·.id)
  ·obtain ⟨h, hh, rfl⟩ := List.mem_map.1 ha
   have := List.all_eq_true.1 h1 h hh
   simp only [usesOk, decide_eq_true_eq, l11Count_eq] at this
   rw [this, us, getH_mem h2.nd hh]
  ·rw [us, getH_not ha, cntL_zero]
   ·rfl
   ·intro x hx hax
    have := ids_in h2 (h4 x hx) hax
    rw [us, getH_not ha] at this
    exact absurd this (by simp)
 ·rintro ⟨h1, h2, h3, h4⟩
  refine ⟨List.all_eq_true.2 fun h hh => ?_, ⟨h1, h2⟩, List.all_eq_true.2 h3⟩
  simp only [usesOk, decide_eq_true_eq, l11Count_eq]
  rw [← h4, us, getH_mem h1.nd hh]
theorem vv_use {u : BVol} {T : Nd} (hS : StoreValid u.store = true) (hTv : TreeValid u.tree = true) (hT : TOK T u.tree) : VolumeValid u = useOK u.store [T] := by
 have h1 : ∀ a, cntT [T] a = l11Count u.tree a := fun a => by simp [cntT, hT.flat]
 simp only [VolumeValid, useOK, List.all_cons, List.all_nil, Bool.and_true, hS, hTv, hT.flat, Bool.true_and, h1]
 rw [Bool.and_comm]
 rfl
theorem item_file {p : Bs} {ids : List Int} (hp : PathValid p = true) (hl : ids.length ≤ 4) (h : ids.all (idOk false) = true) : l5Item ⟨p, false, ids⟩ = true := by
 simp [l5Item, hp, hl, h]
theorem nodup_paths {l : List BItem} (h : l.Pairwise ltp) : l.Nodup := by
 refine List.Pairwise.imp ?_ h
 intro a b hab e
 subst e
 exact absurd hab (by simp [ltp, lt_irrefl])
theorem put_perm2 {l t : List BItem} {x : BItem} (h : TreePut l x = some t) : VT l ∧ VT t ∧ l5Item x = true ∧ t.Perm (x :: l.filter (fun y => decide (y.path ≠ x.path))) := by
 unfold TreePut at h
 split at h
 ·rename_i hc
  simp only [Bool.and_eq_true] at hc
  have hv := tvalid_iff.1 hc.1
  simp at h
  obtain ⟨_, hp, rfl⟩ := h
  have hp := tvalid_iff.1 hp
  refine ⟨hv, hp, hc.2, ?_⟩
  have n1 := nodup_paths hp.asc
  have n2 : (x :: l.filter (fun y => decide (y.path ≠ x.path))).Nodup := by
   rw [List.nodup_cons]
   exact ⟨fun hm => by simpa using (List.mem_filter.1 hm).2, (nodup_paths hv.asc).sublist List.filter_sublist⟩
  rw [List.perm_ext_iff_of_nodup n1 n2]
  intro a
  rw [put_mem, List.mem_cons, List.mem_filter]
  simp
 ·cases h
theorem filter_none {l : List BItem} {p : Bs} (h : ∀ y, y ∈ l → y.path ≠ p) : l.filter (fun y => decide (y.path ≠ p)) = l := by
 rw [List.filter_eq_self]
 intro y hy
 simpa using h y hy
theorem filter_one {l : List BItem} (hs : l.Pairwise ltp) {x : BItem} (hx : x ∈ l) : l.Perm (x :: l.filter (fun y => decide (y.path ≠ x.path))) := by
 have n1 := nodup_paths hs
 have n2 : (x :: l.filter (fun y => decide (y.path ≠ x.path))).Nodup := by
  rw [List.nodup_cons]
  exact ⟨fun hm => by simpa using (List.mem_filter.1 hm).2, n1.sublist List.filter_sublist⟩
 rw [List.perm_ext_iff_of_nodup n1 n2]
 intro a
 rw [List.mem_cons, List.mem_filter]
 constructor
 ·intro ha
  by_cases e : a.path = x.path
  ·left
   obtain ⟨i, h1, h2⟩ := (uniq_at hs (p := x.path)).2.1 _ ha e
   obtain ⟨j, h3, h4⟩ := (uniq_at hs (p := x.path)).2.1 _ hx rfl
   rw [h1] at h3
   cases h3
   rw [h2] at h4
   exact Option.some.inj h4
  ·exact .inr ⟨ha, by simpa using e⟩
 ·rintro (rfl | ⟨h, _⟩)
  ·exact hx
  ·exact h
theorem ids_of_l11 {l : List BItem} (hs : l.Pairwise ltp) (p : Bs) : (l11Ids l p = [] ∧ ∀ y, y ∈ l → y.path = p → y.dir = true) ∨ ∃ x, x ∈ l ∧ x.path = p ∧ x.dir = false ∧ l11Ids l p = [x] := by
 unfold l11Ids
 cases e : atI l p with
 | none =>
  left
  refine ⟨rfl, fun y hy hp => ?_⟩
  obtain ⟨i, h1, _⟩ := (uniq_at hs (p := p)).2.1 _ hy hp
  rw [e] at h1; cases h1
 | some i =>
  obtain ⟨y, h1, h2⟩ := (uniq_at hs (p := p)).1 i e
  simp only [h1]
  cases hd : y.dir with
  | true =>
   left
   refine ⟨by simp, fun z hz hp => ?_⟩
   obtain ⟨j, g1, g2⟩ := (uniq_at hs (p := p)).2.1 _ hz hp
   rw [e] at g1
   cases g1
   rw [h1] at g2
   cases g2
   exact hd
  | false => exact .inr ⟨y, List.mem_of_getElem? h1, h2, hd, by simp⟩
theorem put_dir_no {l : List BItem} (hs : l.Pairwise ltp) {x y : BItem} (hy : y ∈ l) (hp : y.path = x.path) (hd : (y.dir || x.dir) = true) : TreePut l x = none := by
 obtain ⟨i, h1, h2⟩ := (uniq_at hs (p := x.path)).2.1 _ hy hp
 simp [TreePut, h1, h2, hd]
structure Hol (L : List BHeld) (t : List BItem) : Prop where
 vh : VH L
 vt : VT t
 ids : ∀ x, x ∈ t → l4Ids L x.ids = true
 le : ∀ a, (cntL t a : Int) ≤ us L a
theorem Hol.of_vol {u : BVol} (h : VolumeValid u = true) : Hol u.store u.tree := by
 obtain ⟨h1, h2, h3, h4⟩ := vv_iff.1 h
 exact ⟨h1, h2, h3, fun a => by rw [h4]; exact Int.le_refl _⟩
theorem Hol.vol {L : List BHeld} {t : List BItem} (h : Hol L t) (he : ∀ a, us L a = (cntL t a : Int)) : VolumeValid ⟨L, t⟩ = true := vv_iff.2 ⟨h.vh, h.vt, h.ids, he⟩
theorem ids_keep {s s' : List BHeld} (hs : VH s) (hs' : VH s') {ids : List Int} (h : ∀ a, a ∈ ids → 0 < us s' a ∧ by_ s' a = by_ s a) (hl : l4Ids s ids = true) : l4Ids s' ids = true := by
 refine ids_true (fun j hj => ?_) (ids_le hl)
 have hz : ids[j]? = some ids[j] := List.getElem?_eq_getElem hj
 have h1 : idsOk s ids j = true := by
  simp only [l4Ids, Bool.and_eq_true] at hl
  exact List.all_eq_true.1 hl.1 j (by simpa using hj)
 have hp : (Sp.atH s ids[j]).isSome = true := by
  cases e : (Sp.atH s ids[j]).isSome with
  | true => rfl
  | false => rw [idsOk_no hz e] at h1; cases h1
 have h2 := h ids[j] (List.getElem_mem hj)
 rw [idsOk_get hz ((us_pos hs').1 h2.1)]
 rw [idsOk_get hz hp] at h1
 have h3 : (getH s' ids[j]).bytes = (getH s ids[j]).bytes := h2.2
 rw [h3]
 exact h1
theorem stored_ids {L s : List BHeld} (hV : VH L) {b : List Int} {ids : List Int} (hst : FileStore L b = some (s, ids)) : l4Ids s ids = true := by
 obtain ⟨hs, hlen, hsu, hsb⟩ := store_ok hV hst
 refine ids_true (fun j hj => ?_) ?_
 ·have hz : ids[j]? = some ids[j] := List.getElem?_eq_getElem hj
  have hp : 0 < us s ids[j] := by
   have := (hsu ids[j]).1
   have := us_nonneg hV ids[j]
   have := cnt1_pos.2 (List.getElem_mem hj)
   omega
  rw [idsOk_get hz ((us_pos hs).1 hp)]
  have h5 := hsb j _ hz
  have h6 : (l4Cut b)[j]? = some (chunk b j) := by
   have hj' : j < (l4Cut b).length := by omega
   unfold l4Cut at hj' ⊢
   simp at hj'
   simp [hj']
  rw [h6] at h5
  have h7 : (getH s ids[j]).bytes = chunk b j := Option.some.inj h5
  rw [h7, chunk_len]
  have h8 : ids.length = (b.length + 7) / 8 := by rw [hlen]; simp [l4Cut]
  by_cases hlt : j + 1 < ids.length
  ·have : ¬ (min (8 * j + 8) b.length - 8 * j < 8) := by omega
   simp [this]
  ·simp [hlt]
 ·have : (l4Cut b).length ≤ 4 := by
   unfold FileStore at hst
   split at hst
   ·rename_i hc
    simp only [Bool.and_eq_true] at hc
    have := file_len hc.2
    simp [l4Cut]
    omega
   ·cases hst
  omega
theorem write_ok {L : List BHeld} {l : List BItem} (hu : Hol L l) {p : Bs} {b : List Int} {s : List BHeld} {ids : List Int} (hst : FileStore L b = some (s, ids)) {t : List BItem} (hpt : TreePut l ⟨p, false, ids⟩ = some t) :
  ∃ s', (∀ o, l11Ids l p = [o] → FileFree s o.ids = some s') ∧ (l11Ids l p = [] → s' = s) ∧ l11Write ⟨L, l⟩ p b = some ⟨s', t⟩ ∧ Hol s' t ∧
   ∀ a, us s' a = us L a + (cntL t a : Int) - (cntL l a : Int) ∧ (0 < us s' a → by_ s' a = by_ s a) := by
 obtain ⟨hs, hlen, hsu, hsb⟩ := store_ok hu.vh hst
 obtain ⟨_, ht, hx, hperm⟩ := put_perm2 hpt
 have hstay : ∀ a, 0 < us L a → 0 < us s a ∧ by_ s a = by_ L a := fun a ha => by
  have := hsu a
  exact ⟨by omega, this.2 ha⟩
 have hids := stored_ids hu.vh hst
 have hold : ∀ x, x ∈ t → l4Ids s x.ids = true := fun x hxt => by
  rcases List.mem_cons.1 (hperm.mem_iff.1 hxt) with rfl | hm
  ·exact hids
  ·exact ids_stay hu.vh hs hstay (hu.ids x (List.mem_filter.1 hm).1)
 have hall : ∀ s', VH s' → (∀ a, 0 < cntL t a → 0 < us s' a ∧ by_ s' a = by_ s a) → ∀ x, x ∈ t → l4Ids s' x.ids = true := fun s' hs' hk x hxt =>
  ids_keep hs hs' (fun a ha => hk a (Nat.lt_of_lt_of_le (cnt1_pos.2 ha) (cntL_mem hxt a))) (hold x hxt)
 have hcount : ∀ a, cntL t a = cnt1 a ids + cntL (l.filter (fun y => decide (y.path ≠ p))) a := fun a => by rw [cntL_perm hperm, cntL_cons]
 rcases ids_of_l11 hu.vt.asc p with ⟨h0, hno⟩ | ⟨o, ho, hop, hod, h1⟩
 ·have hne : ∀ y, y ∈ l → y.path ≠ p := fun y hy hp => by
   have := put_dir_no hu.vt.asc (x := ⟨p, false, ids⟩) hy hp (by simp [hno y hy hp])
   rw [this] at hpt; cases hpt
  have hc2 : ∀ a, us s a = us L a + (cntL t a : Int) - (cntL l a : Int) := fun a => by
   rw [hcount, filter_none hne, (hsu a).1]
   omega
  have hle2 : ∀ a, (cntL t a : Int) ≤ us s a := fun a => by have := hc2 a; have := hu.le a; omega
  refine ⟨s, fun o ho => (by rw [h0] at ho; cases ho), fun _ => rfl, ?_, ⟨hs, ht, hall s hs (fun a ha => ⟨by have := hle2 a; omega, rfl⟩), hle2⟩, fun a => ⟨hc2 a, fun _ => rfl⟩⟩
  simp [l11Write, hst, hpt, h0, freeOld]
 ·have hfo := filter_one hu.vt.asc ho
  rw [hop] at hfo
  have hco : ∀ a, cntL l a = cnt1 a o.ids + cntL (l.filter (fun y => decide (y.path ≠ p))) a := fun a => by rw [cntL_perm hfo, cntL_cons]
  have hle : ∀ a, (cnt1 a o.ids : Int) ≤ us s a := fun a => by
   have := (hsu a).1
   have := hu.le a
   have := hco a
   omega
  obtain ⟨s', g1, g2, g3⟩ := free_ok hs (ids_stay hu.vh hs hstay (hu.ids o ho)) hle
  have hc2 : ∀ a, us s' a = us L a + (cntL t a : Int) - (cntL l a : Int) := fun a => by
   have := (hsu a).1
   have := hco a
   have := (g3 a).1
   have := hcount a
   omega
  have hle2 : ∀ a, (cntL t a : Int) ≤ us s' a := fun a => by have := hc2 a; have := hu.le a; omega
  refine ⟨s', fun o' ho' => (by rw [h1] at ho'; cases ho'; exact g1), fun h => (by rw [h1] at h; cases h), ?_, ⟨g2, ht, hall s' g2 (fun a ha => by
    have h5 := hle2 a
    exact ⟨by omega, (g3 a).2 (by omega)⟩), hle2⟩, fun a => ⟨hc2 a, (g3 a).2⟩⟩
  simp [l11Write, hst, hpt, h1, freeOld, g1]
theorem write_valid {u : BVol} (hu : VolumeValid u = true) {p : Bs} {b : List Int} {u' : BVol} (h : l11Write u p b = some u') : VolumeValid u' = true := by
 cases e : FileStore u.store b with
 | none => simp [l11Write, e] at h
 | some r =>
  cases e2 : TreePut u.tree ⟨p, false, r.2⟩ with
  | none => simp [l11Write, e, e2] at h
  | some t =>
   obtain ⟨s', _, _, h3, h4, h5⟩ := write_ok (Hol.of_vol hu) (s := r.1) (ids := r.2) e e2
   rw [h3] at h
   cases h
   refine h4.vol (fun a => ?_)
   have := (h5 a).1
   have := (vv_iff.1 hu).2.2.2 a
   omega
theorem vv_no {u : BVol} (h : (StoreValid u.store && TreeValid u.tree) = false) : VolumeValid u = false := by
 simp only [VolumeValid]
 cases e : u.store.all (usesOk u.tree) <;> simp_all
theorem stored_item {L s : List BHeld} (hV : VH L) {p : Bs} (hp : PathValid p = true) {b : List Int} {ids : List Int} (hst : FileStore L b = some (s, ids)) : l5Item ⟨p, false, ids⟩ = true := by
 have h4 := stored_ids hV hst
 obtain ⟨hs, _⟩ := store_ok hV hst
 refine item_file hp (ids_le h4) (List.all_eq_true.2 fun a ha => ?_)
 have := (get_ok hs ((us_pos hs).1 (ids_in hs h4 ha))).1
 simp [idOk, l6In]
 omega
theorem free_nil {s : List BHeld} (h : VH s) : FileFree s [] = some s := by
 have : l4Ids s [] = true := ids_true (by simp) (by simp)
 simp [FileFree, valid_iff.2 h, this, foldB]
theorem write_fin {L : List BHeld} {l : List BItem} {T : Nd} {p : Bs} {b : List Int} {s : List BHeld} {ids : List Int} {nb : Nat} {T' : Nd} (hH : Hol L l) (hT : TOK T l) (hp : PathValid p = true) (hst : FileStore L b = some (s, ids))
  (hput : T.putN ⟨p, false, ids⟩ nb = some T') {fr : List Int} (hfr : (T.find p = none ∧ fr = []) ∨ ∃ d, T.find p = some d ∧ fr = d.ids) :
  ∃ s' t, FileFree s fr = some s' ∧ l11Write ⟨L, l⟩ p b = some ⟨s', t⟩ ∧ TOK T' t ∧ Hol s' t := by
 have hx := stored_item hH.vh hp hst
 obtain ⟨h1, h2⟩ := put_eq nb hT hx
 rw [hput] at h1
 obtain ⟨t, ht⟩ := Option.isSome_iff_exists.1 h1.symm
 have hT' := h2 T' hput
 rw [ht] at hT'
 obtain ⟨s', g1, g2, g3, g4, _⟩ := write_ok hH hst ht
 refine ⟨s', t, ?_, g3, hT', g4⟩
 have hs := (store_ok hH.vh hst).1
 have hfl := find_list hT p
 rcases hfr with ⟨hn, rfl⟩ | ⟨d, hd, rfl⟩
 ·rw [hn] at hfl
  have : l11Ids l p = [] := by
   unfold l11Ids
   cases e : atI l p with
   | none => rfl
   | some i =>
    rw [e] at hfl
    simp only [Option.map_none, Option.bind_some] at hfl
    simp only [← hfl]
  rw [g2 this]
  exact free_nil hs
 ·rw [hd] at hfl
  cases e : atI l p with
  | none => rw [e] at hfl; simp at hfl
  | some i =>
   rw [e] at hfl
   simp only [Option.map_some, Option.bind_some] at hfl
   have hl : l11Ids l p = if d.dir then [] else [⟨p, d.dir, d.ids⟩] := by
    unfold l11Ids
    simp only [e, ← hfl]
   cases hdd : d.dir with
   | true =>
    have := put_dir_no hH.vt.asc (x := ⟨p, false, ids⟩) (List.mem_of_getElem? hfl.symm) rfl (by simp [hdd])
    rw [this] at ht; cases ht
   | false =>
    rw [hdd] at hl
    exact g1 _ hl
theorem write_nop {L : List BHeld} {l : List BItem} {p : Bs} {b : List Int} (hp : PathValid p = false) : l11Write ⟨L, l⟩ p b = none := by
 unfold l11Write
 cases FileStore L b with
 | none => rfl
 | some r =>
  have : TreePut l ⟨p, false, r.2⟩ = none := by simp [TreePut, l5Item, hp]
  simp [this]
theorem write_no2 {L : List BHeld} {l : List BItem} {T : Nd} {p : Bs} {b : List Int} {s : List BHeld} {ids : List Int} {nb : Nat} (hH : Hol L l) (hT : TOK T l) (hp : PathValid p = true) (hst : FileStore L b = some (s, ids))
  (hput : (T.putN ⟨p, false, ids⟩ nb).isSome = false) : l11Write ⟨L, l⟩ p b = none := by
 have h1 := (put_eq nb hT (stored_item hH.vh hp hst)).1
 rw [hput] at h1
 have : TreePut l ⟨p, false, ids⟩ = none := by simpa using h1.symm
 simp [l11Write, hst, this]
end Sp
namespace Sp
open Go Fw Fw.Nd
theorem dir_ok {L : List BHeld} {l : List BItem} (hu : Hol L l) {p : Bs} {t : List BItem} (hpt : TreePut l ⟨p, true, []⟩ = some t) : Hol L t ∧ ∀ a, cntL t a = cntL l a := by
 obtain ⟨_, ht, hx, hperm⟩ := put_perm2 hpt
 have hne : ∀ y, y ∈ l → y.path ≠ p := fun y hy hp => by
  have := put_dir_no hu.vt.asc (x := ⟨p, true, []⟩) hy hp (by simp)
  rw [this] at hpt; cases hpt
 have hp2 : t.Perm (⟨p, true, []⟩ :: l) := by
  have h := hperm
  rw [filter_none hne] at h
  exact h
 have hc : ∀ a, cntL t a = cntL l a := fun a => by rw [cntL_perm hp2, cntL_cons]; simp [cnt1]
 refine ⟨⟨hu.vh, ht, fun x hx => ?_, fun a => by rw [hc]; exact hu.le a⟩, hc⟩
 rcases List.mem_cons.1 (hp2.mem_iff.1 hx) with rfl | h
 ·exact ids_true (by simp) (by simp)
 ·exact hu.ids x h
theorem dir_valid {u u' : BVol} {p : Bs} (h : VolumeDir u p = some u') : VolumeValid u' = true := by
 unfold VolumeDir at h
 split at h
 ·rename_i hv
  obtain ⟨t, ht, rfl⟩ := Option.map_eq_some_iff.1 h
  obtain ⟨h1, h2⟩ := dir_ok (Hol.of_vol hv) ht
  refine h1.vol (fun a => ?_)
  rw [(vv_iff.1 hv).2.2.2 a]
  have := h2 a
  omega
 ·cases h
def readF (L : List BHeld) (l : List BItem) (p : Bs) : Option (List Int) := match l11Ids l p with
 | [] => none
 | o :: _ => some (load L o.ids)
def readN (L : List BHeld) (t : Nd) (p : Bs) : Option (List Int) := match t.find p with
 | none => none
 | some d => if d.dir then none else if l4Ids L d.ids then some (load L d.ids) else none
theorem read_eq {L : List BHeld} {l : List BItem} {T : Nd} (hids : ∀ x, x ∈ l → l4Ids L x.ids = true) (hT : TOK T l) (p : Bs) : readN L T p = readF L l p := by
 have hfl := find_list hT p
 unfold readN readF l11Ids
 cases hf : T.find p with
 | none =>
  rw [hf] at hfl
  cases e : atI l p with
  | none => rfl
  | some i =>
   rw [e] at hfl
   simp only [Option.map_none, Option.bind_some] at hfl
   simp only [← hfl]
 | some d =>
  rw [hf] at hfl
  cases e : atI l p with
  | none => rw [e] at hfl; simp at hfl
  | some i =>
   rw [e] at hfl
   simp only [Option.map_some, Option.bind_some] at hfl
   have := hids _ (List.mem_of_getElem? hfl.symm)
   simp only at this
   simp only [← hfl]
   cases hd : d.dir <;> simp [this]
def l11Drop (L : List BHeld) (l : List BItem) (p : Bs) : Option BVol := match TreeDrop l p with
 | none => none
 | some t => some ⟨(FileFree L (((atI l p).bind (fun i => l[i]?)).map (·.ids) |>.getD [])).getD [], t⟩
theorem drop_eq2 (u : BVol) (p : Bs) : VolumeDrop u p = if VolumeValid u then l11Drop u.store u.tree p else none := rfl
theorem drop_perm2 {l t : List BItem} {p : Bs} (h : TreeDrop l p = some t) : VT l ∧ VT t ∧ ∃ x, x ∈ l ∧ x.path = p ∧ (atI l p).bind (fun i => l[i]?) = some x ∧ l.Perm (x :: t) := by
 unfold TreeDrop at h
 split at h
 ·rename_i hv
  have hv := tvalid_iff.1 hv
  cases e : atI l p with
  | none => simp [e] at h
  | some i =>
   simp only [e] at h
   split at h
   ·rename_i hp
    simp only [Option.some.injEq] at h
    subst h
    obtain ⟨x, h1, h2⟩ := (uniq_at hv.asc (p := p)).1 i e
    refine ⟨hv, tvalid_iff.1 hp, x, List.mem_of_getElem? h1, h2, by simp [h1], ?_⟩
    have := erase_perm h1
    rwa [List.eraseIdx_eq_take_drop_succ] at this
   ·cases h
 ·cases h
theorem drop_ok {L : List BHeld} {l : List BItem} (hu : Hol L l) {p : Bs} {t : List BItem} (hpt : TreeDrop l p = some t) :
  ∃ x s', x ∈ l ∧ (atI l p).bind (fun i => l[i]?) = some x ∧ FileFree L x.ids = some s' ∧ l11Drop L l p = some ⟨s', t⟩ ∧ Hol s' t ∧ l.Perm (x :: t) ∧ ∀ a, us s' a = us L a - (cnt1 a x.ids : Int) ∧ (0 < us s' a → by_ s' a = by_ L a) := by
 obtain ⟨_, ht, x, hx, hxp, hxa, hperm⟩ := drop_perm2 hpt
 have hc : ∀ a, cntL l a = cnt1 a x.ids + cntL t a := fun a => by rw [cntL_perm hperm, cntL_cons]
 obtain ⟨s', g1, g2, g3⟩ := free_ok hu.vh (hu.ids x hx) (fun a => by have := hu.le a; have := hc a; omega)
 have hle : ∀ a, (cntL t a : Int) ≤ us s' a := fun a => by have := hu.le a; have := hc a; have := (g3 a).1; omega
 refine ⟨x, s', hx, hxa, g1, by simp [l11Drop, hpt, hxa, g1], ⟨g2, ht, fun y hy => ?_, hle⟩, hperm, g3⟩
 refine ids_keep hu.vh g2 (fun a ha => ?_) (hu.ids y (hperm.mem_iff.2 (by simp [hy])))
 have h1 := cntL_mem hy a
 have h2 := cnt1_pos.2 ha
 have h3 := hle a
 exact ⟨by omega, (g3 a).2 (by omega)⟩
theorem drop_valid {u u' : BVol} {p : Bs} (h : VolumeDrop u p = some u') : VolumeValid u' = true := by
 rw [drop_eq2] at h
 split at h
 ·rename_i hv
  cases e : TreeDrop u.tree p with
  | none => simp [l11Drop, e] at h
  | some t =>
   obtain ⟨x, s', _, _, _, g2, g3, g4, g5⟩ := drop_ok (Hol.of_vol hv) e
   rw [g2] at h
   cases h
   refine g3.vol (fun a => ?_)
   have := (vv_iff.1 hv).2.2.2 a
   have h3 : cntL u.tree a = cnt1 a x.ids + cntL t a := by rw [cntL_perm g4, cntL_cons]
   have := (g5 a).1
   omega
 ·cases h
end Sp
namespace Sp
open Go Fw
theorem vwrite_valid {u u' : BVol} {p : Bs} {b : List Int} (h : VolumeWrite u p b = some u') : VolumeValid u' = true := by
 unfold VolumeWrite at h
 split at h
 ·rename_i hc
  simp only [Bool.and_eq_true] at hc
  exact write_valid hc.1 h
 ·cases h
theorem vol_len {o : Option BVol} (h : ∀ u', o = some u' → VolumeValid u' = true) : ((o.map (·.store)).getD []).length ≤ 16 := by
 cases o with
 | none => simp
 | some u => exact (vv_iff.1 (h u rfl)).1.len
end Sp
namespace Fw
open Go
def R1 (v v' : Value) : Prop := v' = v ∨ ∃ p q, v = .int .i64 p ∧ v' = .int .i64 q ∧ inI q
def GRel (G G' : PH) : Prop := ∀ b o v, PCell G b o v → ∃ v', PCell G' b o v' ∧ R1 v v'
def RL : List Value → List Value → Prop
 | [], [] => True
 | v :: r, v' :: r' => R1 v v' ∧ RL r r'
 | _, _ => False
theorem RL.len : ∀ {a b : List Value}, RL a b → b.length = a.length
 | [], [], _ => rfl
 | _ :: _, _ :: _, h => by simp [RL.len h.2]
 | [], _ :: _, h => h.elim
 | _ :: _, [], h => h.elim
theorem prow_rel {G G' : PH} (h : GRel G G') : ∀ (cs : List Value) (b o : Nat), PRow G b o cs → ∃ cs', PRow G' b o cs' ∧ RL cs cs'
 | [], b, o, _ => ⟨[], by intro j v h; simp at h, trivial⟩
 | c :: r, b, o, hr => by
  obtain ⟨c', h1, h2⟩ := h b o c (by simpa using hr 0 c rfl)
  obtain ⟨r', h3, h4⟩ := prow_rel h r b (o + 1) (fun j v hv => by
   have := hr (j + 1) v (by simpa using hv)
   rwa [show o + 1 + j = o + (j + 1) by omega])
  refine ⟨c' :: r', fun j v hv => ?_, h2, h4⟩
  cases j with
  | zero => simp at hv; subst hv; simpa using h1
  | succ j =>
   have := h3 j v (by simpa using hv)
   rwa [show o + (j + 1) = o + 1 + j by omega]
class StE {α : Type} (E : PH → α → List Value → Prop) : Prop where
 st : ∀ {G G' : PH} {x : α} {cs cs' : List Value}, GRel G G' → RL cs cs' → E G x cs → ∃ x', E G' x' cs'
theorem RdS.st {α : Type} {lim : Nat} {E : PH → α → List Value → Prop} [StE E] {sz : Nat} {G G' : PH} {v : Value} {xs : List α} (hg : GRel G G') (h : RdS lim E sz G v xs) : ∃ xs', xs'.length = xs.length ∧ RdS lim E sz G' v xs' := by
 obtain ⟨a, c, rfl, h2, h3, h4⟩ := h
 rcases h4 with rfl | ⟨b, o, rfl, h5⟩
 ·exact ⟨[], rfl, a, c, rfl, h2, h3, .inl rfl⟩
 ·have key : ∀ n, n ≤ xs.length → ∃ xs' : List α, xs'.length = n ∧ ∀ i x, xs'[i]? = some x → ∃ cs, cs.length = sz ∧ E G' x cs ∧ PRow G' b (o + i * sz) cs := by
   intro n
   induction n with
   | zero => intro _; exact ⟨[], rfl, by simp⟩
   | succ n ih =>
    intro hn
    obtain ⟨xs', k1, k2⟩ := ih (by omega)
    obtain ⟨cs, c1, c2, c3⟩ := h5 n xs[n] (by simp)
    obtain ⟨cs', d1, d2⟩ := prow_rel hg cs _ _ c3
    obtain ⟨x', hx'⟩ := StE.st hg d2 c2
    refine ⟨xs' ++ [x'], by simp [k1], fun i x hx => ?_⟩
    by_cases hi : i < n
    ·rw [List.getElem?_append_left (by omega)] at hx
     exact k2 i x hx
    ·rw [List.getElem?_append_right (by omega)] at hx
     have : i = n := by
      have := (List.getElem?_eq_some_iff.1 hx).1
      simp at this
      omega
     subst this
     simp [k1] at hx
     subst hx
     exact ⟨cs', by rw [d2.len]; exact c1, hx', d1⟩
  obtain ⟨xs', k1, k2⟩ := key xs.length (Nat.le_refl _)
  exact ⟨xs', k1, some ⟨b, o, none⟩, c, by rw [k1], by omega, by omega, .inr ⟨b, o, rfl, k2⟩⟩
theorem r1_int {p : Int} {v' : Value} (h : R1 (.int .i64 p) v') (hp : inI p) : ∃ q, v' = .int .i64 q ∧ inI q := by
 rcases h with rfl | ⟨_, q, _, rfl, hq⟩
 ·exact ⟨p, rfl, hp⟩
 ·exact ⟨q, rfl, hq⟩
theorem r1_slice {a : Option Addr} {m c : Nat} {v' : Value} (h : R1 (.slice a m c) v') : v' = .slice a m c := by
 rcases h with rfl | ⟨_, _, h, _⟩
 ·rfl
 ·cases h
theorem r1_str {s : Bs} {v' : Value} (h : R1 (str s) v') : v' = str s := by
 rcases h with rfl | ⟨_, _, h, _⟩
 ·rfl
 ·cases h
theorem r1_bool {b : Bool} {v' : Value} (h : R1 (.bool b) v') : v' = .bool b := by
 rcases h with rfl | ⟨_, _, h, _⟩
 ·rfl
 ·cases h
theorem rl1 {a : Value} {cs' : List Value} (h : RL [a] cs') : ∃ u, cs' = [u] ∧ R1 a u := by
 rcases cs' with _ | ⟨u, _ | ⟨z, r⟩⟩
 ·exact h.elim
 ·exact ⟨u, rfl, h.1⟩
 ·exact h.2.elim
theorem intE_st {G' : PH} {x : Int} {cs' : List Value} (hi : inI x) (hr : RL [.int .i64 x] cs') : ∃ x', intE G' x' cs' := by
 obtain ⟨u, rfl, k1⟩ := rl1 hr
 obtain ⟨q, rfl, hq⟩ := r1_int k1 hi
 exact ⟨q, rfl, hq⟩
instance : StE intE := ⟨fun {_ _ x cs cs'} _ hr h => by
 obtain ⟨h1, h2⟩ := h
 rw [h1] at hr
 exact intE_st h2 hr⟩
theorem rl3 {a b c : Value} {cs' : List Value} (h : RL [a, b, c] cs') : ∃ u v w, cs' = [u, v, w] ∧ R1 a u ∧ R1 b v ∧ R1 c w := by
 rcases cs' with _ | ⟨u, _ | ⟨v, _ | ⟨w, _ | ⟨z, r⟩⟩⟩⟩
 ·exact h.elim
 ·exact h.2.elim
 ·exact h.2.2.elim
 ·exact ⟨u, v, w, rfl, h.1, h.2.1, h.2.2.1⟩
 ·exact h.2.2.2.elim
theorem heldE_st {G G' : PH} {x : BHeld} {a : Option Addr} {m c : Nat} {u v w : Value} (hg : GRel G G') (h1 : inI x.id) (h2 : RdI G (.slice a m c) x.bytes) (h3 : inI x.uses)
  (k1 : R1 (.int .i64 x.id) u) (k2 : R1 (.slice a m c) v) (k3 : R1 (.int .i64 x.uses) w) : ∃ x', heldE G' x' [u, v, w] := by
 obtain ⟨p, rfl, hp⟩ := r1_int k1 h1
 obtain ⟨q, rfl, hq⟩ := r1_int k3 h3
 have e := r1_slice k2
 subst e
 obtain ⟨ys, _, hy⟩ := RdS.st hg h2
 exact ⟨⟨p, ys, q⟩, a, m, c, rfl, hp, hy, hq⟩
instance : StE heldE := ⟨fun {_ _ x cs cs'} hg hr h => by
 obtain ⟨a, m, c, rfl, h1, h2, h3⟩ := h
 obtain ⟨u, v, w, rfl, k1, k2, k3⟩ := rl3 hr
 exact heldE_st hg h1 h2 h3 k1 k2 k3⟩
instance : StE itemE := ⟨fun {_ _ x cs cs'} hg hr h => by
 obtain ⟨a, m, c, rfl, h1, h2⟩ := h
 obtain ⟨u, v, w, rfl, k1, k2, k3⟩ := rl3 hr
 obtain rfl := r1_str k1
 obtain rfl := r1_bool k2
 obtain rfl := r1_slice k3
 obtain ⟨ys, _, hy⟩ := h2.st hg
 exact ⟨⟨x.path, x.dir, ys⟩, a, m, c, rfl, h1, hy⟩⟩
section
variable {w0 w : World} {G0 G : PH} {S : List Nat} {B : List Res}
theorem Hp.unkeep (H : Hp w0 G0 S w G B) (h0 : PSub G0 w0) {b : Nat} {l : List Value} {e : TypeId} (hb : G b = some (cl l e)) (hn : w0.heap.size ≤ b) : Hp w0 G0 S w (fun c => if c = b then none else G c) (blk b (cl l e) :: B) := by
 refine ⟨H.os, H.tape, H.output, H.size, H.ext, ?_, ?_, ?_, ?_, ?_⟩
 ·intro c o hc
  by_cases e : c = b
  ·simp [e] at hc
  ·simp [e] at hc; exact H.sub c o hc
 ·intro c o hc
  have : c ≠ b := fun e => by
   have := h0.lt hc
   omega
  simp [this, H.le c o hc]
 ·intro c hc hnone
  by_cases e : c = b
  ·simp [e]
  ·simp [e, H.old c hc hnone]
 ·intro r hr
  rcases List.mem_cons.1 hr with rfl | hr
  ·exact ⟨H.sub _ _ hb, fun c hc => by simp [blk] at hc; subst hc; exact ⟨by simp, .inr hn⟩⟩
  ·refine ⟨(H.own r hr).1, fun c hc => ⟨?_, ((H.own r hr).2 c hc).2⟩⟩
   by_cases e : c = b
   ·simp [e]
   ·simp [e, ((H.own r hr).2 c hc).1]
 ·show ([b] ++ fps B).Nodup
  refine List.nodup_append.2 ⟨by simp, H.nd, ?_⟩
  intro a ha c hc e
  subst e
  simp at ha
  subst ha
  obtain ⟨r, hr, hb2⟩ := List.mem_flatMap.1 hc
  have := ((H.own r hr).2 a hb2).1
  rw [hb] at this
  cases this
end
section ops
variable {P : Program} {n : Nat} {ops : Array Oper} {Q : Post} {rest : List Oper} {L : Slots} {ds : List Deferred} {w w0 : World} {G0 : PH} {S : List Nat} {G : PH} {B : List Res}
variable {ty : TypeId} {ps : String} {af : Array Edge}
theorem o_store_P (H : Hp w0 G0 S w G B) (h0 : PSub G0 w0) {t : TypeId} {x y : Operand} {b o : Nat} {l : List Value} {e : TypeId} {p q : Int} (hS : ∀ w, (Go.sizeOf t).run P w = .ok 1 w) (hx : od L x = some (.pointer (some ⟨b, o, none⟩))) (hy : od L y = some (.int .i64 q)) (hq : inI q)
  (hb : G b = some (cl l e)) (hc : l[o]? = some (.int .i64 p)) (hn : w0.heap.size ≤ b) (hS2 : b ∉ S)
  (next : ∀ w' G', GRel G G' → Hp w0 G0 S w' G' B → R P n ops Q rest L ds w') : R P n ops Q (⟨none, .store t x y, ty, ps, af, none⟩ :: rest) L ds w := by
 have ho := (List.getElem?_eq_some_iff.1 hc).1
 have H1 := H.unkeep h0 hb hn
 obtain ⟨w', hr, H2⟩ := run_storeCells_blk (P := P) [.int .i64 q] 0 l w (o := o) H1 (k := 0) rfl (by simp; omega) (by simp [Value.oneCell'])
 have H2' : Hp w0 G0 S w' (fun c => if c = b then none else G c) (blk b (cl (setCs l (o + 0) [.int .i64 q]) e) :: B) := H2
 obtain ⟨H3, h3⟩ := H2'.keep (k := 0) rfl (by simpa [blk] using hS2)
 refine R_skip (w' := w') (fun a ha => ?_) (next w' _ ?_ H3)
 ·have : (Value.int .i64 q).cells = #[.int .i64 q] := rfl
  simp [execOp, Instr.storeAt, ha.eval hx, ha.eval hy, Instr.sureAddr, storeVar, hS, this, hr]
 ·intro c off v hv
  obtain ⟨C, e2, fz, h4, h5⟩ := hv
  by_cases ec : c = b
  ·subst ec
   have h6 : PPlus (fun c' => if c' = c then none else G c') w' (blk c (cl (setCs l (o + 0) [.int .i64 q]) e)).fp c = some (cl (setCs l (o + 0) [.int .i64 q]) e) := h3
   rw [hb] at h4
   simp only [Option.some.injEq, Obj.cells.injEq] at h4
   obtain ⟨rfl, rfl, rfl⟩ := h4
   have h7 : l[off]? = some v := by simpa using h5
   by_cases eo : off = o
   ·subst eo
    rw [hc] at h7
    cases h7
    refine ⟨.int .i64 q, ⟨_, _, _, h6, ?_⟩, .inr ⟨p, q, rfl, rfl, hq⟩⟩
    simp [setCs, setN_eq, ho]
   ·refine ⟨v, ⟨_, _, _, h6, ?_⟩, .inl rfl⟩
    have : ¬ o = off := fun h => eo h.symm
    simp [setCs, setN_eq, this, h7]
  ·refine ⟨v, ⟨C, e2, fz, PPlus.le _ _ _ _ _ (by simp [ec, h4]), h5⟩, .inl rfl⟩
end ops
def Mine (w0 : World) (G : PH) (v : Value) : Prop := ∀ b o m c, v = .slice (some ⟨b, o, none⟩) m c → w0.heap.size ≤ b ∧ ∃ l e, G b = some (cl l e)
theorem Mine.up {w0 : World} {G G' : PH} {v : Value} (h : Mine w0 G v) (hle : PLe G G') : Mine w0 G' v := fun b o m c e => by
 obtain ⟨h1, l, e, h2⟩ := h b o m c e
 exact ⟨h1, l, e, hle _ _ h2⟩
theorem Mine.nil {w0 : World} {G : PH} : Mine w0 G (.slice none 0 0) := fun b o m c e => by simp at e
theorem acc_fpb {e : TypeId} {sz : Nat} {v : Value} {n : Nat} {cells : List Value} {b o m c} (h : v = .slice (some ⟨b, o, none⟩) m c) : b ∈ (acc e sz v n cells).fp := by
 subst h
 exact List.mem_singleton.2 rfl
section
variable {w0 w : World} {G0 G : PH} {B : List Res}
theorem Hp.shutP {α : Type} {E : PH → α → List Value → Prop} [MonoE E] {b : Nat} {o : Obj} (H : Hp w0 G0 [b] w G B) {k j : Nat} {e : TypeId} {sz : Nat} {v : Value} {n : Nat} {cells : List Value} {xs : List α} (hk : nth B k = some (acc e sz v n cells)) (hj : nth (delN B k) j = some (blk b o))
  (hc : Chk E sz G cells xs) (hn : n = xs.length) (hl : xs.length ≤ 1099511627776) :
  ∃ G', Hp w0 G0 [b] w G' (delN B k) ∧ PLe G G' ∧ RdS LIM E sz G' v xs ∧ Mine w0 G' v := by
 have hnb : ∀ c, c ∈ (acc e sz v n cells).fp → c ∉ [b] := fun c hc hcb => by
  simp only [List.mem_singleton] at hcb
  subst hcb
  obtain ⟨B1, B2, h1, _, h3⟩ := fps_split hk
  have hpm : List.Perm B (acc e sz v n cells :: (B1 ++ B2)) := by rw [h1]; exact List.perm_middle
  have h2 : ((acc e sz v n cells).fp ++ fps (B1 ++ B2)).Nodup := (List.Perm.flatMap_right _ hpm).nodup_iff.1 H.nd
  rw [h3] at hj
  exact (List.nodup_append.1 h2).2.2 c hc c (fps_nth hj (by simp [blk])) rfl
 have hown := (H.own _ (by rw [nth_eq] at hk; exact List.mem_of_getElem? hk)).2
 obtain ⟨H', hp⟩ := H.keep hk hnb
 refine ⟨_, H', PPlus.le _ _ _, acc_rd hp (hc.up (PPlus.le _ _ _)) hn hl, ?_⟩
 obtain ⟨_, hp2⟩ := hp
 intro b' o' m' c' ev
 have hmem : b' ∈ (acc e sz v n cells).fp := acc_fpb ev
 refine ⟨(hown b' hmem).2.resolve_left (hnb b' hmem), ?_⟩
 rcases hp2 with ⟨h1, _⟩ | ⟨b2, cap, C, h1, h2, _⟩
 ·rw [ev] at h1; cases h1
 ·rw [ev] at h1
  cases h1
  exact ⟨C.toList, e, h2⟩
end
section ops
variable {P : Program} {n : Nat} {ops : Array Oper} {Q : Post} {rest : List Oper} {L : Slots} {ds : List Deferred} {w w0 : World} {G0 : PH} {S : List Nat} {G : PH} {B : List Res}
variable {ty : TypeId} {ps : String} {af : Array Edge}
theorem o_store_mine (H : Hp w0 G0 S w G B) (h0 : PSub G0 w0) {t : TypeId} {x y : Operand} {a : Option Addr} {m c b o off rb : Nat} {ob : Obj} {p q : Int} (hm : Mine w0 G (.slice a m c)) (ha : a = some ⟨b, o, none⟩) (hS : ∀ w, (Go.sizeOf t).run P w = .ok 1 w) (hx : od L x = some (.pointer (some ⟨b, off, none⟩))) (hy : od L y = some (.int .i64 q)) (hq : inI q)
  (hc : PCell G b off (.int .i64 p)) (hrb : w0.heap[rb]? = some ob) (hS2 : S = [rb])
  (next : ∀ w' G', GRel G G' → Hp w0 G0 S w' G' B → R P n ops Q rest L ds w') : R P n ops Q (⟨none, .store t x y, ty, ps, af, none⟩ :: rest) L ds w := by
 subst ha
 obtain ⟨h1, l, e, h2⟩ := hm b o m c rfl
 obtain ⟨C, e2, fz, h3, h4⟩ := hc
 rw [h2] at h3
 simp only [Option.some.injEq, Obj.cells.injEq] at h3
 obtain ⟨rfl, rfl, rfl⟩ := h3
 have hlt := (Array.getElem?_eq_some_iff.1 hrb).1
 exact o_store_P H h0 hS hx hy hq h2 (by simpa using h4) h1 (by subst hS2; simp; omega) next
end ops
theorem PLe.none {G : PH} : PLe (fun _ => none) G := fun _ _ h => by cases h
theorem W_drawN {P : Program} {n : Nat} {l : List Oper} {Q : Post} {L : Slots} {ds : List Deferred} {w : World} {id : Nat} {w0 : World} {G0 : PH} {SS : List Nat} {G : PH} {B : List Res} (ks : List Nat) (m : Nat) (H : Hp w0 G0 SS w G B) (hm : P.follows .mixedOrders = true) (hl : Nat.beq l.length m = true)
  (h : ∀ w', Hp w0 G0 SS w' G B → RD P n l Q (fun w => Kn w (fun _ => none) (sel ks B)) m (Array.replicate m false) L ds w') : W P n Q (.region id l.toArray true) L ds w :=
 W_draw _ m H hm hl (fun _ H' => Kn.of H' PLe.none (fun _ hr => sel_mem hr)) h
section ops
variable {P : Program} {n : Nat} {ops : Array Oper} {Q : Post} {rest : List Oper} {L : Slots} {ds : List Deferred} {w : World} {ty : TypeId} {ps : String} {af : Array Edge}
theorem o_beql_same {d : Nat} {x y : Operand} {t u : TypeId} {p : Bool} (hT : P.underlying t = some .bool) (hd : Nat.blt d n = true) (hx : od L x = some (.bool p)) (hy : od L y = some (.bool p))
  (next : R P n ops Q rest ((d, .bool true) :: L) ds w) : R P n ops Q (⟨some d, .binOp .eql t x y u, ty, ps, af, none⟩ :: rest) L ds w :=
 o_beql hT hd hx hy (by simpa using next)
end ops
end Fw
namespace Sp
open Fw
open Nd
section
variable {v u : BVol} {p : Bs} {b : List Int}
end
end Sp
namespace Fw
open Go
section
variable {P : Program} {n : Nat} {ops : Array Oper} {Q : Post} {rest : List Oper} {L : Slots} {ds : List Deferred} {w : World}
variable {ty : TypeId} {ps : String} {af : Array Edge}
theorem o_makefn2 {d : Nat} {f : FuncId} {x y : Operand} {v u : Value} (hd : Nat.blt d n = true) (hx : od L x = some v) (hy : od L y = some u)
  (next : R P n ops Q rest ((d, .func (.func f) #[] #[v, u]) :: L) ds w) : R P n ops Q (⟨some d, .makeFunc (.func f) #[] #[x, y], ty, ps, af, none⟩ :: rest) L ds w :=
 R_run hd (fun a ha => by simp [execOp, Instr.makeFunc, ha.eval hx, ha.eval hy]) next
theorem o_callc2 {d : Nat} {f : FuncId} {c : Operand} {xs : List Operand} {ts : Array TypeId} {vs : List Value} {cv cu : Value} {C : Ending → World → Prop} (hf : ∀ args w, (callFunc f args).run P w = .ok (.enter f args) w) (hd : Nat.blt d n = true)
  (hc0 : od L c = some (.func (.func f) #[] #[cv, cu])) (hx : ods L xs = some vs) (hc : Calls P f (vs ++ [cv, cu]).toArray w C) (next : ∀ e w', C e w' → ∃ v, e = .returned v ∧ R P n ops Q rest ((d, v) :: L) ds w') :
  R P n ops Q (⟨some d, .call ⟨.value c, xs.toArray, ts⟩, ty, ps, af, none⟩ :: rest) L ds w := by
 intro a ha
 refine wpList_plain rfl fun K hK => ?_
 have e : xs.map a.eval = vs := ha.evals xs vs hx
 have hr : (execOp a.eval ⟨some d, .call ⟨.value c, xs.toArray, ts⟩, ty, ps, af, none⟩).run P w = .ok (.enter f (vs ++ [cv, cu]).toArray) w := by
  simp [execOp, resolve, invoke, ha.eval hc0, Deferred.ofValue, e, hf]
 unfold Oper.wp
 rw [hr, Oper.upon_enter]
 refine hc.mono fun e w' hC => ?_
 obtain ⟨v, rfl, h⟩ := next e w' hC
 exact hK _ _ (h _ (ha.put hd v))
end
end Fw
namespace Sp
open Fw Nd
theorem keeps : ∀ (ids : List Int) {L L' : List BHeld}, VH L → foldB StoreKeep ids (some L) = some L' → VH L' ∧ ∀ a, us L' a = us L a + (cnt1 a ids : Int) ∧ by_ L' a = by_ L a
 | [], L, L', hV, h => by
  have : L = L' := by simpa [foldB] using h
  subst this
  exact ⟨hV, fun a => by simp [cnt1]⟩
 | x :: r, L, L', hV, h => by
  have h' : foldB StoreKeep r (StoreKeep L x) = some L' := h
  cases e : StoreKeep L x with
  | none => rw [e, foldB_none] at h'; cases h'
  | some L1 =>
   rw [e] at h'
   obtain ⟨k1, _, k3⟩ := keep_step hV e
   obtain ⟨g1, g2⟩ := keeps r k1 h'
   refine ⟨g1, fun a => ?_⟩
   have h3 := k3 a
   have h4 := g2 a
   rw [cnt1_cons]
   refine ⟨?_, h4.2.trans h3.2⟩
   by_cases ea : a = x
   ·rw [if_pos ea] at h3 ⊢; omega
   ·rw [if_neg ea] at h3 ⊢; omega
theorem keepTs : ∀ (t : List BItem) {L L' : List BHeld}, VH L → l12Keep L t = some L' → VH L' ∧ ∀ a, us L' a = us L a + (cntL t a : Int) ∧ by_ L' a = by_ L a
 | [], L, L', hV, h => by
  have : L = L' := by simpa [l12Keep, foldB] using h
  subst this
  exact ⟨hV, fun a => by simp [cntL]⟩
 | x :: r, L, L', hV, h => by
  have h' : foldB keepT r (keepT L x) = some L' := h
  cases e : keepT L x with
  | none => rw [e, foldB_none] at h'; cases h'
  | some L1 =>
   rw [e] at h'
   obtain ⟨k1, k3⟩ := keeps x.ids hV e
   obtain ⟨g1, g2⟩ := keepTs r k1 h'
   refine ⟨g1, fun a => ?_⟩
   have h3 := k3 a
   have h4 := g2 a
   rw [cntL_cons]
   exact ⟨by omega, h4.2.trans h3.2⟩
def freeF (s : List BHeld) (x : BItem) : Option (List BHeld) := FileFree s x.ids
def freeTs (s : List BHeld) (l : List BItem) : Option (List BHeld) := foldB freeF l (some s)
def l12Free (s : List BHeld) (l : List BItem) : List BHeld := l.foldl (fun s x => (FileFree s x.ids).getD []) s
theorem frees : ∀ (t : List BItem) {L : List BHeld}, VH L → (∀ x, x ∈ t → l4Ids L x.ids = true) → (∀ a, (cntL t a : Int) ≤ us L a) →
  ∃ L', freeTs L t = some L' ∧ l12Free L t = L' ∧ VH L' ∧ ∀ a, us L' a = us L a - (cntL t a : Int) ∧ (0 < us L' a → by_ L' a = by_ L a)
 | [], L, hV, _, _ => ⟨L, rfl, rfl, hV, fun a => by simp [cntL]⟩
 | x :: r, L, hV, hi, hl => by
  obtain ⟨L1, k1, k2, k3⟩ := free_ok hV (hi x (by simp)) (fun a => by
   have := hl a
   rw [cntL_cons] at this
   omega)
  have hc : ∀ a, (cntL r a : Int) ≤ us L1 a := fun a => by
   have := hl a
   have := (k3 a).1
   rw [cntL_cons] at *
   omega
  obtain ⟨L', g1, g2, g3, g4⟩ := frees r k2 (fun y hy => ids_keep hV k2 (fun a ha => by
   have h1 : 0 < cnt1 a y.ids := cnt1_pos.2 ha
   have h2 := cntL_mem hy a
   have h3 := hc a
   have h4 : 0 < us L1 a := by omega
   exact ⟨h4, (k3 a).2 h4⟩) (hi y (by simp [hy]))) hc
  refine ⟨L', ?_, ?_, g3, fun a => ?_⟩
  ·show foldB freeF (x :: r) (some L) = some L'
   rw [foldB_cons (show freeF L x = some L1 from k1)]
   exact g1
  ·simp only [l12Free, List.foldl_cons, k1, Option.getD_some]
   exact g2
  ·have h1 := k3 a
   have h2 := g4 a
   rw [cntL_cons]
   refine ⟨by omega, fun h => (h2.2 h).trans (h1.2 (by omega))⟩
def trees (d : BDisk) : List (List BItem) := d.tree :: d.snaps.map (·.tree)
def cntD (ts : List (List BItem)) (a : Int) : Nat := (ts.map (fun t => cntL t a)).sum
theorem cntD_cons (t : List BItem) (ts : List (List BItem)) (a : Int) : cntD (t :: ts) a = cntL t a + cntD ts a := by simp [cntD]
theorem cntD_mem {ts : List (List BItem)} {t : List BItem} (h : t ∈ ts) (a : Int) : cntL t a ≤ cntD ts a := by
 induction ts with
 | nil => cases h
 | cons y r ih =>
  rw [cntD_cons]
  rcases List.mem_cons.1 h with rfl | h
  ·omega
  ·have := ih h; omega
theorem cntD_zero {ts : List (List BItem)} {a : Int} (h : ∀ t, t ∈ ts → ∀ x, x ∈ t → a ∉ x.ids) : cntD ts a = 0 := by
 induction ts with
 | nil => rfl
 | cons y r ih => rw [cntD_cons, ih (fun t ht => h t (by simp [ht])), cntL_zero (h y (by simp))]
theorem cntD_le {ts : List (List BItem)} (h : ∀ t, t ∈ ts → VT t) (a : Int) : cntD ts a ≤ 48 * ts.length := by
 induction ts with
 | nil => simp [cntD]
 | cons y r ih =>
  rw [cntD_cons, List.length_cons]
  have h1 := ih (fun t ht => h t (by simp [ht]))
  have h2 := l11Count_le (id := a) (tvalid_iff.2 (h y (by simp)))
  rw [l11Count_eq] at h2
  omega
theorem l12Count_eq (d : BDisk) (a : Int) : l12Count d a = cntD (trees d) a := by
 simp [l12Count, cntS, trees, l11Count_eq, cntD, Function.comp_def]
structure DHol (L : List BHeld) (ts : List (List BItem)) : Prop where
 vh : VH L
 vt : ∀ t, t ∈ ts → VT t
 ids : ∀ t, t ∈ ts → ∀ x, x ∈ t → l4Ids L x.ids = true
 use : ∀ a, us L a = (cntD ts a : Int)
def NamesOK (l : List BSnap) : Prop := l.length ≤ 6 ∧ ∀ (k : Nat) (s : BSnap), l[k]? = some s → l1Word s.name = true ∧ (k : Int) ≤ l12At l s.name
theorem dd_iff {d : BDisk} : DiskValid d = true ↔ NamesOK d.snaps ∧ DHol d.store (trees d) := by
 rw [dv_parts, valid_iff, tvalid_iff]
 have hf : ∀ l : List BItem, l11Files d.store l = true ↔ ∀ x, x ∈ l → l4Ids d.store x.ids = true := fun l => by
  unfold l11Files
  rw [List.all_eq_true]
  exact Iff.rfl
 constructor
 ·rintro ⟨h1, h2, h3, h4, ⟨h5, h6⟩, h7⟩
  have hi : ∀ t, t ∈ trees d → ∀ x, x ∈ t → l4Ids d.store x.ids = true := fun t ht => by
   rcases List.mem_cons.1 ht with rfl | ht
   ·exact (hf _).1 h5
   ·obtain ⟨s, hs, rfl⟩ := List.mem_map.1 ht
    obtain ⟨k, hk⟩ := List.getElem?_of_mem hs
    exact (hf _).1 (h6 k s hk)
  refine ⟨⟨h3, fun k s hs => ⟨(h4 k s hs).1, (h4 k s hs).2.1⟩⟩, ⟨h1, fun t ht => ?_, hi, fun a => ?_⟩⟩
  ·rcases List.mem_cons.1 ht with rfl | ht
   ·exact h2
   ·obtain ⟨s, hs, rfl⟩ := List.mem_map.1 ht
    obtain ⟨k, hk⟩ := List.getElem?_of_mem hs
    exact tvalid_iff.1 (h4 k s hk).2.2
  ·by_cases ha : a ∈ d.store.map (·.id)
   ·obtain ⟨h, hh, rfl⟩ := List.mem_map.1 ha
    have := List.all_eq_true.1 h7 h hh
    simp only [usesD, decide_eq_true_eq, l12Count_eq] at this
    rw [this, us, getH_mem h1.nd hh]
   ·rw [us, getH_not ha, cntD_zero]
    ·rfl
    ·intro t ht x hx hax
     have := ids_in h1 (hi t ht x hx) hax
     rw [us, getH_not ha] at this
     exact absurd this (by simp)
 ·rintro ⟨⟨h3, h4⟩, ⟨h1, h2, hi, hu⟩⟩
  have hm : ∀ (k : Nat) (s : BSnap), d.snaps[k]? = some s → s.tree ∈ trees d := fun k s hs => List.mem_cons.2 (.inr (List.mem_map.2 ⟨s, List.mem_of_getElem? hs, rfl⟩))
  refine ⟨h1, h2 _ (by simp [trees]), h3, fun k s hs => ⟨(h4 k s hs).1, (h4 k s hs).2, tvalid_iff.2 (h2 _ (hm k s hs))⟩, ⟨(hf _).2 (hi _ (by simp [trees])), fun k s hs => (hf _).2 (hi _ (hm k s hs))⟩, List.all_eq_true.2 fun h hh => ?_⟩
  simp only [usesD, decide_eq_true_eq, l12Count_eq]
  rw [← hu, us, getH_mem h1.nd hh]
def SnapBack (d : BDisk) (n : Bs) : Option BDisk := match atS d.snaps n with
 | none => none
 | some i => if DiskValid d then (l12Keep d.store (((d.snaps[i]?).map (·.tree)).getD [])).map (fun s => ⟨l12Free s d.tree, ((d.snaps[i]?).map (·.tree)).getD [], d.snaps⟩) else none
def DiskWrite (d : BDisk) (p : Bs) (b : List Int) : Option BDisk := if DiskValid d && FileValid b then (l11Write ⟨d.store, d.tree⟩ p b).map (fun v => ⟨v.store, v.tree, d.snaps⟩) else none
theorem at_some {l : List BSnap} {n : Bs} {i : Nat} (h : atS l n = some i) : ∃ s, l[i]? = some s ∧ s.name = n ∧ i < l.length ∧ ∀ j s', j < i → l[j]? = some s' → s'.name ≠ n := by
 obtain ⟨h1, h2, h3⟩ := List.findIdx?_eq_some_iff_getElem.1 h
 refine ⟨l[i], by simp [h1], by simpa using h2, h1, fun j s' hj hs e => ?_⟩
 have := h3 j hj
 obtain ⟨hj2, hs2⟩ := List.getElem?_eq_some_iff.1 hs
 rw [hs2] at this
 simp [e] at this
section
variable {d d1 : BDisk} {n : Bs}
theorem take_get (h : SnapTake d n = some d1) : DiskValid d = true ∧ l1Word n = true ∧ atS d.snaps n = none ∧ d.snaps.length < 6 ∧ ∃ s, l12Keep d.store d.tree = some s ∧ d1 = ⟨s, d.tree, d.snaps ++ [⟨n, d.tree⟩]⟩ := by
 unfold SnapTake at h
 split at h
 ·rename_i hc
  simp only [Bool.and_eq_true, decide_eq_true_eq] at hc
  obtain ⟨⟨⟨c1, c2⟩, c3⟩, c4⟩ := hc
  obtain ⟨s, h1, rfl⟩ := Option.map_eq_some_iff.1 h
  have := (dd_iff.1 c1).1.1
  exact ⟨c1, c2, by simpa using c3, by omega, s, h1, rfl⟩
 ·cases h
theorem back_get (h : SnapBack d n = some d1) : DiskValid d = true ∧ ∃ i s st, atS d.snaps n = some i ∧ d.snaps[i]? = some s ∧ s.name = n ∧ l12Keep d.store s.tree = some st ∧ d1 = ⟨l12Free st d.tree, s.tree, d.snaps⟩ := by
 unfold SnapBack at h
 split at h
 ·cases h
 ·rename_i i e
  split at h
  ·rename_i hc
   obtain ⟨s, h1, h2, _⟩ := at_some e
   rw [h1] at h
   obtain ⟨st, h3, h4⟩ := Option.map_eq_some_iff.1 h
   exact ⟨hc, i, s, st, e, h1, h2, h3, h4.symm⟩
  ·cases h
theorem snap_in {i : Nat} {s : BSnap} (h : d.snaps[i]? = some s) : s.tree ∈ trees d := List.mem_cons.2 (.inr (List.mem_map.2 ⟨s, List.mem_of_getElem? h, rfl⟩))
theorem DHol.le {L : List BHeld} {ts : List (List BItem)} (h : DHol L ts) (hl : ts.length ≤ 7) (a : Int) : us L a ≤ 336 := by
 have := h.use a
 have := cntD_le h.vt a
 omega
theorem keep_hol {L L' : List BHeld} {ts : List (List BItem)} (h : DHol L ts) {t : List BItem} (ht : t ∈ ts) (hk : l12Keep L t = some L') : DHol L' (t :: ts) ∧ ∀ a, us L' a = us L a + (cntL t a : Int) ∧ by_ L' a = by_ L a := by
 obtain ⟨k1, k2⟩ := keepTs t h.vh hk
 have hst : ∀ a, 0 < us L a → 0 < us L' a ∧ by_ L' a = by_ L a := fun a ha => ⟨by have := (k2 a).1; omega, (k2 a).2⟩
 have hi : ∀ u, u ∈ ts → ∀ x, x ∈ u → l4Ids L' x.ids = true := fun u hu x hx => ids_stay h.vh k1 hst (h.ids u hu x hx)
 refine ⟨⟨k1, fun u hu => ?_, fun u hu => ?_, fun a => ?_⟩, k2⟩
 ·rcases List.mem_cons.1 hu with rfl | hu
  ·exact h.vt _ ht
  ·exact h.vt _ hu
 ·rcases List.mem_cons.1 hu with rfl | hu
  ·exact hi _ ht
  ·exact hi _ hu
 ·rw [(k2 a).1, h.use a, cntD_cons]
  omega
theorem free_hol {L : List BHeld} {ts : List (List BItem)} {t : List BItem} (h : DHol L (t :: ts)) :
  ∃ L', freeTs L t = some L' ∧ l12Free L t = L' ∧ DHol L' ts ∧ ∀ a, us L' a = us L a - (cntL t a : Int) ∧ (0 < us L' a → by_ L' a = by_ L a) := by
 obtain ⟨L', g1, g2, g3, g4⟩ := frees t h.vh (h.ids t (by simp)) (fun a => by
  have := h.use a
  rw [cntD_cons] at this
  omega)
 have hu : ∀ a, us L' a = (cntD ts a : Int) := fun a => by
  have := h.use a
  have := (g4 a).1
  rw [cntD_cons] at *
  omega
 refine ⟨L', g1, g2, ⟨g3, fun u hu => h.vt u (by simp [hu]), fun u hu2 x hx => ids_keep h.vh g3 (fun a ha => ?_) (h.ids u (by simp [hu2]) x hx), hu⟩, g4⟩
 have h1 : 0 < cnt1 a x.ids := cnt1_pos.2 ha
 have h2 := cntL_mem hx a
 have h3 := cntD_mem hu2 a
 have h4 := hu a
 have h5 : 0 < us L' a := by omega
 exact ⟨h5, (g4 a).2 h5⟩
theorem DHol.perm {L : List BHeld} {ts us' : List (List BItem)} (h : DHol L ts) (hp : ts.Perm us') : DHol L us' :=
 ⟨h.vh, fun t ht => h.vt t (hp.mem_iff.2 ht), fun t ht => h.ids t (hp.mem_iff.2 ht), fun a => by rw [h.use a]; exact congrArg _ ((hp.map _).sum_nat)⟩
theorem take_valid (h : SnapTake d n = some d1) : DiskValid d1 = true := by
 obtain ⟨hd, hw, hn, hl, s, hk, rfl⟩ := take_get h
 obtain ⟨hN, hH⟩ := dd_iff.1 hd
 obtain ⟨g1, _⟩ := keep_hol hH (t := d.tree) (by simp [trees]) hk
 refine dd_iff.2 ⟨⟨by simp; omega, fun k s' hs => ?_⟩, g1.perm ?_⟩
 ·simp only [l12At, atS, List.findIdx?_append]
  by_cases hkl : k < d.snaps.length
  ·rw [List.getElem?_append_left hkl] at hs
   obtain ⟨h1, h2⟩ := hN.2 k s' hs
   refine ⟨h1, ?_⟩
   simp only [l12At, atS] at h2
   cases e : d.snaps.findIdx? (fun x => decide (x.name = s'.name)) with
   | none =>
    rw [e] at h2
    simp [optI] at h2
    omega
   | some i => rw [e] at h2; simpa using h2
  ·rw [List.getElem?_append_right (by omega)] at hs
   have hk0 : k = d.snaps.length := by
    have := (List.getElem?_eq_some_iff.1 hs).1
    simp at this
    omega
   subst hk0
   simp at hs
   subst hs
   refine ⟨hw, ?_⟩
   have : d.snaps.findIdx? (fun x => decide (x.name = n)) = none := hn
   simp [this, optI]
 ·simp only [trees, List.map_append, List.map_cons, List.map_nil]
  refine List.Perm.trans (List.Perm.swap _ _ _) (List.Perm.cons _ ?_)
  exact (List.perm_append_comm (l₁ := [d.tree])).trans (List.Perm.refl _)
end
end Sp
namespace Sp
open Fw
theorem l12Free_succ {l : List BItem} {k : Nat} {x : BItem} {s : List BHeld} (h : l[k]? = some x) : l12Free s (l.take (k + 1)) = (FileFree (l12Free s (l.take k)) x.ids).getD [] := by
 unfold l12Free
 rw [take_succ' h, List.foldl_append]
 rfl
theorem free_len (s : List BHeld) (ids : List Int) : ((FileFree s ids).getD []).length ≤ s.length := by
 cases e : FileFree s ids with
 | none => simp
 | some r =>
  unfold FileFree at e
  split at e
  ·exact foldB_inv (P := fun r : List BHeld => r.length ≤ s.length) (f := StoreDrop) (fun a b a' h1 h2 => Nat.le_trans (drop_len h2) h1) _ _ _ (Nat.le_refl _) e
  ·cases e
end Sp
namespace Sp
open Fw Nd
theorem names_nodup {l : List BSnap} : (∀ (k : Nat) (s : BSnap), l[k]? = some s → (k : Int) ≤ l12At l s.name) ↔ (l.map (·.name)).Nodup := by
 constructor
 ·intro h
  rw [List.nodup_iff_pairwise_ne, List.pairwise_map, List.pairwise_iff_getElem]
  intro i j hi hj hij e
  have h1 := h j l[j] (by simp)
  simp only [l12At] at h1
  cases e2 : atS l l[j].name with
  | none => rw [e2] at h1; simp [optI] at h1; omega
  | some m =>
   rw [e2] at h1
   obtain ⟨_, _, _, _, h4⟩ := at_some e2
   simp only [optI] at h1
   exact h4 i l[i] (by omega) (by simp) e
 ·intro h k s hs
  obtain ⟨hk, hk2⟩ := List.getElem?_eq_some_iff.1 hs
  simp only [l12At]
  cases e2 : atS l s.name with
  | none =>
   have := List.findIdx?_eq_none_iff.1 e2 s (List.mem_of_getElem? hs)
   simp at this
  | some m =>
   obtain ⟨s', h1, h2, h3, _⟩ := at_some e2
   simp only [optI]
   by_cases hm : m < k
   ·rw [List.nodup_iff_pairwise_ne, List.pairwise_map, List.pairwise_iff_getElem] at h
    obtain ⟨_, h1'⟩ := List.getElem?_eq_some_iff.1 h1
    exact absurd (by rw [h1', hk2, h2]) (h m k h3 hk hm)
   ·omega
theorem namesOK_iff {l : List BSnap} : NamesOK l ↔ l.length ≤ 6 ∧ (∀ s, s ∈ l → l1Word s.name = true) ∧ (l.map (·.name)).Nodup := by
 rw [← names_nodup]
 constructor
 ·rintro ⟨h1, h2⟩
  refine ⟨h1, fun s hs => ?_, fun k s hs => (h2 k s hs).2⟩
  obtain ⟨k, hk⟩ := List.getElem?_of_mem hs
  exact (h2 k s hk).1
 ·rintro ⟨h1, h2, h3⟩
  exact ⟨h1, fun k s hs => ⟨h2 s (List.mem_of_getElem? hs), h3 k s hs⟩⟩
theorem NamesOK.sub {l m : List BSnap} (h : NamesOK l) (hs : m.Sublist l) : NamesOK m := by
 obtain ⟨h1, h2, h3⟩ := namesOK_iff.1 h
 exact namesOK_iff.2 ⟨Nat.le_trans hs.length_le h1, fun s hm => h2 s (hs.subset hm), (hs.map _).nodup h3⟩
section
variable {d d1 : BDisk} {n : Bs} {p : Bs} {b : List Int}
theorem split_at {α : Type} {l : List α} {i : Nat} {x : α} (h : l[i]? = some x) : l = l.take i ++ x :: l.drop (i + 1) := by
 have := List.take_append_drop i l
 rw [drop_at h] at this
 exact this.symm
theorem back_hol (hd : DiskValid d = true) {i : Nat} {s : BSnap} {st : List BHeld} (hs : d.snaps[i]? = some s) (hk : l12Keep d.store s.tree = some st) :
  ∃ L', freeTs st d.tree = some L' ∧ l12Free st d.tree = L' ∧ DHol L' (s.tree :: d.snaps.map (·.tree)) ∧ ∀ a, us L' a = us d.store a + (cntL s.tree a : Int) - (cntL d.tree a : Int) ∧ (0 < us L' a → by_ L' a = by_ d.store a) := by
 obtain ⟨hN, hH⟩ := dd_iff.1 hd
 obtain ⟨g1, g2⟩ := keep_hol hH (snap_in hs) hk
 obtain ⟨L', k1, k2, k3, k4⟩ := free_hol (t := d.tree) (ts := s.tree :: d.snaps.map (·.tree)) (g1.perm (List.Perm.swap _ _ _))
 exact ⟨L', k1, k2, k3, fun a => ⟨by have := (g2 a).1; have := (k4 a).1; omega, fun ha => ((k4 a).2 ha).trans (g2 a).2⟩⟩
theorem back_valid (h : SnapBack d n = some d1) : DiskValid d1 = true := by
 obtain ⟨hd, i, s, st, hi, hs, hsn, hk, rfl⟩ := back_get h
 obtain ⟨L', _, k2, k3, _⟩ := back_hol hd hs hk
 refine dd_iff.2 ⟨(dd_iff.1 hd).1, ?_⟩
 show DHol (l12Free st d.tree) _
 rw [k2]
 exact k3
theorem take_at (h : SnapTake d n = some d1) : atS d1.snaps n = some d.snaps.length ∧ d1.snaps[d.snaps.length]? = some ⟨n, d.tree⟩ := by
 obtain ⟨hd, hw, hn, hl, s, hk, rfl⟩ := take_get h
 have hn' : d.snaps.findIdx? (fun x => decide (x.name = n)) = none := hn
 refine ⟨?_, by simp⟩
 simp only [atS, List.findIdx?_append, hn']
 simp
theorem dwrite_get (h : DiskWrite d p b = some d1) : DiskValid d = true ∧ FileValid b = true ∧ ∃ v, l11Write ⟨d.store, d.tree⟩ p b = some v ∧ d1 = ⟨v.store, v.tree, d.snaps⟩ := by
 unfold DiskWrite at h
 split at h
 ·rename_i hc
  simp only [Bool.and_eq_true] at hc
  obtain ⟨v, h1, h2⟩ := Option.map_eq_some_iff.1 h
  exact ⟨hc.1, hc.2, v, h1, h2.symm⟩
 ·cases h
theorem DHol.hol {L : List BHeld} {t : List BItem} {ts : List (List BItem)} (h : DHol L (t :: ts)) : Hol L t :=
 ⟨h.vh, h.vt t (by simp), h.ids t (by simp), fun a => by have := h.use a; rw [cntD_cons] at this; omega⟩
theorem dwrite_valid (h : DiskWrite d p b = some d1) : DiskValid d1 = true := by
 obtain ⟨hd, hb, v, hv, rfl⟩ := dwrite_get h
 obtain ⟨hN, hH⟩ := dd_iff.1 hd
 refine dd_iff.2 ⟨hN, ?_⟩
 show DHol v.store (v.tree :: d.snaps.map (·.tree))
 unfold l11Write at hv
 split at hv
 ·cases hv
 ·rename_i r hst
  obtain ⟨s, ids⟩ := r
  split at hv
  ·cases hv
  ·rename_i t ht
   obtain ⟨s', _, _, g1, g2, g3⟩ := write_ok (DHol.hol (ts := d.snaps.map (·.tree)) hH) hst ht
   obtain ⟨_, _, hsu, _⟩ := store_ok hH.vh hst
   have hv' : l11Write ⟨d.store, d.tree⟩ p b = some v := by
    simp only [l11Write, hst, ht]
    exact hv
   rw [g1] at hv'
   cases hv'
   have hu : ∀ a, us s' a = (cntD (t :: d.snaps.map (·.tree)) a : Int) := fun a => by
    have h1 := hH.use a
    have h2 : us s' a = us d.store a + (cntL t a : Int) - (cntL d.tree a : Int) := (g3 a).1
    simp only [trees, cntD_cons] at h1
    rw [cntD_cons]
    omega
   refine ⟨g2.vh, fun u hu2 => ?_, fun u hu2 x hx => ?_, hu⟩
   ·rcases List.mem_cons.1 hu2 with rfl | hu2
    ·exact g2.vt
    ·exact hH.vt u (List.mem_cons.2 (.inr hu2))
   ·rcases List.mem_cons.1 hu2 with rfl | hu2
    ·exact g2.ids x hx
    ·refine ids_keep hH.vh g2.vh (fun a ha => ?_) (hH.ids u (List.mem_cons.2 (.inr hu2)) x hx)
     have h1 : 0 < cnt1 a x.ids := cnt1_pos.2 ha
     have h2 := cntL_mem hx a
     have h3 := cntD_mem hu2 a
     have h4 := hu a
     rw [cntD_cons] at h4
     have h5 : 0 < us s' a := by omega
     have h6 := hH.use a
     simp only [trees, cntD_cons] at h6
     exact ⟨h5, ((g3 a).2 h5).trans ((hsu a).2 (by omega))⟩
end
end Sp
namespace Fw
open Go
section ops
variable {P : Program} {n : Nat} {ops : Array Oper} {Q : Post} {rest : List Oper} {L : Slots} {ds : List Deferred} {w w0 : World} {G0 : PH} {S : List Nat} {G : PH} {B : List Res}
variable {ty : TypeId} {ps : String} {af : Array Edge}
end ops
theorem All2.del {α β : Type} {R : α → β → Prop} {l : List α} {m : List β} (h : All2 R l m) : ∀ (i : Nat), All2 R (l.take i ++ l.drop (i + 1)) (m.take i ++ m.drop (i + 1)) := by
 induction h with
 | nil => intro i; simp; exact .nil
 | cons h t ih =>
  intro i
  cases i with
  | zero => simpa using t
  | succ i => simpa using .cons h (ih i)
end Fw
namespace Fw
open Sp
theorem sn_at {xs : List (Bs × Nd)} {L : List BSnap} {n : Bs} (h : SnOK xs L) (hc : ¬ optI (xs.findIdx? (fun x => decide (x.1 = n))) < 0) :
  ∃ (i : Nat) (x : Bs × Nd) (s : BSnap), optI (xs.findIdx? (fun x => decide (x.1 = n))) = (i : Int) ∧ xs[i]? = some x ∧ L[i]? = some s ∧ atS L n = some i ∧ Nd.TOK x.2 s.tree ∧ i < xs.length := by
 have hf := sn_find h n
 cases e : xs.findIdx? (fun x => decide (x.1 = n)) with
 | none => rw [e] at hc; simp [optI] at hc
 | some i =>
  rw [e] at hf
  obtain ⟨h1, h2, h3⟩ := List.findIdx?_eq_some_iff_getElem.1 e
  obtain ⟨s, h4, h5⟩ := h.at (i := i) (x := xs[i]) (by simp)
  exact ⟨i, xs[i], s, rfl, by simp, h4, hf.symm, h5.2.1, h1⟩
end Fw
namespace Sp
open Fw
section
variable {d d1 : BDisk} {n : Bs} {p : Bs} {b : List Int}
theorem back_isv (h : SnapBack d n = some d1) : DiskValid d = true := (back_get h).1
theorem dwrite_isv (h : DiskWrite d p b = some d1) : DiskValid d = true := (dwrite_get h).1
theorem back_eq (hd : DiskValid d = true) {i : Nat} {s : BSnap} (hi : atS d.snaps n = some i) (hs : d.snaps[i]? = some s) : SnapBack d n = (l12Keep d.store s.tree).map (fun st => ⟨l12Free st d.tree, s.tree, d.snaps⟩) := by
 unfold SnapBack
 rw [hi]
 simp only [hd, if_true, hs, Option.map_some, Option.getD_some]
theorem back_noat (h : optI (atS d.snaps n) < 0) : SnapBack d n = none := by
 cases e : atS d.snaps n with
 | none => unfold SnapBack; rw [e]
 | some i => rw [e] at h; simp only [optI] at h; omega
theorem back_nov (h : DiskValid d = false) : SnapBack d n = none := by
 cases e : SnapBack d n with
 | none => rfl
 | some q => rw [back_isv e] at h; cases h
theorem dk_lim {o : Option BDisk} (h : ∀ d1, o = some d1 → DiskValid d1 = true) : ((o.map (·.snaps)).getD []).length ≤ 6 := by
 cases o with
 | none => simp
 | some d1 => exact (dv_parts.1 (h d1 rfl)).2.2.1
end
end Sp
namespace Sp
open Fw
theorem l12Free_len : ∀ (l : List BItem) (s : List BHeld), (l12Free s l).length ≤ s.length
 | [], s => by simp [l12Free]
 | x :: r, s => by
  have h1 := free_len s x.ids
  have h2 := l12Free_len r ((FileFree s x.ids).getD [])
  have : l12Free s (x :: r) = l12Free ((FileFree s x.ids).getD []) r := by simp [l12Free]
  rw [this]
  omega
end Sp
namespace Sp
open Fw
theorem freeOld_len (s : List BHeld) (l : List BItem) : (freeOld s l).length ≤ s.length := by
 cases l with
 | nil => exact Nat.le_refl _
 | cons x r => exact free_len s x.ids
theorem l11Write_slen (v : BVol) (p : Bs) (b : List Int) : (((l11Write v p b).map (·.store)).getD []).length ≤ 16 := by
 have h := fileStore_len v.store b
 unfold l11Write
 cases e : FileStore v.store b with
 | none => simp
 | some r =>
  rw [e] at h
  simp only [Option.map_some, Option.getD_some] at h
  have h2 := freeOld_len r.1 (l11Ids v.tree p)
  cases e2 : TreePut v.tree ⟨p, false, r.2⟩ with
  | none => simp [e2]
  | some t => simp [e2]; omega
end Sp
namespace Sp
open Fw
end Sp
namespace Fw
open Go
end Fw
namespace Fw
open Go
end Fw
namespace Sp
open Fw Nd
def FileLoad (L : List BHeld) (ids : List Int) : Option (List Int) := if StoreValid L && l4Ids L ids then some (load L ids) else none
def TreeFind (l : List BItem) (p : Bs) : Option BItem := if TreeValid l then (atI l p).bind (fun i => l[i]?) else none
def readT (d : BDisk) (p : Bs) : Option (List Int) := match TreeFind d.tree p with
 | none => none
 | some x => if x.dir then none else FileLoad d.store x.ids
def SnapRead (d : BDisk) (n p : Bs) : Option (List Int) := match atS d.snaps n with
 | none => none
 | some i => if DiskValid d then readF d.store (((d.snaps[i]?).map (·.tree)).getD []) p else none
theorem rd_same {R : Option (List Int)} {a b : List Int} (ha : ∀ ys, R = some ys → a = ys) (ha' : R = none → a = []) (hb : ∀ ys, R = some ys → b = ys) (hb' : R = none → b = []) : a = b := by
 cases R with
 | none => rw [ha' rfl, hb' rfl]
 | some ys => rw [ha _ rfl, hb _ rfl]
theorem readF_same {L L' : List BHeld} {l : List BItem} (h : ∀ x, x ∈ l → ∀ a, a ∈ x.ids → by_ L' a = by_ L a) (p : Bs) : readF L' l p = readF L l p := by
 unfold readF
 cases e : l11Ids l p with
 | nil => rfl
 | cons o r =>
  have ho : o ∈ l := by
   unfold l11Ids at e
   split at e
   ·split at e
    ·rename_i x hx
     split at e
     ·cases e
     ·simp only [List.cons.injEq] at e
      rw [← e.1]
      exact List.mem_of_getElem? hx
    ·cases e
   ·cases e
  simp only [load]
  congr 2
  exact List.map_congr_left (fun a ha => h o ho a ha)
theorem readT_eq {d : BDisk} (hv : DiskValid d = true) (p : Bs) : readT d p = readF d.store d.tree p := by
 obtain ⟨hN, hH⟩ := dd_iff.1 hv
 have ht := tvalid_iff.2 (hH.vt d.tree (by simp [trees]))
 unfold readT TreeFind readF l11Ids
 rw [if_pos ht]
 cases e : atI d.tree p with
 | none => rfl
 | some i =>
  simp only [Option.bind_some]
  cases e2 : d.tree[i]? with
  | none => rfl
  | some x =>
   have hi := hH.ids d.tree (by simp [trees]) x (List.mem_of_getElem? e2)
   have hs := valid_iff.2 hH.vh
   by_cases hd : x.dir = true
   ·simp [hd]
   ·simp [hd, FileLoad, hs, hi]
theorem take_readS {d d1 : BDisk} {n : Bs} (h : SnapTake d n = some d1) (p : Bs) : SnapRead d1 n p = readT d p := by
 have hv1 := take_valid h
 obtain ⟨h1, h2⟩ := take_at h
 obtain ⟨hd, hw, hn, hl, s, hk, rfl⟩ := take_get h
 rw [readT_eq hd]
 obtain ⟨_, hH⟩ := dd_iff.1 hd
 obtain ⟨_, g2⟩ := keep_hol hH (t := d.tree) (by simp [trees]) hk
 unfold SnapRead
 rw [h1]
 simp only [hv1, if_true, h2, Option.map_some, Option.getD_some]
 exact readF_same (fun x _ a _ => (g2 a).2) p
end Sp
namespace Sp
open Fw Nd
theorem tf_bad {l : List BItem} {p : Bs} (h : TreeValid l = false) : TreeFind l p = none := by simp [TreeFind, h]
theorem tf_no {T : Nd} {l : List BItem} {p : Bs} (h : TOK T l) (hf : T.find p = none) : TreeFind l p = none := by
 have := find_list h p
 rw [hf] at this
 unfold TreeFind
 split
 ·exact this.symm
 ·rfl
theorem tf_yes {T d : Nd} {l : List BItem} {p : Bs} (h : TOK T l) (hf : T.find p = some d) : TreeFind l p = some ⟨p, d.dir, d.ids⟩ := by
 have := find_list h p
 rw [hf] at this
 unfold TreeFind
 rw [if_pos (tvalid_iff.2 h.vt)]
 exact this.symm
theorem readT_no1 {d : BDisk} {p : Bs} (h : (TreeFind d.tree p).isSome = false) : readT d p = none := by
 unfold readT
 cases e : TreeFind d.tree p with
 | none => rfl
 | some x => rw [e] at h; cases h
theorem readT_no2 {d : BDisk} {p : Bs} (h : ((TreeFind d.tree p).getD ⟨[], false, []⟩).dir = true) : readT d p = none := by
 unfold readT
 cases e : TreeFind d.tree p with
 | none => rfl
 | some x => rw [e] at h; simp only [Option.getD_some] at h; simp [h]
theorem readT_yes {d : BDisk} {p : Bs} (h1 : (TreeFind d.tree p).isSome = true) (h2 : ((TreeFind d.tree p).getD ⟨[], false, []⟩).dir = false) : readT d p = FileLoad d.store ((TreeFind d.tree p).getD ⟨[], false, []⟩).ids := by
 unfold readT
 cases e : TreeFind d.tree p with
 | none => rw [e] at h1; cases h1
 | some x => rw [e] at h2; simp only [Option.getD_some] at h2; simp [h2]
theorem snapread_noat {d : BDisk} {n p : Bs} (h : optI (atS d.snaps n) < 0) : SnapRead d n p = none := by
 cases e : atS d.snaps n with
 | none => unfold SnapRead; rw [e]
 | some i => rw [e] at h; simp only [optI] at h; omega
theorem snapread_nov {d : BDisk} {n p : Bs} (h : DiskValid d = false) : SnapRead d n p = none := by
 unfold SnapRead
 split
 ·rfl
 ·simp [h]
theorem snapread_eq {d : BDisk} (hd : DiskValid d = true) {n p : Bs} {i : Nat} {s : BSnap} {T : Nd} (hi : atS d.snaps n = some i) (hs : d.snaps[i]? = some s) (hT : TOK T s.tree) : SnapRead d n p = readN d.store T p := by
 obtain ⟨_, hH⟩ := dd_iff.1 hd
 rw [read_eq (hH.ids s.tree (snap_in hs)) hT]
 unfold SnapRead
 rw [hi]
 simp only [hd, if_true, hs, Option.map_some, Option.getD_some]
end Sp
namespace Sp
open Fw
end Sp
namespace Fw
open Go
section
variable {P : Program} {n : Nat} {Q : Post} {L : Slots} {ds : List Deferred} {w : World}
def JP (n : Nat) (ds : List Deferred) (Lf : Slots) (J : Slots → World → Prop) : Post := fun e a w => e = .normal ∧ ∃ M, FrL n (M ++ Lf) ds a ∧ J M w
theorem W_join {x y : Code} (Lf : Slots) (J : Slots → World → Prop) (hf : Sub Lf L) (first : W P n (JP n ds Lf J) x L ds w) (second : ∀ M w, J M w → W P n Q y (M ++ Lf) ds w) : W P n Q (.seq x y) L ds w :=
 W_seq (fun a ha => wp_mono (first a ha) (fun e a' w' hq => by
  obtain ⟨he, M, hF, hJ⟩ := hq
  subst he
  exact second M w' hJ a' hF))
theorem N_J {Lf : Slots} {J : Slots → World → Prop} {M : Slots} (hJ : J M w) (hM : Sub M L := by (repeat (first | exact Sub.nil | refine Sub.cons rfl ?_))) (hf : Sub Lf L := by (repeat (first | exact Sub.nil | refine Sub.cons rfl ?_))) : N n (JP n ds Lf J) .normal L ds w :=
 fun _ ha => ⟨rfl, M, ha.sub (hM.app hf), hJ⟩
end
end Fw
namespace Sp
open Fw Nd
theorem dwrite_vol {d d1 : BDisk} {p : Bs} {b : List Int} (h : DiskWrite d p b = some d1) (hs : d.snaps = []) : VolumeWrite ⟨d.store, d.tree⟩ p b = some ⟨d1.store, d1.tree⟩ := by
 obtain ⟨hd, hb, v, hv, rfl⟩ := dwrite_get h
 obtain ⟨_, hH⟩ := dd_iff.1 hd
 have hvv : VolumeValid ⟨d.store, d.tree⟩ = true := vv_iff.2 ⟨hH.vh, hH.vt d.tree (by simp [trees]), hH.ids d.tree (by simp [trees]), fun a => by
  rw [hH.use a, trees, hs, cntD_cons]
  simp [cntD]⟩
 unfold VolumeWrite
 rw [if_pos (by simp [hvv, hb])]
 exact hv
end Sp
namespace Sp
open Fw Nd
def ids (L : List BHeld) : List Int := L.map (·.id)
end Sp
namespace Fw
open Go
theorem nrm : (∀ (p : Prop) [Decidable p], (decide p = true) = p) ∧ (∀ (p : Prop) [Decidable p], (decide p = false) ↔ ¬p) ∧ (∀ {b : Bool}, ((!b) = true) = (b = false)) ∧ (∀ {b : Bool}, ((!b) = false) = (b = true)) ∧
  (∀ {a b : Bool}, ((!a) = b) ↔ (a = !b)) ∧ ((!true) = false) ∧ ((!false) = true) ∧ (∀ {a b : Int}, (¬ a < b) ↔ b ≤ a) ∧ (∀ {a b : Int}, (¬ a ≤ b) ↔ b < a) ∧ (∀ (x y : Bool), ((x && y) = true) = (x = true ∧ y = true)) ∧ (∀ (x y : Bool), ((x || y) = true) = (x = true ∨ y = true)) ∧
  (∀ (x y : Bool), ((x && y) = false) = (x = false ∨ y = false)) ∧ (∀ (x y : Bool), ((x || y) = false) = (x = false ∧ y = false)) ∧ (∀ {α : Type} [BEq α] [LawfulBEq α] {a b : α}, ((a == b) = true) ↔ a = b) ∧ (∀ {α : Type} [BEq α] [LawfulBEq α] {x y : α}, ((x == y) = false) ↔ x ≠ y) ∧ (∀ (b : Bool), decide (b = true) = b) := by
 refine ⟨?_, ?_, ?_, ?_, ?_, ?_, ?_, ?_, ?_, ?_, ?_, ?_, ?_, ?_, ?_, ?_⟩ <;> intros <;> first | rfl | (simp only [decide_eq_true_eq, decide_eq_false_iff_not, Bool.not_eq_true', Bool.not_eq_false', Bool.not_eq_eq_eq_not, Bool.not_true, Bool.not_false, Int.not_lt, Int.not_le, Bool.and_eq_true, Bool.or_eq_true, Bool.and_eq_false_iff, Bool.or_eq_false_iff, beq_iff_eq, beq_eq_false_iff_ne, Bool.decide_eq_true]) | simp
section
variable {P : Program} {n : Nat} {Q : Post} {L : Slots} {ds : List Deferred} {w : World} {ops : Array Oper} {y c : Code} {id : Nat} {l : List Oper}
theorem q1 (h : R P n l.toArray (K P y Q) l L ds w) : R P n ops (K P (.seq (.region id l.toArray false) y) Q) [] L ds w := R_nil (N_K (W_seq (W_region h)))
theorem q2 (h : R P n l.toArray (K P y Q) l L ds w) : W P n Q (.seq (.region id l.toArray false) y) L ds w := W_seq (W_region h)
theorem q3 (h : W P n Q c L ds w) : R P n ops (K P c Q) [] L ds w := R_nil (N_K h)
variable {d : Nat} {op : Op} {ty : TypeId} {ps : String} {af : Array Edge} {S : World → Prop} {f : Nat} {ls : Array Bool} {v : Value} {j : Nat} {b : Bool}
def rdy (l : List Oper) (ls : Array Bool) (i : Nat) : Bool := Region.noSelect l.toArray && Region.free .any l.toArray ls i && (Region.ready .any l.toArray ls).contains i
theorem RD_t (i : Nat) (hi : nth l i = some ⟨some d, op, ty, ps, af, none⟩) (hb : rdy l ls i = true) (hd : Nat.blt d n = true) (hv : ∀ w, S w → VAL P n L ds w ⟨some d, op, ty, ps, af, none⟩ v)
  (h : RD P n l Q S f (ls.setIfInBounds i true) ((d, v) :: L) ds w) : RD P n l Q S (f + 1) ls L ds w := by
 simp only [rdy, Bool.and_eq_true] at hb
 exact RD_take i hi hb.1.1 hb.1.2 hb.2 hd hv h
theorem RD_tg (i : Nat) (hi : nth l i = some ⟨some d, op, ty, ps, af, some (j, b)⟩) (hb : rdy l ls i = true) (hd : Nat.blt d n = true) (hy : ∀ a, FrL n L ds a → yielded l.toArray a.tmps j = some b) (hv : ∀ w, S w → VAL P n L ds w ⟨some d, op, ty, ps, af, none⟩ v)
  (h : RD P n l Q S f (ls.setIfInBounds i true) ((d, v) :: L) ds w) : RD P n l Q S (f + 1) ls L ds w := by
 simp only [rdy, Bool.and_eq_true] at hb
 exact RD_takeg i hi hb.1.1 hb.1.2 hb.2 hd hy hv h
end
theorem Z.{u} {α : Sort u} {a : α} : a = a := rfl
theorem kR {p : Prop} (h : p := by kernel_rfl) : p := h
theorem oM {p : Prop} (h : p := by omega) : p := h
theorem oO {a b : Prop} (h : (a ∧ b) := by exact ⟨by omega, by omega⟩) : a ∧ b := h
theorem aN {p : Prop} (h : p := by first | assumption | rfl | (simp; done) | (simp; omega) | omega) : p := h
def odl (n d : Nat) (L : Slots) (x : Operand) : Option Value := cond (Nat.blt d n) (od L x) none
theorem odl_some {n d : Nat} {L : Slots} {x : Operand} {v : Value} (h : odl n d L x = some v) : Nat.blt d n = true ∧ od L x = some v := by
 unfold odl at h
 cases e : Nat.blt d n with
 | true => rw [e] at h; exact ⟨rfl, h⟩
 | false => rw [e] at h; cases h
def passOk (n d : Nat) (l : List Oper) (L : Slots) (i : Nat) (c : Bool) : Bool := Nat.blt d n && match gs l i with
 | some t => (match lk L t with | some (.bool b) => !(b == c) | _ => false)
 | none => false
def guardOk (l : List Oper) (L : Slots) (i : Nat) (c : Bool) : Bool := match gs l i with
 | some t => (match lk L t with | some (.bool b) => (b == c) | _ => false)
 | none => false
section
variable {P : Program} {n : Nat} {Q : Post} {L : Slots} {ds : List Deferred} {w : World} {ops : Array Oper} {l rest : List Oper} {ty : TypeId} {ps : String} {af : Array Edge} {d : Nat} {x : Operand} {v : Value} {op : Op} {i : Nat} {b : Bool} {S : World → Prop} {f : Nat} {ls : Array Bool}
theorem mV (h : odl n d L x = some v) (next : R P n ops Q rest ((d, v) :: L) ds w) : R P n ops Q (⟨some d, .move x, ty, ps, af, none⟩ :: rest) L ds w := o_move (odl_some h).1 (odl_some h).2 next
theorem aG (h : odl n d L x = some v) (next : R P n ops Q rest ((d, v) :: L) ds w) : R P n ops Q (⟨some d, .assign x, ty, ps, af, none⟩ :: rest) L ds w := o_assign (odl_some h).1 (odl_some h).2 next
theorem rP (h : passOk n d l L i b = true) (next : R P n l.toArray Q rest ((d, undef) :: L) ds w) : R P n l.toArray Q (⟨some d, op, ty, ps, af, some (i, b)⟩ :: rest) L ds w := by
 unfold passOk at h
 simp only [Bool.and_eq_true] at h
 obtain ⟨h1, h2⟩ := h
 cases e : gs l i with
 | none => rw [e] at h2; cases h2
 | some t =>
  rw [e] at h2
  simp only at h2
  split at h2
  ·rename_i c e2
   exact R_pass h1 (yl_ne e e2 (by simpa using h2)) next
  ·cases h2
theorem gR {dd : Option Nat} (h : guardOk l L i b = true) (next : R P n l.toArray Q (⟨dd, op, ty, ps, af, none⟩ :: rest) L ds w) : R P n l.toArray Q (⟨dd, op, ty, ps, af, some (i, b)⟩ :: rest) L ds w := by
 unfold guardOk at h
 cases e : gs l i with
 | none => rw [e] at h; cases h
 | some t =>
  rw [e] at h
  simp only at h
  split at h
  ·rename_i c e2
   obtain rfl : c = b := by simpa using h
   exact R_guard (yl e e2) next
  ·cases h
theorem vM (i : Nat) (hi : nth l i = some ⟨some d, .move x, ty, ps, af, none⟩) (h : odl n d L x = some v) (next : RD P n l Q S f (ls.setIfInBounds i true) ((d, v) :: L) ds w) (hb : rdy l ls i = true := by kernel_rfl) : RD P n l Q S (f + 1) ls L ds w :=
 RD_t i hi hb (odl_some h).1 (fun _ _ => v_move (odl_some h).2) next
end
section
variable {n : Nat} {P : Program} {Q : Post} {L : Slots} {ds : List Deferred} {w : World} {fn : Func} {C : Ending → World → Prop}
theorem rt1 {t : Nat} {v : Value} (hr : fn.results = #[.tmp t]) (h : lk L t = some v) (hR : C (.returned (tupleOf [v])) w) : N n (bodyPost P fn C) .ret L [] w := ret_gen (rs := [.tmp t]) (vs := [v]) hr ⟨h, trivial⟩ hR
theorem rt2 {t t2 : Nat} {v v2 : Value} (hr : fn.results = #[.tmp t, .tmp t2]) (h : lk L t = some v) (h2 : lk L t2 = some v2) (hR : C (.returned (tupleOf [v, v2])) w) : N n (bodyPost P fn C) .ret L [] w := ret_gen (rs := [.tmp t, .tmp t2]) (vs := [v, v2]) hr ⟨h, h2, trivial⟩ hR
theorem W_lp {c : Code} (Lf : Slots) (J : Slots → World → Nat → Prop) (M0 : Slots) (m0 : Nat) (hf : Sub Lf L) (h0 : J M0 w m0)
  (round : ∀ M w m, J M w m → W P n (LP n ds Lf J m Q) c (M ++ Lf) ds w) (hM : Sub M0 L := by repeat (first | exact Sub.nil | refine Sub.cons rfl ?_)) : W P n Q (.loop c) L ds w := W_loop Lf J M0 m0 hf hM h0 round
theorem N_lp {Lf : Slots} {J : Slots → World → Nat → Prop} {m : Nat} {M : Slots} {m' : Nat} (hJ : J M w m') (hm : m' < m) (hM : Sub M L := by repeat (first | exact Sub.nil | refine Sub.cons rfl ?_)) (hf : Sub Lf L := by repeat (first | exact Sub.nil | refine Sub.cons rfl ?_)) : N n (LP n ds Lf J m Q) .normal L ds w := N_LP hJ hM hf hm
end
end Fw
namespace Go.Proofs.Tst
open Go Fw Tryz
theorem bf27 : BuildFact Tryz.prog 27 [(0, 1), (1, 1), (2, 1)] [.slice none 0 0, .slice none 0 0, .slice none 0 0] := buildFact zeroValue27 runUnderlying27 (fun w => by simp [sizeOf23, sizeOf24, sizeOf25])
theorem bf37 : BuildFact Tryz.prog 37 [(0, 1), (1, 1), (2, 1)] [str [], .bool false, .slice none 0 0] := buildFact zeroValue37 runUnderlying37 (fun w => by simp [sizeOf4, sizeOf9, sizeOf33])
theorem bf47 : BuildFact Tryz.prog 47 [(0, 1), (1, 1)] [.slice none 0 0, .slice none 0 0] := buildFact zeroValue47 runUnderlying47 (fun w => by simp [sizeOf23, sizeOf24])
theorem bf81 : BuildFact Tryz.prog 81 [(0, 1), (1, 1)] [str [], .slice none 0 0] := buildFact zeroValue81 runUnderlying81 (fun w => by simp [sizeOf9, sizeOf24])
theorem bf99 : BuildFact Tryz.prog 99 [(0, 1), (1, 1)] [.map none, .pointer none] := buildFact zeroValue99 runUnderlying99 (fun w => by simp [sizeOf96, sizeOf97])
theorem bf105 : BuildFact Tryz.prog 105 [(0, 1), (1, 1), (2, 1)] [.int .i64 0, .slice none 0 0, .int .i64 0] := buildFact zeroValue105 runUnderlying105 (fun w => by simp [sizeOf3, sizeOf33])
theorem bf118 : BuildFact Tryz.prog 118 [(0, 1), (1, 1)] [.slice none 0 0, .int .i64 0] := buildFact zeroValue118 runUnderlying118 (fun w => by simp [sizeOf3, sizeOf22])
theorem bf131 : BuildFact Tryz.prog 131 [(0, 2), (2, 2), (4, 1)] [.int .i32 0, .int .u32 0, .map none, .pointer none, .slice none 0 0] := buildFact zeroValue131 runUnderlying131 (fun w => by simp [sizeOf99, sizeOf128, sizeOf129])
theorem bf135 : BuildFact Tryz.prog 135 [(0, 1), (1, 1)] [str [], .pointer none] := buildFact zeroValue135 runUnderlying135 (fun w => by simp [sizeOf9, sizeOf97])
theorem bf149 : BuildFact Tryz.prog 149 [(0, 1), (1, 1), (2, 1), (3, 1)] [str [], .bool false, .slice none 0 0, .slice none 0 0] := buildFact zeroValue149 runUnderlying149 (fun w => by simp [sizeOf4, sizeOf9, sizeOf33, sizeOf147])
theorem bf195 : BuildFact Tryz.prog 195 [(0, 1), (1, 1)] [.slice none 0 0, .int .i64 0] := buildFact zeroValue195 runUnderlying195 (fun w => by simp [sizeOf3, sizeOf33])
end Go.Proofs.Tst

namespace Go.Proofs.Tst
open Go Fw Tryz
theorem l_Equal_c (w0 : World) (G0 : PH) (hG : PSub G0 w0) (va : Value) (a : List (Int)) (ha : RdI G0 va a) (vb : Value) (b : List (Int)) (hb : RdI G0 vb b)  :
  Calls Tryz.prog 189 #[va, vb] w0 (Rets w0 (.bool (Sp.l2Same a b))) := by
 obtain ⟨aa, ka, rfl⟩ := ha.shape
 have hlima : a.length ≤ 1099511627776 := ha.lim
 obtain ⟨ab, kb, rfl⟩ := hb.shape
 have hlimb : b.length ≤ 1099511627776 := hb.lim
 have H := Hp.init hG
 refine calls_of_W (l := [.slice aa a.length ka, .slice ab b.length kb]) func189 Z ntmps189 Z (q2 (aG Z (q3 (W_seq (q2 (mV Z (o_len_slice underlying33 Z Z (mV Z (o_len_slice underlying33 Z Z (o_neq Z Z Z (q3 ?_)))))))))))
 refine W_cond Z ?_ ?_
 ·intro hc1
  try simp only [nrm] at hc1
  refine q2 (aG Z (q3 (W_ret (N_K_ret (rt1 results189 Z ?_)))))
  exact H.rets (congrArg Value.bool (by unfold Sp.l2Same; exact Sp.ne_len oM))
 intro hc1'
 try simp only [nrm] at hc1'
 refine W_skip (N_K (W_seq (q2 (mV Z (o_len_slice underlying33 Z Z (mV Z (q3 (W_block ?_))))))))
 refine W_lp (hf := (Sub.cons (t := 0) Z (Sub.cons (t := 1) Z (Sub.cons (t := 12) Z Sub.nil)))) (J := fun M w m => ∃ (k : Nat) (G : PH), M = [(13, .int .i64 (k : Int))] ∧ PLe G0 G ∧ Hp w0 G0 [] w G [] ∧ (k ≤ a.length ∧ a.take k = b.take k) ∧ m = (a.length - k)) (h0 := ⟨0, _, Z, PLe.refl _, H, ?inv, Z⟩) (round := ?round)
 case inv => exact ⟨by omega, by simp⟩
 case round =>
  rintro _ w2 _ ⟨k, G2, rfl, hle2, H, hinv2, rfl⟩
  have ha := ha.up hle2
  have hb := hb.up hle2
  obtain ⟨hk, hall⟩ := hinv2
  refine q2 (o_lss Z Z Z (q3 (W_seq ?_)))
  refine W_cond Z ?_ ?_
  ·intro hc3
   try simp only [nrm] at hc3
   refine W_skip (N_K (W_seq (W_block (q2 (mV Z (aG Z (q3 (W_seq (W_drawK [] 9 H kR Z ?_))))))))); intro w4 H; have hd4 := PLe.refl G2
   refine vM 0 Z Z (vM 1 Z Z ?_)
   have hl5 := ha.len
   obtain ⟨b5, o5, z5, q5, ha5, hz5, hq5, hE5, hrow5, _⟩ := ha.at (i := k) oM
   clear hq5
   obtain ⟨rfl, hi5⟩ := hE5
   refine RD_t 2 Z kR Z (fun _ hK => v_index_P (i := k) ha5 underlying33 sizeOf3 Z Z Z oM) (RD_t 3 Z kR Z (fun _ hK => v_load_P hK isAgg3 Z (hrow5 0 _ Z)) (vM 4 Z Z (vM 5 Z Z ?_)))
   have hl6 := hb.len
   obtain ⟨b6, o6, z6, q6, ha6, hz6, hq6, hE6, hrow6, _⟩ := hb.at (i := k) oM
   clear hq6
   obtain ⟨rfl, hi6⟩ := hE6
   refine RD_t 6 Z kR Z (fun _ hK => v_index_P (i := k) ha6 underlying33 sizeOf3 Z Z Z oM) (RD_t 7 Z kR Z (fun _ hK => v_load_P hK isAgg3 Z (hrow6 0 _ Z)) (RD_t 8 Z kR Z (fun _ hK => v_neq Z Z) (RD_done kR (N_K ?_))))
   refine W_cond Z ?_ ?_
   ·intro hc7
    try simp only [nrm] at hc7
    refine q2 (aG Z (q3 (W_ret (N_B_ret (N_K_ret (N_LP_ret (N_B_ret (N_K_ret (rt1 results189 Z ?_)))))))))
    exact H.rets (congrArg Value.bool (by unfold Sp.l2Same; exact Sp.ne_at hz5 hz6 oM))
   intro hc7'
   try simp only [nrm] at hc7'
   refine W_skip (N_B (N_K (W_region (o_add Z Z Z oO (mV Z (R_nil ?_))))))
   refine N_lp (hJ := ⟨k + 1, _, Z, hle2, H, ?inv, Z⟩) (hm := ?hm)
   case hm => omega
   case inv => exact ⟨by omega, Sp.take_eq hall hz5 (by rw [hz6]; congr 1; omega)⟩
  intro hc3'
  try simp only [nrm] at hc3'
  refine W_exit (N_K_exit (N_LP_exit (N_B_same (N_K (q2 (aG Z (q3 (W_ret (rt1 results189 Z ?_)))))))))
  exact H.rets (congrArg Value.bool (by unfold Sp.l2Same; exact Sp.eq_all hall oM oM))
theorem l_Clone_c (w0 : World) (G0 : PH) (hG : PSub G0 w0) (vl : Value) (l : List (Int)) (hl : RdI G0 vl l)  :
  Calls Tryz.prog 141 #[vl] w0 (RetO w0 G0 (AccOf intE 1 3 l)) := by
 obtain ⟨al, kl, rfl⟩ := hl.shape
 have hliml : l.length ≤ 1099511627776 := hl.lim
 have H := Hp.init hG
 refine calls_of_W (l := [.slice al l.length kl]) func141 Z ntmps141 Z (q2 (aG Z (q3 (W_seq (q2 (mV Z (o_eqnil_slice underlying33 Z Z Z (q3 ?_))))))))
 refine W_cond Z ?_ ?_
 ·intro hc1
  try simp only [nrm] at hc1
  refine q2 (aG Z (q3 (W_ret (N_K_ret (rt1 results141 Z ?_)))))
  obtain rfl : al = none := by simpa using hc1
  obtain rfl : l = [] := by obtain ⟨_, _, h1, _, _, h2⟩ := hl; rcases h2 with h2 | ⟨b, o, h2, _⟩; (· exact h2); simp only [Value.slice.injEq] at h1; rw [← h1.1] at h2; cases h2
  have H := H.addNil 3 1
  exact H.retO (k := 0) Z (AccOf.mk Z Chk.nil) (acc_nd _ _ _ _ _)
 intro hc1'
 try simp only [nrm] at hc1'
 refine W_skip (N_K (q2 (o_buildSlice H underlying33 sizeOf3 (fun w => ⟨_, zeroValue3 w, Z⟩) Z Z Z Z Z Z Z ?_))); intro b2 w2 hb2 H
 have H := H.blkAcc 1 (k := 0) (n := 0) rfl rfl (by decide)
 refine mV Z ?_
 refine o_append_P 0 H hl (by intro z cs hz u hu; obtain ⟨rfl, _⟩ := hz; simp at hu; subst hu; rfl) (sz := 1) (bytes := 8) underlying33 typeInfo3 ⟨_, rfl, rfl⟩ rfl rfl rfl rfl rfl rfl rfl oM rfl ?_; intro v3 w3 css3 hcl3 hcs3 H
 have hchk3 : Chk intE 1 G0 ([] ++ css3.flatten) _ := ⟨css3, rfl, hcl3, hcs3⟩
 obtain ⟨av3, cv3, rfl⟩ := H.accShape (k := 0) rfl
 refine aG Z (q3 (W_ret (rt1 results141 Z ?_)))
 exact H.retO (k := 0) rfl (by skip; exact AccOf.mk aN hchk3) (acc_nd _ _ _ _ _)
theorem i_bytesValid_c (w0 : World) (G0 : PH) (hG : PSub G0 w0) (vbytes : Value) (bytes : List (Int)) (hbytes : RdI G0 vbytes bytes)  :
  Calls Tryz.prog 118 #[vbytes] w0 (Rets w0 (.bool (bytes.all Sp.byteOk))) := by
 obtain ⟨abytes, kbytes, rfl⟩ := hbytes.shape
 have hlimbytes : bytes.length ≤ 1099511627776 := hbytes.lim
 have H := Hp.init hG
 refine calls_of_W (l := [.slice abytes bytes.length kbytes]) func118 Z ntmps118 Z (q2 (aG Z (q3 (W_seq (q2 (mV Z (o_len_slice underlying33 Z Z (mV Z (q3 (W_block ?_))))))))))
 refine W_lp (hf := (Sub.cons (t := 5) Z (Sub.cons (t := 6) Z Sub.nil))) (J := fun M w m => ∃ (k : Nat) (G : PH), M = [(7, .int .i64 (k : Int))] ∧ PLe G0 G ∧ Hp w0 G0 [] w G [] ∧ (k ≤ bytes.length ∧ (bytes.take k).all Sp.byteOk = true) ∧ m = (bytes.length - k)) (h0 := ⟨0, _, Z, PLe.refl _, H, ?inv, Z⟩) (round := ?round)
 case inv => exact ⟨by omega, by simp⟩
 case round =>
  rintro _ w1 _ ⟨k, G1, rfl, hle1, H, hinv1, rfl⟩
  have hbytes := hbytes.up hle1
  obtain ⟨hk, hall⟩ := hinv1
  refine q2 (o_lss Z Z Z (q3 (W_seq ?_)))
  refine W_cond Z ?_ ?_
  ·intro hc2
   try simp only [nrm] at hc2
   refine W_skip (N_K (W_seq (W_block (q2 (o_index_P k hbytes underlying33 sizeOf3 Z Z Z Z aN ?_))))); intro b3 o3 z3 q3 hz3 hE3 hrow3
   obtain ⟨rfl, hi3⟩ := hE3
   refine o_load_P H isAgg3 Z Z (hrow3 0 _ Z) (aG Z (q1 (mV Z (o_lss Z Z Z (mV Z ?_)))))
   refine R_case (t := 13) Z ?_ ?_
   ·intro hc4
    try simp only [nrm] at hc4
    refine rP Z (rP Z (o_pick_t Z Z Z (q3 (W_true Z (q2 (aG Z (q3 (W_ret (N_B_ret (N_K_ret (N_LP_ret (N_B_ret (N_K_ret (rt1 results118 Z ?_))))))))))))))
    exact H.rets (congrArg Value.bool (by rw [Sp.all_false hz3 (by simp [Sp.byteOk, Sp.l6In]; omega)]))
   intro hc4'
   try simp only [nrm] at hc4'
   refine gR Z (mV Z (gR Z (o_gtr Z Z Z (o_pick_f Z Z Z (q3 ?_)))))
   refine W_cond Z ?_ ?_
   ·intro hc5
    try simp only [nrm] at hc5
    refine q2 (aG Z (q3 (W_ret (N_B_ret (N_K_ret (N_LP_ret (N_B_ret (N_K_ret (rt1 results118 Z ?_)))))))))
    exact H.rets (congrArg Value.bool (by rw [Sp.all_false hz3 (by simp [Sp.byteOk, Sp.l6In]; omega)]))
   intro hc5'
   try simp only [nrm] at hc5'
   refine W_skip (N_B (N_K (W_region (o_add Z Z Z oO (mV Z (R_nil ?_))))))
   refine N_lp (hJ := ⟨k + 1, _, Z, hle1, H, ?inv, Z⟩) (hm := ?hm)
   case hm => omega
   case inv => exact ⟨by omega, Sp.all_take hall hz3 (by simp [Sp.byteOk, Sp.l6In]; omega)⟩
  intro hc2'
  try simp only [nrm] at hc2'
  refine W_exit (N_K_exit (N_LP_exit (N_B_same (N_K (q2 (aG Z (q3 (W_ret (rt1 results118 Z ?_)))))))))
  obtain rfl : k = bytes.length := by omega
  rw [List.take_length] at hall
  exact H.rets (congrArg Value.bool (by rw [hall]))
theorem i_BlockValid_c (w0 : World) (G0 : PH) (hG : PSub G0 w0) (vbytes : Value) (bytes : List (Int)) (hbytes : RdI G0 vbytes bytes)  :
  Calls Tryz.prog 188 #[vbytes] w0 (Rets w0 (.bool (Sp.BlockValid bytes))) := by
 obtain ⟨abytes, kbytes, rfl⟩ := hbytes.shape
 have hlimbytes : bytes.length ≤ 1099511627776 := hbytes.lim
 have H := Hp.init hG
 refine calls_of_W (l := [.slice abytes bytes.length kbytes]) func188 Z ntmps188 Z (q2 (aG Z (q1 (mV Z (o_len_slice underlying33 Z Z (o_geq Z Z Z (mV Z ?_)))))))
 refine R_case (t := 6) Z ?_ ?_
 ·intro hc1
  try simp only [nrm] at hc1
  refine gR Z (mV Z (gR Z (o_len_slice underlying33 Z Z (gR Z (o_leq Z Z Z (o_pick_t Z Z Z (mV Z ?_)))))))
  refine R_case (t := 11) Z ?_ ?_
  ·intro hc2
   try simp only [nrm] at hc2
   refine gR Z (mV Z (gR Z (o_call call118 Z Z (i_bytesValid_c _ _ H.sub _ _ hbytes ) ?_)))
   rintro _ w3 ⟨rfl, ew3⟩; have H := H.step ew3; refine ⟨_, rfl, ?_⟩
   refine o_pick_t Z Z Z (aG Z (q3 (W_ret (rt1 results188 Z ?_))))
   exact H.rets (congrArg Value.bool (by unfold Sp.BlockValid Sp.l6In; rw [Bool.eq_iff_iff]; simp; omega))
  intro hc2'
  try simp only [nrm] at hc2'
  refine rP Z (rP Z (o_pick_f Z Z Z (aG Z (q3 (W_ret (rt1 results188 Z ?_))))))
  exact H.rets (congrArg Value.bool (by unfold Sp.BlockValid Sp.l6In; rw [Bool.eq_iff_iff]; simp; omega))
 intro hc1'
 try simp only [nrm] at hc1'
 refine rP Z (rP Z (rP Z (o_pick_f Z Z Z (mV Z (rP Z (rP Z (o_pick_f Z Z Z (aG Z (q3 (W_ret (rt1 results188 Z ?_)))))))))))
 exact H.rets (congrArg Value.bool (by unfold Sp.BlockValid Sp.l6In; rw [Bool.eq_iff_iff]; simp; omega))
theorem i_FileValid_c (w0 : World) (G0 : PH) (hG : PSub G0 w0) (vbytes : Value) (bytes : List (Int)) (hbytes : RdI G0 vbytes bytes)  :
  Calls Tryz.prog 66 #[vbytes] w0 (Rets w0 (.bool (Sp.FileValid bytes))) := by
 obtain ⟨abytes, kbytes, rfl⟩ := hbytes.shape
 have hlimbytes : bytes.length ≤ 1099511627776 := hbytes.lim
 have H := Hp.init hG
 refine calls_of_W (l := [.slice abytes bytes.length kbytes]) func66 Z ntmps66 Z (q2 (aG Z (q1 (mV Z (o_len_slice underlying33 Z Z (o_leq Z Z Z (mV Z ?_)))))))
 refine R_case (t := 6) Z ?_ ?_
 ·intro hc1
  try simp only [nrm] at hc1
  refine gR Z (mV Z (gR Z (o_call call118 Z Z (i_bytesValid_c _ _ H.sub _ _ hbytes ) ?_)))
  rintro _ w2 ⟨rfl, ew2⟩; have H := H.step ew2; refine ⟨_, rfl, ?_⟩
  refine o_pick_t Z Z Z (aG Z (q3 (W_ret (rt1 results66 Z ?_))))
  exact H.rets (congrArg Value.bool (by unfold Sp.FileValid; rw [Bool.eq_iff_iff]; simp; omega))
 intro hc1'
 try simp only [nrm] at hc1'
 refine rP Z (rP Z (o_pick_f Z Z Z (aG Z (q3 (W_ret (rt1 results66 Z ?_))))))
 exact H.rets (congrArg Value.bool (by unfold Sp.FileValid; rw [Bool.eq_iff_iff]; simp; omega))
theorem i_partValid_c (w0 : World) (s : Bs) (hs : s.length ≤ 16777216)  :
  Calls Tryz.prog 92 #[str s] w0 (Rets w0 (.bool (Sp.l1Word s))) := by
 have H := Hp.init0 w0
 refine calls_of_W (l := [str s]) func92 Z ntmps92 Z (q2 (aG Z (q3 (W_seq (q2 (mV Z (o_len_str underlying9 Z Z (o_lss Z Z Z (mV Z ?_)))))))))
 refine R_case (t := 7) Z ?_ ?_
 ·intro hc1
  try simp only [nrm] at hc1
  refine rP Z (rP Z (rP Z (o_pick_t Z Z Z (q3 (W_true Z (q2 (aG Z (q3 (W_ret (N_K_ret (rt1 results92 Z ?_)))))))))))
  exact H.rets (congrArg Value.bool (by unfold Sp.l1Word; rw [Bool.eq_iff_iff]; simp; omega))
 intro hc1'
 try simp only [nrm] at hc1'
 refine gR Z (mV Z (gR Z (o_len_str underlying9 Z Z (gR Z (o_gtr Z Z Z (o_pick_f Z Z Z (q3 ?_)))))))
 refine W_cond Z ?_ ?_
 ·intro hc2
  try simp only [nrm] at hc2
  refine q2 (aG Z (q3 (W_ret (N_K_ret (rt1 results92 Z ?_)))))
  exact H.rets (congrArg Value.bool (by unfold Sp.l1Word; rw [Bool.eq_iff_iff]; simp; omega))
 intro hc2'
 try simp only [nrm] at hc2'
 refine W_skip (N_K (W_seq (q2 (aG Z (q3 (W_block ?_))))))
 refine W_lp (hf := (Sub.cons (t := 0) Z Sub.nil)) (J := fun M w m => ∃ (k : Nat) (G : PH), M = [(3, .int .i64 (k : Int))] ∧ PLe (fun _ => none) G ∧ Hp w0 (fun _ => none) [] w G [] ∧ (k ≤ s.length ∧ (s.take k).all Sp.low = true) ∧ m = (s.length - k)) (h0 := ⟨0, _, Z, PLe.refl _, H, ?inv, Z⟩) (round := ?round)
 case inv => exact ⟨by omega, by simp⟩
 case round =>
  rintro _ w3 _ ⟨k, G3, rfl, hle3, H, hinv3, rfl⟩
  obtain ⟨hk, hall⟩ := hinv3
  refine W_seq (q2 (mV Z (mV Z (o_len_str underlying9 Z Z (o_lss Z Z Z (q3 ?_))))))
  refine W_cond Z ?_ ?_
  ·intro hc4
   try simp only [nrm] at hc4
   refine W_skip (N_K (W_seq (W_block (q2 (mV Z (mV Z (o_index_str underlying9 Z Z Z Z oM ?_))))))); intro ch5 hch5; have hlt5 := ch5.toNat_lt
   refine o_lss Z Z Z (mV Z ?_)
   refine R_case (t := 22) Z ?_ ?_
   ·intro hc6
    try simp only [nrm] at hc6
    refine rP Z (rP Z (rP Z (rP Z (o_pick_t Z Z Z (q3 (W_true Z (q2 (aG Z (q3 (W_ret (N_B_ret (N_K_ret (N_LP_ret (N_B_ret (N_K_ret ?_)))))))))))))))
    refine rt1 results92 Z ?_
    exact H.rets (congrArg Value.bool (by rw [Sp.l1Word, Sp.all_false hch5 (by simp [Sp.low]; omega)]; rfl))
   intro hc6'
   try simp only [nrm] at hc6'
   refine gR Z (mV Z (gR Z (mV Z (gR Z (o_index_str underlying9 Z Z Z Z oM ?_))))); intro ch7 hch7; have hlt7 := ch7.toNat_lt
   obtain rfl : ch7 = ch5 := Option.some.inj (hch7.symm.trans hch5)
   refine gR Z (o_gtr Z Z Z (o_pick_f Z Z Z (q3 ?_)))
   refine W_cond Z ?_ ?_
   ·intro hc8
    try simp only [nrm] at hc8
    refine q2 (aG Z (q3 (W_ret (N_B_ret (N_K_ret (N_LP_ret (N_B_ret (N_K_ret (rt1 results92 Z ?_)))))))))
    exact H.rets (congrArg Value.bool (by rw [Sp.l1Word, Sp.all_false hch7 (by simp [Sp.low]; omega)]; rfl))
   intro hc8'
   try simp only [nrm] at hc8'
   refine W_skip (N_B (N_K (W_region (mV Z (o_add Z Z Z oO (aG Z (R_nil ?_)))))))
   refine N_lp (hJ := ⟨k + 1, _, Z, hle3, H, ?inv, Z⟩) (hm := ?hm)
   case hm => omega
   case inv => exact ⟨by omega, Sp.all_take hall hch7 (by simp [Sp.low]; omega)⟩
  intro hc4'
  try simp only [nrm] at hc4'
  refine W_exit (N_K_exit (N_LP_exit (N_B_same (N_K (q2 (aG Z (q3 (W_ret (rt1 results92 Z ?_)))))))))
  obtain rfl : k = s.length := by omega
  rw [List.take_length] at hall
  exact H.rets (congrArg Value.bool (by simp only [Sp.l1Word, hall]; rw [Bool.eq_iff_iff]; simp; omega))
end Go.Proofs.Tst

namespace Go.Proofs
open Go.Shelf
def Tryz.keysA_ren : Go.Shelf.Ren := ⟨fun | 7 => 165 | 10 => 197 | n => n, fun | 23 => 96 | 26 => 3 | 3 => 105 | 28 => 203 | 0 => 0 | 27 => 202 | 33 => 200 | 4 => 4 | n => n, fun | n => n⟩
theorem Tryz.keysA : Go.Proofs.SlLaysZI.n7 Tryz.prog Tryz.keysA_ren := {
 mixed := by kernel_rfl
 f7 := ⟨Tryz.f165.name, by decide, Tryz.func165.trans (congrArg some (by kernel_rfl))⟩
 f10 := ⟨Tryz.f197.name, by decide, Tryz.func197.trans (congrArg some (by kernel_rfl))⟩
 t0 := Tryz.underlying0
 a0 := Tryz.isAgg0
 z0 := Tryz.sizeOf0
 v0 := Tryz.zeroValue0
 t4 := Tryz.underlying4
 a4 := Tryz.isAgg4
 z4 := Tryz.sizeOf4
 v4 := Tryz.zeroValue4
 t23 := Tryz.underlying96
 a23 := Tryz.isAgg96
 z23 := Tryz.sizeOf96
 v23 := Tryz.zeroValue96
 t26 := Tryz.underlying3
 a26 := Tryz.isAgg3
 z26 := Tryz.sizeOf3
 v26 := Tryz.zeroValue3
 t27 := Tryz.underlying202
 a27 := Tryz.isAgg202
 z27 := Tryz.sizeOf202
 v27 := Tryz.zeroValue202
 t28 := Tryz.underlying203
 a28 := Tryz.isAgg203
 z28 := Tryz.sizeOf203
 v28 := Tryz.zeroValue203
 t33 := Tryz.underlying200
 a33 := Tryz.isAgg200
 z33 := Tryz.sizeOf200
 v33 := Tryz.zeroValue200 }
def Tryz.sortedA_ren : Go.Shelf.Ren := ⟨fun | 6 => 164 | 8 => 195 | 9 => 196 | 11 => 215 | 13 => 217 | 12 => 216 | 23 => 230 | 24 => 231 | 14 => 221 | 15 => 222 | 16 => 223 | 17 => 224 | 18 => 225 | 19 => 226 | 20 => 227 | 21 => 228 | 22 => 229 | 25 => 236 | 26 => 237 | 27 => 238 | 28 => 239 | 29 => 240 | 30 => 241 | 31 => 246 | n => n, fun | 26 => 3 | 28 => 203 | 24 => 33 | 0 => 0 | 3 => 3 | 37 => 228 | 48 => 124 | 50 => 253 | 4 => 4 | 40 => 245 | 39 => 244 | 45 => 197 | 5 => 5 | 9 => 9 | 51 => 256 | 55 => 260 | 57 => 265 | 58 => 266 | 33 => 200 | n => n, fun | n => n⟩
theorem Tryz.sortedA : Go.Proofs.SlLaysZI.n6 Tryz.prog Tryz.sortedA_ren := {
 mixed := by kernel_rfl
 f6 := ⟨Tryz.f164.name, by decide, Tryz.func164.trans (congrArg some (by kernel_rfl))⟩
 f8 := ⟨Tryz.f195.name, by decide, Tryz.func195.trans (congrArg some (by kernel_rfl))⟩
 f11 := ⟨Tryz.f215.name, by decide, Tryz.func215.trans (congrArg some (by kernel_rfl))⟩
 t0 := Tryz.underlying0
 a0 := Tryz.isAgg0
 z0 := Tryz.sizeOf0
 v0 := Tryz.zeroValue0
 t24 := Tryz.underlying33
 a24 := Tryz.isAgg33
 z24 := Tryz.sizeOf33
 v24 := Tryz.zeroValue33
 t26 := Tryz.underlying3
 a26 := Tryz.isAgg3
 z26 := Tryz.sizeOf3
 v26 := Tryz.zeroValue3
 t28 := Tryz.underlying203
 a28 := Tryz.isAgg203
 z28 := Tryz.sizeOf203
 v28 := Tryz.zeroValue203
 i26 := by kernel_rfl }
def Tryz.sortA_ren : Go.Shelf.Ren := ⟨fun | 5 => 196 | 8 => 217 | 7 => 216 | 19 => 230 | 20 => 231 | 10 => 221 | 11 => 222 | 12 => 223 | 13 => 224 | 14 => 225 | 15 => 226 | 16 => 227 | 17 => 228 | 18 => 229 | 30 => 236 | 31 => 237 | 32 => 238 | 33 => 239 | 34 => 240 | 35 => 241 | 40 => 246 | n => n, fun | 23 => 33 | 25 => 3 | 3 => 3 | 32 => 228 | 22 => 33 | 0 => 0 | 44 => 124 | 46 => 253 | 4 => 4 | 36 => 245 | 35 => 244 | 41 => 197 | 5 => 5 | 9 => 9 | 53 => 256 | 57 => 260 | 63 => 265 | 64 => 266 | n => n, fun | n => n⟩
theorem Tryz.sortA : Go.Proofs.SlLaysM.n5 Tryz.prog Tryz.sortA_ren := {
 mixed := by kernel_rfl
 f5 := ⟨Tryz.f196.name, by decide, Tryz.func196.trans (congrArg some (by kernel_rfl))⟩
 f7 := ⟨Tryz.f216.name, by decide, Tryz.func216.trans (congrArg some (by kernel_rfl))⟩
 f8 := Tryz.func217.trans (congrArg some (by kernel_rfl))
 f10 := ⟨Tryz.f221.name, by decide, Tryz.func221.trans (congrArg some (by kernel_rfl))⟩
 f11 := ⟨Tryz.f222.name, by decide, Tryz.func222.trans (congrArg some (by kernel_rfl))⟩
 f12 := ⟨Tryz.f223.name, by decide, Tryz.func223.trans (congrArg some (by kernel_rfl))⟩
 f13 := ⟨Tryz.f224.name, by decide, Tryz.func224.trans (congrArg some (by kernel_rfl))⟩
 f14 := ⟨Tryz.f225.name, by decide, Tryz.func225.trans (congrArg some (by kernel_rfl))⟩
 f15 := ⟨Tryz.f226.name, by decide, Tryz.func226.trans (congrArg some (by kernel_rfl))⟩
 f16 := ⟨Tryz.f227.name, by decide, Tryz.func227.trans (congrArg some (by kernel_rfl))⟩
 f17 := ⟨Tryz.f228.name, by decide, Tryz.func228.trans (congrArg some (by kernel_rfl))⟩
 f18 := ⟨Tryz.f229.name, by decide, Tryz.func229.trans (congrArg some (by kernel_rfl))⟩
 f19 := Tryz.func230.trans (congrArg some (by kernel_rfl))
 f20 := Tryz.func231.trans (congrArg some (by kernel_rfl))
 f30 := ⟨Tryz.f236.name, by decide, Tryz.func236.trans (congrArg some (by kernel_rfl))⟩
 f31 := Tryz.func237.trans (congrArg some (by kernel_rfl))
 f32 := Tryz.func238.trans (congrArg some (by kernel_rfl))
 f33 := ⟨Tryz.f239.name, by decide, Tryz.func239.trans (congrArg some (by kernel_rfl))⟩
 f34 := ⟨Tryz.f240.name, by decide, Tryz.func240.trans (congrArg some (by kernel_rfl))⟩
 f35 := ⟨Tryz.f241.name, by decide, Tryz.func241.trans (congrArg some (by kernel_rfl))⟩
 f40 := ⟨Tryz.f246.name, by decide, Tryz.func246.trans (congrArg some (by kernel_rfl))⟩
 t0 := Tryz.underlying0
 a0 := Tryz.isAgg0
 z0 := Tryz.sizeOf0
 v0 := Tryz.zeroValue0
 t3 := Tryz.underlying3
 a3 := Tryz.isAgg3
 z3 := Tryz.sizeOf3
 v3 := Tryz.zeroValue3
 t4 := Tryz.underlying4
 a4 := Tryz.isAgg4
 z4 := Tryz.sizeOf4
 v4 := Tryz.zeroValue4
 t5 := Tryz.underlying5
 a5 := Tryz.isAgg5
 z5 := Tryz.sizeOf5
 v5 := Tryz.zeroValue5
 t9 := Tryz.underlying9
 a9 := Tryz.isAgg9
 z9 := Tryz.sizeOf9
 v9 := Tryz.zeroValue9
 t22 := Tryz.underlying33
 a22 := Tryz.isAgg33
 z22 := Tryz.sizeOf33
 v22 := Tryz.zeroValue33
 t23 := Tryz.underlying33
 a23 := Tryz.isAgg33
 z23 := Tryz.sizeOf33
 v23 := Tryz.zeroValue33
 t25 := Tryz.underlying3
 a25 := Tryz.isAgg3
 z25 := Tryz.sizeOf3
 v25 := Tryz.zeroValue3
 t32 := Tryz.underlying228
 a32 := Tryz.isAgg228
 z32 := Tryz.sizeOf228
 v32 := Tryz.zeroValue228
 t35 := Tryz.underlying244
 a35 := Tryz.isAgg244
 z35 := Tryz.sizeOf244
 v35 := Tryz.zeroValue244
 t36 := Tryz.underlying245
 a36 := Tryz.isAgg245
 z36 := Tryz.sizeOf245
 v36 := Tryz.zeroValue245
 t41 := Tryz.underlying197
 a41 := Tryz.isAgg197
 z41 := Tryz.sizeOf197
 v41 := Tryz.zeroValue197
 t44 := Tryz.underlying124
 a44 := Tryz.isAgg124
 z44 := Tryz.sizeOf124
 v44 := Tryz.zeroValue124
 t46 := Tryz.underlying253
 a46 := Tryz.isAgg253
 z46 := Tryz.sizeOf253
 v46 := Tryz.zeroValue253
 t53 := Tryz.underlying256
 a53 := Tryz.isAgg256
 z53 := Tryz.sizeOf256
 v53 := Tryz.zeroValue256
 t57 := Tryz.underlying260
 a57 := Tryz.isAgg260
 z57 := Tryz.sizeOf260
 v57 := Tryz.zeroValue260
 t63 := Tryz.underlying265
 a63 := Tryz.isAgg265
 z63 := Tryz.sizeOf265
 v63 := Tryz.zeroValue265
 t64 := Tryz.underlying266
 a64 := Tryz.isAgg266
 z64 := Tryz.sizeOf266
 v64 := Tryz.zeroValue266 }
def Tryz.lays143_ren : Go.Shelf.Ren := ⟨fun | 143 => 235 | 219 => 245 | 217 => 248 | 225 => 249 | 224 => 250 | 267 => 251 | 266 => 252 | 314 => 253 | n => n, fun | 9 => 9 | 3 => 3 | 4 => 4 | 5 => 5 | 46 => 228 | 146 => 272 | 51 => 124 | n => n, fun | 1 => 0 | n => n⟩
theorem Tryz.lays143 : Go.Proofs.Lays.n143 Tryz.prog Tryz.lays143_ren := {
 mixed := by kernel_rfl
 f143 := Tryz.func235.trans (congrArg some (by kernel_rfl))
 f217 := Tryz.func248.trans (congrArg some (by kernel_rfl))
 f219 := Tryz.func245.trans (congrArg some (by kernel_rfl))
 f224 := Tryz.func250.trans (congrArg some (by kernel_rfl))
 f225 := Tryz.func249.trans (congrArg some (by kernel_rfl))
 f266 := Tryz.func252.trans (congrArg some (by kernel_rfl))
 f267 := Tryz.func251.trans (congrArg some (by kernel_rfl))
 f314 := Tryz.func253.trans (congrArg some (by kernel_rfl))
 t3 := Tryz.underlying3
 a3 := Tryz.isAgg3
 z3 := Tryz.sizeOf3
 v3 := Tryz.zeroValue3
 t4 := Tryz.underlying4
 a4 := Tryz.isAgg4
 z4 := Tryz.sizeOf4
 v4 := Tryz.zeroValue4
 t5 := Tryz.underlying5
 a5 := Tryz.isAgg5
 z5 := Tryz.sizeOf5
 v5 := Tryz.zeroValue5
 t9 := Tryz.underlying9
 a9 := Tryz.isAgg9
 z9 := Tryz.sizeOf9
 v9 := Tryz.zeroValue9
 t46 := Tryz.underlying228
 a46 := Tryz.isAgg228
 z46 := Tryz.sizeOf228
 v46 := Tryz.zeroValue228
 t51 := Tryz.underlying124
 a51 := Tryz.isAgg124
 z51 := Tryz.sizeOf124
 v51 := Tryz.zeroValue124
 t146 := Tryz.underlying272
 a146 := Tryz.isAgg272
 z146 := Tryz.sizeOf272
 v146 := Tryz.zeroValue272
 g1 := by kernel_rfl }
def Tryz.lays138_ren : Go.Shelf.Ren := ⟨fun | 138 => 234 | 195 => 242 | 218 => 244 | 143 => 235 | 219 => 245 | 217 => 248 | 225 => 249 | 224 => 250 | 267 => 251 | 266 => 252 | 314 => 253 | n => n, fun | 9 => 9 | 3 => 3 | 4 => 4 | 5 => 5 | 0 => 0 | 46 => 228 | 146 => 272 | 51 => 124 | n => n, fun | 1 => 0 | n => n⟩
theorem Tryz.lays138 : Go.Proofs.Lays.n138 Tryz.prog Tryz.lays138_ren := {
 mixed := by kernel_rfl
 f138 := Tryz.func234.trans (congrArg some (by kernel_rfl))
 f143 := Tryz.func235.trans (congrArg some (by kernel_rfl))
 f195 := Tryz.func242.trans (congrArg some (by kernel_rfl))
 f217 := Tryz.func248.trans (congrArg some (by kernel_rfl))
 f218 := Tryz.func244.trans (congrArg some (by kernel_rfl))
 f219 := Tryz.func245.trans (congrArg some (by kernel_rfl))
 f224 := Tryz.func250.trans (congrArg some (by kernel_rfl))
 f225 := Tryz.func249.trans (congrArg some (by kernel_rfl))
 f266 := Tryz.func252.trans (congrArg some (by kernel_rfl))
 f267 := Tryz.func251.trans (congrArg some (by kernel_rfl))
 f314 := Tryz.func253.trans (congrArg some (by kernel_rfl))
 t0 := Tryz.underlying0
 a0 := Tryz.isAgg0
 z0 := Tryz.sizeOf0
 v0 := Tryz.zeroValue0
 t3 := Tryz.underlying3
 a3 := Tryz.isAgg3
 z3 := Tryz.sizeOf3
 v3 := Tryz.zeroValue3
 t4 := Tryz.underlying4
 a4 := Tryz.isAgg4
 z4 := Tryz.sizeOf4
 v4 := Tryz.zeroValue4
 t5 := Tryz.underlying5
 a5 := Tryz.isAgg5
 z5 := Tryz.sizeOf5
 v5 := Tryz.zeroValue5
 t9 := Tryz.underlying9
 a9 := Tryz.isAgg9
 z9 := Tryz.sizeOf9
 v9 := Tryz.zeroValue9
 t46 := Tryz.underlying228
 a46 := Tryz.isAgg228
 z46 := Tryz.sizeOf228
 v46 := Tryz.zeroValue228
 t51 := Tryz.underlying124
 a51 := Tryz.isAgg124
 z51 := Tryz.sizeOf124
 v51 := Tryz.zeroValue124
 t146 := Tryz.underlying272
 a146 := Tryz.isAgg272
 z146 := Tryz.sizeOf272
 v146 := Tryz.zeroValue272
 g1 := by kernel_rfl }
end Go.Proofs
namespace Fw
open Go Go.RowKit Go.Maps Go.Sort Go.Shelf Go.Proofs
open Go.WideElems (Fit rg)
def unitR : Value → Option (DataW Unit × List MemPlace) := fun _ => some (.agg [], [])
theorem owns_of {P : Program} {k : TypeId} {w : World} {b : Nat} {es : Array MapEntry} {clock : Nat} {xs : List (Int × Value)} (hk : P.underlying k = some (.int .i64)) (hb : w.heap[b]? = some (.map es clock)) (hm : MapIs (Value.int .i64) es clock xs) (hw : ∀ x, x ∈ xs → inI x.1) (hl : xs.length ≤ 1000000) :
  ∃ D : DataW Unit, w.ownsMap P k unitR b xs.length D ∧ (intKeys D).Perm (xs.map (·.1)) ∧ Maps.size D = xs.length := by
 have hsz : es.size = xs.length := by have := congrArg List.length hm.kv; simpa using this
 have hkey : ∀ x, x ∈ es.toList → ∃ y, y ∈ xs ∧ x.key = .int .i64 y.1 := by
  intro x hx
  have : (x.key, x.val) ∈ xs.map (fun y => (Value.int .i64 y.1, y.2)) := by rw [← hm.kv]; exact List.mem_map.2 ⟨x, hx, rfl⟩
  obtain ⟨y, h1, h2⟩ := List.mem_map.1 this
  simp only [Prod.mk.injEq] at h2
  exact ⟨y, h1, h2.1.symm⟩
 have hwf : ∀ a : Int, inI a → (Lit.int .i64 a).wf = true := by
  intro a ha
  unfold inI at ha
  have h1 : IntKind.i64.min = -9223372036854775808 := by decide
  have h2 : IntKind.i64.max = 9223372036854775807 := by decide
  simp only [Lit.wf, h1, h2]
  simp
  omega
 have hrd : ∀ x, x ∈ es.toList → ∃ y, y ∈ xs ∧ x.key = .int .i64 y.1 ∧ Go.WideElems.rd P k unitR x = some (.int .i64 y.1, .agg []) := by
  intro x hx
  obtain ⟨y, h1, h2⟩ := hkey x hx
  refine ⟨y, h1, h2, ?_⟩
  simp only [Go.WideElems.rd, h2, keyOf_int_mk hk (hwf _ (hw y h1)), unitR]
  rfl
 refine ⟨.map ((es.toList.map (rg P k unitR)).foldr DataW.insert []), ⟨es, clock, hb, ⟨?_, ⟨hm.lt, hm.born, ?_⟩, ?_⟩, by omega, rfl⟩, ?_, ?_⟩
 ·simp only [maxLen]; omega
 ·have h1 : es.toList.map (·.key) = xs.map (fun x => Value.int .i64 x.1) := by
   have := congrArg (List.map (·.1)) hm.kv
   rw [List.map_map, List.map_map] at this
   exact this
  rw [h1]
  have : (xs.map (fun x => Value.int .i64 x.1)) = (xs.map (·.1)).map (Value.int .i64) := by simp [List.map_map]
  rw [this, List.nodup_iff_pairwise_ne, List.pairwise_map]
  exact (List.nodup_iff_pairwise_ne.1 hm.nd).imp (fun h e => h (by simpa using e))
 ·intro x hx
  obtain ⟨y, _, _, h3⟩ := hrd x hx
  exact ⟨_, h3⟩
 ·have hp := (WideShapes.sorted_perm (es.toList.map (rg P k unitR))).map (fun p : Lit × DataW Unit => intOf p.1)
  show List.Perm (List.map (fun p : Lit × DataW Unit => intOf p.1) _) _
  refine hp.trans ?_
  rw [List.map_map]
  have key : ∀ (l : List MapEntry) (ys : List (Int × Value)), (∀ x, x ∈ l → ∃ y, y ∈ xs ∧ x.key = .int .i64 y.1 ∧ Go.WideElems.rd P k unitR x = some (.int .i64 y.1, .agg [])) → l.map (fun e => (e.key, e.val)) = ys.map (fun x => (Value.int .i64 x.1, x.2)) → l.map ((fun p : Lit × DataW Unit => intOf p.1) ∘ rg P k unitR) = ys.map (·.1) := by
   intro l
   induction l with
   | nil => intro ys _ h; cases ys <;> simp at h ⊢
   | cons x r ih =>
    intro ys h1 h2
    cases ys with
    | nil => simp at h2
    | cons y t =>
     simp only [List.map_cons, List.cons.injEq, Prod.mk.injEq] at h2 ⊢
     obtain ⟨z, _, h3, h4⟩ := h1 x (by simp)
     rw [h2.1.1] at h3
     simp only [Value.int.injEq, true_and] at h3
     refine ⟨?_, ih t (fun q hq => h1 q (by simp [hq])) h2.2⟩
     simp only [Function.comp, rg, h4, Option.getD_some, Go.intOf]
     exact h3.symm
  rw [key es.toList xs hrd hm.kv]
 ·simp only [Maps.size]
  rw [length_sorted]
  simp [hsz]
theorem sorts_of {G : PH} {xs : List (Int × Value)} {L : List BHeld} (hS : StR G xs L) (hL : Sp.VH L) {ss : List Int} (hp : ss.Perm (xs.map (·.1))) : ss.mergeSort (fun x y => decide (x ≤ y)) = L.map (·.id) := by
 have h1 : (ss.mergeSort (fun x y => decide (x ≤ y))).Perm (L.map (·.id)) := (List.mergeSort_perm _ _).trans (hp.trans hS.keys)
 have h2 : (ss.mergeSort (fun x y => decide (x ≤ y))).Pairwise (fun x y => decide (x ≤ y) = true) := List.pairwise_mergeSort (le := fun x y : Int => decide (x ≤ y)) (fun a b c h1 h2 => by simp at *; omega) (fun a b => by simp; omega) ss
 have h3 : (L.map (·.id)).Pairwise (fun x y => decide (x ≤ y) = true) := by
  rw [List.pairwise_map]
  exact hL.asc.imp (fun h => decide_eq_true (by omega))
 exact h1.eq_of_pairwise (fun a b _ _ h1 h2 => by have := of_decide_eq_true h1; have := of_decide_eq_true h2; omega) h2 h3
theorem owns_acc {w w' : World} {e : TypeId} {v : Value} {n : Nat} {cells : List Value} (h : w'.ownsRow w.heap.size e 1 v n cells) : (acc e 1 v n cells).pred (fun b => w'.heap[b]?) ∧ (∀ b, b ∈ (acc e 1 v n cells).fp → w.heap.size ≤ b) := by
 obtain ⟨h1, h2⟩ := h
 refine ⟨⟨h1, ?_⟩, ?_⟩
 ·rcases h2 with h2 | ⟨g, cap, cur, rfl, _, h3, h4, h5, h6, h7⟩
  ·exact .inl h2
  ·exact .inr ⟨g, cap, cur, rfl, h3, h4, h5, Nat.le_of_eq h6.symm, h7⟩
 ·rcases h2 with ⟨rfl, _⟩ | ⟨g, cap, cur, rfl, h3, _⟩
  ·intro b hb; rw [acc_fp_nil] at hb; cases hb
  ·intro b hb; rw [acc_fp, List.mem_singleton] at hb; rw [hb]; exact h3
end Fw
namespace Go.Proofs.Tst
open Go Fw Go.Proofs Go.Sort Go.Maps Go.Shelf Go.RowKit Tryz
theorem sorts (m : Nat) : AnyZI.SortsIn Tryz.prog Tryz.sortedA_ren Fence.wide m :=
  ⟨fun blk off cap ss W hH hblk hsz => callsIn_wide.2 (AnyM.slices_Sort_int Tryz.sortA blk off cap ss W hH hblk hsz),
   fun p cap W => callsIn_wide.2 (AnyM.slices_Sort_int_none Tryz.sortA p cap W)⟩
theorem keys_c (w0 : World) (G0 : PH) (hG : PSub G0 w0) (b : Nat) : Calls Tryz.prog 165 #[.map (some b)] w0 (fun e w' => ∃ kb, e = .returned (.func (.func 197) #[] #[.pointer (some ⟨kb, 0, none⟩)]) ∧ w0.heap.size ≤ kb ∧ Ext w0 w' ∧ w'.heap[kb]? = some (cl [.map (some b)] 96)) :=
  (callsIn_wide.1 (AnyZI.keys_in Tryz.keysA Fence.wide 5 trivial rfl (some b) w0)).mono fun e w' ⟨h1, h2⟩ => by
    subst h2
    exact ⟨w0.heap.size, h1, Nat.le_refl _, Ext.alloc _ _, alloc_new _ _⟩
set_option maxHeartbeats 1000000 in
theorem sorted_c (w0 : World) (Bm b : Nat) {es : Array MapEntry} {clock : Nat} {xs : List (Int × Value)} {L : List BHeld} {G : PH} (hB : w0.heap[Bm]? = some (cl [.map (some b)] 96)) (hb : w0.heap[b]? = some (.map es clock)) (hm : MapIs (Value.int .i64) es clock xs) (hS : StR G xs L) (hL : Sp.VH L) :
    Calls Tryz.prog 164 #[.func (.func 197) #[] #[.pointer (some ⟨Bm, 0, none⟩)]] w0 (fun e w' => ∃ v, e = .returned v ∧ Ext w0 w' ∧ (acc 3 1 v L.length (L.map (fun h => Value.int .i64 h.id))).pred (fun b => w'.heap[b]?) ∧ (∀ b, b ∈ (acc 3 1 v L.length (L.map (fun h => Value.int .i64 h.id))).fp → w0.heap.size ≤ b)) := by
  have hlen := hS.len
  have hw : ∀ x, x ∈ xs → inI x.1 := by
    intro x hx
    have := hS.keys.mem_iff.1 (List.mem_map.2 ⟨x, hx, rfl⟩)
    obtain ⟨h, hh, e⟩ := List.mem_map.1 this
    have := (hL.ok h hh).1
    rw [← e]
    unfold inI
    omega
  have hl16 := hL.len
  obtain ⟨D, hown, hp, hsz⟩ := owns_of (P := Tryz.prog) (k := 3) (by exact underlying3) hb hm hw oM
  have hBl := (Array.getElem?_eq_some_iff.1 hB).1
  have hseq : SeqGives Fence.wide 2 Tryz.prog 197 #[.pointer (some ⟨Bm, 0, none⟩)] encZ (fun ss => ss.Perm (intKeys D)) (Maps.size D) w0 :=
    AnyZI.keys_gives (ρ := Tryz.keysA_ren) { Tryz.keysA with } Fence.wide _ trivial rfl oM Bm b xs.length D w0 hBl (by simp [World.cell?, hB]) hown
  refine (callsIn_wide.1 (AnyZI.sorted_in Tryz.sortedA Fence.wide 5 trivial trivial trivial trivial Z oM (sorts _) (enters_of func196 kR Z) 197 #[.pointer (some ⟨Bm, 0, none⟩)] trivial (enters_of func197 kR Z) _ _ (by simp only [maxLen]; omega) oM _ hseq)).mono ?_
  rintro e w' ⟨v, ss, rfl, hS1, hrow, hnil, hbel⟩
  have hs := sorts_of hS hL (hS1.trans hp)
  have hn : ss.length = L.length := by have := (hS1.trans (hp.trans hS.keys)).length_eq; simpa using this
  rw [hs, hn] at hrow
  have he : (L.map (·.id)).map encZ = L.map (fun h => Value.int .i64 h.id) := by rw [List.map_map]; rfl
  rw [he] at hrow
  obtain ⟨h1, h2⟩ := owns_acc hrow
  exact ⟨v, Z, Ext.of_below hbel, h1, h2⟩
end Go.Proofs.Tst
namespace Go.Proofs.Tst
open Go Fw Go.Proofs
theorem l_Index_c (w0 : World) (s : Bs) (hs : s.length ≤ 16777216) (c : UInt8) : Calls Tryz.prog 235 #[str s, str [c]] w0 (Rets w0 (.int .i64 (Sp.optI (s.findIdx? (Sp.isC c))))) :=
  (Any.strings_Index_one Tryz.lays143 ⟨s.toArray⟩ c w0).mono fun e w' ⟨h1, h2⟩ => ⟨by rw [h1]; simp [Sp.indexByte_eq], by rw [h2]; exact Ext.refl _⟩
theorem l_Count_c (w0 : World) (s : Bs) (hs : s.length ≤ 16777216) (c : UInt8) : Calls Tryz.prog 234 #[str s, str [c]] w0 (Rets w0 (.int .i64 (s.count c : Int))) :=
  (Any.strings_Count_one Tryz.lays138 ⟨s.toArray⟩ c w0).mono fun e w' ⟨h1, h2⟩ => ⟨by rw [h1]; simp [Lib.countByte], by rw [h2]; exact Ext.refl _⟩
end Go.Proofs.Tst
namespace Go.Proofs.Tst
open Go Fw Go.Proofs
theorem chkIds (G : PH) {L : List BHeld} (h : Sp.VH L) : Chk intE 1 G (L.map (fun h => Value.int .i64 h.id)) (L.map (·.id)) := by
  refine ⟨L.map (fun h => [Value.int .i64 h.id]), ?_, by simp, fun i x hx => ?_⟩
  · clear h
    induction L with
    | nil => rfl
    | cons a r ih => simp only [List.map_cons, List.flatten_cons, ← ih]; rfl
  rw [List.getElem?_map] at hx ⊢
  cases e : L[i]? with
  | none => simp [e] at hx
  | some y =>
    simp only [e, Option.map_some, Option.some.injEq] at hx ⊢
    subst hx
    have := (h.at e).1
    exact ⟨_, rfl, rfl, rfl, by unfold inI; omega⟩
end Go.Proofs.Tst

namespace Go.Proofs.Tst
open Go Fw Tryz
theorem l_genSplit_c (w0 : World) (G0 : PH) (hG : PSub G0 w0) (s : Bs) (hs : s.length ≤ 16777216) (c : UInt8)    :
  Calls Tryz.prog 220 #[str s, str [c], .int .i64 0, .int .i64 (-1)] w0 (RetP w0 G0 (fun G v => RdT G v (Sp.cutAt c s))) := by
 have hcnt := Sp.cnt_le c s
 have H := Hp.init hG
 refine calls_of_W (l := [str s, str [c], .int .i64 0, .int .i64 (-1)]) func220 Z ntmps220 Z (q2 (aG Z (q3 (W_seq (q2 (mV Z (o_eql Z Z Z (q3 ?_))))))))
 refine W_cond Z ?_ ?_
 ·intro hc1
  try simp only [nrm] at hc1
  exact absurd hc1 (by decide)
 intro hc1'
 try simp only [nrm] at hc1'
 refine W_skip (N_K (W_seq (q2 (mV Z (o_seql Z Z Z (q3 ?_))))))
 refine W_cond Z ?_ ?_
 ·intro hc2
  try simp only [nrm] at hc2
  exact absurd hc2 (by simp)
 intro hc2'
 try simp only [nrm] at hc2'
 refine W_skip (N_K (W_seq (q2 (mV Z (o_lss Z Z Z (q3 ?_))))))
 refine W_cond Z ?_ ?_
 ·intro hc3
  try simp only [nrm] at hc3
  refine W_region (mV Z (mV Z (o_call call234 Z Z (l_Count_c _ _ hs _ ) ?_)))
  rintro _ w4 ⟨rfl, ew4⟩; have H := H.step ew4; refine ⟨_, rfl, ?_⟩
  refine o_add Z Z Z oO (aG Z (q1 (mV Z (mV Z (o_len_str underlying9 Z Z (o_add Z Z Z oO (o_min Z Z Z (aG Z (q1 (mV Z (o_makeN (c := (s.count c + 1)) (sz := 1) (bytes := 16) H underlying69 typeInfo9 ⟨_, Z, Z⟩ Z Z Z Z Z Z Z oM oM oM Z ?_))))))))))); intro b7 w7 H
  have hchk7 := Chk.rep (E := strE) (sz := 1) (G := G0) (x0 := []) (⟨rfl, by decide⟩) rfl ((s.count c + 1))
  refine aG Z (q1 (mV Z (o_sub Z Z Z oO (aG Z (q1 (aG Z (q3 (W_seq (W_block ?_)))))))))
  refine W_lp (hf := (Sub.cons (t := 1) Z (Sub.cons (t := 2) Z (Sub.cons (t := 3) Z (Sub.cons (t := 8) Z Sub.nil))))) (J := fun M w m => ∃ (v : Value) (n : Nat) (cs : List Value) (xs : List (Bs)) (r : Bs) (i : Nat) (G : PH), M = [(0, str r), (10, .int .i64 (i : Int)), (9, v)] ∧ PLe G0 G ∧ Hp w0 G0 [] w G [acc 9 1 v n cs] ∧ (Chk strE 1 G cs xs ∧ n = xs.length ∧ i ≤ s.count c ∧ xs.length = s.count c + 1 ∧ r.length ≤ 16777216 ∧ xs.take i ++ Sp.cutAt c r = Sp.cutAt c s ∧ r.count c = s.count c - i) ∧ m = (s.count c + 1 - i)) (h0 := ⟨_, _, _, (List.replicate (s.count c + 1) []), s, 0, _, Z, PLe.refl _, H, ?inv, Z⟩) (round := ?round)
  case inv => exact ⟨hchk7,  by first | rfl | simp | (simp; omega) | omega, (by simp [hs])⟩
  case round =>
   rintro _ w9 _ ⟨v, n, cs, xs, r, i, G9, rfl, hle9, H, hinv9, rfl⟩
   obtain ⟨hchk9_0, hn9_0, hinv9⟩ := hinv9
   obtain ⟨av9_0, cv9_0, rfl⟩ := H.accShape (k := 0) rfl
   obtain ⟨hi, hxl, hrl, hcut, hrc⟩ := hinv9
   refine W_seq (q2 (mV Z (mV Z (o_lss Z Z Z (q3 ?_)))))
   refine W_cond Z ?_ ?_
   ·intro hc10
    try simp only [nrm] at hc10
    refine W_skip (N_K (W_block (q2 (mV Z (mV Z (o_call call235 Z Z (l_Index_c _ _ hrl _ ) ?_))))))
    rintro _ w11 ⟨rfl, ew11⟩; have H := H.step ew11; refine ⟨_, rfl, ?_⟩
    refine aG Z (q3 (W_seq (q2 (mV Z (o_lss Z Z Z (q3 ?_))))))
    refine W_cond Z ?_ ?_
    ·intro hc12
     try simp only [nrm] at hc12
     have hx := Sp.count_none c (Sp.at_none hc12)
     omega
    intro hc12'
    try simp only [nrm] at hc12'
    obtain ⟨m, x, hm1, hm2, hm3, hm4, hm5⟩ := Sp.at_nat hc12'
    have hm6 := Sp.count_some c hm1
    refine W_skip (N_K (q2 (mV Z (mV Z (mV Z (mV Z (mV Z (o_add Z Z Z oO (o_slice_str_to underlying9 Z Z Z oM oM (o_index_A 0 H i Z hchk9_0 underlying69 sizeOf9 Z Z Z Z aN aN ?_)))))))))); intro ba15 z15 q15 hba15 hz15 hE15 hg15; cases hba15
    obtain ⟨rfl, hi15⟩ := hE15; have hy_hi15 : _ ≤ 16777216 := hi15
    have hcl16 := hchk9_0.length
    refine o_store_A 0 H sizeOf9 Z Z Z Z Z (by simp only [vc, List.length_cons, List.length_nil]; omega) ?_; intro w16 H
    have hchk16 := hchk9_0.put (x' := (r.take m)) (off := 0) (vs := [_]) hz15 (fun cs hl hE => by obtain ⟨rfl, _⟩ := hE; exact ⟨congrArg (fun j => [str (List.take j r)]) (show (Sp.optI (List.findIdx? (Sp.isC c) r) + 0).toNat = m by omega), by simp; omega⟩) (by simp only [vc, List.length_cons, List.length_nil]; omega)
    refine q1 (mV Z (mV Z (mV Z (o_len_str underlying9 Z Z ?_))))
    have hll1 : ([c] : Fw.Bs).length = 1 := rfl
    refine o_add Z Z Z oO (o_slice_str_from underlying9 Z Z Z oM oM (aG Z (q3 (W_region (mV Z (o_add Z Z Z oO (aG Z (R_nil (N_B ?_)))))))))
    refine N_lp (hJ := ⟨_, _, _, (xs.set i (r.take m)), (r.drop (Sp.optI (List.findIdx? (Sp.isC c) r) + (([c] : Fw.Bs).length : Int)).toNat), i + 1, _, Z, hle9, H, ?inv, Z⟩) (hm := ?hm)
    case hm => omega
    case inv => exact ⟨hchk16, aN, (by refine ⟨by omega, by simp [hxl], by simp; omega, ?_, ?_⟩; (· rw [show (Sp.optI (List.findIdx? (Sp.isC c) r) + (([c] : Fw.Bs).length : Int)).toNat = m + 1 by omega]; exact Sp.cut_round hcut hm1 oM rfl); (· rw [show (Sp.optI (List.findIdx? (Sp.isC c) r) + (([c] : Fw.Bs).length : Int)).toNat = m + 1 by omega]; omega))⟩
   intro hc10'
   try simp only [nrm] at hc10'
   refine W_exit (N_K_exit (N_LP_exit (N_B_same (N_K (q2 (mV Z (mV Z (mV Z (o_index_A 0 H i Z hchk9_0 underlying69 sizeOf9 Z Z Z Z aN aN ?_))))))))); intro ba20 z20 q20 hba20 hz20 hE20 hg20; cases hba20
   obtain ⟨rfl, hi20⟩ := hE20; have hy_hi20 : _ ≤ 16777216 := hi20
   have hcl21 := hchk9_0.length
   refine o_store_A 0 H sizeOf9 Z Z Z Z Z (by simp only [vc, List.length_cons, List.length_nil]; omega) ?_; intro w21 H
   have hchk21 := hchk9_0.put (x' := r) (off := 0) (vs := [_]) hz20 (fun cs hl hE => by obtain ⟨rfl, _⟩ := hE; exact ⟨rfl, hrl⟩) (by simp only [vc, List.length_cons, List.length_nil]; omega)
   refine q1 ?_
   obtain ⟨G22, H, hsg22, hsr22⟩ := H.shut' (k := 0) rfl hchk21 aN aN
   refine mV Z (mV Z (o_add Z Z Z oO ?_))
   have hcap24 := hsr22.cap; try simp only [List.length_set, List.length_append, List.length_take, List.length_drop, List.length_replicate] at hcap24
   refine o_slice_to (j := (i + 1)) underlying69 sizeOf9 Z Z Z oM oM ?_
   have hsl24 := hsr22.take (j := (i + 1)) aN
   have hsn2 := hsl24.len
   refine aG Z (q3 (W_ret (rt1 results220 Z ?_)))
   obtain rfl : i = s.count c := by omega
   have hcl := Sp.cut_last hcut oM oM
   exact H.retP (by rw [← hcl]; exact hsl24)
 intro hc3'
 try simp only [nrm] at hc3'
 exact absurd hc3' (by decide)
theorem l_Split_c (w0 : World) (G0 : PH) (hG : PSub G0 w0) (s : Bs) (hs : s.length ≤ 16777216) (c : UInt8)  :
  Calls Tryz.prog 214 #[str s, str [c]] w0 (RetP w0 G0 (fun G v => RdT G v (Sp.cutAt c s))) := by
 have H := Hp.init hG
 refine calls_of_W (l := [str s, str [c]]) func214 Z ntmps214 Z (q2 (aG Z (q1 (mV Z (mV Z (o_call call220 Z Z (l_genSplit_c _ _ H.sub _ hs _   ) ?_))))))
 rintro _ w1 ⟨G1, u1_0, g1, rfl, hr1_0⟩
 have H := H.grow g1
 obtain ⟨a1_0, k1_0, rfl⟩ := hr1_0.shape; have hx_hr1_0 : _ ≤ 1099511627776 := hr1_0.lim
 refine ⟨_, Z, ?_⟩
 refine aG Z (q3 (W_ret (rt1 results214 Z ?_)))
 exact H.retP hr1_0
theorem i_parts_c (w0 : World) (G0 : PH) (hG : PSub G0 w0) (p : Bs) (hp : p.length ≤ 16777216)  :
  Calls Tryz.prog 193 #[str p] w0 (RetP w0 G0 (fun G v => RdT G v (Sp.parts p))) := by
 have H := Hp.init hG
 refine calls_of_W (l := [str p]) func193 Z ntmps193 Z (q2 (aG Z (q3 (W_seq (q2 (mV Z (o_len_str underlying191 Z Z (o_gtr Z Z Z (q3 ?_)))))))))
 refine W_cond Z ?_ ?_
 ·intro hc1
  try simp only [nrm] at hc1
  refine q2 (aG Z (q3 (W_ret (N_K_ret (rt1 results193 Z ?_)))))
  exact H.retP (by rw [show Sp.parts p = _ from by exact Sp.parts_long oM]; exact (RdS.nil _ _ _))
 intro hc1'
 try simp only [nrm] at hc1'
 refine W_skip (N_K (q2 (mV Z (o_call call214 Z Z (l_Split_c _ _ H.sub _ hp _ ) ?_))))
 rintro _ w2 ⟨G2, u2_0, g2, rfl, hr2_0⟩
 have H := H.grow g2
 obtain ⟨a2_0, k2_0, rfl⟩ := hr2_0.shape; have hx_hr2_0 : _ ≤ 1099511627776 := hr2_0.lim
 refine ⟨_, Z, ?_⟩
 refine aG Z (q3 (W_seq (q2 (mV Z (o_len_slice underlying69 Z Z (o_gtr Z Z Z (q3 ?_)))))))
 refine W_cond Z ?_ ?_
 ·intro hc3
  try simp only [nrm] at hc3
  refine q2 (aG Z (q3 (W_ret (N_K_ret (rt1 results193 Z ?_)))))
  exact H.retP (by rw [show Sp.parts p = _ from by exact Sp.parts_many (by rw [← Sp.cutAt_47]; omega)]; exact (RdS.nil _ _ _))
 intro hc3'
 try simp only [nrm] at hc3'
 refine W_skip (N_K (W_seq (q2 (mV Z (o_len_slice underlying69 Z Z (mV Z (q3 (W_block ?_))))))))
 refine W_lp (hf := (Sub.cons (t := 3) Z (Sub.cons (t := 14) Z (Sub.cons (t := 15) Z Sub.nil)))) (J := fun M w m => ∃ (k : Nat) (G : PH), M = [(16, .int .i64 (k : Int))] ∧ PLe G2 G ∧ Hp w0 G0 [] w G [] ∧ (k ≤ (Sp.cutAt 47 p).length ∧ ((Sp.cutAt 47 p).take k).all Sp.l1Word = true) ∧ m = ((Sp.cutAt 47 p).length - k)) (h0 := ⟨0, _, Z, PLe.refl _, H, ?inv, Z⟩) (round := ?round)
 case inv => exact ⟨by omega, by simp⟩
 case round =>
  rintro _ w4 _ ⟨k, G4, rfl, hle4, H, hinv4, rfl⟩
  have hr2_0 := hr2_0.up hle4
  obtain ⟨hk, hall⟩ := hinv4
  refine q2 (o_lss Z Z Z (q3 (W_seq ?_)))
  refine W_cond Z ?_ ?_
  ·intro hc5
   try simp only [nrm] at hc5
   refine W_skip (N_K (W_seq (W_block (q2 (o_index_P k hr2_0 underlying69 sizeOf9 Z Z Z Z aN ?_))))); intro b6 o6 z6 q6 hz6 hE6 hrow6
   obtain ⟨rfl, hi6⟩ := hE6; have hy_hi6 : _ ≤ 16777216 := hi6
   refine o_load_P H isAgg9 Z Z (hrow6 0 _ Z) (aG Z (q1 (mV Z (o_call call92 Z Z (i_partValid_c _ _ hi6 ) ?_))))
   rintro _ w7 ⟨rfl, ew7⟩; have H := H.step ew7; refine ⟨_, rfl, ?_⟩
   refine o_not Z Z (q3 ?_)
   refine W_cond Z ?_ ?_
   ·intro hc8
    try simp only [nrm] at hc8
    refine q2 (aG Z (q3 (W_ret (N_B_ret (N_K_ret (N_LP_ret (N_B_ret (N_K_ret (rt1 results193 Z ?_)))))))))
    exact H.retP (by rw [show Sp.parts p = _ from by exact Sp.parts_bad (by rw [← Sp.cutAt_47]; exact hz6) hc8]; exact (RdS.nil _ _ _))
   intro hc8'
   try simp only [nrm] at hc8'
   refine W_skip (N_B (N_K (W_region (o_add Z Z Z oO (mV Z (R_nil ?_))))))
   refine N_lp (hJ := ⟨k + 1, _, Z, hle4, H, ?inv, Z⟩) (hm := ?hm)
   case hm => omega
   case inv => exact ⟨by omega, Sp.all_take hall hz6 (by assumption)⟩
  intro hc5'
  try simp only [nrm] at hc5'
  refine W_exit (N_K_exit (N_LP_exit (N_B_same (N_K (q2 (mV Z (aG Z (q3 (W_ret (rt1 results193 Z ?_))))))))))
  obtain rfl : k = (Sp.cutAt 47 p).length := by omega
  rw [List.take_length] at hall
  have hpo : Sp.parts p = Sp.cutAt 47 p := (Sp.parts_ok (by rw [← Sp.cutAt_47]; exact hall) (by rw [← Sp.cutAt_47]; omega)).trans (Sp.cutAt_47 p).symm
  exact H.retP (by rw [hpo]; exact hr2_0)
theorem i_PathParts_c (w0 : World) (G0 : PH) (hG : PSub G0 w0) (p : Bs) (hp : p.length ≤ 16777216)  :
  Calls Tryz.prog 187 #[str p] w0 (RetP w0 G0 (fun G v => RdT G v (Sp.parts p))) := by
 have H := Hp.init hG
 refine calls_of_W (l := [str p]) func187 Z ntmps187 Z (q2 (aG Z (q1 (mV Z (o_call call193 Z Z (i_parts_c _ _ H.sub _ hp ) ?_)))))
 rintro _ w1 ⟨G1, u1_0, g1, rfl, hr1_0⟩
 have H := H.grow g1
 obtain ⟨a1_0, k1_0, rfl⟩ := hr1_0.shape; have hx_hr1_0 : _ ≤ 1099511627776 := hr1_0.lim
 refine ⟨_, Z, ?_⟩
 refine aG Z (q3 (W_ret (rt1 results187 Z ?_)))
 exact H.retP hr1_0
theorem i_valid_c (w0 : World) (G0 : PH) (hG : PSub G0 w0) (p : Bs) (hp : p.length ≤ 16777216)  :
  Calls Tryz.prog 159 #[str p] w0 (Rets w0 (.bool (Sp.PathValid p))) := by
 have H := Hp.init hG
 refine calls_of_W (l := [str p]) func159 Z ntmps159 Z (q2 (aG Z (q1 (mV Z (o_call call193 Z Z (i_parts_c _ _ H.sub _ hp ) ?_)))))
 rintro _ w1 ⟨G1, u1_0, g1, rfl, hr1_0⟩
 have H := H.grow g1
 obtain ⟨a1_0, k1_0, rfl⟩ := hr1_0.shape; have hx_hr1_0 : _ ≤ 1099511627776 := hr1_0.lim
 refine ⟨_, Z, ?_⟩
 refine o_len_slice underlying69 Z Z (o_gtr Z Z Z (aG Z (q3 (W_ret (rt1 results159 Z ?_)))))
 exact H.rets (congrArg Value.bool (by rw [← Sp.parts_pos, Bool.eq_iff_iff]; simp))
theorem i_PathValid_c (w0 : World) (G0 : PH) (hG : PSub G0 w0) (p : Bs) (hp : p.length ≤ 16777216)  :
  Calls Tryz.prog 119 #[str p] w0 (Rets w0 (.bool (Sp.PathValid p))) := by
 have H := Hp.init hG
 refine calls_of_W (l := [str p]) func119 Z ntmps119 Z (q2 (aG Z (q1 (mV Z (o_call call159 Z Z (i_valid_c _ _ H.sub _ hp ) ?_)))))
 rintro _ w1 ⟨rfl, ew1⟩; have H := H.step ew1; refine ⟨_, rfl, ?_⟩
 refine aG Z (q3 (W_ret (rt1 results119 Z ?_)))
 exact H.rets (congrArg Value.bool (by rfl))
theorem i_itemValid_c (w0 : World) (G0 : PH) (hG : PSub G0 w0) (cx : List Value) (x : BItem) (hx : itemE G0 x cx)  :
  Calls Tryz.prog 149 #[.agg cx.toArray] w0 (Rets w0 (.bool (Sp.l5Item x))) := by
 obtain ⟨a1, m1, c1, rfl, hi1, hr1⟩ := hx; have hy_hi1 : _ ≤ 16777216 := hi1; have hn_hr1 := hr1.len; have hx_hr1 : _ ≤ 1099511627776 := hr1.lim
 have H := Hp.init hG
 refine calls_of_W (l := [_]) func149 Z ntmps149 Z (q2 (o_box H Z Z Z ?_)); intro b2 w2 hb2 H
 refine aG Z (q3 (W_seq (q2 (o_fieldAddr 0 runUnderlying37 Z sizeOf9 Z Z Z (o_load_B 0 H isAgg9 Z Z Z Z (o_call call119 Z Z (i_PathValid_c _ _ H.sub _ hi1 ) ?_))))))
 rintro _ w3 ⟨rfl, ew3⟩; have H := H.step ew3; refine ⟨_, rfl, ?_⟩
 refine o_not Z Z (mV Z ?_)
 refine R_case (t := 9) Z ?_ ?_
 ·intro hc4
  try simp only [nrm] at hc4
  refine rP Z (rP Z (rP Z (rP Z (o_pick_t Z Z Z (mV Z (rP Z (rP Z (rP Z (R_pass Z (yl_un Z Z) (R_pass Z (yl_un Z Z) (R_pass Z (yl_un Z Z) (R_pass Z (yl_un Z Z) (rP Z (o_pick_t Z Z Z (q3 ?_)))))))))))))))
  refine W_true Z (q2 (aG Z (q3 (W_ret (N_K_ret (rt1 results149 Z ?_))))))
  exact H.rets (congrArg Value.bool (by simp [Sp.l5Item, hc4]))
 intro hc4'
 try simp only [nrm] at hc4'
 refine gR Z (o_fieldAddr 2 runUnderlying37 Z sizeOf33 Z Z Z (gR Z (o_load_B 0 H isAgg33 Z Z Z Z (gR Z (o_len_slice underlying33 Z Z (gR Z (o_gtr Z Z Z (o_pick_f Z Z Z (mV Z ?_)))))))))
 refine R_case (t := 15) Z ?_ ?_
 ·intro hc5
  try simp only [nrm] at hc5
  refine rP Z (rP Z (rP Z (R_pass Z (yl_un Z Z) (R_pass Z (yl_un Z Z) (R_pass Z (yl_un Z Z) (R_pass Z (yl_un Z Z) (rP Z (o_pick_t Z Z Z (q3 (W_true Z (q2 (aG Z (q3 (W_ret (N_K_ret ?_)))))))))))))))
  refine rt1 results149 Z ?_
  exact H.rets (congrArg Value.bool (by rw [Sp.l5Item, Bool.eq_iff_iff]; simp; intros; omega))
 intro hc5'
 try simp only [nrm] at hc5'
 refine gR Z (o_fieldAddr 1 runUnderlying37 Z sizeOf4 Z Z Z (gR Z (o_load_B 0 H isAgg4 Z Z Z Z (gR Z (mV Z ?_)))))
 refine R_case (t := 18) Z ?_ ?_
 ·intro hc6
  try simp only [nrm] at hc6
  refine gR Z (o_fieldAddr 2 runUnderlying37 Z sizeOf33 Z Z Z (gR Z (o_load_B 0 H isAgg33 Z Z Z Z (gR Z (o_len_slice underlying33 Z Z (gR Z (o_gtr Z Z Z (gR Z (o_pick_t Z Z Z (o_pick_f Z Z Z (q3 ?_)))))))))))
  refine W_cond Z ?_ ?_
  ·intro hc7
   try simp only [nrm] at hc7
   refine q2 (aG Z (q3 (W_ret (N_K_ret (rt1 results149 Z ?_)))))
   exact H.rets (congrArg Value.bool (by rw [Sp.l5Item, Sp.all_false (c := x.ids[0]) (k := 0) (List.getElem?_eq_getElem oM) (by simp [Sp.idOk, hc6])]; rfl))
  intro hc7'
  try simp only [nrm] at hc7'
  refine W_skip (N_K (W_seq (q2 (o_fieldAddr 2 runUnderlying37 Z sizeOf33 Z Z Z (o_load_B 0 H isAgg33 Z Z Z Z (o_len_slice underlying33 Z Z (mV Z (q3 (W_block ?_)))))))))
  obtain ⟨ln8, hln8, H⟩ := H.name (k := 0) rfl
  refine W_lp (hf := (Sub.cons (t := 26) Z (Sub.cons (t := 27) Z Sub.nil))) (J := fun M w m => ∃ (k : Nat) (G : PH), M = [(28, .int .i64 (k : Int))] ∧ PLe G0 G ∧ Hp w0 G0 [] w G [blk b2 (cl ln8 37)] ∧ (k ≤ x.ids.length ∧ (x.ids.take k).all (Sp.idOk x.dir) = true) ∧ m = (x.ids.length - k)) (h0 := ⟨0, _, Z, PLe.refl _, H, ?inv, Z⟩) (round := ?round)
  case inv => exact ⟨by omega, by simp⟩
  case round =>
   rintro _ w9 _ ⟨k, G9, rfl, hle9, H, hinv9, rfl⟩
   subst hln8
   have hr1 := hr1.up hle9
   obtain ⟨hk, hall⟩ := hinv9
   refine q2 (o_lss Z Z Z (q3 (W_seq ?_)))
   refine W_cond Z ?_ ?_
   ·intro hc10
    try simp only [nrm] at hc10
    refine W_skip (N_K (W_seq (W_block (q2 (o_index_P k hr1 underlying33 sizeOf3 Z Z Z Z aN ?_))))); intro b11 o11 z11 q11 hz11 hE11 hrow11
    obtain ⟨rfl, hi11⟩ := hE11
    refine o_load_P H isAgg3 Z Z (hrow11 0 _ Z) (aG Z (q1 (mV Z (o_lss Z Z Z (mV Z ?_)))))
    refine R_case (t := 34) Z ?_ ?_
    ·intro hc12
     try simp only [nrm] at hc12
     refine rP Z (rP Z (o_pick_t Z Z Z (q3 (W_true Z (q2 (aG Z (q3 (W_ret (N_B_ret (N_K_ret (N_LP_ret (N_B_ret (N_K_ret (rt1 results149 Z ?_))))))))))))))
     exact H.rets (congrArg Value.bool (by rw [Sp.l5Item, Sp.all_false hz11 (by first | (exfalso; omega) | (simp [Sp.idOk, Sp.l6In, *]; done) | (simp [Sp.idOk, Sp.l6In, *]; omega))]; rfl))
    intro hc12'
    try simp only [nrm] at hc12'
    refine gR Z (mV Z (gR Z (o_gtr Z Z Z (o_pick_f Z Z Z (q3 ?_)))))
    refine W_cond Z ?_ ?_
    ·intro hc13
     try simp only [nrm] at hc13
     refine q2 (aG Z (q3 (W_ret (N_B_ret (N_K_ret (N_LP_ret (N_B_ret (N_K_ret (rt1 results149 Z ?_)))))))))
     exact H.rets (congrArg Value.bool (by rw [Sp.l5Item, Sp.all_false hz11 (by first | (exfalso; omega) | (simp [Sp.idOk, Sp.l6In, *]; done) | (simp [Sp.idOk, Sp.l6In, *]; omega))]; rfl))
    intro hc13'
    try simp only [nrm] at hc13'
    refine W_skip (N_B (N_K (W_region (o_add Z Z Z oO (mV Z (R_nil ?_))))))
    refine N_lp (hJ := ⟨k + 1, _, Z, hle9, H, ?inv, Z⟩) (hm := ?hm)
    case hm => omega
    case inv => exact ⟨by omega, Sp.all_take hall hz11 (by first | (exfalso; omega) | (simp [Sp.idOk, Sp.l6In, *]; done) | (simp [Sp.idOk, Sp.l6In, *]; omega))⟩
   intro hc10'
   try simp only [nrm] at hc10'
   refine W_exit (N_K_exit (N_LP_exit (N_B_same (N_K (q2 (aG Z (q3 (W_ret (rt1 results149 Z ?_)))))))))
   obtain rfl : k = x.ids.length := by omega
   rw [List.take_length] at hall
   exact H.rets (congrArg Value.bool (by rw [Sp.l5Item, hall, Bool.eq_iff_iff]; simp [hc4']; omega))
 intro hc6'
 try simp only [nrm] at hc6'
 refine rP Z (rP Z (rP Z (rP Z (gR Z (o_pick_f Z Z Z (o_pick_f Z Z Z (q3 (W_false Z (W_skip (N_K (W_seq (q2 (o_fieldAddr 2 runUnderlying37 Z sizeOf33 Z Z Z (o_load_B 0 H isAgg33 Z Z Z Z (o_len_slice underlying33 Z Z ?_)))))))))))))))
 refine mV Z (q3 (W_block ?_))
 obtain ⟨ln15, hln15, H⟩ := H.name (k := 0) rfl
 refine W_lp (hf := (Sub.cons (t := 26) Z (Sub.cons (t := 27) Z Sub.nil))) (J := fun M w m => ∃ (k : Nat) (G : PH), M = [(28, .int .i64 (k : Int))] ∧ PLe G0 G ∧ Hp w0 G0 [] w G [blk b2 (cl ln15 37)] ∧ (k ≤ x.ids.length ∧ (x.ids.take k).all (Sp.idOk x.dir) = true) ∧ m = (x.ids.length - k)) (h0 := ⟨0, _, Z, PLe.refl _, H, ?inv, Z⟩) (round := ?round)
 case inv => exact ⟨by omega, by simp⟩
 case round =>
  rintro _ w16 _ ⟨k, G16, rfl, hle16, H, hinv16, rfl⟩
  subst hln15
  have hr1 := hr1.up hle16
  obtain ⟨hk, hall⟩ := hinv16
  refine q2 (o_lss Z Z Z (q3 (W_seq ?_)))
  refine W_cond Z ?_ ?_
  ·intro hc17
   try simp only [nrm] at hc17
   refine W_skip (N_K (W_seq (W_block (q2 (o_index_P k hr1 underlying33 sizeOf3 Z Z Z Z aN ?_))))); intro b18 o18 z18 q18 hz18 hE18 hrow18
   obtain ⟨rfl, hi18⟩ := hE18
   refine o_load_P H isAgg3 Z Z (hrow18 0 _ Z) (aG Z (q1 (mV Z (o_lss Z Z Z (mV Z ?_)))))
   refine R_case (t := 34) Z ?_ ?_
   ·intro hc19
    try simp only [nrm] at hc19
    refine rP Z (rP Z (o_pick_t Z Z Z (q3 (W_true Z (q2 (aG Z (q3 (W_ret (N_B_ret (N_K_ret (N_LP_ret (N_B_ret (N_K_ret (rt1 results149 Z ?_))))))))))))))
    exact H.rets (congrArg Value.bool (by rw [Sp.l5Item, Sp.all_false hz18 (by first | (exfalso; omega) | (simp [Sp.idOk, Sp.l6In, *]; done) | (simp [Sp.idOk, Sp.l6In, *]; omega))]; rfl))
   intro hc19'
   try simp only [nrm] at hc19'
   refine gR Z (mV Z (gR Z (o_gtr Z Z Z (o_pick_f Z Z Z (q3 ?_)))))
   refine W_cond Z ?_ ?_
   ·intro hc20
    try simp only [nrm] at hc20
    refine q2 (aG Z (q3 (W_ret (N_B_ret (N_K_ret (N_LP_ret (N_B_ret (N_K_ret (rt1 results149 Z ?_)))))))))
    exact H.rets (congrArg Value.bool (by rw [Sp.l5Item, Sp.all_false hz18 (by first | (exfalso; omega) | (simp [Sp.idOk, Sp.l6In, *]; done) | (simp [Sp.idOk, Sp.l6In, *]; omega))]; rfl))
   intro hc20'
   try simp only [nrm] at hc20'
   refine W_skip (N_B (N_K (W_region (o_add Z Z Z oO (mV Z (R_nil ?_))))))
   refine N_lp (hJ := ⟨k + 1, _, Z, hle16, H, ?inv, Z⟩) (hm := ?hm)
   case hm => omega
   case inv => exact ⟨by omega, Sp.all_take hall hz18 (by first | (exfalso; omega) | (simp [Sp.idOk, Sp.l6In, *]; done) | (simp [Sp.idOk, Sp.l6In, *]; omega))⟩
  intro hc17'
  try simp only [nrm] at hc17'
  refine W_exit (N_K_exit (N_LP_exit (N_B_same (N_K (q2 (aG Z (q3 (W_ret (rt1 results149 Z ?_)))))))))
  obtain rfl : k = x.ids.length := by omega
  rw [List.take_length] at hall
  exact H.rets (congrArg Value.bool (by rw [Sp.l5Item, hall, Bool.eq_iff_iff]; simp [hc4']; omega))
end Go.Proofs.Tst

namespace Go.Proofs.Tst
open Go Fw Tryz
theorem l_isNaN_c (w0 : World) (x : Bs) (hx : x.length ≤ 16777216)  :
  Calls Tryz.prog 218 #[str x] w0 (Rets w0 (.bool false)) := by
 have H := Hp.init0 w0
 refine calls_of_W (l := [str x]) func218 Z ntmps218 Z (q2 (aG Z (q1 (mV Z (mV Z (o_sneq Z Z Z (aG Z (q3 (W_ret (rt1 results218 Z ?_))))))))))
 exact H.rets (congrArg Value.bool (by simp))
theorem l_Compare_c (w0 : World) (x : Bs) (hx : x.length ≤ 16777216) (y : Bs) (hy : y.length ≤ 16777216)  :
  Calls Tryz.prog 211 #[str x, str y] w0 (Rets w0 (.int .i64 (Sp.cmpB x y))) := by
 have H := Hp.init0 w0
 refine calls_of_W (l := [str x, str y]) func211 Z ntmps211 Z (q2 (aG Z (q1 (mV Z (o_call call218 Z Z (l_isNaN_c _ _ hx ) ?_)))))
 rintro _ w1 ⟨rfl, ew1⟩; have H := H.step ew1; refine ⟨_, rfl, ?_⟩
 refine aG Z (q1 (mV Z (o_call call218 Z Z (l_isNaN_c _ _ hy ) ?_)))
 rintro _ w2 ⟨rfl, ew2⟩; have H := H.step ew2; refine ⟨_, rfl, ?_⟩
 refine aG Z (q3 (W_seq (q2 (mV Z (q3 (W_false Z (W_skip (N_K (W_seq (q2 (mV Z (q3 (W_false Z (W_skip (N_K ?_)))))))))))))))
 refine W_seq (q2 (mV Z (mV Z (o_slss Z Z Z (q3 ?_)))))
 refine W_cond Z ?_ ?_
 ·intro hc3
  try simp only [nrm] at hc3
  refine q2 (aG Z (q3 (W_ret (N_K_ret (rt1 results211 Z ?_)))))
  exact H.rets (congrArg (Value.int .i64) (by unfold Sp.cmpB; simp_all))
 intro hc3'
 try simp only [nrm] at hc3'
 refine W_skip (N_K (W_seq (q2 (mV Z (mV Z (o_sgtr Z Z Z (q3 ?_)))))))
 refine W_cond Z ?_ ?_
 ·intro hc4
  try simp only [nrm] at hc4
  refine q2 (aG Z (q3 (W_ret (N_K_ret (rt1 results211 Z ?_)))))
  exact H.rets (congrArg (Value.int .i64) (by unfold Sp.cmpB; simp_all))
 intro hc4'
 try simp only [nrm] at hc4'
 refine W_skip (N_K (q2 (aG Z (q3 (W_ret (rt1 results211 Z ?_))))))
 exact H.rets (congrArg (Value.int .i64) (by unfold Sp.cmpB; simp_all))
theorem i_place1_c (w0 : World) (G0 : PH) (hG : PSub G0 w0) (t : Nd) (hndt : RdN G0 t) (nm : Bs) (hnm : nm.length ≤ 16777216)  :
  Calls Tryz.prog 210 #[.pointer (some ⟨t.b, 0, none⟩), str nm] w0 (Rets w0 (.int .i64 (Sp.cmpB t.name nm))) := by
 obtain ⟨hnlt, nat, nmt, nct, nAt, nMt, nCt, hprt, hrit, hrkt⟩ := hndt.open
 have hn_hrit := hrit.len; have hx_hrit : _ ≤ 1099511627776 := hrit.lim
 have hn_hrkt := hrkt.len; have hx_hrkt : _ ≤ 1099511627776 := hrkt.lim
 have H := Hp.init hG
 refine calls_of_W (l := [.pointer (some ⟨t.b, 0, none⟩), str nm]) func210 Z ntmps210 Z (q2 (aG Z (q1 (mV Z (o_nilCheck Z Z (o_fieldAddr 0 runUnderlying149 Z sizeOf9 Z Z Z (o_load_P H isAgg9 Z Z (hprt 0 _ Z) (mV Z (o_call call211 Z Z (l_Compare_c _ _ hnlt _ hnm ) ?_)))))))))
 rintro _ w1 ⟨rfl, ew1⟩; have H := H.step ew1; refine ⟨_, rfl, ?_⟩
 refine aG Z (q3 (W_ret (rt1 results210 Z ?_)))
 exact H.rets (congrArg (Value.int .i64) (by rfl))
theorem l_Search_c (w0 : World) (G0 : PH) (hG : PSub G0 w0) (vkids : Value) (kids : List (Nd)) (hkids : RdNd G0 vkids kids) (nm : Bs) (hnm : nm.length ≤ 16777216) (hsk : Sp.srt kids)  :
  Calls Tryz.prog 209 #[vkids, str nm, .func (.func 210) #[] #[]] w0 (Rets w0 (.tuple #[.int .i64 (Sp.pl kids nm : Nat), .bool (Sp.fd kids nm).isSome])) := by
 obtain ⟨akids, kkids, rfl⟩ := hkids.shape
 have hlimkids : kids.length ≤ 1099511627776 := hkids.lim
 have H := Hp.init hG
 refine calls_of_W (l := [.slice akids kids.length kkids, str nm, .func (.func 210) #[] #[]]) func209 Z ntmps209 Z (q2 (aG Z (aG Z (q1 (mV Z (o_len_slice underlying147 Z Z (aG Z (q1 (mV Z (aG Z (aG Z (q3 (W_seq (W_block ?_))))))))))))))
 refine W_lp (hf := (Sub.cons (t := 0) Z (Sub.cons (t := 1) Z (Sub.cons (t := 2) Z (Sub.cons (t := 6) Z (Sub.cons (t := 7) Z (Sub.cons (t := 8) Z Sub.nil))))))) (J := fun M w m => ∃ (i j : Nat) (G : PH), M = [(9, .int .i64 (i : Int)), (10, .int .i64 (j : Int))] ∧ PLe G0 G ∧ Hp w0 G0 [] w G [] ∧ (i ≤ j ∧ j ≤ kids.length ∧ (∀ (k : Nat) (x : Nd), k < i → kids[k]? = some x → Sp.lt x.name nm = true) ∧ (∀ (k : Nat) (x : Nd), j ≤ k → kids[k]? = some x → Sp.lt x.name nm = false)) ∧ m = (j - i)) (h0 := ⟨0, kids.length, _, Z, PLe.refl _, H, ?inv, Z⟩) (round := ?round)
 case inv => exact ⟨by omega, by omega, fun k x hk => by omega, fun k x hk hx => by have := (List.getElem?_eq_some_iff.1 hx).1; omega⟩
 case round =>
  rintro _ w1 _ ⟨i, j, G1, rfl, hle1, H, hinv1, rfl⟩
  have hkids := hkids.up hle1
  obtain ⟨hij, hjl, hlo, hhi⟩ := hinv1
  refine W_seq (q2 (mV Z (mV Z (o_lss Z Z Z (q3 ?_)))))
  refine W_cond Z ?_ ?_
  ·intro hc2
   try simp only [nrm] at hc2
   refine W_skip (N_K (W_block (q2 (mV Z (mV Z (o_add Z Z Z oO (o_conv (by simp [underlying3]) underlying228 Z Z (wrap_u64 oO) (o_shr1 Z Z Z (by decide) (o_conv (by simp [underlying228]) underlying3 Z Z (wrap_i64 oO) (aG Z (q1 (mV Z (mV Z (mV Z (o_index_P ((i + j) / 2) hkids underlying147 sizeOf97 Z Z Z oM aN ?_))))))))))))))); intro b4 o4 z4 q4 hz4 hE4 hrow4
   obtain ⟨rfl, hnd4⟩ := hE4; obtain ⟨hnl4, na4, nm4, nc4, nA4, nM4, nC4, hpr4, hri4, hrk4⟩ := hnd4.open; have hn_hri4 := hri4.len; have hx_hri4 : _ ≤ 1099511627776 := hri4.lim; have hn_hrk4 := hrk4.len; have hx_hrk4 : _ ≤ 1099511627776 := hrk4.lim
   refine o_load_P H isAgg97 Z Z (hrow4 0 _ Z) (mV Z (o_callv call210 Z Z Z (i_place1_c _ _ H.sub _ hnd4 _ hnm ) ?_))
   rintro _ w5 ⟨rfl, ew5⟩; have H := H.step ew5; refine ⟨_, rfl, ?_⟩
   refine o_lss Z Z Z (q3 ?_)
   refine W_cond Z ?_ ?_
   ·intro hc6
    try simp only [nrm] at hc6
    refine W_region (mV Z (o_add Z Z Z oO (aG Z (R_nil (N_B ?_)))))
    refine N_lp (hJ := ⟨((i + j) / 2 + 1), j, _, Z, hle1, H, ?inv, Z⟩) (hm := ?hm)
    case hm => omega
    case inv => exact ⟨by omega, by omega, Sp.pw_lt hsk hz4 ((Sp.cmpB_lt _ _).1 hc6), hhi⟩
   intro hc6'
   try simp only [nrm] at hc6'
   refine W_region (mV Z (aG Z (R_nil (N_B ?_))))
   refine N_lp (hJ := ⟨i, ((i + j) / 2), _, Z, hle1, H, ?inv, Z⟩) (hm := ?hm)
   case hm => omega
   case inv => exact ⟨by omega, by omega, hlo, Sp.pw_ge hsk hz4 (by cases hlt : Sp.lt z4.name nm with | false => rfl | true => exact absurd ((Sp.cmpB_lt _ _).2 hlt) oM)⟩
  intro hc2'
  try simp only [nrm] at hc2'
  refine W_exit (N_K_exit (N_LP_exit (N_B_same (N_K (q2 (mV Z (mV Z (mV Z (o_lss Z Z Z (mV Z ?_))))))))))
  refine R_case (t := 39) Z ?_ ?_
  ·intro hc8
   try simp only [nrm] at hc8
   refine gR Z (mV Z (gR Z (mV Z (gR Z (mV Z (gR Z (o_index_P i hkids underlying147 sizeOf97 Z Z Z Z aN ?_))))))); intro b9 o9 z9 q9 hz9 hE9 hrow9
   obtain ⟨rfl, hnd9⟩ := hE9; obtain ⟨hnl9, na9, nm9, nc9, nA9, nM9, nC9, hpr9, hri9, hrk9⟩ := hnd9.open; have hn_hri9 := hri9.len; have hx_hri9 : _ ≤ 1099511627776 := hri9.lim; have hn_hrk9 := hrk9.len; have hx_hrk9 : _ ≤ 1099511627776 := hrk9.lim
   refine gR Z (o_load_P H isAgg97 Z Z (hrow9 0 _ Z) (gR Z (mV Z (gR Z (o_callv call210 Z Z Z (i_place1_c _ _ H.sub _ hnd9 _ hnm ) ?_)))))
   rintro _ w10 ⟨rfl, ew10⟩; have H := H.step ew10; refine ⟨_, rfl, ?_⟩
   refine gR Z (o_eql Z Z Z (o_pick_t Z Z Z (aG Z (aG Z (q3 (W_ret (rt2 results209 Z Z ?_)))))))
   obtain rfl : i = j := by omega
   have hpl := Sp.pl_of oM hlo hhi
   obtain ⟨hfd, _⟩ := Sp.fd_at hsk hz9 hlo hhi
   exact H.rets (by rw [hpl, hfd]; simp only [Sp.cmpB_eq]; rfl)
  intro hc8'
  try simp only [nrm] at hc8'
  refine rP Z (rP Z (rP Z (rP Z (rP Z (rP Z (rP Z (rP Z (o_pick_f Z Z Z (aG Z (aG Z (q3 (W_ret (rt2 results209 Z Z ?_)))))))))))))
  obtain rfl : i = j := by omega
  have hpl := Sp.pl_of oM hlo hhi
  have hfd := Sp.fd_end (nm := nm) (ks := kids) (fun k x hk hx => hlo k x oM hx)
  exact H.rets (by rw [hpl, hfd]; rfl)
theorem i_place_c (w0 : World) (G0 : PH) (hG : PSub G0 w0) (t : Nd) (hndt : RdN G0 t) (nm : Bs) (hnm : nm.length ≤ 16777216) (hwt : t.wf) :
  Calls Tryz.prog 185 #[.pointer (some ⟨t.b, 0, none⟩), str nm] w0 (Rets w0 (.tuple #[.int .i64 (Sp.pl t.kids nm : Nat), .bool (Sp.fd t.kids nm).isSome])) := by
 obtain ⟨hnlt, nat, nmt, nct, nAt, nMt, nCt, hprt, hrit, hrkt⟩ := hndt.open
 have hn_hrit := hrit.len; have hx_hrit : _ ≤ 1099511627776 := hrit.lim
 have hn_hrkt := hrkt.len; have hx_hrkt : _ ≤ 1099511627776 := hrkt.lim
 have H := Hp.init hG
 refine calls_of_W (l := [.pointer (some ⟨t.b, 0, none⟩), str nm]) func185 Z ntmps185 Z (q2 (aG Z (aG Z (q1 (mV Z (o_nilCheck Z Z (o_fieldAddr 3 runUnderlying149 Z sizeOf147 Z Z Z (o_load_P H isAgg147 Z Z (hprt 3 _ Z) (mV Z (o_call call209 Z Z (l_Search_c _ _ H.sub _ _ hrkt _ hnm ((Nd.wf_iff _).1 hwt).1 ) ?_))))))))))
 rintro _ w1 ⟨rfl, ew1⟩; have H := H.step ew1; refine ⟨_, rfl, ?_⟩
 refine o_extract Z Z Z (o_extract Z Z Z (aG Z (aG Z (q3 (W_ret (rt2 results185 Z Z ?_))))))
 exact H.rets Z
theorem i_at_c (w0 : World) (G0 : PH) (hG : PSub G0 w0) (t : Nd) (hndt : RdN G0 t) (vps : Value) (ps : List (Bs)) (hps : RdT G0 vps ps) (hwt : t.wf) :
  Calls Tryz.prog 152 #[.pointer (some ⟨t.b, 0, none⟩), vps] w0 (RetV w0 (fun v => (t.at_ ps = none ∧ v = .pointer none) ∨ (∃ d, t.at_ ps = some d ∧ v = .pointer (some ⟨d.b, 0, none⟩)))) := by
 obtain ⟨hnlt, nat, nmt, nct, nAt, nMt, nCt, hprt, hrit, hrkt⟩ := hndt.open
 have hn_hrit := hrit.len; have hx_hrit : _ ≤ 1099511627776 := hrit.lim
 have hn_hrkt := hrkt.len; have hx_hrkt : _ ≤ 1099511627776 := hrkt.lim
 obtain ⟨aps, kps, rfl⟩ := hps.shape
 have hlimps : ps.length ≤ 1099511627776 := hps.lim
 have H := Hp.init hG
 refine calls_of_W (l := [.pointer (some ⟨t.b, 0, none⟩), .slice aps ps.length kps]) func152 Z ntmps152 Z (q2 (aG Z (q3 (W_seq (q2 (mV Z (o_len_slice underlying69 Z Z (mV Z (q3 (W_block ?_))))))))))
 refine W_lp (hf := (Sub.cons (t := 9) Z (Sub.cons (t := 10) Z Sub.nil))) (J := fun M w m => ∃ (k : Nat) (d : Nd) (G : PH), M = [(11, .int .i64 (k : Int)), (0, .pointer (some ⟨d.b, 0, none⟩))] ∧ PLe G0 G ∧ Hp w0 G0 [] w G [] ∧ (k ≤ ps.length ∧ RdN G d ∧ d.wf ∧ t.at_ (ps.take k) = some d) ∧ m = (ps.length - k)) (h0 := ⟨0, t, _, Z, PLe.refl _, H, ?inv, Z⟩) (round := ?round)
 case inv => exact ⟨by omega, hndt, hwt, rfl⟩
 case round =>
  rintro _ w1 _ ⟨k, d, G1, rfl, hle1, H, hinv1, rfl⟩
  have hps := hps.up hle1
  obtain ⟨hk, hnd0, hwd, hat⟩ := hinv1; obtain ⟨hnl0, na0, nm0, nc0, nA0, nM0, nC0, hpr0, hri0, hrk0⟩ := hnd0.open; have hn_hrk0 := hrk0.len
  refine q2 (o_lss Z Z Z (q3 (W_seq ?_)))
  refine W_cond Z ?_ ?_
  ·intro hc2
   try simp only [nrm] at hc2
   refine W_skip (N_K (W_seq (W_block (q2 (o_index_P k hps underlying69 sizeOf9 Z Z Z Z aN ?_))))); intro b3 o3 z3 q3 hz3 hE3 hrow3
   obtain ⟨rfl, hi3⟩ := hE3; have hy_hi3 : _ ≤ 16777216 := hi3
   refine o_load_P H isAgg9 Z Z (hrow3 0 _ Z) (aG Z (q1 (mV Z (mV Z (o_call call185 Z Z (i_place_c _ _ H.sub _ hnd0 _ hi3 hwd) ?_)))))
   rintro _ w4 ⟨rfl, ew4⟩; have H := H.step ew4; refine ⟨_, rfl, ?_⟩
   refine mV Z (o_extract Z Z Z (o_extract Z Z Z (aG Z (aG Z (q3 (W_seq (q2 (mV Z (o_not Z Z (q3 ?_))))))))))
   refine W_cond Z ?_ ?_
   ·intro hc5
    try simp only [nrm] at hc5
    refine q2 (aG Z (q3 (W_ret (N_K_ret (N_B_ret (N_K_ret (N_LP_ret (N_B_ret (N_K_ret (rt1 results152 Z ?_))))))))))
    exact H.retV (.inl ⟨Nd.at_stop hz3 hat (by simpa [Sp.fd, Nd.kid] using hc5), rfl⟩)
   intro hc5'
   try simp only [nrm] at hc5'
   obtain ⟨q, hq⟩ := Option.isSome_iff_exists.1 hc5'
   have hpl : d.kids[Sp.pl d.kids z3]? = some q := Nd.place_some hwd hq
   have hlt : Sp.pl d.kids z3 < d.kids.length := (List.getElem?_eq_some_iff.1 hpl).1
   refine W_skip (N_K (W_region (mV Z (o_nilCheck Z Z (o_fieldAddr 3 runUnderlying149 Z sizeOf147 Z Z Z (o_load_P H isAgg147 Z Z (hpr0 3 _ Z) (mV Z (o_index_P (Sp.pl d.kids z3) hrk0 underlying147 sizeOf97 Z Z Z Z aN ?_)))))))); intro b6 o6 z6 q6 hz6 hE6 hrow6
   obtain ⟨rfl, hnd6⟩ := hE6; obtain ⟨hnl6, na6, nm6, nc6, nA6, nM6, nC6, hpr6, hri6, hrk6⟩ := hnd6.open; have hn_hri6 := hri6.len; have hx_hri6 : _ ≤ 1099511627776 := hri6.lim; have hn_hrk6 := hrk6.len; have hx_hrk6 : _ ≤ 1099511627776 := hrk6.lim
   have hkid : Nd.kid d z3 = some z6 := by (show Sp.fd _ _ = _); rw [hq]; exact hpl.symm.trans hz6
   refine o_load_P H isAgg97 Z Z (hrow6 0 _ Z) (aG Z (R_nil (N_B (N_K (W_region (o_add Z Z Z oO (mV Z (R_nil ?_))))))))
   refine N_lp (hJ := ⟨k + 1, z6, _, Z, hle1, H, ?inv, Z⟩) (hm := ?hm)
   case hm => omega
   case inv => exact ⟨by omega, hnd6, (((Nd.wf_iff _).1 hwd).2 _ (List.mem_of_getElem? hz6)).2, by rw [Nd.at_step hz3 hat]; exact hkid⟩
  intro hc2'
  try simp only [nrm] at hc2'
  refine W_exit (N_K_exit (N_LP_exit (N_B_same (N_K (q2 (mV Z (aG Z (q3 (W_ret (rt1 results152 Z ?_))))))))))
  exact H.retV (.inr ⟨d, by rw [← hat, List.take_of_length_le oM], rfl⟩)
theorem i_dirOf_c (w0 : World) (G0 : PH) (hG : PSub G0 w0) (t : Nd) (hndt : RdN G0 t) (path : Bs) (hpath : path.length ≤ 16777216) (hwt : t.wf) :
  Calls Tryz.prog 151 #[.pointer (some ⟨t.b, 0, none⟩), str path] w0 (RetV w0 (fun v => (t.dirOf path = none ∧ v = .tuple #[.pointer none, str []]) ∨ (∃ d nm, t.dirOf path = some (d, nm) ∧ v = .tuple #[.pointer (some ⟨d.b, 0, none⟩), str nm]))) := by
 obtain ⟨hnlt, nat, nmt, nct, nAt, nMt, nCt, hprt, hrit, hrkt⟩ := hndt.open
 have hn_hrit := hrit.len; have hx_hrit : _ ≤ 1099511627776 := hrit.lim
 have hn_hrkt := hrkt.len; have hx_hrkt : _ ≤ 1099511627776 := hrkt.lim
 have H := Hp.init hG
 refine calls_of_W (l := [.pointer (some ⟨t.b, 0, none⟩), str path]) func151 Z ntmps151 Z (q2 (aG Z (aG Z (q1 (mV Z (o_call call187 Z Z (i_PathParts_c _ _ H.sub _ hpath ) ?_))))))
 rintro _ w1 ⟨G1, u1_0, g1, rfl, hr1_0⟩
 have H := H.grow g1
 have hndt := hndt.up g1.le
 obtain ⟨a1_0, k1_0, rfl⟩ := hr1_0.shape; have hx_hr1_0 : _ ≤ 1099511627776 := hr1_0.lim
 refine ⟨_, Z, ?_⟩
 refine aG Z (q3 (W_seq (q2 (mV Z (o_len_slice underlying69 Z Z (o_eql Z Z Z (q3 ?_)))))))
 refine W_cond Z ?_ ?_
 ·intro hc2
  try simp only [nrm] at hc2
  refine q2 (aG Z (aG Z (q3 (W_ret (N_K_ret (rt2 results151 Z Z ?_))))))
  exact H.retV (.inl ⟨Nd.dirOf_nil oM, Z⟩)
 intro hc2'
 try simp only [nrm] at hc2'
 refine W_skip (N_K (q2 (mV Z (o_len_slice underlying69 Z Z (o_sub Z Z Z oO (aG Z (q1 (mV Z (mV Z (mV Z ?_))))))))))
 have hcap4 := hr1_0.cap; try simp only [List.length_set, List.length_append, List.length_take, List.length_drop, List.length_replicate] at hcap4
 refine o_slice_to (j := ((Sp.parts path).length - 1)) underlying69 sizeOf9 Z Z Z oM oM ?_
 have hsl4 := hr1_0.take (j := ((Sp.parts path).length - 1)) aN
 have hsn1 := hsl4.len
 refine o_call call152 Z Z (i_at_c _ _ H.sub _ hndt _ _ hsl4 hwt) ?_
 rintro _ w5 ⟨_, rfl, ew5, ⟨hat5, rfl⟩ | ⟨d5, hat5, rfl⟩⟩
 ·skip
  have H := H.step ew5; refine ⟨_, rfl, ?_⟩
  refine aG Z (q3 (W_seq (q2 (mV Z (o_eqnil_ptr underlying97 Z Z Z (mV Z (rP Z (rP Z (rP Z (rP Z (rP Z (o_pick_t Z Z Z (q3 (W_true Z (q2 ?_)))))))))))))))
  refine aG Z (aG Z (q3 (W_ret (N_K_ret (rt2 results151 Z Z ?_)))))
  exact H.retV (.inl ⟨Nd.dirOf_no oM hat5, Z⟩)
 skip
 have H := H.step ew5; refine ⟨_, rfl, ?_⟩
 have hnd5 := hndt.at hat5; obtain ⟨hnl5, na5, nm5, nc5, nA5, nM5, nC5, hpr5, hri5, hrk5⟩ := hnd5.open
 have hn_hri5 := hri5.len; have hx_hri5 : _ ≤ 1099511627776 := hri5.lim
 have hn_hrk5 := hrk5.len; have hx_hrk5 : _ ≤ 1099511627776 := hrk5.lim
 refine aG Z (q3 (W_seq (q2 (mV Z (o_eqnil_ptr underlying97 Z Z Z (mV Z (gR Z (mV Z (gR Z (o_nilCheck Z Z (gR Z (o_fieldAddr 1 runUnderlying149 Z sizeOf4 Z Z Z (gR Z (o_load_P H isAgg4 Z Z (hpr5 1 _ Z) (gR Z ?_)))))))))))))))
 refine o_not Z Z (o_pick_f Z Z Z (q3 ?_))
 refine W_cond Z ?_ ?_
 ·intro hc6
  try simp only [nrm] at hc6
  refine q2 (aG Z (aG Z (q3 (W_ret (N_K_ret (rt2 results151 Z Z ?_))))))
  exact H.retV (.inl ⟨Nd.dirOf_nodir oM hat5 (by simpa using hc6), rfl⟩)
 intro hc6'
 try simp only [nrm] at hc6'
 refine W_skip (N_K (W_seq (W_drawK [] 7 H kR Z ?_))); intro w7 H; have hd7 := PLe.refl G1
 refine vM 0 Z Z (vM 1 Z Z (vM 2 Z Z ?_))
 have hl8 := hr1_0.len
 obtain ⟨b8, o8, z8, q8, ha8, hz8, hq8, hE8, hrow8, _⟩ := hr1_0.at (i := ((Sp.parts path).length - 1)) oM
 clear hq8
 obtain ⟨rfl, hi8⟩ := hE8; have hy_hi8 : _ ≤ 16777216 := hi8
 refine RD_t 3 Z kR Z (fun _ hK => v_index_P (i := ((Sp.parts path).length - 1)) ha8 underlying69 sizeOf9 Z Z oM oM) (RD_t 4 Z kR Z (fun _ hK => v_load_P hK isAgg9 Z (hrow8 0 _ Z)) (RD_t 5 Z kR Z (fun _ hK => v_assign Z) (RD_t 6 Z kR Z (fun _ hK => v_assign Z) (RD_done kR (N_K (W_ret (rt2 results151 Z Z ?_)))))))
 exact H.retV (.inr ⟨_, _, Nd.dirOf_yes oM hz8 hat5 (by simpa using hc6'), rfl⟩)
theorem i_find_n_c (w0 : World) (G0 : PH) (hG : PSub G0 w0) (t : Nd) (hndt : RdN G0 t) (path : Bs) (hpath : path.length ≤ 16777216) (hwt : t.wf) :
  Calls Tryz.prog 106 #[.pointer (some ⟨t.b, 0, none⟩), str path] w0 (RetV w0 (fun v => (t.find path = none ∧ v = .pointer none) ∨ (∃ d, t.find path = some d ∧ v = .pointer (some ⟨d.b, 0, none⟩)))) := by
 obtain ⟨hnlt, nat, nmt, nct, nAt, nMt, nCt, hprt, hrit, hrkt⟩ := hndt.open
 have hn_hrit := hrit.len; have hx_hrit : _ ≤ 1099511627776 := hrit.lim
 have hn_hrkt := hrkt.len; have hx_hrkt : _ ≤ 1099511627776 := hrkt.lim
 have H := Hp.init hG
 refine calls_of_W (l := [.pointer (some ⟨t.b, 0, none⟩), str path]) func106 Z ntmps106 Z (q2 (aG Z (q1 (mV Z (mV Z (o_call call151 Z Z (i_dirOf_c _ _ H.sub _ hndt _ hpath hwt) ?_))))))
 rintro _ w1 ⟨_, rfl, ew1, ⟨hdf1, rfl⟩ | ⟨d1, nm1, hdf1, rfl⟩⟩
 ·skip
  have H := H.step ew1; refine ⟨_, rfl, ?_⟩
  refine mV Z (o_extract Z Z Z (o_extract Z Z Z (aG Z (aG Z (q3 (W_seq (q2 (mV Z (o_eqnil_ptr underlying97 Z Z Z (q3 (W_true Z (q2 (aG Z (q3 (W_ret ?_)))))))))))))))
  refine N_K_ret (rt1 results106 Z ?_)
  exact H.retV (.inl ⟨Nd.find_no hdf1, Z⟩)
 skip
 have H := H.step ew1; refine ⟨_, rfl, ?_⟩
 have hnml1 := Nd.dir_len hdf1
 have hnd1 := hndt.at (Nd.dirOf_some hdf1).2.2.1; obtain ⟨hnl1, na1, nm1, nc1, nA1, nM1, nC1, hpr1, hri1, hrk1⟩ := hnd1.open
 have hn_hri1 := hri1.len; have hx_hri1 : _ ≤ 1099511627776 := hri1.lim
 have hn_hrk1 := hrk1.len; have hx_hrk1 : _ ≤ 1099511627776 := hrk1.lim
 refine mV Z (o_extract Z Z Z (o_extract Z Z Z (aG Z (aG Z (q3 (W_seq (q2 (mV Z (o_eqnil_ptr underlying97 Z Z Z (q3 (W_false Z (W_skip (N_K (q2 (mV Z ?_)))))))))))))))
 refine mV Z (o_buildSlice H underlying69 sizeOf9 (fun w => ⟨_, zeroValue9 w, Z⟩) Z Z Z Z Z Z Z ?_); intro b2 w2 hb2 H
 have H := H.blkAcc 1 (k := 0) (n := 1) rfl rfl (by decide)
 have hchk4 := ((Chk.nil (E := strE) (sz := 1) (G := G0)).snoc (show strE _ _ _ from ⟨rfl, hnml1⟩) rfl)
 refine o_call call152 Z Z (i_at_c _ _ (H.lendSubL [0]) _ (hnd1.up (PPlus.le _ _ _)) _ _ (H.lendRdL (k := 0) (ks := [0]) Z Z hchk4 aN aN) (Nd.dir_wf hwt hdf1)) ?_
 rintro _ w3 ⟨_, rfl, ew3, ⟨hat3, rfl⟩ | ⟨d3, hat3, rfl⟩⟩
 ·skip
  have H := H.step ew3; refine ⟨_, rfl, ?_⟩
  refine aG Z (q3 (W_ret (rt1 results106 Z ?_)))
  exact H.retV (.inl ⟨(Nd.find_yes hdf1).trans hat3, Z⟩)
 skip
 have H := H.step ew3; refine ⟨_, rfl, ?_⟩
 have hnd3 := hnd1.at hat3; obtain ⟨hnl3, na3, nm3, nc3, nA3, nM3, nC3, hpr3, hri3, hrk3⟩ := hnd3.open
 have hn_hri3 := hri3.len; have hx_hri3 : _ ≤ 1099511627776 := hri3.lim
 have hn_hrk3 := hrk3.len; have hx_hrk3 : _ ≤ 1099511627776 := hrk3.lim
 refine aG Z (q3 (W_ret (rt1 results106 Z ?_)))
 exact H.retV (.inr ⟨_, (Nd.find_yes hdf1).trans hat3, Z⟩)
end Go.Proofs.Tst

namespace Go.Proofs.Tst
open Go Fw Tryz
theorem l_Insert_c (w0 : World) (G0 : PH) (hG : PSub G0 w0) (vkids : Value) (kids : List Nd) (i : Nat) (hi : i ≤ kids.length) (hkl : kids.length ≤ 1099511627776) (vbk : Nat) (k : Nd) (hLent : Lent w0 G0 [acc 97 1 vkids kids.length (ptrs kids), blk vbk (cl [ptr k.b] 97)])  :
  Calls Tryz.prog 186 #[vkids, .int .i64 (i : Int), .slice (some ⟨vbk, 0, none⟩) 1 1] w0 (RetM w0 G0 (fps [acc 97 1 vkids kids.length (ptrs kids), blk vbk (cl [ptr k.b] 97)]) (fun G' v Bs => ∃ (c : List Value), Bs = [acc 97 1 v (kids.length + 1) c] ∧ c = ptrs (kids.take i ++ k :: kids.drop i))) := by
 have H : Hp w0 G0 (fps [acc 97 1 vkids kids.length (ptrs kids), blk vbk (cl [ptr k.b] 97)]) w0 G0 [acc 97 1 vkids kids.length (ptrs kids), blk vbk (cl [ptr k.b] 97)] := hLent.hp
 obtain ⟨akids, ckids, rfl⟩ := H.accShape (k := 0) rfl
 refine calls_of_W (l := [.slice akids kids.length ckids, .int .i64 (i : Int), .slice (some ⟨vbk, 0, none⟩) 1 1]) func186 Z ntmps186 Z (q2 (aG Z (q1 (mV Z (mV Z ?_)))))
 have hac1 := H.accCap (k := 0) rfl
 refine o_slice_from (i := i) underlying147 sizeOf97 Z Z Z Z oM (q1 (mV Z (o_len_slice underlying147 Z Z (aG Z (q3 (W_seq (q2 (mV Z (o_eql Z Z Z (q3 ?_))))))))))
 refine W_cond Z ?_ ?_
 ·intro hc2
  try simp only [nrm] at hc2
  exact absurd hc2 (by decide)
 intro hc2'
 try simp only [nrm] at hc2'
 refine W_skip (N_K (q2 (mV Z (o_len_slice underlying147 Z Z (aG Z (q3 (W_seq (q2 (mV Z (mV Z (o_eql Z Z Z (q3 ?_))))))))))))
 refine W_cond Z ?_ ?_
 ·intro hc3
  try simp only [nrm] at hc3
  refine q2 (mV Z (mV Z ?_))
  refine o_append 0 H underlying147 typeInfo97 ⟨_, Z, Z⟩ Z Z Z Z Z Z Z (news := [ptr k.b]) Z (fun j u hu => by (rw [Nat.zero_add]); exact blk_cell (k := 1) H rfl (by simpa using hu)) (by simp [ptr, Value.oneCell']) oM (by decide) ?_; intro nv w4 H
  refine aG Z (q3 (W_ret (N_K_ret (rt1 results186 Z ?_))))
  have H := H.del (k := 1) rfl
  exact H.retM ⟨_, rfl, by (obtain rfl : i = kids.length := by omega); (rw [List.take_length, List.drop_length]); simp [ptrs]⟩
 intro hc3'
 try simp only [nrm] at hc3'
 obtain ⟨b0, c0, C0, hv0, _⟩ := H.accBlk (k := 0) (i := i) rfl oM; cases hv0
 have hvk : vbk ≠ b0 := fun e => by subst e; have := H.nd; simp [fps, acc_fp, blk] at this
 have hcc := H.accCap (k := 0) rfl
 have hcm := H.accMax (k := 0) rfl
 refine W_skip (N_K (W_seq (q2 (mV Z (mV Z (o_add Z Z Z oO (mV Z (o_cap underlying147 Z Z (o_gtr Z Z Z (q3 ?_))))))))))
 refine W_cond Z ?_ ?_
 ·intro hc6
  try simp only [nrm] at hc6
  refine q2 (mV Z (mV Z ?_))
  have hac7 := H.accCap (k := 0) rfl
  refine o_slice_to (j := i) underlying147 sizeOf97 Z Z Z Z oM (mV Z (mV Z (o_add Z Z Z oO (mV Z (o_sub Z Z Z oO (o_appmk 0 H (kids.length + 1 - i) underlying147 underlying3 typeInfo97 Z Z Z Z Z Z Z Z oM Z oM oM oM oM ?_)))))); intro nb nc w10 H hnb hnc
  refine aG Z (q1 (mV Z (mV Z (o_slice_from1 (i := i) underlying147 sizeOf97 Z Z Z oM oM oM (mV Z ?_)))))
  refine o_copy 0 H ([ptr k.b]) underlying147 typeInfo97 Z Z Z Z Z (by simp [Nat.min_def] <;> (try split) <;> omega) (fun j v hj => by (rw [Addr.add_lit, Nat.zero_add]); exact blk_cell (k := 2) H rfl (by simpa using hj)) (by intro v hv; first | exact ptrs_one v (List.mem_of_mem_drop hv) | (simp at hv; subst hv; rfl)) (by simp; try omega) ?_; intro w11 H
  refine q3 (W_seq (W_drawK [2] 9 H kR Z ?_)); intro w12 H; have hd12 := PLe.refl G0
  refine vM 0 Z Z (vM 1 Z Z (vM 2 Z Z (RD_t 3 Z kR Z (fun _ hK => v_add Z Z oO) (RD_t 4 Z kR Z (fun _ hK => v_slice_from1 (i := (i + 1)) underlying147 sizeOf97 Z Z oM oM oM) (vM 5 Z Z (vM 6 Z Z (RD_t 7 Z kR Z (fun _ hK => v_slice_from1 (i := i) underlying147 sizeOf97 Z Z oM oM oM) ?_)))))))
  refine RD_run [8] kR Z (RDs.cons Z ?_ RDs.nil)
  refine o_copy 0 H ((ptrs kids).drop i) underlying147 typeInfo97 Z Z Z Z Z (by simp [Nat.min_def] <;> (try split) <;> omega) (fun j v hj => by (rw [Addr.add_lit]); (rw [List.getElem?_drop] at hj); exact acc_cell (k := 1) H rfl (by first | exact hj | (rw [List.getElem?_append_left (List.getElem?_eq_some_iff.1 hj).1]; exact hj))) (by intro v hv; first | exact ptrs_one v (List.mem_of_mem_drop hv) | (simp at hv; subst hv; rfl)) (by simp; try omega) ?_; intro w14 H
  refine R_nil (N_DK (Kn.of' H hd12 (SubL.cons 2 Z SubL.nil)) (RD_done kR (N_K (q2 (mV Z (aG Z (q3 (W_ret (N_K_ret (rt1 results186 Z ?_))))))))))
  have H := H.del (k := 1) rfl
  have H := H.del (k := 1) rfl
  have hcx := (insC2 (x := ptr k.b) (z := .pointer none) (i := i) (r := kids.length + 1 - i) (c := ptrs kids) (by simp; omega) (by simp; omega)).trans (ptrs_ins kids k i)
  exact H.retM ⟨_, acc_1 oM, hcx⟩
 intro hc6'
 try simp only [nrm] at hc6'
 refine W_skip (N_K (q2 (mV Z (mV Z (mV Z (o_add Z Z Z oO (o_slice_to (j := kids.length + 1) underlying147 sizeOf97 Z Z Z oM oM ?_)))))))
 obtain ⟨zz, H⟩ := H.accMore (k := 0) rfl oM
 refine aG Z (q3 (W_seq (q2 (mV Z (mV Z (mV Z (mV Z (o_add Z Z Z oO (o_slice_from1 (i := (i + 1)) underlying147 sizeOf97 Z Z Z oM oM oM (o_overlaps 0 1 H (fun args w => run_callFunc_extern func212 kR kR kR (e := Extern.SlicesOverlaps.overlaps #[147, 147] #[4]) kR args w) underlying147 sizeOf97 Z Z Z Z hvk oM (o_not Z Z (q3 (W_true Z (W_seq (W_drawK [1] 9 H kR Z ?_))))))))))))))); intro w17 H; have hd17 := PLe.refl G0
 refine vM 0 Z Z (vM 1 Z Z (vM 2 Z Z (RD_t 3 Z kR Z (fun _ hK => v_add Z Z oO) (RD_t 4 Z kR Z (fun _ hK => v_slice_from1 (i := (i + 1)) underlying147 sizeOf97 Z Z oM oM oM) (vM 5 Z Z (vM 6 Z Z (RD_t 7 Z kR Z (fun _ hK => v_slice_from1 (i := i) underlying147 sizeOf97 Z Z oM oM oM) ?_)))))))
 refine RD_run [8] kR Z (RDs.cons Z ?_ RDs.nil)
 refine o_copy 0 H ((ptrs kids).drop i) underlying147 typeInfo97 Z Z Z Z Z (by simp [Nat.min_def] <;> (try split) <;> omega) (fun j v hj => by (rw [Addr.add_lit]); (rw [List.getElem?_drop] at hj); exact acc_cell (k := 0) H rfl (by first | exact hj | (rw [List.getElem?_append_left (List.getElem?_eq_some_iff.1 hj).1]; exact hj))) (by intro v hv; first | exact ptrs_one v (List.mem_of_mem_drop hv) | (simp at hv; subst hv; rfl)) (by simp; try omega) ?_; intro w19 H
 refine R_nil (N_DK (Kn.of' H hd17 (SubL.cons 1 Z SubL.nil)) (RD_done kR (N_K (q2 (mV Z (mV Z (o_slice_from1 (i := i) underlying147 sizeOf97 Z Z Z oM oM oM (mV Z ?_))))))))
 refine o_copy 0 H ([ptr k.b]) underlying147 typeInfo97 Z Z Z Z Z (by simp [Nat.min_def] <;> (try split) <;> omega) (fun j v hj => by (rw [Addr.add_lit, Nat.zero_add]); exact blk_cell (k := 1) H rfl (by simpa using hj)) (by intro v hv; first | exact ptrs_one v (List.mem_of_mem_drop hv) | (simp at hv; subst hv; rfl)) (by simp; try omega) ?_; intro w20 H
 refine q1 (mV Z (aG Z (q3 (W_ret (N_K_ret (rt1 results186 Z ?_))))))
 have H := H.del (k := 1) rfl
 exact H.retM ⟨_, rfl, (insC (by simp; omega)).trans (ptrs_ins kids k i)⟩
end Go.Proofs.Tst

namespace Go.Proofs.Tst
open Go Fw Tryz
theorem i_insert_c (w0 : World) (G0 : PH) (hG : PSub G0 w0) (Ft : Fr) (t : Nd) (hNt : NdO 149 97 G0 t Ft) (cx : List Value) (x : BItem) (hx : itemE G0 x cx) (hLent : Lent w0 G0 [frag Ft]) (hwt : t.wf) (hct : t.cnt ≤ 1000) :
  Calls Tryz.prog 150 #[.pointer (some ⟨t.b, 0, none⟩), .agg cx.toArray] w0 (RetM w0 G0 (fps [frag Ft]) (fun G' v Bs => ∃ (nb : Nat) (F' : Fr) (t' : Nd), v = .bool (t.ins x nb).isSome ∧ Bs = [frag F'] ∧ NdO 149 97 G' t' F' ∧ t'.b = t.b ∧ (t.ins x nb).getD t = t')) := by
 obtain ⟨a1, m1, c1, rfl, hi1, hr1⟩ := hx; have hy_hi1 : _ ≤ 16777216 := hi1; have hn_hr1 := hr1.len; have hx_hr1 : _ ≤ 1099511627776 := hr1.lim
 have H : Hp w0 G0 (fps [frag Ft]) w0 G0 [frag Ft] := hLent.hp
 refine calls_of_W (l := [.pointer (some ⟨t.b, 0, none⟩), _]) func150 Z ntmps150 Z (q2 (o_box H Z Z Z ?_)); intro b2 w2 hb2 H
 refine aG Z (q1 (mV Z (o_fieldAddr 0 runUnderlying37 Z sizeOf9 Z Z Z (o_load_B 0 H isAgg9 Z Z Z Z (o_call call151 Z Z (i_dirOf_c _ _ (H.lendSubL [1]) _ ((H.lendN (k := 1) (ks := [1]) Z Z hNt).at (show Nd.at_ t [] = some t from Z)) _ hi1 hwt) ?_)))))
 rintro _ w3 ⟨_, rfl, ew3, ⟨hdf3, rfl⟩ | ⟨d3, nm3, hdf3, rfl⟩⟩
 ·skip
  have H := H.step ew3; refine ⟨_, rfl, ?_⟩
  refine mV Z (o_extract Z Z Z (o_extract Z Z Z (aG Z (aG Z (q3 (W_seq (q2 (mV Z (o_eqnil_ptr underlying97 Z Z Z (q3 (W_true Z (q2 (aG Z (q3 (W_ret ?_)))))))))))))))
  refine N_K_ret (rt1 results150 Z ?_)
  have H := H.del (k := 0) rfl
  exact H.retM ⟨0, _, _, by (rw [(Nd.ins_no1 hdf3)]; rfl), rfl, hNt, rfl, by (rw [(Nd.ins_no1 hdf3)]; rfl)⟩
 skip
 have H := H.step ew3; refine ⟨_, rfl, ?_⟩
 have hnml3 := Nd.dir_len hdf3
 refine mV Z (o_extract Z Z Z (o_extract Z Z Z (aG Z (aG Z (q3 (W_seq (q2 (mV Z (o_eqnil_ptr underlying97 Z Z Z (q3 (W_false Z (W_skip (N_K (q2 (mV Z ?_)))))))))))))))
 refine mV Z (o_call call185 Z Z (i_place_c _ _ (H.lendSubL [1]) _ ((H.lendN (k := 1) (ks := [1]) Z Z hNt).at (Nd.dirOf_some hdf3).2.2.1) _ hnml3 (Nd.dir_wf hwt hdf3)) ?_)
 rintro _ w4 ⟨rfl, ew4⟩; have H := H.step ew4; refine ⟨_, rfl, ?_⟩
 refine mV Z (o_extract Z Z Z (o_extract Z Z Z (aG Z (aG Z (q3 (W_seq (q2 (mV Z (q3 ?_)))))))))
 refine W_cond Z ?_ ?_
 ·intro hc5
  try simp only [nrm] at hc5
  refine q2 (aG Z (q3 (W_ret (N_K_ret (rt1 results150 Z ?_)))))
  have H := H.del (k := 0) rfl
  exact H.retM ⟨0, _, _, by (rw [(Nd.ins_no2 hdf3 (by simpa using hc5))]; rfl), rfl, hNt, rfl, by (rw [(Nd.ins_no2 hdf3 (by simpa using hc5))]; rfl)⟩
 intro hc5'
 try simp only [nrm] at hc5'
 have H := H.toFront (k := 1) rfl
 obtain ⟨oa, om, oc, okv, oFs, oR, H, ohri, ohNs, ohnl, ohkl, hcov, hclose⟩ := Hp.openNode H hNt (Nd.dirOf_some hdf3).2.2.1
 obtain ⟨oak, ock, rfl⟩ := H.accShape (k := 1) rfl; have hdo := PLe.refl G0; have hn_ohri := ohri.len
 refine W_skip (N_K (W_seq (W_drawK [3] 19 H kR Z ?_))); intro w6 H; have hd6 := PLe.refl G0
 refine vM 0 Z Z (vM 1 Z Z (RD_t 2 Z kR Z (fun _ hK => v_nilCheck Z) (RD_t 3 Z kR Z (fun _ hK => v_fieldAddr 3 runUnderlying149 Z sizeOf147 Z Z) (vM 5 Z Z (vM 6 Z Z (RD_t 7 Z kR Z (fun _ hK => v_fieldAddr 1 runUnderlying37 Z sizeOf4 Z Z) (RD_t 8 Z kR Z (fun _ hK => v_load_B 0 hK isAgg4 Z Z Z) (RD_t 9 Z kR Z (fun _ hK => v_fieldAddr 2 runUnderlying37 Z sizeOf33 Z Z) (RD_t 10 Z kR Z (fun _ hK => v_load_B 0 hK isAgg33 Z Z Z) ?_)))))))))
 refine RD_run [4, 11] kR Z (RDs.cons Z ?_ (RDs.cons Z ?_ RDs.nil))
 ·skip
  refine o_load_B 0 H isAgg147 Z Z Z Z (R_nil (N_DK (Kn.of' H hd6 (SubL.cons 3 Z SubL.nil)) ?_))
  refine RD_run [11] kR Z (RDs.cons Z ?_ RDs.nil)
  refine o_call call141 Z Z (l_Clone_c _ _ H.sub _ _ hr1 ) ?_
  rintro _ w7 ⟨G7, v7, _, g7, rfl, ⟨cs7, rfl, hchk7⟩, hp7, hq7, hs7⟩
  have H := H.growO g7 hp7 hq7 hs7; obtain ⟨av7, cv7, rfl⟩ := H.accShape (k := 0) rfl
  have ohri := ohri.up g7.le
  have ohNs := ohNs.up g7.le
  have hdo := hdo.trans g7.le
  have hd6 := hd6.trans g7.le
  refine ⟨_, Z, ?_⟩
  obtain ⟨G8, H, hsg8, hsr8⟩ := H.shutL (k := 0) rfl (H.apart (k := 0) (ks := [1, 2, 3]) rfl rfl (by intro b hb; rcases hcov b hb with h | h | h; (· exact fpsAt_mem (k := 1) rfl rfl b (by simp [blk, h])); (· exact fpsAt_mem (k := 2) rfl rfl b h); (· exact fpsAt_mem (k := 3) rfl rfl b h))) hchk7 aN aN
  have ohri := ohri.up hsg8
  have ohNs := ohNs.up hsg8
  have hdo := hdo.trans hsg8
  have hd6 := hd6.trans hsg8
  refine R_nil (N_DK (Kn.of' H hd6 (SubL.cons 3 Z SubL.nil)) (RD_t 12 Z kR Z (fun _ hK => v_build bf149 Z Z) ?_))
  refine RD_run [13] kR Z (RDs.cons Z ?_ RDs.nil)
  refine o_box H Z Z Z ?_; intro b9 w9 hb9 H
  refine R_nil (N_DK (Kn.of' H hd6 (SubL.cons 4 Z SubL.nil)) ?_)
  refine RD_run [14] kR Z (RDs.cons Z ?_ RDs.nil)
  refine o_buildSlice H underlying147 sizeOf97 (fun w => ⟨_, zeroValue97 w, Z⟩) Z Z Z Z Z Z Z ?_; intro b10 w10 hb10 H
  refine R_nil (N_DK (Kn.of' H hd6 (SubL.cons 5 Z SubL.nil)) ?_)
  refine RD_run [15] kR Z (RDs.cons Z ?_ RDs.nil)
  have H := H.toFront (k := 3) rfl
  refine o_call call186 Z Z (l_Insert_c _ _ H.sub _ _ _ (Sp.pl_le d3.kids nm3) oM _ (Nd.mk b9 nm3 x.dir x.ids []) H.lent2 ) ?_
  rintro _ w11 ⟨G11, _, _, rfl, H11', ⟨c11, rfl, rfl⟩⟩
  have ohri := ohri.up H11'.le
  have ohNs := ohNs.up H11'.le
  have hsr8 := hsr8.up H11'.le
  have hdo := hdo.trans H11'.le
  have hd6 := hd6.trans H11'.le
  have H := H.borrow2 H11'
  obtain ⟨avAk, cvAk, rfl⟩ := H.accShape (k := 0) rfl
  refine ⟨_, Z, ?_⟩
  refine R_nil (N_DK (Kn.of' H hd6 (SubL.cons 4 Z SubL.nil)) (RD_t 16 Z kR Z (fun _ hK => v_nilCheck Z) (RD_t 17 Z kR Z (fun _ hK => v_fieldAddr 3 runUnderlying149 Z sizeOf147 Z Z) ?_)))
  refine RD_run [18] kR Z (RDs.cons Z ?_ RDs.nil)
  refine o_store_B 2 H sizeOf147 Z Z Z Z Z Z Z Z ?_; intro w12 H
  refine R_nil (N_DK (Kn.of' H hd6 (SubL.cons 4 Z SubL.nil)) (RD_done kR (N_K (q2 (aG Z (q3 (W_ret (rt1 results150 Z ?_))))))))
  have H := H.del (k := 4) rfl
  have H := H.toFront (k := 2) rfl
  have H := H.toFront (k := 3) rfl
  have H := H.toFront (k := 3) rfl
  have H := H.inF
  have H := H.toFront (k := 2) rfl
  have H := H.toFront (k := 2) rfl
  obtain ⟨Fs2, hp2, hN2⟩ := NdsO.ins (k := Nd.mk b9 nm3 x.dir x.ids []) (Sp.pl d3.kids nm3) ohNs (NdO.new hnml3 hsr8)
  have hcd := Nd.at_cnt (Nd.dirOf_some hdf3).2.2.1; have hcl := Nd.kids_le d3; have hpl := Sp.pl_le d3.kids nm3
  have hkl : (d3.kids.take (Sp.pl d3.kids nm3) ++ Nd.mk b9 nm3 x.dir x.ids [] :: d3.kids.drop (Sp.pl d3.kids nm3)).length = d3.kids.length + 1 := by (simp; omega)
  obtain ⟨F2, H, hN3, hb3⟩ := hclose (kids' := (d3.kids.take (Sp.pl d3.kids nm3) ++ Nd.mk b9 nm3 x.dir x.ids [] :: d3.kids.drop (Sp.pl d3.kids nm3))) (Fs' := Fs2) (by (rw [hkl]); exact H) (by (refine List.Perm.trans ?_ (List.Perm.append_right oR hp2.symm)); simp) hdo ohri hN2 oM
  have hins := Nd.ins_yes (nb := b9) hdf3 (by simpa using hc5')
  exact H.retM ⟨b9, _, _, by (rw [hins]; rfl), rfl, hN3, hb3, by (rw [hins]; rfl)⟩
 skip
 refine o_call call141 Z Z (l_Clone_c _ _ H.sub _ _ hr1 ) ?_
 rintro _ w13 ⟨G13, v13, _, g13, rfl, ⟨cs13, rfl, hchk13⟩, hp13, hq13, hs13⟩
 have H := H.growO g13 hp13 hq13 hs13; obtain ⟨av13, cv13, rfl⟩ := H.accShape (k := 0) rfl
 have ohri := ohri.up g13.le
 have ohNs := ohNs.up g13.le
 have hdo := hdo.trans g13.le
 have hd6 := hd6.trans g13.le
 refine ⟨_, Z, ?_⟩
 obtain ⟨G14, H, hsg14, hsr14⟩ := H.shutL (k := 0) rfl (H.apart (k := 0) (ks := [1, 2, 3]) rfl rfl (by intro b hb; rcases hcov b hb with h | h | h; (· exact fpsAt_mem (k := 1) rfl rfl b (by simp [blk, h])); (· exact fpsAt_mem (k := 2) rfl rfl b h); (· exact fpsAt_mem (k := 3) rfl rfl b h))) hchk13 aN aN
 have ohri := ohri.up hsg14
 have ohNs := ohNs.up hsg14
 have hdo := hdo.trans hsg14
 have hd6 := hd6.trans hsg14
 refine R_nil (N_DK (Kn.of' H hd6 (SubL.cons 3 Z SubL.nil)) (RD_t 12 Z kR Z (fun _ hK => v_build bf149 Z Z) ?_))
 refine RD_run [4, 13] kR Z (RDs.cons Z ?_ (RDs.cons Z ?_ RDs.nil))
 ·skip
  refine o_load_B 0 H isAgg147 Z Z Z Z (R_nil (N_DK (Kn.of' H hd6 (SubL.cons 3 Z SubL.nil)) ?_))
  refine RD_run [13] kR Z (RDs.cons Z ?_ RDs.nil)
  refine o_box H Z Z Z ?_; intro b15 w15 hb15 H
  refine R_nil (N_DK (Kn.of' H hd6 (SubL.cons 4 Z SubL.nil)) ?_)
  refine RD_run [14] kR Z (RDs.cons Z ?_ RDs.nil)
  refine o_buildSlice H underlying147 sizeOf97 (fun w => ⟨_, zeroValue97 w, Z⟩) Z Z Z Z Z Z Z ?_; intro b16 w16 hb16 H
  refine R_nil (N_DK (Kn.of' H hd6 (SubL.cons 5 Z SubL.nil)) ?_)
  refine RD_run [15] kR Z (RDs.cons Z ?_ RDs.nil)
  have H := H.toFront (k := 3) rfl
  refine o_call call186 Z Z (l_Insert_c _ _ H.sub _ _ _ (Sp.pl_le d3.kids nm3) oM _ (Nd.mk b15 nm3 x.dir x.ids []) H.lent2 ) ?_
  rintro _ w17 ⟨G17, _, _, rfl, H17', ⟨c17, rfl, rfl⟩⟩
  have ohri := ohri.up H17'.le
  have ohNs := ohNs.up H17'.le
  have hsr14 := hsr14.up H17'.le
  have hdo := hdo.trans H17'.le
  have hd6 := hd6.trans H17'.le
  have H := H.borrow2 H17'
  obtain ⟨avAk, cvAk, rfl⟩ := H.accShape (k := 0) rfl
  refine ⟨_, Z, ?_⟩
  refine R_nil (N_DK (Kn.of' H hd6 (SubL.cons 4 Z SubL.nil)) (RD_t 16 Z kR Z (fun _ hK => v_nilCheck Z) (RD_t 17 Z kR Z (fun _ hK => v_fieldAddr 3 runUnderlying149 Z sizeOf147 Z Z) ?_)))
  refine RD_run [18] kR Z (RDs.cons Z ?_ RDs.nil)
  refine o_store_B 2 H sizeOf147 Z Z Z Z Z Z Z Z ?_; intro w18 H
  refine R_nil (N_DK (Kn.of' H hd6 (SubL.cons 4 Z SubL.nil)) (RD_done kR (N_K (q2 (aG Z (q3 (W_ret (rt1 results150 Z ?_))))))))
  have H := H.del (k := 4) rfl
  have H := H.toFront (k := 2) rfl
  have H := H.toFront (k := 3) rfl
  have H := H.toFront (k := 3) rfl
  have H := H.inF
  have H := H.toFront (k := 2) rfl
  have H := H.toFront (k := 2) rfl
  obtain ⟨Fs2, hp2, hN2⟩ := NdsO.ins (k := Nd.mk b15 nm3 x.dir x.ids []) (Sp.pl d3.kids nm3) ohNs (NdO.new hnml3 hsr14)
  have hcd := Nd.at_cnt (Nd.dirOf_some hdf3).2.2.1; have hcl := Nd.kids_le d3; have hpl := Sp.pl_le d3.kids nm3
  have hkl : (d3.kids.take (Sp.pl d3.kids nm3) ++ Nd.mk b15 nm3 x.dir x.ids [] :: d3.kids.drop (Sp.pl d3.kids nm3)).length = d3.kids.length + 1 := by (simp; omega)
  obtain ⟨F2, H, hN3, hb3⟩ := hclose (kids' := (d3.kids.take (Sp.pl d3.kids nm3) ++ Nd.mk b15 nm3 x.dir x.ids [] :: d3.kids.drop (Sp.pl d3.kids nm3))) (Fs' := Fs2) (by (rw [hkl]); exact H) (by (refine List.Perm.trans ?_ (List.Perm.append_right oR hp2.symm)); simp) hdo ohri hN2 oM
  have hins := Nd.ins_yes (nb := b15) hdf3 (by simpa using hc5')
  exact H.retM ⟨b15, _, _, by (rw [hins]; rfl), rfl, hN3, hb3, by (rw [hins]; rfl)⟩
 skip
 refine o_box H Z Z Z ?_; intro b19 w19 hb19 H
 refine R_nil (N_DK (Kn.of' H hd6 (SubL.cons 4 Z SubL.nil)) ?_)
 refine RD_run [4, 14] kR Z (RDs.cons Z ?_ (RDs.cons Z ?_ RDs.nil))
 ·skip
  refine o_load_B 1 H isAgg147 Z Z Z Z (R_nil (N_DK (Kn.of' H hd6 (SubL.cons 4 Z SubL.nil)) ?_))
  refine RD_run [14] kR Z (RDs.cons Z ?_ RDs.nil)
  refine o_buildSlice H underlying147 sizeOf97 (fun w => ⟨_, zeroValue97 w, Z⟩) Z Z Z Z Z Z Z ?_; intro b20 w20 hb20 H
  refine R_nil (N_DK (Kn.of' H hd6 (SubL.cons 5 Z SubL.nil)) ?_)
  refine RD_run [15] kR Z (RDs.cons Z ?_ RDs.nil)
  have H := H.toFront (k := 3) rfl
  refine o_call call186 Z Z (l_Insert_c _ _ H.sub _ _ _ (Sp.pl_le d3.kids nm3) oM _ (Nd.mk b19 nm3 x.dir x.ids []) H.lent2 ) ?_
  rintro _ w21 ⟨G21, _, _, rfl, H21', ⟨c21, rfl, rfl⟩⟩
  have ohri := ohri.up H21'.le
  have ohNs := ohNs.up H21'.le
  have hsr14 := hsr14.up H21'.le
  have hdo := hdo.trans H21'.le
  have hd6 := hd6.trans H21'.le
  have H := H.borrow2 H21'
  obtain ⟨avAk, cvAk, rfl⟩ := H.accShape (k := 0) rfl
  refine ⟨_, Z, ?_⟩
  refine R_nil (N_DK (Kn.of' H hd6 (SubL.cons 4 Z SubL.nil)) (RD_t 16 Z kR Z (fun _ hK => v_nilCheck Z) (RD_t 17 Z kR Z (fun _ hK => v_fieldAddr 3 runUnderlying149 Z sizeOf147 Z Z) ?_)))
  refine RD_run [18] kR Z (RDs.cons Z ?_ RDs.nil)
  refine o_store_B 2 H sizeOf147 Z Z Z Z Z Z Z Z ?_; intro w22 H
  refine R_nil (N_DK (Kn.of' H hd6 (SubL.cons 4 Z SubL.nil)) (RD_done kR (N_K (q2 (aG Z (q3 (W_ret (rt1 results150 Z ?_))))))))
  have H := H.del (k := 4) rfl
  have H := H.toFront (k := 2) rfl
  have H := H.toFront (k := 3) rfl
  have H := H.toFront (k := 3) rfl
  have H := H.inF
  have H := H.toFront (k := 2) rfl
  have H := H.toFront (k := 2) rfl
  obtain ⟨Fs2, hp2, hN2⟩ := NdsO.ins (k := Nd.mk b19 nm3 x.dir x.ids []) (Sp.pl d3.kids nm3) ohNs (NdO.new hnml3 hsr14)
  have hcd := Nd.at_cnt (Nd.dirOf_some hdf3).2.2.1; have hcl := Nd.kids_le d3; have hpl := Sp.pl_le d3.kids nm3
  have hkl : (d3.kids.take (Sp.pl d3.kids nm3) ++ Nd.mk b19 nm3 x.dir x.ids [] :: d3.kids.drop (Sp.pl d3.kids nm3)).length = d3.kids.length + 1 := by (simp; omega)
  obtain ⟨F2, H, hN3, hb3⟩ := hclose (kids' := (d3.kids.take (Sp.pl d3.kids nm3) ++ Nd.mk b19 nm3 x.dir x.ids [] :: d3.kids.drop (Sp.pl d3.kids nm3))) (Fs' := Fs2) (by (rw [hkl]); exact H) (by (refine List.Perm.trans ?_ (List.Perm.append_right oR hp2.symm)); simp) hdo ohri hN2 oM
  have hins := Nd.ins_yes (nb := b19) hdf3 (by simpa using hc5')
  exact H.retM ⟨b19, _, _, by (rw [hins]; rfl), rfl, hN3, hb3, by (rw [hins]; rfl)⟩
 skip
 refine o_buildSlice H underlying147 sizeOf97 (fun w => ⟨_, zeroValue97 w, Z⟩) Z Z Z Z Z Z Z ?_; intro b23 w23 hb23 H
 refine R_nil (N_DK (Kn.of' H hd6 (SubL.cons 5 Z SubL.nil)) ?_)
 refine RD_run [4] kR Z (RDs.cons Z ?_ RDs.nil)
 refine o_load_B 2 H isAgg147 Z Z Z Z (R_nil (N_DK (Kn.of' H hd6 (SubL.cons 5 Z SubL.nil)) ?_))
 refine RD_run [15] kR Z (RDs.cons Z ?_ RDs.nil)
 have H := H.toFront (k := 3) rfl
 refine o_call call186 Z Z (l_Insert_c _ _ H.sub _ _ _ (Sp.pl_le d3.kids nm3) oM _ (Nd.mk b19 nm3 x.dir x.ids []) H.lent2 ) ?_
 rintro _ w24 ⟨G24, _, _, rfl, H24', ⟨c24, rfl, rfl⟩⟩
 have ohri := ohri.up H24'.le
 have ohNs := ohNs.up H24'.le
 have hsr14 := hsr14.up H24'.le
 have hdo := hdo.trans H24'.le
 have hd6 := hd6.trans H24'.le
 have H := H.borrow2 H24'
 obtain ⟨avAk, cvAk, rfl⟩ := H.accShape (k := 0) rfl
 refine ⟨_, Z, ?_⟩
 refine R_nil (N_DK (Kn.of' H hd6 (SubL.cons 4 Z SubL.nil)) (RD_t 16 Z kR Z (fun _ hK => v_nilCheck Z) (RD_t 17 Z kR Z (fun _ hK => v_fieldAddr 3 runUnderlying149 Z sizeOf147 Z Z) ?_)))
 refine RD_run [18] kR Z (RDs.cons Z ?_ RDs.nil)
 refine o_store_B 2 H sizeOf147 Z Z Z Z Z Z Z Z ?_; intro w25 H
 refine R_nil (N_DK (Kn.of' H hd6 (SubL.cons 4 Z SubL.nil)) (RD_done kR (N_K (q2 (aG Z (q3 (W_ret (rt1 results150 Z ?_))))))))
 have H := H.del (k := 4) rfl
 have H := H.toFront (k := 2) rfl
 have H := H.toFront (k := 3) rfl
 have H := H.toFront (k := 3) rfl
 have H := H.inF
 have H := H.toFront (k := 2) rfl
 have H := H.toFront (k := 2) rfl
 obtain ⟨Fs2, hp2, hN2⟩ := NdsO.ins (k := Nd.mk b19 nm3 x.dir x.ids []) (Sp.pl d3.kids nm3) ohNs (NdO.new hnml3 hsr14)
 have hcd := Nd.at_cnt (Nd.dirOf_some hdf3).2.2.1; have hcl := Nd.kids_le d3; have hpl := Sp.pl_le d3.kids nm3
 have hkl : (d3.kids.take (Sp.pl d3.kids nm3) ++ Nd.mk b19 nm3 x.dir x.ids [] :: d3.kids.drop (Sp.pl d3.kids nm3)).length = d3.kids.length + 1 := by (simp; omega)
 obtain ⟨F2, H, hN3, hb3⟩ := hclose (kids' := (d3.kids.take (Sp.pl d3.kids nm3) ++ Nd.mk b19 nm3 x.dir x.ids [] :: d3.kids.drop (Sp.pl d3.kids nm3))) (Fs' := Fs2) (by (rw [hkl]); exact H) (by (refine List.Perm.trans ?_ (List.Perm.append_right oR hp2.symm)); simp) hdo ohri hN2 oM
 have hins := Nd.ins_yes (nb := b19) hdf3 (by simpa using hc5')
 exact H.retM ⟨b19, _, _, by (rw [hins]; rfl), rfl, hN3, hb3, by (rw [hins]; rfl)⟩
end Go.Proofs.Tst

namespace Go.Proofs.Tst
open Go Fw Tryz
theorem i_openTree_c (w0 : World) (G0 : PH) (hG : PSub G0 w0) (vlist : Value) (list : List (BItem)) (hlist : RdItems G0 vlist list) (hLent : Lent w0 G0 [])  :
  Calls Tryz.prog 105 #[vlist] w0 (RetM w0 G0 [] (fun G' v Bs => (v = .tuple #[.pointer none, .bool false] ∧ Bs = [] ∧ Sp.TreeValid list = false) ∨ (∃ (T : Nd) (F : Fr), v = .tuple #[.pointer (some ⟨T.b, 0, none⟩), .bool true] ∧ Bs = [frag F] ∧ NdO 149 97 G' T F ∧ Nd.TOK T list ∧ Sp.TreeValid list = true))) := by
 obtain ⟨alist, klist, rfl⟩ := hlist.shape
 have hlimlist : list.length ≤ 1099511627776 := hlist.lim
 have H : Hp w0 G0 [] w0 G0 [] := hLent.hp
 refine calls_of_W (l := [.slice alist list.length klist]) func105 Z ntmps105 Z (q2 (aG Z (aG Z (q3 (W_seq (q2 (mV Z (o_len_slice underlying24 Z Z (o_gtr Z Z Z (q3 ?_))))))))))
 refine W_cond Z ?_ ?_
 ·intro hc1
  try simp only [nrm] at hc1
  refine q2 (aG Z (aG Z (q3 (W_ret (N_K_ret (rt2 results105 Z Z ?_))))))
  exact H.retM (.inl ⟨Z, Z, Nd.tv_long oM⟩)
 intro hc1'
 try simp only [nrm] at hc1'
 refine W_skip (N_K (q2 (o_build bf149 Z Z Z (o_box H Z Z Z ?_)))); intro b2 w2 hb2 H
 refine aG Z (q1 (aG Z (q3 (W_seq (q2 (mV Z (o_len_slice underlying24 Z Z (mV Z (q3 (W_block ?_))))))))))
 have H := H.addF
 have H := H.toFront (k := 1) rfl
 have H := H.inF
 have hN0 : NdO 149 97 G0 (Nd.mk b2 [] true [] []) _ := NdO.new (by simp) (RdS.nil _ _ _)
 refine W_lp (hf := (Sub.cons (t := 13) Z (Sub.cons (t := 14) Z Sub.nil))) (J := fun M w m => ∃ (k : Nat) (la : Bs) (T : Nd) (FT : Fr) (G : PH), M = [(15, .int .i64 (k : Int)), (5, str la), (4, .pointer (some ⟨T.b, 0, none⟩))] ∧ PLe G0 G ∧ Hp w0 G0 [] w G [frag FT] ∧ (k ≤ list.length ∧ la = Nd.lastPath list k ∧ la.length ≤ 16777216 ∧ NdO 149 97 G T FT ∧ Nd.TOK T (list.take k)) ∧ m = (list.length - k)) (h0 := ⟨0, [], (Nd.mk b2 [] true [] []), _, _, Z, PLe.refl _, H, ?inv, Z⟩) (round := ?round)
 case inv => exact ⟨by omega, rfl, by simp, hN0, Nd.tok_root _⟩
 case round =>
  rintro _ w3 _ ⟨k, la, T, FT, G3, rfl, hle3, H, hinv3, rfl⟩
  have hlist := hlist.up hle3
  obtain ⟨hk, hla, hlp, hNT, hTok⟩ := hinv3
  refine q2 (o_lss Z Z Z (q3 (W_seq ?_)))
  refine W_cond Z ?_ ?_
  ·intro hc4
   try simp only [nrm] at hc4
   refine W_skip (N_K (W_seq (W_block (q2 (o_index_P k hlist underlying24 sizeOf37 Z Z Z Z aN ?_))))); intro b5 o5 z5 q5 hz5 hE5 hrow5
   obtain ⟨a5, m5, c5, rfl, hi5, hr5⟩ := hE5; have hy_hi5 : _ ≤ 16777216 := hi5; have hn_hr5 := hr5.len; have hx_hr5 : _ ≤ 1099511627776 := hr5.lim
   refine o_loadagg_P H isAgg37 sizeOf37 Z Z hrow5 Z (o_alloc H zeroValue37 Z Z ?_); intro b6 w6 hb6 H
   refine o_store_B 0 H sizeOf37 Z Z Z Z Z Z Z Z ?_; intro w7 H
   refine q3 (W_seq (q2 (o_fieldAddr 0 runUnderlying37 Z sizeOf9 Z Z Z (o_load_B 0 H isAgg9 Z Z Z Z (mV Z (o_sleq Z Z Z (mV Z ?_)))))))
   refine R_case (t := 23) Z ?_ ?_
   ·intro hc8
    try simp only [nrm] at hc8
    refine rP Z (rP Z (rP Z (o_pick_t Z Z Z (mV Z (rP Z (rP Z (rP Z (rP Z (o_pick_t Z Z Z (q3 (W_true Z (q2 (aG Z (aG Z (q3 ?_)))))))))))))))
    refine W_ret (N_K_ret (N_B_ret (N_K_ret (N_LP_ret (N_B_ret (N_K_ret (rt2 results105 Z Z ?_)))))))
    have H := H.del (k := 0) rfl
    have H := H.del (k := 0) rfl
    exact H.retM (.inl ⟨rfl, rfl, Nd.tv_false 0 hTok hz5 (.inl (by (rw [← hla]); exact Nd.leq_no (by first | simpa using hc8 | (simp at hc8; exact hc8.symm))))⟩)
   intro hc8'
   try simp only [nrm] at hc8'
   refine gR Z (o_loadagg_B 0 H isAgg37 sizeOf37 Z Z Z Z Z (gR Z (o_call call149 Z Z (i_itemValid_c _ _ H.sub _ _ ⟨_, _, _, Z, hi5, hr5⟩ ) ?_)))
   rintro _ w9 ⟨rfl, ew9⟩; have H := H.step ew9; refine ⟨_, rfl, ?_⟩
   refine gR Z (o_not Z Z (o_pick_f Z Z Z (mV Z ?_)))
   refine R_case (t := 28) Z ?_ ?_
   ·intro hc10
    try simp only [nrm] at hc10
    refine rP Z (rP Z (rP Z (rP Z (o_pick_t Z Z Z (q3 (W_true Z (q2 (aG Z (aG Z (q3 (W_ret (N_K_ret (N_B_ret (N_K_ret (N_LP_ret ?_)))))))))))))))
    refine N_B_ret (N_K_ret (rt2 results105 Z Z ?_))
    have H := H.del (k := 0) rfl
    have H := H.del (k := 0) rfl
    exact H.retM (.inl ⟨rfl, rfl, Nd.tv_false 0 hTok hz5 (.inr (.inl (by simpa using hc10)))⟩)
   intro hc10'
   try simp only [nrm] at hc10'
   refine gR Z (mV Z (gR Z (o_loadagg_B 0 H isAgg37 sizeOf37 Z Z Z Z Z (gR Z ?_))))
   have H := H.toFront (k := 1) rfl
   refine o_call call150 Z Z (i_insert_c _ _ H.sub _ _ hNT _ _ ⟨_, _, _, Z, hi5, hr5⟩ H.lent1 hTok.wf (by have := hTok.cnt; simp at this; omega)) ?_
   rintro _ w11 ⟨G11, _, _, rfl, H11', ⟨nb11, F11, t11, rfl, rfl, hN11, hb11, ht11⟩⟩
   have hle3 := hle3.trans H11'.le
   have H := H.borrow1 H11'
   try rw [← hb11]
   refine ⟨_, Z, ?_⟩
   refine gR Z (o_not Z Z (o_pick_f Z Z Z (q3 ?_)))
   refine W_cond Z ?_ ?_
   ·intro hc12
    try simp only [nrm] at hc12
    refine q2 (aG Z (aG Z (q3 (W_ret (N_K_ret (N_B_ret (N_K_ret (N_LP_ret (N_B_ret (N_K_ret (rt2 results105 Z Z ?_)))))))))))
    have H := H.del (k := 0) rfl
    have H := H.del (k := 0) rfl
    exact H.retM (.inl ⟨rfl, rfl, Nd.tv_false nb11 hTok hz5 (.inr (.inr (by simpa using hc12)))⟩)
   intro hc12'
   try simp only [nrm] at hc12'
   refine W_skip (N_K (W_region (o_fieldAddr 0 runUnderlying37 Z sizeOf9 Z Z Z (o_load_B 1 H isAgg9 Z Z Z Z (aG Z (R_nil (N_B (N_K (W_region (o_add Z Z Z oO (mV Z (R_nil ?_))))))))))))
   have H := H.del (k := 1) rfl
   refine N_lp (hJ := ⟨k + 1, z5.path, t11, F11, _, Z, hle3, H, ?inv, Z⟩) (hm := ?hm)
   case hm => omega
   case inv => exact ⟨by omega, (Nd.lastPath_succ hz5).symm, by assumption, hN11, Nd.open_step hTok hz5 oM (by (rw [← hla]); exact Nd.leq_yes hc8'.1 hc8'.2) (by simpa using hc10') (Nd.getD_some ht11 (by simpa using hc12'))⟩
  intro hc4'
  try simp only [nrm] at hc4'
  refine W_exit (N_K_exit (N_LP_exit (N_B_same (N_K (q2 (mV Z (aG Z (aG Z (q3 (W_ret (rt2 results105 Z Z ?_)))))))))))
  have hTl : Nd.TOK T list := by (have h9 := hTok; rw [List.take_of_length_le oM] at h9; exact h9)
  exact H.retM (.inr ⟨T, _, Z, Z, hNT, hTl, hTl.valid⟩)
end Go.Proofs.Tst

