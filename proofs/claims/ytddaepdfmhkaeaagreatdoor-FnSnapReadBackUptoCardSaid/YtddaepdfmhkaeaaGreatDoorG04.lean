/- Part 4 of the proof: the program logic and plain functions. Conditions: none. -/
import Derived.Conc.MuLone
import Derived.Test.YtddaepdfmhkaeaaGreatDoorG03
import Derived.Test.YtddaepdfmhkaeaaGreatDoorG02
import Derived.Laws.BytesArg
import Derived.KernelRfl
import Derived.Test.YtddaepdfmhkaeaaGreatDoorProg
set_option linter.all false
set_option maxRecDepth 100000
set_option maxHeartbeats 1000000
namespace Fw
open Go
theorem calls_of_WD {P : Program} {f : FuncId} {fn : Func} {c : Code} {l : List Value} {w : World} {R : Ending → World → Prop} {n : Nat}
  (hf : P.funcs[f]? = some fn) (hb : fn.body = some c) (hn : fn.ntmps = n) (hl : Nat.ble l.length n = true)
  (h : W P n (bodyPostD P fn R) c (initL 0 l) [] w) : Calls P f l.toArray w R := by
 refine calls_of_wp_defers hf hb (h _ ⟨?_, ?_, rfl⟩)
 ·have : l.length ≤ n := by simpa using hl
  simp [hn]; omega
 ·intro t v hv
  obtain ⟨_, h2⟩ := lk_initL l 0 t v hv
  have hlt : t < l.length := by
   have := List.getElem?_eq_some_iff.1 h2
   obtain ⟨h, _⟩ := this
   simpa using h
  simp only [Nat.sub_zero] at h2
  rw [Array.getElem?_append_left (by simpa using hlt)]
  simpa using h2
section
variable {P : Program} {n : Nat} {ops : Array Oper} {Q : Post} {rest : List Oper} {L : Slots} {ds : List Deferred} {w w0 : World} {G0 : PH} {S : List Nat} {G : PH} {B : List Res}
variable {ty : TypeId} {ps : String} {af : Array Edge}
theorem o_defer {f : FuncId} {xs : List Operand} {ts : Array TypeId} {vs : List Value} (hx : ods L xs = some vs)
  (next : R P n ops Q rest L ({ target := .fn (.func f) #[], args := vs.toArray } :: ds) w) : R P n ops Q (⟨none, .defer ⟨.value (.func f), xs.toArray, ts⟩, ty, ps, af, none⟩ :: rest) L ds w := by
 intro a ha
 refine wpList_plain rfl fun K hK => ?_
 have e : xs.map a.eval = vs := ha.evals xs vs hx
 have hr : (execOp a.eval ⟨none, .defer ⟨.value (.func f), xs.toArray, ts⟩, ty, ps, af, none⟩).run P w = .ok (.defer { target := .fn (.func f) #[], args := vs.toArray }) w := by
  simp [execOp, resolve, Act.eval, Deferred.ofValue, e]
 unfold Oper.wp
 rw [hr, Oper.upon_defer]
 exact hK _ _ (next _ ⟨ha.size, ha.get, by simp [Act.put, ha.defers]⟩)
variable {fn : Func} {C : Ending → World → Prop}
theorem ret_unlock (k : Nat) (H : Hp w0 G0 S w G B) {LL : Go.Conc.Locks.MuLink} (M : Go.Conc.Locks.MuLib P LL) {b o : Nat} {l : List Value} {e : TypeId} {f : FuncId} {rs : List ResultVar} (hf : f = LL.unlock) (henter : ∀ args w, (callFunc f args).run P w = .ok (.enter f args) w)
  (hk : nth B k = some (blk b (cl l e))) (hl : nth l o = some (.int .i32 1)) (hr : fn.results = rs.toArray)
  (next : ∀ w', Hp w0 G0 S w' G (setN B k (blk b (cl (setN l o (.int .i32 0)) e))) → ∃ vs, RV P w' L rs vs ∧ C (.returned (tupleOf vs)) w') :
  N n (bodyPostD P fn C) .ret L [{ target := .fn (.func f) #[], args := [.pointer (some ⟨b, o, none⟩)].toArray }] w := by
 subst hf
 intro a ha
 show Leaves P fn a.tmps C a.defers .returning w
 rw [ha.defers]
 have hc : w.cell? ⟨b, o, none⟩ = some (.int .i32 1) := blk_cell H hk (by rw [nth_eq] at hl; simpa using hl)
 refine leaves_cons (f := LL.unlock) (args := #[.pointer (some ⟨b, o, none⟩)]) (by simp) (by simp [invoke, henter]) ?_
 refine (Go.MuLone.unlock_deferred M ⟨b, o, none⟩ .returning w hc (frozen_blk H hk)).mono ?_
 rintro e u' w' ⟨rfl, rfl, rfl⟩
 obtain ⟨vs, h1, h2⟩ := next _ (setCell_blk H hk (o := o) (.int .i32 0))
 exact ⟨_, run_results' hr ⟨ha.size, ha.get, rfl⟩ h1, h2⟩
theorem o_lock (k : Nat) (H : Hp w0 G0 S w G B) {LL : Go.Conc.Locks.MuLink} (M : Go.Conc.Locks.MuLib P LL) {d b o : Nat} {l : List Value} {e : TypeId} {f : FuncId} {xs : List Operand} {ts : Array TypeId} (hf : f = LL.lock) (henter : ∀ args w, (callFunc f args).run P w = .ok (.enter f args) w) (hd : Nat.blt d n = true)
  (hx : ods L xs = some [.pointer (some ⟨b, o, none⟩)]) (hk : nth B k = some (blk b (cl l e))) (hl : nth l o = some (.int .i32 0))
  (next : ∀ w', Hp w0 G0 S w' G (setN B k (blk b (cl (setN l o (.int .i32 1)) e))) → R P n ops Q rest ((d, .tuple #[]) :: L) ds w') :
  R P n ops Q (⟨some d, .call ⟨.value (.func f), xs.toArray, ts⟩, ty, ps, af, none⟩ :: rest) L ds w := by
 subst hf
 have hc : w.cell? ⟨b, o, none⟩ = some (.int .i32 0) := blk_cell H hk (by rw [nth_eq] at hl; simpa using hl)
 refine o_call henter hd hx (Go.MuLone.lock_free M ⟨b, o, none⟩ w hc (frozen_blk H hk)) ?_
 rintro _ w' ⟨rfl, rfl⟩
 exact ⟨_, rfl, next _ (setCell_blk H hk (o := o) (.int .i32 1))⟩
end
def osE : PH → (Bs × Nd) → List Value → Prop := fun _ x cs => cs = [str x.1, ptr x.2.b] ∧ x.1.length ≤ 16777216
instance : MonoE osE := ⟨fun _ h => h⟩
theorem prow_blk {G : PH} {b : Nat} {l : List Value} {e : TypeId} (h : (blk b (cl l e)).pred G) : PRow G b 0 l := fun j v hv => ⟨l.toArray, e, (0, 0), h, by rw [Nat.zero_add]; simpa using hv⟩
abbrev SnOK (xs : List (Bs × Nd)) (L : List BSnap) : Prop := All2 (fun x s => x.1 = s.name ∧ Nd.TOK x.2 s.tree ∧ Sp.TreeValid s.tree = true) xs L
theorem All2.len {α β : Type} {R : α → β → Prop} {l : List α} {m : List β} (h : All2 R l m) : l.length = m.length := by
 induction h with
 | nil => rfl
 | cons _ _ ih => simp [ih]
theorem All2.snoc {α β : Type} {R : α → β → Prop} {l : List α} {m : List β} {x : α} {y : β} (h : All2 R l m) (hx : R x y) : All2 R (l ++ [x]) (m ++ [y]) := by
 induction h with
 | nil => exact .cons hx .nil
 | cons h _ ih => exact .cons h ih
theorem All2.at {α β : Type} {R : α → β → Prop} {l : List α} {m : List β} (h : All2 R l m) : ∀ {i : Nat} {x : α}, l[i]? = some x → ∃ y, m[i]? = some y ∧ R x y := by
 induction h with
 | nil => intro i x hx; simp at hx
 | cons h _ ih =>
  intro i x hx
  cases i with
  | zero => simp at hx; subst hx; exact ⟨_, rfl, h⟩
  | succ i => exact ih (by simpa using hx)
end Fw
namespace Fw
open Go
end Fw
namespace Fw
open Go
section
variable {P : Program} {n : Nat} {ops : Array Oper} {Q : Post} {rest : List Oper} {L : Slots} {ds : List Deferred} {w : World}
variable {ty : TypeId} {ps : String} {af : Array Edge}
theorem o_makefn1 {d : Nat} {f : FuncId} {x : Operand} {v : Value} (hd : Nat.blt d n = true) (hx : od L x = some v)
  (next : R P n ops Q rest ((d, .func (.func f) #[] #[v]) :: L) ds w) : R P n ops Q (⟨some d, .makeFunc (.func f) #[] #[x], ty, ps, af, none⟩ :: rest) L ds w :=
 R_run hd (fun a ha => by simp [execOp, Instr.makeFunc, ha.eval hx]) next
theorem o_callc {d : Nat} {f : FuncId} {c : Operand} {xs : List Operand} {ts : Array TypeId} {vs : List Value} {cv : Value} {C : Ending → World → Prop} (hf : ∀ args w, (callFunc f args).run P w = .ok (.enter f args) w) (hd : Nat.blt d n = true)
  (hc0 : od L c = some (.func (.func f) #[] #[cv])) (hx : ods L xs = some vs) (hc : Calls P f (vs ++ [cv]).toArray w C) (next : ∀ e w', C e w' → ∃ v, e = .returned v ∧ R P n ops Q rest ((d, v) :: L) ds w') :
  R P n ops Q (⟨some d, .call ⟨.value c, xs.toArray, ts⟩, ty, ps, af, none⟩ :: rest) L ds w := by
 intro a ha
 refine wpList_plain rfl fun K hK => ?_
 have e : xs.map a.eval = vs := ha.evals xs vs hx
 have hr : (execOp a.eval ⟨some d, .call ⟨.value c, xs.toArray, ts⟩, ty, ps, af, none⟩).run P w = .ok (.enter f (vs ++ [cv]).toArray) w := by
  simp [execOp, resolve, invoke, ha.eval hc0, Deferred.ofValue, e, hf]
 unfold Oper.wp
 rw [hr, Oper.upon_enter]
 refine hc.mono fun e w' hC => ?_
 obtain ⟨v, rfl, h⟩ := next e w' hC
 exact hK _ _ (h _ (ha.put hd v))
end
end Fw
namespace Fw
open Go
section
variable {NT PT : TypeId} {w0 w : World} {G0 G : PH} {S : List Nat} {B : List Res}
theorem NdsO.snoc {k : Nd} {Fk : Fr} {l : List Nd} {F : Fr} (h : NdsO NT PT G l F) (hk : NdO NT PT G k Fk) : NdsO NT PT G (l ++ [k]) (F ++ Fk) :=
 NdsO.app.2 ⟨F, Fk, rfl, h, by simp only [NdsO]; exact ⟨Fk, [], by simp, hk, rfl⟩⟩
theorem Hp.lendNs (H : Hp w0 G0 S w G B) {ks : List Nat} {k : Nat} {F : Fr} {l : List Nd} (hk : nth B k = some (frag F)) (hm : ks.contains k = true) (h : NdsO NT PT G l F) : ∀ t, t ∈ l → RdN (PPlus G w (fpsAt B ks)) t :=
 RdNs_iff.1 (NdsO.rd (PPlus.le _ _ _) h (H.lendPredL hk hm) (nd_front (H.toFront hk)))
end
end Fw
namespace Sp
open Fw
def useOK (s : List BHeld) (ts : List Nd) : Bool := ts.all (fun t => (t.flat []).all (fun x => l4Ids s x.ids)) && s.all (fun h => decide ((cntT ts h.id : Int) = h.uses))
theorem dv_parts {d : BDisk} : DiskValid d = true ↔ StoreValid d.store = true ∧ TreeValid d.tree = true ∧ d.snaps.length ≤ 6 ∧ (∀ (k : Nat) (s : BSnap), d.snaps[k]? = some s → l1Word s.name = true ∧ (k : Int) ≤ l12At d.snaps s.name ∧ TreeValid s.tree = true) ∧
  (l11Files d.store d.tree = true ∧ ∀ (k : Nat) (s : BSnap), d.snaps[k]? = some s → l11Files d.store s.tree = true) ∧ d.store.all (usesD d) = true := by
 simp only [DiskValid, l12Snaps, Bool.and_eq_true, decide_eq_true_eq]
 constructor
 ·rintro ⟨h1, ⟨⟨h2, h3⟩, h4⟩, h5, h6⟩
  have key : ∀ (k : Nat) (s : BSnap), d.snaps[k]? = some s → okS d k = true := fun k s hk => List.all_eq_true.1 h5 k (by simpa using (List.getElem?_eq_some_iff.1 hk).1)
  refine ⟨h2, h3, h6, fun k s hk => ?_, ⟨h4, fun k s hk => ?_⟩, h1⟩
  ·have := key k s hk
   rw [okS_at hk] at this
   simp only [Bool.and_eq_true, decide_eq_true_eq] at this
   exact ⟨this.1.1.1, this.1.1.2, this.1.2⟩
  ·have := key k s hk
   rw [okS_at hk] at this
   simp only [Bool.and_eq_true] at this
   exact this.2
 ·rintro ⟨h2, h3, h6, h7, ⟨h4, h8⟩, h1⟩
  refine ⟨h1, ⟨⟨h2, h3⟩, h4⟩, ?_, h6⟩
  rw [List.all_eq_true]
  intro k hk
  have hk' : k < d.snaps.length := by simpa using hk
  rw [okS_at (List.getElem?_eq_getElem hk')]
  obtain ⟨g1, g2, g3⟩ := h7 k _ (List.getElem?_eq_getElem hk')
  simp only [Bool.and_eq_true, decide_eq_true_eq]
  exact ⟨⟨⟨g1, g2⟩, g3⟩, h8 k _ (List.getElem?_eq_getElem hk')⟩
theorem cntT_sn {xs : List (Bs × Nd)} {L : List BSnap} (h : SnOK xs L) (id : Int) : cntT (xs.map (·.2)) id = cntS L id L.length := by
 induction h with
 | nil => rfl
 | cons h t ih =>
  obtain ⟨h1, h2, h3⟩ := h
  simp only [cntT, cntS, List.map_cons, List.sum_cons, List.take_length] at ih ⊢
  rw [h2.flat]
  omega
theorem dv_use {d : BDisk} {T : Nd} {xs : List (Bs × Nd)} (hS : StoreValid d.store = true) (hT : Nd.TOK T d.tree) (hl : d.snaps.length ≤ 6) (hx : SnOK xs d.snaps) (hw : ∀ (k : Nat) (s : BSnap), d.snaps[k]? = some s → l1Word s.name = true ∧ (k : Int) ≤ l12At d.snaps s.name) :
  DiskValid d = useOK d.store (T :: xs.map (·.2)) := by
 rw [Bool.eq_iff_iff, dv_parts]
 have hc : ∀ id, cntT (T :: xs.map (·.2)) id = l12Count d id := fun id => by
  have := cntT_sn hx id
  simp only [cntT, List.map_cons, List.sum_cons, hT.flat] at this ⊢
  rw [this]; rfl
 have hf : (T :: xs.map (·.2)).all (fun t => (t.flat []).all (fun x => l4Ids d.store x.ids)) = true ↔ l11Files d.store d.tree = true ∧ ∀ (k : Nat) (s : BSnap), d.snaps[k]? = some s → l11Files d.store s.tree = true := by
  simp only [List.all_cons, Bool.and_eq_true, hT.flat]
  refine and_congr Iff.rfl ?_
  rw [List.all_eq_true]
  constructor
  ·intro h k s hk
   obtain ⟨x, hx1, hx2⟩ := f2_mem_right hx (List.mem_of_getElem? hk)
   have := h x.2 (List.mem_map_of_mem hx1)
   rw [hx2.2.1.flat] at this
   exact this
  ·intro h t ht
   obtain ⟨x, hx1, rfl⟩ := List.mem_map.1 ht
   obtain ⟨s, hs1, hs2⟩ := f2_mem_left hx hx1
   obtain ⟨k, hk⟩ := List.getElem?_of_mem hs1
   rw [hs2.2.1.flat]
   exact h k s hk
 have hu : d.store.all (fun h => decide ((cntT (T :: xs.map (·.2)) h.id : Int) = h.uses)) = d.store.all (usesD d) := by
  congr 1
  funext h
  rw [hc]; rfl
 simp only [useOK, Bool.and_eq_true, hu, hf]
 constructor
 ·rintro ⟨_, _, _, _, h5, h6⟩; exact ⟨h5, h6⟩
 ·rintro ⟨h5, h6⟩
  refine ⟨hS, hT.valid, hl, fun k s hk => ⟨(hw k s hk).1, (hw k s hk).2, ?_⟩, h5, h6⟩
  obtain ⟨x, hx1, hx2⟩ := f2_mem_right hx (List.mem_of_getElem? hk)
  exact hx2.2.2
theorem dv_no {d : BDisk} (h : ¬ (StoreValid d.store = true ∧ TreeValid d.tree = true ∧ d.snaps.length ≤ 6 ∧ ∀ (k : Nat) (s : BSnap), d.snaps[k]? = some s → l1Word s.name = true ∧ (k : Int) ≤ l12At d.snaps s.name ∧ TreeValid s.tree = true)) : DiskValid d = false := by
 cases e : DiskValid d with
 | false => rfl
 | true =>
  obtain ⟨h1, h2, h3, h4, _⟩ := dv_parts.1 e
  exact absurd ⟨h1, h2, h3, h4⟩ h
theorem sn_find {xs : List (Bs × Nd)} {L : List BSnap} (h : SnOK xs L) (n : Bs) : xs.findIdx? (fun x => decide (x.1 = n)) = atS L n := by
 induction h with
 | nil => rfl
 | cons h t ih =>
  simp only [atS, List.findIdx?_cons] at ih ⊢
  rw [h.1, ih]
theorem at_take {L : List BSnap} {k : Nat} {s : BSnap} (hk : L[k]? = some s) : ((k : Int) ≤ l12At L s.name) ↔ optI (atS (L.take k) s.name) < 0 := by
 have hkl := (List.getElem?_eq_some_iff.1 hk).1
 simp only [l12At]
 cases e : atS (L.take k) s.name with
 | none =>
  have h1 : atS L s.name = some k := fidx_some (fun j x hj hx => by
   simp only [atS, List.findIdx?_eq_none_iff] at e
   exact e x (List.mem_of_getElem? (i := j) (by rw [List.getElem?_take, if_pos hj]; exact hx))) hk (by simp)
  simp [h1, optI]
 | some j =>
  have h2 : j < k ∧ ∃ x, L[j]? = some x ∧ x.name = s.name := by
   simp only [atS] at e
   obtain ⟨g1, g2, _⟩ := List.findIdx?_eq_some_iff_getElem.1 e
   have : j < k := by simp at g1; omega
   exact ⟨this, L[j], by simp, by simpa using g2⟩
  obtain ⟨h3, x, h4, h5⟩ := h2
  cases e2 : atS L s.name with
  | none =>
   simp only [atS, List.findIdx?_eq_none_iff] at e2
   have := e2 x (List.mem_of_getElem? h4)
   simp [h5] at this
  | some i =>
   have : i ≤ j := by
    simp only [atS] at e2
    obtain ⟨_, _, g3⟩ := List.findIdx?_eq_some_iff_getElem.1 e2
    rcases Nat.lt_or_ge j i with h | h
    ·have := g3 j h
     obtain ⟨h6, rfl⟩ := List.getElem?_eq_some_iff.1 h4
     simp [h5] at this
    ·exact h
   simp [optI]; omega
end Sp
namespace Fw
open Sp
theorem All2.snoc2 {xs : List (Bs × Nd)} {L : List BSnap} {k : Nat} {s : BSnap} {x : Bs × Nd} (h : SnOK xs (L.take k)) (hs : L[k]? = some s) (h1 : x.1 = s.name) (h2 : Nd.TOK x.2 s.tree) (h3 : TreeValid s.tree = true) : SnOK (xs ++ [x]) (L.take (k + 1)) := by
 rw [take_succ' hs]
 exact h.snoc ⟨h1, h2, h3⟩
theorem names_step {xs : List (Bs × Nd)} {L : List BSnap} {k : Nat} {s : BSnap} (hw : ∀ (j : Nat) (s : BSnap), j < k → L[j]? = some s → l1Word s.name = true ∧ (j : Int) ≤ l12At L s.name) (hz : L[k]? = some s) (h1 : l1Word s.name = true) (hSn : SnOK xs (L.take k)) (h2 : optI (xs.findIdx? (fun x => decide (x.1 = s.name))) < 0) :
  ∀ (j : Nat) (s : BSnap), j < k + 1 → L[j]? = some s → l1Word s.name = true ∧ (j : Int) ≤ l12At L s.name := by
 intro j t hj ht
 rcases Nat.lt_or_ge j k with h | h
 ·exact hw j t h ht
 ·obtain rfl : j = k := by omega
  rw [ht] at hz; cases hz
  exact ⟨h1, (at_take ht).2 (by rw [← sn_find hSn]; exact h2)⟩
end Fw
namespace Fw
open Sp
theorem sn_ok {xs : List (Bs × Nd)} {L : List BSnap} (h : SnOK xs L) : ∀ t, t ∈ xs.map (·.2) → t.wf ∧ t.cnt ≤ 12 := by
 intro t ht
 obtain ⟨x, hx, rfl⟩ := List.mem_map.1 ht
 obtain ⟨s, _, hs⟩ := f2_mem_left h hx
 have := hs.2.1.cnt
 have := tree_len hs.2.2
 exact ⟨hs.2.1.wf, by omega⟩
end Fw
namespace Fw
open Go Sp
theorem take_eq {d : BDisk} {n : Bs} (hd : DiskValid d = true) (h1 : l1Word n = true) (h2 : (atS d.snaps n).isNone = true) (h3 : d.snaps.length ≠ 6) : SnapTake d n = (l12Keep d.store d.tree).map (fun s => ⟨s, d.tree, d.snaps ++ [⟨n, d.tree⟩]⟩) := by
 unfold SnapTake
 rw [if_pos]
 simp [hd, h1, h2, h3]
theorem All2.push {xs : List (Bs × Nd)} {L : List BSnap} {x : Bs × Nd} {s : BSnap} (h : SnOK xs L) (h1 : x.1 = s.name) (h2 : Nd.TOK x.2 s.tree) (h3 : TreeValid s.tree = true) : SnOK (xs ++ [x]) (L ++ [s]) := h.snoc ⟨h1, h2, h3⟩
end Fw
namespace Fw
open Go Sp
theorem OHs.mk {e : TypeId} {F : Fr} {v : Value} {xs : List BHeld} (h : OwnS heldO 3 e F v xs) : OHs F v xs := ⟨e, h⟩
theorem sn_list {xs : List (Bs × Nd)} {L : List BSnap} (h : SnOK xs L) : xs.map (fun x => (⟨x.1, x.2.flat []⟩ : BSnap)) = L := by
 induction h with
 | nil => rfl
 | cons h t ih =>
  rw [List.map_cons, ih, h.2.1.flat, h.1]
end Fw
namespace Fw
theorem oh_nil : OHs [] (.slice none 0 0) [] := ⟨0, by simp, .inl ⟨rfl, rfl, rfl⟩⟩
theorem oi_nil : OIs [] (.slice none 0 0) [] := ⟨0, by simp, .inl ⟨rfl, rfl, rfl⟩⟩
theorem os_nil : OSn [] (.slice none 0 0) [] := ⟨0, by simp, .inl ⟨rfl, rfl, rfl⟩⟩
end Fw
namespace Fw
open Sp
end Fw
namespace Sp
theorem same_at {α : Type} {a b : List α} {k : Nat} {x y : α} (h : a = b) (hx : a[k]? = some x) (hy : b[k]? = some y) : x = y := by subst h; rw [hx] at hy; exact Option.some.inj hy
end Sp
namespace Sp
theorem take_set {α : Type} {xs a : List α} {k : Nat} {z : α} (h : xs.take k = a.take k) (hl : xs.length = a.length) (hz : a[k]? = some z) : (xs.set k z).take (k + 1) = a.take (k + 1) := by
 have hk := (List.getElem?_eq_some_iff.1 hz).1
 rw [take_succ' hz, ← h]
 apply List.ext_getElem?
 intro j
 rw [List.getElem?_take]
 rcases Nat.lt_trichotomy j k with h1 | h1 | h1
 ·rw [if_pos (by omega), List.getElem?_set_ne (by omega), List.getElem?_append_left (by simp; omega), List.getElem?_take, if_pos h1]
 ·subst h1
  rw [if_pos (by omega), List.getElem?_set_self (by omega), List.getElem?_append_right (by simp; omega)]
  simp [Nat.min_eq_left (by omega : j ≤ xs.length)]
 ·rw [if_neg (by omega), List.getElem?_eq_none (by simp; omega)]
end Sp
namespace Fw
open Go
theorem split_at {α : Type} : ∀ (Fs : List (List α)) (i : Nat) (Fi : List α), Fs[i]? = some Fi → Fs.flatten = (Fs.take i).flatten ++ (Fi ++ (Fs.drop (i + 1)).flatten)
 | [], i, _, h => by simp at h
 | x :: r, 0, Fi, h => by simp at h; subst h; simp
 | x :: r, i + 1, Fi, h => by
  simp only [List.getElem?_cons_succ] at h
  simp only [List.flatten_cons, List.take_succ_cons, List.drop_succ_cons, List.append_assoc]
  rw [split_at r i Fi h]
theorem set_flat {α : Type} (Fs : List (List α)) (i : Nat) (F' : List α) (hi : i < Fs.length) : (Fs.set i F').flatten = (Fs.take i).flatten ++ (F' ++ (Fs.drop (i + 1)).flatten) := by
 have h := split_at (Fs.set i F') i F' (by simp [hi])
 rw [h, List.take_set_of_le (Nat.le_refl _), List.drop_set_of_lt (by omega)]
theorem flat_get {α : Type} {sz : Nat} : ∀ (css : List (List α)) (i : Nat) (cs : List α), (∀ c ∈ css, c.length = sz) → css[i]? = some cs → ∀ j v, cs[j]? = some v → css.flatten[i * sz + j]? = some v
 | [], i, cs, _, h, j, v, hv => by simp at h
 | c :: r, 0, cs, hl, h, j, v, hv => by
  simp at h
  subst h
  rw [List.flatten_cons, Nat.zero_mul, Nat.zero_add, List.getElem?_append_left (List.getElem?_eq_some_iff.1 hv).1]
  exact hv
 | c :: r, i + 1, cs, hl, h, j, v, hv => by
  have hc := hl c (by simp)
  simp only [List.getElem?_cons_succ] at h
  rw [List.flatten_cons, List.getElem?_append_right (by rw [hc, Nat.add_mul]; omega), hc, Nat.add_mul, show i * sz + 1 * sz + j - sz = i * sz + j by omega]
  exact flat_get r i cs (fun d hd => hl d (by simp [hd])) h j v hv
section
variable {α : Type} {E : Fr → α → List Value → Prop} {sz : Nat}
theorem ChkF.focus {c : List Value} {xs : List α} {F : Fr} (h : ChkF E sz c xs F) {i : Nat} {x : α} (hx : xs[i]? = some x) :
  ∃ (cs : List Value) (F1 Fi F2 : Fr), F = F1 ++ (Fi ++ F2) ∧ cs.length = sz ∧ E Fi x cs ∧ (∀ j v, cs[j]? = some v → c[i * sz + j]? = some v) ∧
   (∀ (Fi' : Fr) (x' : α) (off : Nat) (vs : List Value), off + vs.length ≤ sz → E Fi' x' (setCs cs off vs) → ChkF E sz (setCs c (i * sz + off) vs) (xs.set i x') (F1 ++ (Fi' ++ F2))) ∧
   ∀ (Fi' : Fr) (x' : α), E Fi' x' cs → ChkF E sz c (xs.set i x') (F1 ++ (Fi' ++ F2)) := by
 obtain ⟨css, Fs, rfl, rfl, h3, h4, h5⟩ := h
 obtain ⟨cs, Fi, e1, e2, e3, e4⟩ := h5 i x hx
 have hsz := ChkF.szs h3 h5
 have hil : i < css.length := (List.getElem?_eq_some_iff.1 e1).1
 suffices key : ∀ (Fi' : Fr) (x' : α) (off : Nat) (vs : List Value), off + vs.length ≤ sz → E Fi' x' (setCs cs off vs) → ChkF E sz (setCs css.flatten (i * sz + off) vs) (xs.set i x') ((Fs.take i).flatten ++ (Fi' ++ (Fs.drop (i + 1)).flatten)) from
  ⟨cs, _, Fi, _, split_at Fs i Fi e2, e3, e4, flat_get css i cs hsz e1, key, fun Fi' x' hE => key Fi' x' 0 [] (by simp) hE⟩
 intro Fi' x' off vs ho hE
 refine ⟨css.set i (setCs cs off vs), Fs.set i Fi', setCs_flatten ho css i cs hsz e1, (set_flat Fs i Fi' (by omega)).symm, by simp [h3], by simp [h4], ?_⟩
 intro j y hy
 rw [List.getElem?_set] at hy
 rw [List.getElem?_set, List.getElem?_set]
 by_cases hij : i = j
 ·subst hij
  rw [if_pos rfl, if_pos (by omega)] at hy
  simp only [Option.some.injEq] at hy
  subst hy
  rw [if_pos rfl, if_pos hil, if_pos rfl, if_pos (by omega)]
  exact ⟨_, _, rfl, rfl, by rw [length_setCs]; exact e3, hE⟩
 ·rw [if_neg hij] at hy
  rw [if_neg hij, if_neg hij]
  exact h5 j y hy
theorem ChkF.rep {z : List Value} {x0 : α} (h : E [] x0 z) (hl : z.length = sz) (n : Nat) : ChkF E sz (Fw.rep n z) (List.replicate n x0) [] := by
 refine ⟨List.replicate n z, List.replicate n [], rep_flat z n, by simp, by simp, by simp, fun i x hx => ?_⟩
 have hi := (List.getElem?_eq_some_iff.1 hx).1
 simp only [List.length_replicate] at hi
 simp [hi] at hx
 subst hx
 exact ⟨z, [], by simp [hi], by simp [hi], hl, h⟩
variable {w0 w w' : World} {G0 G G' : PH} {S : List Nat} {B Bs : List Res}
end
section ops
variable {P : Program} {n : Nat} {ops : Array Oper} {Q : Post} {rest : List Oper} {L : Slots} {ds : List Deferred} {w w0 : World} {G0 : PH} {S : List Nat} {G : PH} {B : List Res}
variable {ty : TypeId} {ps : String} {af : Array Edge}
theorem o_bneq_same {d : Nat} {x y : Operand} {t u : TypeId} {p : Bool} (hT : P.underlying t = some .bool) (hd : Nat.blt d n = true) (hx : od L x = some (.bool p)) (hy : od L y = some (.bool p))
  (next : R P n ops Q rest ((d, .bool false) :: L) ds w) : R P n ops Q (⟨some d, .binOp .neq t x y u, ty, ps, af, none⟩ :: rest) L ds w :=
 o_bneq hT hd hx hy (by simpa using next)
end ops
section
variable {w0 w w' : World} {G0 G G' : PH} {S : List Nat} {B Bs : List Res}
theorem Hp.lendOHs (H : Hp w0 G0 S w G B) {ks : List Nat} {k : Nat} {F : Fr} {v : Value} {xs : List BHeld} (hk : nth B k = some (frag F)) (hm : ks.contains k = true) (h : OHs F v xs) : RdH (PPlus G w (fpsAt B ks)) v xs :=
 h.rd (fun b o hb => H.lendPredL hk hm b o hb) (dm_nodup H hk)
theorem Hp.lendOIs (H : Hp w0 G0 S w G B) {ks : List Nat} {k : Nat} {F : Fr} {v : Value} {xs : List BItem} (hk : nth B k = some (frag F)) (hm : ks.contains k = true) (h : OIs F v xs) : RdItems (PPlus G w (fpsAt B ks)) v xs :=
 h.rd (fun b o hb => H.lendPredL hk hm b o hb) (dm_nodup H hk)
theorem Hp.lendOSn (H : Hp w0 G0 S w G B) {ks : List Nat} {k : Nat} {F : Fr} {v : Value} {xs : List BSnap} (hk : nth B k = some (frag F)) (hm : ks.contains k = true) (h : OSn F v xs) : RdSn (PPlus G w (fpsAt B ks)) v xs :=
 h.rd (fun b o hb => H.lendPredL hk hm b o hb) (dm_nodup H hk)
theorem OSn.mk {e : TypeId} {F : Fr} {v : Value} {xs : List BSnap} (h : OwnS snapO 2 e F v xs) : OSn F v xs := ⟨_, h⟩
theorem OI.mk {e : TypeId} {F : Fr} {v : Value} {xs : List Int} (h : OwnS intO 1 e F v xs) : OI F v xs := ⟨_, h⟩
end
end Fw
namespace Fw
open Go
section
variable {α : Type}
def cnt (c : α → Nat) : List α → Nat
 | [] => 0
 | x :: r => c x + cnt c r
variable {f : Int → α → α} {c : α → Nat}
theorem cnt_append : ∀ (a b : List α), cnt c (a ++ b) = cnt c a + cnt c b
 | [], b => by simp [cnt]
 | x :: r, b => by simp [cnt, cnt_append r b]; omega
theorem take_succ {a : List α} {i : Nat} {x : α} (h : a[i]? = some x) : a.take (i + 1) = a.take i ++ [x] := by
 rw [List.take_add_one, h]; rfl
theorem cnt_succ {a : List α} {i : Nat} {x : α} (h : a[i]? = some x) : cnt c (a.take (i + 1)) = cnt c (a.take i) + c x := by
 rw [take_succ h, cnt_append]; simp [cnt]
theorem cnt_le {a : List α} {i : Nat} {x : α} (h : a[i]? = some x) : cnt c (a.take i) + c x ≤ cnt c a := by
 rw [← cnt_succ h]
 conv => rhs; rw [← List.take_append_drop (i + 1) a, cnt_append]
 omega
end
end Fw
namespace Fw
open Go
end Fw
namespace Sp
open Go Fw
theorem getH_mem {L : List BHeld} (nd : (L.map (·.id)).Nodup) {x : BHeld} (h : x ∈ L) : getH L x.id = x := by
 cases e : Sp.atH L x.id with
 | none => exact absurd (List.mem_map_of_mem h) (Fw.atH_none e)
 | some j =>
  obtain ⟨y, hy, hid⟩ := Fw.atH_some e
  rw [getH_some e hy]
  obtain ⟨i, hi⟩ := List.getElem?_of_mem h
  have h1 : (L.map (·.id))[i]? = some x.id := by simp [hi]
  have h2 : (L.map (·.id))[j]? = some x.id := by simp [hy, hid]
  obtain ⟨l1, e1⟩ := List.getElem?_eq_some_iff.1 h1
  obtain ⟨l2, e2⟩ := List.getElem?_eq_some_iff.1 h2
  have : i = j := by
   have hp := List.pairwise_iff_getElem.1 nd
   rcases Nat.lt_trichotomy i j with hlt | heq | hlt
   ·exact absurd (e1.trans e2.symm) (hp i j l1 l2 hlt)
   ·exact heq
   ·exact absurd (e2.trans e1.symm) (hp j i l2 l1 hlt)
  subst this
  rw [hi] at hy
  exact (Option.some.inj hy).symm
theorem at_mem {L : List BHeld} {a : Int} : (Sp.atH L a).isSome = true ↔ a ∈ L.map (·.id) := by
 constructor
 ·intro h
  obtain ⟨i, hi⟩ := Option.isSome_iff_exists.1 h
  obtain ⟨y, hy, rfl⟩ := Fw.atH_some hi
  exact List.mem_map_of_mem (List.mem_of_getElem? hy)
 ·intro h
  cases e : Sp.atH L a with
  | none => exact absurd h (Fw.atH_none e)
  | some i => rfl
theorem getH_not {L : List BHeld} {a : Int} (h : a ∉ L.map (·.id)) : getH L a = ⟨0, [], 0⟩ := by
 refine get_no ?_
 cases e : (Sp.atH L a).isSome with
 | false => rfl
 | true => exact absurd (at_mem.1 e) h
theorem getH_perm {L L' : List BHeld} (nd : (L.map (·.id)).Nodup) (hp : L.Perm L') (a : Int) : getH L' a = getH L a := by
 have hp2 : (L.map (·.id)).Perm (L'.map (·.id)) := hp.map _
 by_cases h : a ∈ L.map (·.id)
 ·obtain ⟨x, hx, rfl⟩ := List.mem_map.1 h
  rw [getH_mem nd hx, getH_mem (hp2.nodup_iff.1 nd) (hp.mem_iff.1 hx)]
 ·rw [getH_not h, getH_not (fun h' => h (hp2.mem_iff.2 h'))]
theorem getH_updH {L : List BHeld} (nd : (L.map (·.id)).Nodup) (y : BHeld) (a : Int) : getH (updH L y) a = if a = y.id then y else getH L a := by
 have hp := updH_perm nd y
 have hsub : ∀ x, x ∈ L.filter (fun x => decide (x.id ≠ y.id)) → x ∈ L ∧ x.id ≠ y.id := fun x hx => by simpa using List.mem_filter.1 hx
 have nd2 : ((y :: L.filter (fun x => decide (x.id ≠ y.id))).map (·.id)).Nodup := by
  rw [List.map_cons, List.nodup_cons]
  refine ⟨fun h => ?_, List.Nodup.sublist ((List.filter_sublist).map _) nd⟩
  obtain ⟨x, hx, e⟩ := List.mem_map.1 h
  exact (hsub x hx).2 e
 rw [getH_perm nd2 hp.symm]
 split
 ·next e => subst e; exact getH_mem nd2 (by simp)
 ·next e =>
  by_cases h : a ∈ L.map (·.id)
  ·obtain ⟨x, hx, rfl⟩ := List.mem_map.1 h
   rw [getH_mem nd hx]
   exact getH_mem nd2 (List.mem_cons_of_mem _ (List.mem_filter.2 ⟨hx, by simpa using e⟩))
  ·rw [getH_not h]
   refine getH_not (fun h' => ?_)
   simp only [List.map_cons, List.mem_cons] at h'
   rcases h' with h' | h'
   ·exact e h'
   ·obtain ⟨x, hx, rfl⟩ := List.mem_map.1 h'
    exact h (List.mem_map_of_mem (hsub x hx).1)
theorem getH_delH {L : List BHeld} (nd : (L.map (·.id)).Nodup) (id a : Int) : getH (delH L id) a = if a = id then ⟨0, [], 0⟩ else getH L a := by
 have hp := delH_perm nd id
 have hsub : ∀ x, x ∈ L.filter (fun x => decide (x.id ≠ id)) → x ∈ L ∧ x.id ≠ id := fun x hx => by simpa using List.mem_filter.1 hx
 have nd2 : ((L.filter (fun x => decide (x.id ≠ id))).map (·.id)).Nodup := List.Nodup.sublist ((List.filter_sublist).map _) nd
 rw [getH_perm nd2 hp.symm]
 split
 ·next e =>
  subst e
  refine getH_not (fun h' => ?_)
  obtain ⟨x, hx, e⟩ := List.mem_map.1 h'
  exact (hsub x hx).2 e
 ·next e =>
  by_cases h : a ∈ L.map (·.id)
  ·obtain ⟨x, hx, rfl⟩ := List.mem_map.1 h
   rw [getH_mem nd hx]
   exact getH_mem nd2 (List.mem_filter.2 ⟨hx, by simpa using e⟩)
  ·rw [getH_not h]
   refine getH_not (fun h' => ?_)
   obtain ⟨x, hx, rfl⟩ := List.mem_map.1 h'
   exact h (List.mem_map_of_mem (hsub x hx).1)
def us (L : List BHeld) (a : Int) : Int := (getH L a).uses
def by_ (L : List BHeld) (a : Int) : List Int := (getH L a).bytes
theorem us_nonneg {L : List BHeld} (hV : VH L) (a : Int) : 0 ≤ us L a := by
 unfold us
 cases h : (Sp.atH L a).isSome with
 | false => rw [get_no h]; simp
 | true => have := (get_ok hV h).2.2.1; omega
theorem us_pos {L : List BHeld} (hV : VH L) {a : Int} : 0 < us L a ↔ (Sp.atH L a).isSome = true := by
 unfold us
 cases h : (Sp.atH L a).isSome with
 | false => rw [get_no h]; simp
 | true => have := (get_ok hV h).2.2.1; simp; omega
theorem drop_step {L : List BHeld} (hV : VH L) {id : Int} (h : 0 < us L id) :
  ∃ L', StoreDrop L id = some L' ∧ VH L' ∧ ∀ a, us L' a = us L a - (if a = id then 1 else 0) ∧ (0 < us L' a → by_ L' a = by_ L a) := by
 have hs := (us_pos hV).1 h
 have hid := get_id hs
 by_cases hu : (getH L id).uses = 1
 ·obtain ⟨h1, h2⟩ := drop_get1 hV hs hu
  refine ⟨_, h1, h2, fun a => ?_⟩
  unfold us by_
  rw [getH_delH hV.nd]
  by_cases e : a = id
  ·subst e; simp [hu]
  ·simp [e]
 ·obtain ⟨h1, h2⟩ := drop_get2 hV hs hu
  refine ⟨_, h1, h2, fun a => ?_⟩
  unfold us by_
  rw [getH_updH hV.nd, ← hid]
  by_cases e : a = id
  ·subst e; simp
  ·simp [e]
theorem cnt1_cons (a x : Int) (r : List Int) : cnt1 a (x :: r) = (if a = x then 1 else 0) + cnt1 a r := by
 unfold cnt1
 rw [List.countP_cons]
 by_cases e : a = x
 ·subst e; simp; omega
 ·have : ¬ x = a := fun h => e h.symm
  simp [e, this]
theorem foldB_cons {α β : Type} {f : α → β → Option α} {b : β} {r : List β} {a a' : α} (h : f a b = some a') : foldB f (b :: r) (some a) = foldB f r (some a') := by
 simp [foldB, h]
theorem drops : ∀ (ids : List Int) {L : List BHeld}, VH L → (∀ a, (cnt1 a ids : Int) ≤ us L a) →
  ∃ L', foldB StoreDrop ids (some L) = some L' ∧ VH L' ∧ ∀ a, us L' a = us L a - (cnt1 a ids : Int) ∧ (0 < us L' a → by_ L' a = by_ L a)
 | [], L, hV, _ => ⟨L, rfl, hV, fun a => by simp [cnt1]⟩
 | x :: r, L, hV, h => by
  have hx := h x
  rw [cnt1_cons, if_pos rfl] at hx
  obtain ⟨L1, h1, h2, h3⟩ := drop_step hV (id := x) (by push_cast at hx; omega)
  obtain ⟨L2, g1, g2, g3⟩ := drops r h2 (fun a => by
   have h8 := h a
   rw [cnt1_cons] at h8
   have h4 := (h3 a).1
   by_cases e : a = x
   ·rw [if_pos e] at h8 h4; omega
   ·rw [if_neg e] at h8 h4; omega)
  refine ⟨L2, by rw [foldB_cons h1]; exact g1, g2, fun a => ?_⟩
  have h4 := h3 a
  have h5 := g3 a
  rw [cnt1_cons]
  refine ⟨?_, fun hp => ?_⟩
  ·have h8 := h4.1
   have h9 := h5.1
   by_cases e : a = x
   ·rw [if_pos e] at h8 ⊢; omega
   ·rw [if_neg e] at h8 ⊢; omega
  ·rw [h5.2 hp, h4.2 ?_]
   have := h5.1
   omega
theorem free_ok {L : List BHeld} (hV : VH L) {ids : List Int} (hl : l4Ids L ids = true) (h : ∀ a, (cnt1 a ids : Int) ≤ us L a) :
  ∃ L', FileFree L ids = some L' ∧ VH L' ∧ ∀ a, us L' a = us L a - (cnt1 a ids : Int) ∧ (0 < us L' a → by_ L' a = by_ L a) := by
 obtain ⟨L', h1, h2⟩ := drops ids hV h
 exact ⟨L', by simp [FileFree, valid_iff.2 hV, hl, h1], h2⟩
theorem keep_step {L : List BHeld} (hV : VH L) {id : Int} {L' : List BHeld} (h : StoreKeep L id = some L') : VH L' ∧ 0 < us L id ∧ ∀ a, us L' a = us L a + (if a = id then 1 else 0) ∧ by_ L' a = by_ L a := by
 have hs : (Sp.atH L id).isSome = true := by
  cases e : (Sp.atH L id).isSome with
  | true => rfl
  | false => rw [keep_no hV (.inl e)] at h; cases h
 have hu : (getH L id).uses < 999 := by
  by_cases h1 : (getH L id).uses < 999
  ·exact h1
  ·rw [keep_no hV (.inr (by omega))] at h; cases h
 obtain ⟨h1, h2⟩ := keep_get hV hs hu
 rw [h1] at h
 cases h
 have hid := get_id hs
 refine ⟨h2, (us_pos hV).2 hs, fun a => ?_⟩
 unfold us by_
 rw [getH_updH hV.nd, ← hid]
 by_cases e : a = id
 ·subst e; simp
 ·simp [e]
theorem put_step {L : List BHeld} (hV : VH L) {b : List Int} (hb : BlockValid b = true) {L' : List BHeld} {id : Int} (h : StorePut L b = some (L', id)) :
  VH L' ∧ (∀ a, us L' a = us L a + (if a = id then 1 else 0) ∧ (0 < us L a → by_ L' a = by_ L a)) ∧ by_ L' id = b := by
 cases e : like L b with
 | none =>
  by_cases hl : L.length < 16
  ·rw [put_new hV hb e hl] at h
   simp only [Option.some.injEq, Prod.mk.injEq] at h
   obtain ⟨rfl, rfl⟩ := h
   have hw := with_valid hV hb e hl
   have hf := (free_lt L).1
   obtain ⟨k, hk⟩ : ∃ k, freeId L = k + 1 := ⟨freeId L - 1, by omega⟩
   have hp := put_perm (L := L) b hk
   have hfi : (freeId L : Int) = (k : Int) + 1 := by omega
   have hg : ∀ a, getH (l3With L b) a = if a = (freeId L : Int) then ⟨(k : Int) + 1, b, 1⟩ else getH L a := fun a => by
    have hnd : ((updH L ⟨(k : Int) + 1, b, 1⟩).map (·.id)).Nodup := (hp.map (·.id)).nodup_iff.2 hw.nd
    rw [getH_perm hnd hp, getH_updH hV.nd, hfi]
   have h0 : getH L (freeId L : Int) = ⟨0, [], 0⟩ := getH_none (free_none L)
   refine ⟨hw, fun a => ?_, ?_⟩
   ·unfold us by_
    rw [hg]
    by_cases ea : a = (freeId L : Int)
    ·subst ea; simp [h0]
    ·simp [ea]
   ·unfold by_
    rw [hg, if_pos rfl]
  ·rw [put_full e (by omega)] at h; cases h
 | some i =>
  obtain ⟨hi, hp, _⟩ := List.findIdx?_eq_some_iff_getElem.1 e
  have hx : L[i]? = some L[i] := List.getElem?_eq_getElem hi
  rw [put_old hV hb e hx] at h
  obtain ⟨l, h1, h2⟩ := Option.map_eq_some_iff.1 h
  simp only [Prod.mk.injEq] at h2
  obtain ⟨rfl, rfl⟩ := h2
  obtain ⟨k1, k2, k3⟩ := keep_step hV h1
  refine ⟨k1, fun a => ⟨(k3 a).1, fun _ => (k3 a).2⟩, ?_⟩
  rw [(k3 _).2]
  unfold by_
  rw [getH_mem hV.nd (List.getElem_mem hi)]
  simpa [l2Same] using hp
end Sp
namespace Sp
open Go Fw
theorem puts : ∀ (bs : List (List Int)) {L : List BHeld} {acc : List Int} {s : List BHeld} {ids : List Int}, VH L → (∀ b, b ∈ bs → BlockValid b = true) → foldB put1 bs (some (L, acc)) = some (s, ids) →
  VH s ∧ ∃ new, ids = acc ++ new ∧ new.length = bs.length ∧ (∀ a, us s a = us L a + (cnt1 a new : Int) ∧ (0 < us L a → by_ s a = by_ L a)) ∧ ∀ (i : Nat) (id : Int), new[i]? = some id → some (by_ s id) = bs[i]?
 | [], L, acc, s, ids, hV, _, h => by
  simp only [foldB, List.foldl_nil, Option.some.injEq, Prod.mk.injEq] at h
  obtain ⟨rfl, rfl⟩ := h
  exact ⟨hV, [], by simp, rfl, fun a => by simp [cnt1], by simp⟩
 | b :: r, L, acc, s, ids, hV, hb, h => by
  cases e : StorePut L b with
  | none =>
   have : foldB put1 (b :: r) (some (L, acc)) = foldB put1 r none := by simp [foldB, put1, e]
   rw [this, foldB_none] at h
   cases h
  | some q =>
   obtain ⟨L1, id⟩ := q
   rw [foldB_cons (a' := (L1, acc ++ [id])) (by simp [put1, e])] at h
   obtain ⟨k1, k2, k3⟩ := put_step hV (hb b (by simp)) e
   obtain ⟨g1, new, g2, g3, g4, g5⟩ := puts r k1 (fun c hc => hb c (by simp [hc])) h
   refine ⟨g1, id :: new, by rw [g2]; simp, by simp [g3], fun a => ?_, fun i z hz => ?_⟩
   ·rw [cnt1_cons]
    have h8 := (k2 a).1
    have h9 := (g4 a).1
    have hn := us_nonneg hV a
    refine ⟨?_, fun hp => ?_⟩
    ·by_cases ea : a = id
     ·rw [if_pos ea] at h8 ⊢; omega
     ·rw [if_neg ea] at h8 ⊢; omega
    ·have h7 : us L a ≤ us L1 a := by
      by_cases ea : a = id
      ·rw [if_pos ea] at h8; omega
      ·rw [if_neg ea] at h8; omega
     rw [(g4 a).2 (by omega), (k2 a).2 hp]
   ·cases i with
    | zero =>
     simp only [List.getElem?_cons_zero, Option.some.injEq] at hz
     subst hz
     have h8 := (k2 id).1
     rw [if_pos rfl] at h8
     have hn := us_nonneg hV id
     rw [(g4 id).2 (by omega), k3]
     rfl
    | succ i =>
     simp only [List.getElem?_cons_succ] at hz ⊢
     exact g5 i z hz
theorem chunks_valid {b : List Int} (h : FileValid b = true) : ∀ c, c ∈ l4Cut b → BlockValid c = true := by
 intro c hc
 unfold l4Cut at hc
 obtain ⟨k, hk, rfl⟩ := List.mem_map.1 hc
 refine chunk_valid h ?_
 rw [chunk_len]
 have := List.mem_range.1 hk
 omega
theorem store_ok {L : List BHeld} (hV : VH L) {b : List Int} {s : List BHeld} {ids : List Int} (h : FileStore L b = some (s, ids)) :
  VH s ∧ ids.length = (l4Cut b).length ∧ (∀ a, us s a = us L a + (cnt1 a ids : Int) ∧ (0 < us L a → by_ s a = by_ L a)) ∧ ∀ (i : Nat) (id : Int), ids[i]? = some id → some (by_ s id) = (l4Cut b)[i]? := by
 unfold FileStore at h
 split at h
 ·rename_i hc
  simp only [Bool.and_eq_true] at hc
  obtain ⟨g1, new, g2, g3, g4, g5⟩ := puts (l4Cut b) hV (chunks_valid hc.2) h
  rw [List.nil_append] at g2
  subst g2
  exact ⟨g1, g3, g4, g5⟩
 ·cases h
theorem ids_stay {L s : List BHeld} (hV : VH L) (hs : VH s) (h : ∀ a, 0 < us L a → 0 < us s a ∧ by_ s a = by_ L a) {ids : List Int} (hl : l4Ids L ids = true) : l4Ids s ids = true := by
 refine ids_true (fun j hj => ?_) (ids_le hl)
 have hz : ids[j]? = some ids[j] := List.getElem?_eq_getElem hj
 have h1 : idsOk L ids j = true := by
  simp only [l4Ids, Bool.and_eq_true] at hl
  exact List.all_eq_true.1 hl.1 j (by simpa using hj)
 have hp : (Sp.atH L ids[j]).isSome = true := by
  cases e : (Sp.atH L ids[j]).isSome with
  | true => rfl
  | false => rw [idsOk_no hz e] at h1; cases h1
 have h2 := h _ ((us_pos hV).2 hp)
 rw [idsOk_get hz ((us_pos hs).1 h2.1)]
 rw [idsOk_get hz hp] at h1
 have h3 : (getH s ids[j]).bytes = (getH L ids[j]).bytes := h2.2
 rw [h3]
 exact h1
theorem ids_in {L : List BHeld} (hV : VH L) {ids : List Int} (hl : l4Ids L ids = true) {a : Int} (ha : a ∈ ids) : 0 < us L a := by
 obtain ⟨j, hz⟩ := List.getElem?_of_mem ha
 have hj := (List.getElem?_eq_some_iff.1 hz).1
 have h1 : idsOk L ids j = true := by
  simp only [l4Ids, Bool.and_eq_true] at hl
  exact List.all_eq_true.1 hl.1 j (by simpa using hj)
 refine (us_pos hV).2 ?_
 cases e : (Sp.atH L a).isSome with
 | true => rfl
 | false => rw [idsOk_no hz e] at h1; cases h1
theorem cnt1_pos {a : Int} {ids : List Int} : 0 < cnt1 a ids ↔ a ∈ ids := by
 unfold cnt1
 rw [List.countP_pos_iff]
 constructor
 ·rintro ⟨x, hx, e⟩
  have : x = a := by simpa using e
  exact this ▸ hx
 ·intro h
  exact ⟨a, h, by simp⟩
end Sp
namespace Sp
open Go Fw Fw.Nd
def cntL (l : List BItem) (a : Int) : Nat := (l.map (fun x => cnt1 a x.ids)).sum
theorem l11Count_eq (l : List BItem) (a : Int) : l11Count l a = cntL l a := by simp [l11Count, cntU, cntL]
theorem cntL_mem {l : List BItem} {x : BItem} (hx : x ∈ l) (a : Int) : cnt1 a x.ids ≤ cntL l a := by
 induction l with
 | nil => simp at hx
 | cons y r ih =>
  simp only [cntL, List.map_cons, List.sum_cons] at *
  rcases List.mem_cons.1 hx with rfl | hx
  ·omega
  ·have := ih hx; omega
theorem cntL_perm {l m : List BItem} (h : l.Perm m) (a : Int) : cntL l a = cntL m a := (h.map _).sum_nat
theorem cntL_cons (x : BItem) (l : List BItem) (a : Int) : cntL (x :: l) a = cnt1 a x.ids + cntL l a := by simp [cntL]
theorem cntL_zero {l : List BItem} {a : Int} (h : ∀ x, x ∈ l → a ∉ x.ids) : cntL l a = 0 := by
 induction l with
 | nil => rfl
 | cons y r ih =>
  rw [cntL_cons, ih (fun x hx => h x (by simp [hx]))]
  have := h y (by simp)
  rw [← cnt1_pos] at this
  omega
theorem vv_iff {u : BVol} : VolumeValid u = true ↔ VH u.store ∧ VT u.tree ∧ (∀ x, x ∈ u.tree → l4Ids u.store x.ids = true) ∧ ∀ a, us u.store a = (cntL u.tree a : Int) := by
 simp only [VolumeValid, Bool.and_eq_true, valid_iff, tvalid_iff]
 constructor
 ·rintro ⟨h1, ⟨h2, h3⟩, h4⟩
  have h4 : ∀ x, x ∈ u.tree → l4Ids u.store x.ids = true := fun x hx => List.all_eq_true.1 h4 x hx
  refine ⟨h2, h3, h4, fun a => ?_⟩
  by_cases ha : a ∈ u.store.map (·.id)
  ·obtain ⟨h, hh, rfl⟩ := List.mem_map.1 ha
   have := List.all_eq_true.1 h1 h hh
   simp only [usesOk, decide_eq_true_eq, l11Count_eq] at this
   rw [this, us, getH_mem h2.nd hh]
  ·rw [us, getH_not ha, cntL_zero]
   ·rfl
   ·intro x hx hax
    have := ids_in h2 (h4 x hx) hax
    rw [us, getH_not ha] at this
    exact absurd this (by simp)
 ·rintro ⟨h1, h2, h3, h4⟩
  refine ⟨List.all_eq_true.2 fun h hh => ?_, ⟨h1, h2⟩, List.all_eq_true.2 h3⟩
  simp only [usesOk, decide_eq_true_eq, l11Count_eq]
  rw [← h4, us, getH_mem h1.nd hh]
theorem item_file {p : Bs} {ids : List Int} (hp : PathValid p = true) (hl : ids.length ≤ 4) (h : ids.all (idOk false) = true) : l5Item ⟨p, false, ids⟩ = true := by
 simp [l5Item, hp, hl, h]
theorem nodup_paths {l : List BItem} (h : l.Pairwise ltp) : l.Nodup := by
 refine List.Pairwise.imp ?_ h
 intro a b hab e
 subst e
 exact absurd hab (by simp [ltp, lt_irrefl])
theorem put_perm2 {l t : List BItem} {x : BItem} (h : TreePut l x = some t) : VT l ∧ VT t ∧ l5Item x = true ∧ t.Perm (x :: l.filter (fun y => decide (y.path ≠ x.path))) := by
 unfold TreePut at h
 split at h
 ·rename_i hc
  simp only [Bool.and_eq_true] at hc
  have hv := tvalid_iff.1 hc.1
  simp at h
  obtain ⟨_, hp, rfl⟩ := h
  have hp := tvalid_iff.1 hp
  refine ⟨hv, hp, hc.2, ?_⟩
  have n1 := nodup_paths hp.asc
  have n2 : (x :: l.filter (fun y => decide (y.path ≠ x.path))).Nodup := by
   rw [List.nodup_cons]
   exact ⟨fun hm => by simpa using (List.mem_filter.1 hm).2, (nodup_paths hv.asc).sublist List.filter_sublist⟩
  rw [List.perm_ext_iff_of_nodup n1 n2]
  intro a
  rw [put_mem, List.mem_cons, List.mem_filter]
  simp
 ·cases h
theorem filter_none {l : List BItem} {p : Bs} (h : ∀ y, y ∈ l → y.path ≠ p) : l.filter (fun y => decide (y.path ≠ p)) = l := by
 rw [List.filter_eq_self]
 intro y hy
 simpa using h y hy
theorem filter_one {l : List BItem} (hs : l.Pairwise ltp) {x : BItem} (hx : x ∈ l) : l.Perm (x :: l.filter (fun y => decide (y.path ≠ x.path))) := by
 have n1 := nodup_paths hs
 have n2 : (x :: l.filter (fun y => decide (y.path ≠ x.path))).Nodup := by
  rw [List.nodup_cons]
  exact ⟨fun hm => by simpa using (List.mem_filter.1 hm).2, n1.sublist List.filter_sublist⟩
 rw [List.perm_ext_iff_of_nodup n1 n2]
 intro a
 rw [List.mem_cons, List.mem_filter]
 constructor
 ·intro ha
  by_cases e : a.path = x.path
  ·left
   obtain ⟨i, h1, h2⟩ := (uniq_at hs (p := x.path)).2.1 _ ha e
   obtain ⟨j, h3, h4⟩ := (uniq_at hs (p := x.path)).2.1 _ hx rfl
   rw [h1] at h3
   cases h3
   rw [h2] at h4
   exact Option.some.inj h4
  ·exact .inr ⟨ha, by simpa using e⟩
 ·rintro (rfl | ⟨h, _⟩)
  ·exact hx
  ·exact h
theorem ids_of_l11 {l : List BItem} (hs : l.Pairwise ltp) (p : Bs) : (l11Ids l p = [] ∧ ∀ y, y ∈ l → y.path = p → y.dir = true) ∨ ∃ x, x ∈ l ∧ x.path = p ∧ x.dir = false ∧ l11Ids l p = [x] := by
 unfold l11Ids
 cases e : atI l p with
 | none =>
  left
  refine ⟨rfl, fun y hy hp => ?_⟩
  obtain ⟨i, h1, _⟩ := (uniq_at hs (p := p)).2.1 _ hy hp
  rw [e] at h1; cases h1
 | some i =>
  obtain ⟨y, h1, h2⟩ := (uniq_at hs (p := p)).1 i e
  simp only [h1]
  cases hd : y.dir with
  | true =>
   left
   refine ⟨by simp, fun z hz hp => ?_⟩
   obtain ⟨j, g1, g2⟩ := (uniq_at hs (p := p)).2.1 _ hz hp
   rw [e] at g1
   cases g1
   rw [h1] at g2
   cases g2
   exact hd
  | false => exact .inr ⟨y, List.mem_of_getElem? h1, h2, hd, by simp⟩
theorem put_dir_no {l : List BItem} (hs : l.Pairwise ltp) {x y : BItem} (hy : y ∈ l) (hp : y.path = x.path) (hd : (y.dir || x.dir) = true) : TreePut l x = none := by
 obtain ⟨i, h1, h2⟩ := (uniq_at hs (p := x.path)).2.1 _ hy hp
 simp [TreePut, h1, h2, hd]
structure Hol (L : List BHeld) (t : List BItem) : Prop where
 vh : VH L
 vt : VT t
 ids : ∀ x, x ∈ t → l4Ids L x.ids = true
 le : ∀ a, (cntL t a : Int) ≤ us L a
theorem Hol.of_vol {u : BVol} (h : VolumeValid u = true) : Hol u.store u.tree := by
 obtain ⟨h1, h2, h3, h4⟩ := vv_iff.1 h
 exact ⟨h1, h2, h3, fun a => by rw [h4]; exact Int.le_refl _⟩
theorem Hol.vol {L : List BHeld} {t : List BItem} (h : Hol L t) (he : ∀ a, us L a = (cntL t a : Int)) : VolumeValid ⟨L, t⟩ = true := vv_iff.2 ⟨h.vh, h.vt, h.ids, he⟩
theorem ids_keep {s s' : List BHeld} (hs : VH s) (hs' : VH s') {ids : List Int} (h : ∀ a, a ∈ ids → 0 < us s' a ∧ by_ s' a = by_ s a) (hl : l4Ids s ids = true) : l4Ids s' ids = true := by
 refine ids_true (fun j hj => ?_) (ids_le hl)
 have hz : ids[j]? = some ids[j] := List.getElem?_eq_getElem hj
 have h1 : idsOk s ids j = true := by
  simp only [l4Ids, Bool.and_eq_true] at hl
  exact List.all_eq_true.1 hl.1 j (by simpa using hj)
 have hp : (Sp.atH s ids[j]).isSome = true := by
  cases e : (Sp.atH s ids[j]).isSome with
  | true => rfl
  | false => rw [idsOk_no hz e] at h1; cases h1
 have h2 := h ids[j] (List.getElem_mem hj)
 rw [idsOk_get hz ((us_pos hs').1 h2.1)]
 rw [idsOk_get hz hp] at h1
 have h3 : (getH s' ids[j]).bytes = (getH s ids[j]).bytes := h2.2
 rw [h3]
 exact h1
theorem stored_ids {L s : List BHeld} (hV : VH L) {b : List Int} {ids : List Int} (hst : FileStore L b = some (s, ids)) : l4Ids s ids = true := by
 obtain ⟨hs, hlen, hsu, hsb⟩ := store_ok hV hst
 refine ids_true (fun j hj => ?_) ?_
 ·have hz : ids[j]? = some ids[j] := List.getElem?_eq_getElem hj
  have hp : 0 < us s ids[j] := by
   have := (hsu ids[j]).1
   have := us_nonneg hV ids[j]
   have := cnt1_pos.2 (List.getElem_mem hj)
   omega
  rw [idsOk_get hz ((us_pos hs).1 hp)]
  have h5 := hsb j _ hz
  have h6 : (l4Cut b)[j]? = some (chunk b j) := by
   have hj' : j < (l4Cut b).length := by omega
   unfold l4Cut at hj' ⊢
   simp at hj'
   simp [hj']
  rw [h6] at h5
  have h7 : (getH s ids[j]).bytes = chunk b j := Option.some.inj h5
  rw [h7, chunk_len]
  have h8 : ids.length = (b.length + 7) / 8 := by rw [hlen]; simp [l4Cut]
  by_cases hlt : j + 1 < ids.length
  ·have : ¬ (min (8 * j + 8) b.length - 8 * j < 8) := by omega
   simp [this]
  ·simp [hlt]
 ·have : (l4Cut b).length ≤ 4 := by
   unfold FileStore at hst
   split at hst
   ·rename_i hc
    simp only [Bool.and_eq_true] at hc
    have := file_len hc.2
    simp [l4Cut]
    omega
   ·cases hst
  omega
theorem write_ok {L : List BHeld} {l : List BItem} (hu : Hol L l) {p : Bs} {b : List Int} {s : List BHeld} {ids : List Int} (hst : FileStore L b = some (s, ids)) {t : List BItem} (hpt : TreePut l ⟨p, false, ids⟩ = some t) :
  ∃ s', (∀ o, l11Ids l p = [o] → FileFree s o.ids = some s') ∧ (l11Ids l p = [] → s' = s) ∧ l11Write ⟨L, l⟩ p b = some ⟨s', t⟩ ∧ Hol s' t ∧
   ∀ a, us s' a = us L a + (cntL t a : Int) - (cntL l a : Int) ∧ (0 < us s' a → by_ s' a = by_ s a) := by
 obtain ⟨hs, hlen, hsu, hsb⟩ := store_ok hu.vh hst
 obtain ⟨_, ht, hx, hperm⟩ := put_perm2 hpt
 have hstay : ∀ a, 0 < us L a → 0 < us s a ∧ by_ s a = by_ L a := fun a ha => by
  have := hsu a
  exact ⟨by omega, this.2 ha⟩
 have hids := stored_ids hu.vh hst
 have hold : ∀ x, x ∈ t → l4Ids s x.ids = true := fun x hxt => by
  rcases List.mem_cons.1 (hperm.mem_iff.1 hxt) with rfl | hm
  ·exact hids
  ·exact ids_stay hu.vh hs hstay (hu.ids x (List.mem_filter.1 hm).1)
 have hall : ∀ s', VH s' → (∀ a, 0 < cntL t a → 0 < us s' a ∧ by_ s' a = by_ s a) → ∀ x, x ∈ t → l4Ids s' x.ids = true := fun s' hs' hk x hxt =>
  ids_keep hs hs' (fun a ha => hk a (Nat.lt_of_lt_of_le (cnt1_pos.2 ha) (cntL_mem hxt a))) (hold x hxt)
 have hcount : ∀ a, cntL t a = cnt1 a ids + cntL (l.filter (fun y => decide (y.path ≠ p))) a := fun a => by rw [cntL_perm hperm, cntL_cons]
 rcases ids_of_l11 hu.vt.asc p with ⟨h0, hno⟩ | ⟨o, ho, hop, hod, h1⟩
 ·have hne : ∀ y, y ∈ l → y.path ≠ p := fun y hy hp => by
   have := put_dir_no hu.vt.asc (x := ⟨p, false, ids⟩) hy hp (by simp [hno y hy hp])
   rw [this] at hpt; cases hpt
  have hc2 : ∀ a, us s a = us L a + (cntL t a : Int) - (cntL l a : Int) := fun a => by
   rw [hcount, filter_none hne, (hsu a).1]
   omega
  have hle2 : ∀ a, (cntL t a : Int) ≤ us s a := fun a => by have := hc2 a; have := hu.le a; omega
  refine ⟨s, fun o ho => (by rw [h0] at ho; cases ho), fun _ => rfl, ?_, ⟨hs, ht, hall s hs (fun a ha => ⟨by have := hle2 a; omega, rfl⟩), hle2⟩, fun a => ⟨hc2 a, fun _ => rfl⟩⟩
  simp [l11Write, hst, hpt, h0, freeOld]
 ·have hfo := filter_one hu.vt.asc ho
  rw [hop] at hfo
  have hco : ∀ a, cntL l a = cnt1 a o.ids + cntL (l.filter (fun y => decide (y.path ≠ p))) a := fun a => by rw [cntL_perm hfo, cntL_cons]
  have hle : ∀ a, (cnt1 a o.ids : Int) ≤ us s a := fun a => by
   have := (hsu a).1
   have := hu.le a
   have := hco a
   omega
  obtain ⟨s', g1, g2, g3⟩ := free_ok hs (ids_stay hu.vh hs hstay (hu.ids o ho)) hle
  have hc2 : ∀ a, us s' a = us L a + (cntL t a : Int) - (cntL l a : Int) := fun a => by
   have := (hsu a).1
   have := hco a
   have := (g3 a).1
   have := hcount a
   omega
  have hle2 : ∀ a, (cntL t a : Int) ≤ us s' a := fun a => by have := hc2 a; have := hu.le a; omega
  refine ⟨s', fun o' ho' => (by rw [h1] at ho'; cases ho'; exact g1), fun h => (by rw [h1] at h; cases h), ?_, ⟨g2, ht, hall s' g2 (fun a ha => by
    have h5 := hle2 a
    exact ⟨by omega, (g3 a).2 (by omega)⟩), hle2⟩, fun a => ⟨hc2 a, (g3 a).2⟩⟩
  simp [l11Write, hst, hpt, h1, freeOld, g1]
theorem write_valid {u : BVol} (hu : VolumeValid u = true) {p : Bs} {b : List Int} {u' : BVol} (h : l11Write u p b = some u') : VolumeValid u' = true := by
 cases e : FileStore u.store b with
 | none => simp [l11Write, e] at h
 | some r =>
  cases e2 : TreePut u.tree ⟨p, false, r.2⟩ with
  | none => simp [l11Write, e, e2] at h
  | some t =>
   obtain ⟨s', _, _, h3, h4, h5⟩ := write_ok (Hol.of_vol hu) (s := r.1) (ids := r.2) e e2
   rw [h3] at h
   cases h
   refine h4.vol (fun a => ?_)
   have := (h5 a).1
   have := (vv_iff.1 hu).2.2.2 a
   omega
theorem stored_item {L s : List BHeld} (hV : VH L) {p : Bs} (hp : PathValid p = true) {b : List Int} {ids : List Int} (hst : FileStore L b = some (s, ids)) : l5Item ⟨p, false, ids⟩ = true := by
 have h4 := stored_ids hV hst
 obtain ⟨hs, _⟩ := store_ok hV hst
 refine item_file hp (ids_le h4) (List.all_eq_true.2 fun a ha => ?_)
 have := (get_ok hs ((us_pos hs).1 (ids_in hs h4 ha))).1
 simp [idOk, l6In]
 omega
theorem free_nil {s : List BHeld} (h : VH s) : FileFree s [] = some s := by
 have : l4Ids s [] = true := ids_true (by simp) (by simp)
 simp [FileFree, valid_iff.2 h, this, foldB]
theorem write_fin {L : List BHeld} {l : List BItem} {T : Nd} {p : Bs} {b : List Int} {s : List BHeld} {ids : List Int} {nb : Nat} {T' : Nd} (hH : Hol L l) (hT : TOK T l) (hp : PathValid p = true) (hst : FileStore L b = some (s, ids))
  (hput : T.putN ⟨p, false, ids⟩ nb = some T') {fr : List Int} (hfr : (T.find p = none ∧ fr = []) ∨ ∃ d, T.find p = some d ∧ fr = d.ids) :
  ∃ s' t, FileFree s fr = some s' ∧ l11Write ⟨L, l⟩ p b = some ⟨s', t⟩ ∧ TOK T' t ∧ Hol s' t := by
 have hx := stored_item hH.vh hp hst
 obtain ⟨h1, h2⟩ := put_eq nb hT hx
 rw [hput] at h1
 obtain ⟨t, ht⟩ := Option.isSome_iff_exists.1 h1.symm
 have hT' := h2 T' hput
 rw [ht] at hT'
 obtain ⟨s', g1, g2, g3, g4, _⟩ := write_ok hH hst ht
 refine ⟨s', t, ?_, g3, hT', g4⟩
 have hs := (store_ok hH.vh hst).1
 have hfl := find_list hT p
 rcases hfr with ⟨hn, rfl⟩ | ⟨d, hd, rfl⟩
 ·rw [hn] at hfl
  have : l11Ids l p = [] := by
   unfold l11Ids
   cases e : atI l p with
   | none => rfl
   | some i =>
    rw [e] at hfl
    simp only [Option.map_none, Option.bind_some] at hfl
    simp only [← hfl]
  rw [g2 this]
  exact free_nil hs
 ·rw [hd] at hfl
  cases e : atI l p with
  | none => rw [e] at hfl; simp at hfl
  | some i =>
   rw [e] at hfl
   simp only [Option.map_some, Option.bind_some] at hfl
   have hl : l11Ids l p = if d.dir then [] else [⟨p, d.dir, d.ids⟩] := by
    unfold l11Ids
    simp only [e, ← hfl]
   cases hdd : d.dir with
   | true =>
    have := put_dir_no hH.vt.asc (x := ⟨p, false, ids⟩) (List.mem_of_getElem? hfl.symm) rfl (by simp [hdd])
    rw [this] at ht; cases ht
   | false =>
    rw [hdd] at hl
    exact g1 _ hl
theorem write_nop {L : List BHeld} {l : List BItem} {p : Bs} {b : List Int} (hp : PathValid p = false) : l11Write ⟨L, l⟩ p b = none := by
 unfold l11Write
 cases FileStore L b with
 | none => rfl
 | some r =>
  have : TreePut l ⟨p, false, r.2⟩ = none := by simp [TreePut, l5Item, hp]
  simp [this]
theorem write_no2 {L : List BHeld} {l : List BItem} {T : Nd} {p : Bs} {b : List Int} {s : List BHeld} {ids : List Int} {nb : Nat} (hH : Hol L l) (hT : TOK T l) (hp : PathValid p = true) (hst : FileStore L b = some (s, ids))
  (hput : (T.putN ⟨p, false, ids⟩ nb).isSome = false) : l11Write ⟨L, l⟩ p b = none := by
 have h1 := (put_eq nb hT (stored_item hH.vh hp hst)).1
 rw [hput] at h1
 have : TreePut l ⟨p, false, ids⟩ = none := by simpa using h1.symm
 simp [l11Write, hst, this]
end Sp
namespace Sp
open Go Fw Fw.Nd
theorem dir_ok {L : List BHeld} {l : List BItem} (hu : Hol L l) {p : Bs} {t : List BItem} (hpt : TreePut l ⟨p, true, []⟩ = some t) : Hol L t ∧ ∀ a, cntL t a = cntL l a := by
 obtain ⟨_, ht, hx, hperm⟩ := put_perm2 hpt
 have hne : ∀ y, y ∈ l → y.path ≠ p := fun y hy hp => by
  have := put_dir_no hu.vt.asc (x := ⟨p, true, []⟩) hy hp (by simp)
  rw [this] at hpt; cases hpt
 have hp2 : t.Perm (⟨p, true, []⟩ :: l) := by
  have h := hperm
  rw [filter_none hne] at h
  exact h
 have hc : ∀ a, cntL t a = cntL l a := fun a => by rw [cntL_perm hp2, cntL_cons]; simp [cnt1]
 refine ⟨⟨hu.vh, ht, fun x hx => ?_, fun a => by rw [hc]; exact hu.le a⟩, hc⟩
 rcases List.mem_cons.1 (hp2.mem_iff.1 hx) with rfl | h
 ·exact ids_true (by simp) (by simp)
 ·exact hu.ids x h
theorem dir_valid {u u' : BVol} {p : Bs} (h : VolumeDir u p = some u') : VolumeValid u' = true := by
 unfold VolumeDir at h
 split at h
 ·rename_i hv
  obtain ⟨t, ht, rfl⟩ := Option.map_eq_some_iff.1 h
  obtain ⟨h1, h2⟩ := dir_ok (Hol.of_vol hv) ht
  refine h1.vol (fun a => ?_)
  rw [(vv_iff.1 hv).2.2.2 a]
  have := h2 a
  omega
 ·cases h
def readF (L : List BHeld) (l : List BItem) (p : Bs) : Option (List Int) := match l11Ids l p with
 | [] => none
 | o :: _ => some (load L o.ids)
def readN (L : List BHeld) (t : Nd) (p : Bs) : Option (List Int) := match t.find p with
 | none => none
 | some d => if d.dir then none else if l4Ids L d.ids then some (load L d.ids) else none
theorem read_eq {L : List BHeld} {l : List BItem} {T : Nd} (hids : ∀ x, x ∈ l → l4Ids L x.ids = true) (hT : TOK T l) (p : Bs) : readN L T p = readF L l p := by
 have hfl := find_list hT p
 unfold readN readF l11Ids
 cases hf : T.find p with
 | none =>
  rw [hf] at hfl
  cases e : atI l p with
  | none => rfl
  | some i =>
   rw [e] at hfl
   simp only [Option.map_none, Option.bind_some] at hfl
   simp only [← hfl]
 | some d =>
  rw [hf] at hfl
  cases e : atI l p with
  | none => rw [e] at hfl; simp at hfl
  | some i =>
   rw [e] at hfl
   simp only [Option.map_some, Option.bind_some] at hfl
   have := hids _ (List.mem_of_getElem? hfl.symm)
   simp only at this
   simp only [← hfl]
   cases hd : d.dir <;> simp [this]
theorem chunk_eq (b : List Int) (k : Nat) : chunk b k = (b.drop (8 * k)).take 8 := by
 unfold chunk
 rw [List.take_eq_take_iff]
 simp
 omega
theorem cut_flatten (b : List Int) : (l4Cut b).flatten = b := by
 have key : ∀ n, ((List.range n).map (chunk b)).flatten = b.take (8 * n) := by
  intro n
  induction n with
  | zero => simp
  | succ n ih =>
   rw [List.range_succ, List.map_append, List.flatten_append, ih]
   simp only [List.map_cons, List.map_nil, List.flatten_cons, List.flatten_nil, List.append_nil]
   rw [chunk_eq, show 8 * (n + 1) = 8 * n + 8 by omega, List.take_add]
 unfold l4Cut
 rw [key, List.take_of_length_le (by omega)]
theorem load_cut {s : List BHeld} {ids : List Int} {c : List (List Int)} (hl : ids.length = c.length) (h : ∀ (i : Nat) (id : Int), ids[i]? = some id → some (by_ s id) = c[i]?) : load s ids = c.flatten := by
 unfold load
 congr 1
 refine List.ext_getElem? fun i => ?_
 rw [List.getElem?_map]
 cases e : ids[i]? with
 | none =>
  rw [List.getElem?_eq_none_iff] at e
  rw [List.getElem?_eq_none (by omega)]
  rfl
 | some id => exact h i id e
def l11Drop (L : List BHeld) (l : List BItem) (p : Bs) : Option BVol := match TreeDrop l p with
 | none => none
 | some t => some ⟨(FileFree L (((atI l p).bind (fun i => l[i]?)).map (·.ids) |>.getD [])).getD [], t⟩
theorem drop_eq2 (u : BVol) (p : Bs) : VolumeDrop u p = if VolumeValid u then l11Drop u.store u.tree p else none := rfl
theorem drop_perm2 {l t : List BItem} {p : Bs} (h : TreeDrop l p = some t) : VT l ∧ VT t ∧ ∃ x, x ∈ l ∧ x.path = p ∧ (atI l p).bind (fun i => l[i]?) = some x ∧ l.Perm (x :: t) := by
 unfold TreeDrop at h
 split at h
 ·rename_i hv
  have hv := tvalid_iff.1 hv
  cases e : atI l p with
  | none => simp [e] at h
  | some i =>
   simp only [e] at h
   split at h
   ·rename_i hp
    simp only [Option.some.injEq] at h
    subst h
    obtain ⟨x, h1, h2⟩ := (uniq_at hv.asc (p := p)).1 i e
    refine ⟨hv, tvalid_iff.1 hp, x, List.mem_of_getElem? h1, h2, by simp [h1], ?_⟩
    have := erase_perm h1
    rwa [List.eraseIdx_eq_take_drop_succ] at this
   ·cases h
 ·cases h
theorem drop_ok {L : List BHeld} {l : List BItem} (hu : Hol L l) {p : Bs} {t : List BItem} (hpt : TreeDrop l p = some t) :
  ∃ x s', x ∈ l ∧ (atI l p).bind (fun i => l[i]?) = some x ∧ FileFree L x.ids = some s' ∧ l11Drop L l p = some ⟨s', t⟩ ∧ Hol s' t ∧ l.Perm (x :: t) ∧ ∀ a, us s' a = us L a - (cnt1 a x.ids : Int) ∧ (0 < us s' a → by_ s' a = by_ L a) := by
 obtain ⟨_, ht, x, hx, hxp, hxa, hperm⟩ := drop_perm2 hpt
 have hc : ∀ a, cntL l a = cnt1 a x.ids + cntL t a := fun a => by rw [cntL_perm hperm, cntL_cons]
 obtain ⟨s', g1, g2, g3⟩ := free_ok hu.vh (hu.ids x hx) (fun a => by have := hu.le a; have := hc a; omega)
 have hle : ∀ a, (cntL t a : Int) ≤ us s' a := fun a => by have := hu.le a; have := hc a; have := (g3 a).1; omega
 refine ⟨x, s', hx, hxa, g1, by simp [l11Drop, hpt, hxa, g1], ⟨g2, ht, fun y hy => ?_, hle⟩, hperm, g3⟩
 refine ids_keep hu.vh g2 (fun a ha => ?_) (hu.ids y (hperm.mem_iff.2 (by simp [hy])))
 have h1 := cntL_mem hy a
 have h2 := cnt1_pos.2 ha
 have h3 := hle a
 exact ⟨by omega, (g3 a).2 (by omega)⟩
theorem drop_valid {u u' : BVol} {p : Bs} (h : VolumeDrop u p = some u') : VolumeValid u' = true := by
 rw [drop_eq2] at h
 split at h
 ·rename_i hv
  cases e : TreeDrop u.tree p with
  | none => simp [l11Drop, e] at h
  | some t =>
   obtain ⟨x, s', _, _, _, g2, g3, g4, g5⟩ := drop_ok (Hol.of_vol hv) e
   rw [g2] at h
   cases h
   refine g3.vol (fun a => ?_)
   have := (vv_iff.1 hv).2.2.2 a
   have h3 : cntL u.tree a = cnt1 a x.ids + cntL t a := by rw [cntL_perm g4, cntL_cons]
   have := (g5 a).1
   omega
 ·cases h
end Sp
namespace Sp
open Go Fw
theorem vwrite_valid {u u' : BVol} {p : Bs} {b : List Int} (h : VolumeWrite u p b = some u') : VolumeValid u' = true := by
 unfold VolumeWrite at h
 split at h
 ·rename_i hc
  simp only [Bool.and_eq_true] at hc
  exact write_valid hc.1 h
 ·cases h
theorem vol_len {o : Option BVol} (h : ∀ u', o = some u' → VolumeValid u' = true) : ((o.map (·.store)).getD []).length ≤ 16 := by
 cases o with
 | none => simp
 | some u => exact (vv_iff.1 (h u rfl)).1.len
end Sp
namespace Fw
open Go
def R1 (v v' : Value) : Prop := v' = v ∨ ∃ p q, v = .int .i64 p ∧ v' = .int .i64 q ∧ inI q
def GRel (G G' : PH) : Prop := ∀ b o v, PCell G b o v → ∃ v', PCell G' b o v' ∧ R1 v v'
def RL : List Value → List Value → Prop
 | [], [] => True
 | v :: r, v' :: r' => R1 v v' ∧ RL r r'
 | _, _ => False
theorem RL.len : ∀ {a b : List Value}, RL a b → b.length = a.length
 | [], [], _ => rfl
 | _ :: _, _ :: _, h => by simp [RL.len h.2]
 | [], _ :: _, h => h.elim
 | _ :: _, [], h => h.elim
theorem prow_rel {G G' : PH} (h : GRel G G') : ∀ (cs : List Value) (b o : Nat), PRow G b o cs → ∃ cs', PRow G' b o cs' ∧ RL cs cs'
 | [], b, o, _ => ⟨[], by intro j v h; simp at h, trivial⟩
 | c :: r, b, o, hr => by
  obtain ⟨c', h1, h2⟩ := h b o c (by simpa using hr 0 c rfl)
  obtain ⟨r', h3, h4⟩ := prow_rel h r b (o + 1) (fun j v hv => by
   have := hr (j + 1) v (by simpa using hv)
   rwa [show o + 1 + j = o + (j + 1) by omega])
  refine ⟨c' :: r', fun j v hv => ?_, h2, h4⟩
  cases j with
  | zero => simp at hv; subst hv; simpa using h1
  | succ j =>
   have := h3 j v (by simpa using hv)
   rwa [show o + (j + 1) = o + 1 + j by omega]
class StE {α : Type} (E : PH → α → List Value → Prop) : Prop where
 st : ∀ {G G' : PH} {x : α} {cs cs' : List Value}, GRel G G' → RL cs cs' → E G x cs → ∃ x', E G' x' cs'
theorem RdS.st {α : Type} {lim : Nat} {E : PH → α → List Value → Prop} [StE E] {sz : Nat} {G G' : PH} {v : Value} {xs : List α} (hg : GRel G G') (h : RdS lim E sz G v xs) : ∃ xs', xs'.length = xs.length ∧ RdS lim E sz G' v xs' := by
 obtain ⟨a, c, rfl, h2, h3, h4⟩ := h
 rcases h4 with rfl | ⟨b, o, rfl, h5⟩
 ·exact ⟨[], rfl, a, c, rfl, h2, h3, .inl rfl⟩
 ·have key : ∀ n, n ≤ xs.length → ∃ xs' : List α, xs'.length = n ∧ ∀ i x, xs'[i]? = some x → ∃ cs, cs.length = sz ∧ E G' x cs ∧ PRow G' b (o + i * sz) cs := by
   intro n
   induction n with
   | zero => intro _; exact ⟨[], rfl, by simp⟩
   | succ n ih =>
    intro hn
    obtain ⟨xs', k1, k2⟩ := ih (by omega)
    obtain ⟨cs, c1, c2, c3⟩ := h5 n xs[n] (by simp)
    obtain ⟨cs', d1, d2⟩ := prow_rel hg cs _ _ c3
    obtain ⟨x', hx'⟩ := StE.st hg d2 c2
    refine ⟨xs' ++ [x'], by simp [k1], fun i x hx => ?_⟩
    by_cases hi : i < n
    ·rw [List.getElem?_append_left (by omega)] at hx
     exact k2 i x hx
    ·rw [List.getElem?_append_right (by omega)] at hx
     have : i = n := by
      have := (List.getElem?_eq_some_iff.1 hx).1
      simp at this
      omega
     subst this
     simp [k1] at hx
     subst hx
     exact ⟨cs', by rw [d2.len]; exact c1, hx', d1⟩
  obtain ⟨xs', k1, k2⟩ := key xs.length (Nat.le_refl _)
  exact ⟨xs', k1, some ⟨b, o, none⟩, c, by rw [k1], by omega, by omega, .inr ⟨b, o, rfl, k2⟩⟩
theorem r1_int {p : Int} {v' : Value} (h : R1 (.int .i64 p) v') (hp : inI p) : ∃ q, v' = .int .i64 q ∧ inI q := by
 rcases h with rfl | ⟨_, q, _, rfl, hq⟩
 ·exact ⟨p, rfl, hp⟩
 ·exact ⟨q, rfl, hq⟩
theorem r1_slice {a : Option Addr} {m c : Nat} {v' : Value} (h : R1 (.slice a m c) v') : v' = .slice a m c := by
 rcases h with rfl | ⟨_, _, h, _⟩
 ·rfl
 ·cases h
theorem r1_str {s : Bs} {v' : Value} (h : R1 (str s) v') : v' = str s := by
 rcases h with rfl | ⟨_, _, h, _⟩
 ·rfl
 ·cases h
theorem r1_bool {b : Bool} {v' : Value} (h : R1 (.bool b) v') : v' = .bool b := by
 rcases h with rfl | ⟨_, _, h, _⟩
 ·rfl
 ·cases h
theorem rl1 {a : Value} {cs' : List Value} (h : RL [a] cs') : ∃ u, cs' = [u] ∧ R1 a u := by
 rcases cs' with _ | ⟨u, _ | ⟨z, r⟩⟩
 ·exact h.elim
 ·exact ⟨u, rfl, h.1⟩
 ·exact h.2.elim
theorem intE_st {G' : PH} {x : Int} {cs' : List Value} (hi : inI x) (hr : RL [.int .i64 x] cs') : ∃ x', intE G' x' cs' := by
 obtain ⟨u, rfl, k1⟩ := rl1 hr
 obtain ⟨q, rfl, hq⟩ := r1_int k1 hi
 exact ⟨q, rfl, hq⟩
instance : StE intE := ⟨fun {_ _ x cs cs'} _ hr h => by
 obtain ⟨h1, h2⟩ := h
 rw [h1] at hr
 exact intE_st h2 hr⟩
theorem rl3 {a b c : Value} {cs' : List Value} (h : RL [a, b, c] cs') : ∃ u v w, cs' = [u, v, w] ∧ R1 a u ∧ R1 b v ∧ R1 c w := by
 rcases cs' with _ | ⟨u, _ | ⟨v, _ | ⟨w, _ | ⟨z, r⟩⟩⟩⟩
 ·exact h.elim
 ·exact h.2.elim
 ·exact h.2.2.elim
 ·exact ⟨u, v, w, rfl, h.1, h.2.1, h.2.2.1⟩
 ·exact h.2.2.2.elim
theorem heldE_st {G G' : PH} {x : BHeld} {a : Option Addr} {m c : Nat} {u v w : Value} (hg : GRel G G') (h1 : inI x.id) (h2 : RdI G (.slice a m c) x.bytes) (h3 : inI x.uses)
  (k1 : R1 (.int .i64 x.id) u) (k2 : R1 (.slice a m c) v) (k3 : R1 (.int .i64 x.uses) w) : ∃ x', heldE G' x' [u, v, w] := by
 obtain ⟨p, rfl, hp⟩ := r1_int k1 h1
 obtain ⟨q, rfl, hq⟩ := r1_int k3 h3
 have e := r1_slice k2
 subst e
 obtain ⟨ys, _, hy⟩ := RdS.st hg h2
 exact ⟨⟨p, ys, q⟩, a, m, c, rfl, hp, hy, hq⟩
instance : StE heldE := ⟨fun {_ _ x cs cs'} hg hr h => by
 obtain ⟨a, m, c, rfl, h1, h2, h3⟩ := h
 obtain ⟨u, v, w, rfl, k1, k2, k3⟩ := rl3 hr
 exact heldE_st hg h1 h2 h3 k1 k2 k3⟩
instance : StE itemE := ⟨fun {_ _ x cs cs'} hg hr h => by
 obtain ⟨a, m, c, rfl, h1, h2⟩ := h
 obtain ⟨u, v, w, rfl, k1, k2, k3⟩ := rl3 hr
 obtain rfl := r1_str k1
 obtain rfl := r1_bool k2
 obtain rfl := r1_slice k3
 obtain ⟨ys, _, hy⟩ := h2.st hg
 exact ⟨⟨x.path, x.dir, ys⟩, a, m, c, rfl, h1, hy⟩⟩
section
variable {w0 w : World} {G0 G : PH} {S : List Nat} {B : List Res}
theorem Hp.unkeep (H : Hp w0 G0 S w G B) (h0 : PSub G0 w0) {b : Nat} {l : List Value} {e : TypeId} (hb : G b = some (cl l e)) (hn : w0.heap.size ≤ b) : Hp w0 G0 S w (fun c => if c = b then none else G c) (blk b (cl l e) :: B) := by
 refine ⟨H.os, H.tape, H.output, H.size, H.ext, ?_, ?_, ?_, ?_, ?_⟩
 ·intro c o hc
  by_cases e : c = b
  ·simp [e] at hc
  ·simp [e] at hc; exact H.sub c o hc
 ·intro c o hc
  have : c ≠ b := fun e => by
   have := h0.lt hc
   omega
  simp [this, H.le c o hc]
 ·intro c hc hnone
  by_cases e : c = b
  ·simp [e]
  ·simp [e, H.old c hc hnone]
 ·intro r hr
  rcases List.mem_cons.1 hr with rfl | hr
  ·exact ⟨H.sub _ _ hb, fun c hc => by simp [blk] at hc; subst hc; exact ⟨by simp, .inr hn⟩⟩
  ·refine ⟨(H.own r hr).1, fun c hc => ⟨?_, ((H.own r hr).2 c hc).2⟩⟩
   by_cases e : c = b
   ·simp [e]
   ·simp [e, ((H.own r hr).2 c hc).1]
 ·show ([b] ++ fps B).Nodup
  refine List.nodup_append.2 ⟨by simp, H.nd, ?_⟩
  intro a ha c hc e
  subst e
  simp at ha
  subst ha
  obtain ⟨r, hr, hb2⟩ := List.mem_flatMap.1 hc
  have := ((H.own r hr).2 a hb2).1
  rw [hb] at this
  cases this
end
section ops
variable {P : Program} {n : Nat} {ops : Array Oper} {Q : Post} {rest : List Oper} {L : Slots} {ds : List Deferred} {w w0 : World} {G0 : PH} {S : List Nat} {G : PH} {B : List Res}
variable {ty : TypeId} {ps : String} {af : Array Edge}
theorem o_store_P (H : Hp w0 G0 S w G B) (h0 : PSub G0 w0) {t : TypeId} {x y : Operand} {b o : Nat} {l : List Value} {e : TypeId} {p q : Int} (hS : ∀ w, (Go.sizeOf t).run P w = .ok 1 w) (hx : od L x = some (.pointer (some ⟨b, o, none⟩))) (hy : od L y = some (.int .i64 q)) (hq : inI q)
  (hb : G b = some (cl l e)) (hc : l[o]? = some (.int .i64 p)) (hn : w0.heap.size ≤ b) (hS2 : b ∉ S)
  (next : ∀ w' G', GRel G G' → Hp w0 G0 S w' G' B → R P n ops Q rest L ds w') : R P n ops Q (⟨none, .store t x y, ty, ps, af, none⟩ :: rest) L ds w := by
 have ho := (List.getElem?_eq_some_iff.1 hc).1
 have H1 := H.unkeep h0 hb hn
 obtain ⟨w', hr, H2⟩ := run_storeCells_blk (P := P) [.int .i64 q] 0 l w (o := o) H1 (k := 0) rfl (by simp; omega) (by simp [Value.oneCell'])
 have H2' : Hp w0 G0 S w' (fun c => if c = b then none else G c) (blk b (cl (setCs l (o + 0) [.int .i64 q]) e) :: B) := H2
 obtain ⟨H3, h3⟩ := H2'.keep (k := 0) rfl (by simpa [blk] using hS2)
 refine R_skip (w' := w') (fun a ha => ?_) (next w' _ ?_ H3)
 ·have : (Value.int .i64 q).cells = #[.int .i64 q] := rfl
  simp [execOp, Instr.storeAt, ha.eval hx, ha.eval hy, Instr.sureAddr, storeVar, hS, this, hr]
 ·intro c off v hv
  obtain ⟨C, e2, fz, h4, h5⟩ := hv
  by_cases ec : c = b
  ·subst ec
   have h6 : PPlus (fun c' => if c' = c then none else G c') w' (blk c (cl (setCs l (o + 0) [.int .i64 q]) e)).fp c = some (cl (setCs l (o + 0) [.int .i64 q]) e) := h3
   rw [hb] at h4
   simp only [Option.some.injEq, Obj.cells.injEq] at h4
   obtain ⟨rfl, rfl, rfl⟩ := h4
   have h7 : l[off]? = some v := by simpa using h5
   by_cases eo : off = o
   ·subst eo
    rw [hc] at h7
    cases h7
    refine ⟨.int .i64 q, ⟨_, _, _, h6, ?_⟩, .inr ⟨p, q, rfl, rfl, hq⟩⟩
    simp [setCs, setN_eq, ho]
   ·refine ⟨v, ⟨_, _, _, h6, ?_⟩, .inl rfl⟩
    have : ¬ o = off := fun h => eo h.symm
    simp [setCs, setN_eq, this, h7]
  ·refine ⟨v, ⟨C, e2, fz, PPlus.le _ _ _ _ _ (by simp [ec, h4]), h5⟩, .inl rfl⟩
end ops
def Mine (w0 : World) (G : PH) (v : Value) : Prop := ∀ b o m c, v = .slice (some ⟨b, o, none⟩) m c → w0.heap.size ≤ b ∧ ∃ l e, G b = some (cl l e)
theorem Mine.up {w0 : World} {G G' : PH} {v : Value} (h : Mine w0 G v) (hle : PLe G G') : Mine w0 G' v := fun b o m c e => by
 obtain ⟨h1, l, e, h2⟩ := h b o m c e
 exact ⟨h1, l, e, hle _ _ h2⟩
theorem Mine.nil {w0 : World} {G : PH} : Mine w0 G (.slice none 0 0) := fun b o m c e => by simp at e
theorem acc_fpb {e : TypeId} {sz : Nat} {v : Value} {n : Nat} {cells : List Value} {b o m c} (h : v = .slice (some ⟨b, o, none⟩) m c) : b ∈ (acc e sz v n cells).fp := by
 subst h
 exact List.mem_singleton.2 rfl
section
variable {w0 w : World} {G0 G : PH} {B : List Res}
theorem Hp.shutP {α : Type} {E : PH → α → List Value → Prop} [MonoE E] {b : Nat} {o : Obj} (H : Hp w0 G0 [b] w G B) {k j : Nat} {e : TypeId} {sz : Nat} {v : Value} {n : Nat} {cells : List Value} {xs : List α} (hk : nth B k = some (acc e sz v n cells)) (hj : nth (delN B k) j = some (blk b o))
  (hc : Chk E sz G cells xs) (hn : n = xs.length) (hl : xs.length ≤ 1099511627776) :
  ∃ G', Hp w0 G0 [b] w G' (delN B k) ∧ PLe G G' ∧ RdS LIM E sz G' v xs ∧ Mine w0 G' v := by
 have hnb : ∀ c, c ∈ (acc e sz v n cells).fp → c ∉ [b] := fun c hc hcb => by
  simp only [List.mem_singleton] at hcb
  subst hcb
  obtain ⟨B1, B2, h1, _, h3⟩ := fps_split hk
  have hpm : List.Perm B (acc e sz v n cells :: (B1 ++ B2)) := by rw [h1]; exact List.perm_middle
  have h2 : ((acc e sz v n cells).fp ++ fps (B1 ++ B2)).Nodup := (List.Perm.flatMap_right _ hpm).nodup_iff.1 H.nd
  rw [h3] at hj
  exact (List.nodup_append.1 h2).2.2 c hc c (fps_nth hj (by simp [blk])) rfl
 have hown := (H.own _ (by rw [nth_eq] at hk; exact List.mem_of_getElem? hk)).2
 obtain ⟨H', hp⟩ := H.keep hk hnb
 refine ⟨_, H', PPlus.le _ _ _, acc_rd hp (hc.up (PPlus.le _ _ _)) hn hl, ?_⟩
 obtain ⟨_, hp2⟩ := hp
 intro b' o' m' c' ev
 have hmem : b' ∈ (acc e sz v n cells).fp := acc_fpb ev
 refine ⟨(hown b' hmem).2.resolve_left (hnb b' hmem), ?_⟩
 rcases hp2 with ⟨h1, _⟩ | ⟨b2, cap, C, h1, h2, _⟩
 ·rw [ev] at h1; cases h1
 ·rw [ev] at h1
  cases h1
  exact ⟨C.toList, e, h2⟩
end
section ops
variable {P : Program} {n : Nat} {ops : Array Oper} {Q : Post} {rest : List Oper} {L : Slots} {ds : List Deferred} {w w0 : World} {G0 : PH} {S : List Nat} {G : PH} {B : List Res}
variable {ty : TypeId} {ps : String} {af : Array Edge}
theorem o_store_mine (H : Hp w0 G0 S w G B) (h0 : PSub G0 w0) {t : TypeId} {x y : Operand} {a : Option Addr} {m c b o off rb : Nat} {ob : Obj} {p q : Int} (hm : Mine w0 G (.slice a m c)) (ha : a = some ⟨b, o, none⟩) (hS : ∀ w, (Go.sizeOf t).run P w = .ok 1 w) (hx : od L x = some (.pointer (some ⟨b, off, none⟩))) (hy : od L y = some (.int .i64 q)) (hq : inI q)
  (hc : PCell G b off (.int .i64 p)) (hrb : w0.heap[rb]? = some ob) (hS2 : S = [rb])
  (next : ∀ w' G', GRel G G' → Hp w0 G0 S w' G' B → R P n ops Q rest L ds w') : R P n ops Q (⟨none, .store t x y, ty, ps, af, none⟩ :: rest) L ds w := by
 subst ha
 obtain ⟨h1, l, e, h2⟩ := hm b o m c rfl
 obtain ⟨C, e2, fz, h3, h4⟩ := hc
 rw [h2] at h3
 simp only [Option.some.injEq, Obj.cells.injEq] at h3
 obtain ⟨rfl, rfl, rfl⟩ := h3
 have hlt := (Array.getElem?_eq_some_iff.1 hrb).1
 exact o_store_P H h0 hS hx hy hq h2 (by simpa using h4) h1 (by subst hS2; simp; omega) next
end ops
theorem PLe.none {G : PH} : PLe (fun _ => none) G := fun _ _ h => by cases h
theorem W_drawN {P : Program} {n : Nat} {l : List Oper} {Q : Post} {L : Slots} {ds : List Deferred} {w : World} {id : Nat} {w0 : World} {G0 : PH} {SS : List Nat} {G : PH} {B : List Res} (ks : List Nat) (m : Nat) (H : Hp w0 G0 SS w G B) (hm : P.follows .mixedOrders = true) (hl : Nat.beq l.length m = true)
  (h : ∀ w', Hp w0 G0 SS w' G B → RD P n l Q (fun w => Kn w (fun _ => none) (sel ks B)) m (Array.replicate m false) L ds w') : W P n Q (.region id l.toArray true) L ds w :=
 W_draw _ m H hm hl (fun _ H' => Kn.of H' PLe.none (fun _ hr => sel_mem hr)) h
section ops
variable {P : Program} {n : Nat} {ops : Array Oper} {Q : Post} {rest : List Oper} {L : Slots} {ds : List Deferred} {w : World} {ty : TypeId} {ps : String} {af : Array Edge}
theorem o_beql_same {d : Nat} {x y : Operand} {t u : TypeId} {p : Bool} (hT : P.underlying t = some .bool) (hd : Nat.blt d n = true) (hx : od L x = some (.bool p)) (hy : od L y = some (.bool p))
  (next : R P n ops Q rest ((d, .bool true) :: L) ds w) : R P n ops Q (⟨some d, .binOp .eql t x y u, ty, ps, af, none⟩ :: rest) L ds w :=
 o_beql hT hd hx hy (by simpa using next)
end ops
end Fw
namespace Sp
open Fw
open Nd
theorem vh_sub {L L' : List BHeld} (h : VH L) (h' : VH L') (hu : ∀ a, us L' a = us L a) (hb : ∀ a, 0 < us L a → by_ L' a = by_ L a) {x : BHeld} (hx : x ∈ L) : x ∈ L' := by
 have nd : (L.map (·.id)).Nodup := List.pairwise_map.2 (h.asc.imp (fun hh e => by omega))
 have nd' : (L'.map (·.id)).Nodup := List.pairwise_map.2 (h'.asc.imp (fun hh e => by omega))
 have g := getH_mem nd hx
 have hp : 0 < us L x.id := by
  have := (h.ok x hx).2.2.1
  simp only [us, g]
  omega
 have hp' : 0 < us L' x.id := by rw [hu]; exact hp
 obtain ⟨y, hy, hid⟩ := List.mem_map.1 (at_mem.1 ((us_pos h').1 hp'))
 have g' := getH_mem nd' hy
 have e1 := hu x.id
 have e2 := hb x.id hp
 simp only [us, by_, g] at e1 e2
 rw [← hid, g'] at e1 e2
 have : y = x := by
  obtain ⟨a, b, c⟩ := x
  obtain ⟨a', b', c'⟩ := y
  simp only at e1 e2 hid
  subst e1; subst e2; subst hid
  rfl
 exact this ▸ hy
theorem vh_ext {L L' : List BHeld} (h : VH L) (h' : VH L') (hu : ∀ a, us L' a = us L a) (hb : ∀ a, 0 < us L a → by_ L' a = by_ L a) : L' = L := by
 have nd : L.Nodup := h.asc.imp (fun hh e => by subst e; omega)
 have nd' : L'.Nodup := h'.asc.imp (fun hh e => by subst e; omega)
 have hp : L'.Perm L := (List.perm_ext_iff_of_nodup nd' nd).2 (fun a => ⟨fun ha => vh_sub h' h (fun a => (hu a).symm) (fun a h9 => (hb a (by rw [← hu]; exact h9)).symm) ha, fun ha => vh_sub h h' hu hb ha⟩)
 exact hp.eq_of_pairwise (fun a b _ _ h1 h2 => by omega) h'.asc h.asc
section
variable {v u : BVol} {p : Bs} {b : List Int}
end
end Sp
namespace Fw
open Go
section
variable {P : Program} {n : Nat} {ops : Array Oper} {Q : Post} {rest : List Oper} {L : Slots} {ds : List Deferred} {w : World}
variable {ty : TypeId} {ps : String} {af : Array Edge}
theorem o_makefn2 {d : Nat} {f : FuncId} {x y : Operand} {v u : Value} (hd : Nat.blt d n = true) (hx : od L x = some v) (hy : od L y = some u)
  (next : R P n ops Q rest ((d, .func (.func f) #[] #[v, u]) :: L) ds w) : R P n ops Q (⟨some d, .makeFunc (.func f) #[] #[x, y], ty, ps, af, none⟩ :: rest) L ds w :=
 R_run hd (fun a ha => by simp [execOp, Instr.makeFunc, ha.eval hx, ha.eval hy]) next
theorem o_callc2 {d : Nat} {f : FuncId} {c : Operand} {xs : List Operand} {ts : Array TypeId} {vs : List Value} {cv cu : Value} {C : Ending → World → Prop} (hf : ∀ args w, (callFunc f args).run P w = .ok (.enter f args) w) (hd : Nat.blt d n = true)
  (hc0 : od L c = some (.func (.func f) #[] #[cv, cu])) (hx : ods L xs = some vs) (hc : Calls P f (vs ++ [cv, cu]).toArray w C) (next : ∀ e w', C e w' → ∃ v, e = .returned v ∧ R P n ops Q rest ((d, v) :: L) ds w') :
  R P n ops Q (⟨some d, .call ⟨.value c, xs.toArray, ts⟩, ty, ps, af, none⟩ :: rest) L ds w := by
 intro a ha
 refine wpList_plain rfl fun K hK => ?_
 have e : xs.map a.eval = vs := ha.evals xs vs hx
 have hr : (execOp a.eval ⟨some d, .call ⟨.value c, xs.toArray, ts⟩, ty, ps, af, none⟩).run P w = .ok (.enter f (vs ++ [cv, cu]).toArray) w := by
  simp [execOp, resolve, invoke, ha.eval hc0, Deferred.ofValue, e, hf]
 unfold Oper.wp
 rw [hr, Oper.upon_enter]
 refine hc.mono fun e w' hC => ?_
 obtain ⟨v, rfl, h⟩ := next e w' hC
 exact hK _ _ (h _ (ha.put hd v))
end
end Fw
namespace Sp
open Fw Nd
theorem keeps : ∀ (ids : List Int) {L L' : List BHeld}, VH L → foldB StoreKeep ids (some L) = some L' → VH L' ∧ ∀ a, us L' a = us L a + (cnt1 a ids : Int) ∧ by_ L' a = by_ L a
 | [], L, L', hV, h => by
  have : L = L' := by simpa [foldB] using h
  subst this
  exact ⟨hV, fun a => by simp [cnt1]⟩
 | x :: r, L, L', hV, h => by
  have h' : foldB StoreKeep r (StoreKeep L x) = some L' := h
  cases e : StoreKeep L x with
  | none => rw [e, foldB_none] at h'; cases h'
  | some L1 =>
   rw [e] at h'
   obtain ⟨k1, _, k3⟩ := keep_step hV e
   obtain ⟨g1, g2⟩ := keeps r k1 h'
   refine ⟨g1, fun a => ?_⟩
   have h3 := k3 a
   have h4 := g2 a
   rw [cnt1_cons]
   refine ⟨?_, h4.2.trans h3.2⟩
   by_cases ea : a = x
   ·rw [if_pos ea] at h3 ⊢; omega
   ·rw [if_neg ea] at h3 ⊢; omega
theorem keepTs : ∀ (t : List BItem) {L L' : List BHeld}, VH L → l12Keep L t = some L' → VH L' ∧ ∀ a, us L' a = us L a + (cntL t a : Int) ∧ by_ L' a = by_ L a
 | [], L, L', hV, h => by
  have : L = L' := by simpa [l12Keep, foldB] using h
  subst this
  exact ⟨hV, fun a => by simp [cntL]⟩
 | x :: r, L, L', hV, h => by
  have h' : foldB keepT r (keepT L x) = some L' := h
  cases e : keepT L x with
  | none => rw [e, foldB_none] at h'; cases h'
  | some L1 =>
   rw [e] at h'
   obtain ⟨k1, k3⟩ := keeps x.ids hV e
   obtain ⟨g1, g2⟩ := keepTs r k1 h'
   refine ⟨g1, fun a => ?_⟩
   have h3 := k3 a
   have h4 := g2 a
   rw [cntL_cons]
   exact ⟨by omega, h4.2.trans h3.2⟩
theorem keeps_ex : ∀ (ids : List Int) {L : List BHeld}, VH L → (∀ a, a ∈ ids → 0 < us L a) → (∀ a, us L a + (cnt1 a ids : Int) ≤ 999) → ∃ L', foldB StoreKeep ids (some L) = some L'
 | [], L, _, _, _ => ⟨L, rfl⟩
 | x :: r, L, hV, hp, hl => by
  have hx := hp x (by simp)
  have hx2 := hl x
  rw [cnt1_cons, if_pos rfl] at hx2
  have hu : (getH L x).uses < 999 := by
   have : us L x = (getH L x).uses := rfl
   omega
  obtain ⟨h1, h2⟩ := keep_get hV ((us_pos hV).1 hx) hu
  obtain ⟨k1, _, k3⟩ := keep_step hV h1
  obtain ⟨L', g⟩ := keeps_ex r k1 (fun a ha => by
   have h3 := (k3 a).1
   have := hp a (by simp [ha])
   split at h3 <;> omega) (fun a => by
   have h3 := (k3 a).1
   have h4 := hl a
   rw [cnt1_cons] at h4
   split at h3
   ·rename_i ea; rw [if_pos ea] at h4; omega
   ·rename_i ea; rw [if_neg ea] at h4; omega)
  exact ⟨L', by rw [foldB_cons h1]; exact g⟩
theorem keepTs_ex : ∀ (t : List BItem) {L : List BHeld}, VH L → (∀ x, x ∈ t → l4Ids L x.ids = true) → (∀ a, us L a + (cntL t a : Int) ≤ 999) → ∃ L', l12Keep L t = some L'
 | [], L, _, _, _ => ⟨L, rfl⟩
 | x :: r, L, hV, hi, hl => by
  obtain ⟨L1, h1⟩ := keeps_ex x.ids hV (fun a ha => ids_in hV (hi x (by simp)) ha) (fun a => by
   have := hl a
   rw [cntL_cons] at this
   omega)
  obtain ⟨k1, k3⟩ := keeps x.ids hV h1
  obtain ⟨L', g⟩ := keepTs_ex r k1 (fun y hy => ids_stay hV k1 (fun a ha => ⟨by have := (k3 a).1; omega, (k3 a).2⟩) (hi y (by simp [hy]))) (fun a => by
   have := hl a
   have := (k3 a).1
   rw [cntL_cons] at *
   omega)
  exact ⟨L', by
   show foldB keepT (x :: r) (some L) = some L'
   rw [foldB_cons (show keepT L x = some L1 from h1)]
   exact g⟩
def freeF (s : List BHeld) (x : BItem) : Option (List BHeld) := FileFree s x.ids
def freeTs (s : List BHeld) (l : List BItem) : Option (List BHeld) := foldB freeF l (some s)
def l12Free (s : List BHeld) (l : List BItem) : List BHeld := l.foldl (fun s x => (FileFree s x.ids).getD []) s
theorem frees : ∀ (t : List BItem) {L : List BHeld}, VH L → (∀ x, x ∈ t → l4Ids L x.ids = true) → (∀ a, (cntL t a : Int) ≤ us L a) →
  ∃ L', freeTs L t = some L' ∧ l12Free L t = L' ∧ VH L' ∧ ∀ a, us L' a = us L a - (cntL t a : Int) ∧ (0 < us L' a → by_ L' a = by_ L a)
 | [], L, hV, _, _ => ⟨L, rfl, rfl, hV, fun a => by simp [cntL]⟩
 | x :: r, L, hV, hi, hl => by
  obtain ⟨L1, k1, k2, k3⟩ := free_ok hV (hi x (by simp)) (fun a => by
   have := hl a
   rw [cntL_cons] at this
   omega)
  have hc : ∀ a, (cntL r a : Int) ≤ us L1 a := fun a => by
   have := hl a
   have := (k3 a).1
   rw [cntL_cons] at *
   omega
  obtain ⟨L', g1, g2, g3, g4⟩ := frees r k2 (fun y hy => ids_keep hV k2 (fun a ha => by
   have h1 : 0 < cnt1 a y.ids := cnt1_pos.2 ha
   have h2 := cntL_mem hy a
   have h3 := hc a
   have h4 : 0 < us L1 a := by omega
   exact ⟨h4, (k3 a).2 h4⟩) (hi y (by simp [hy]))) hc
  refine ⟨L', ?_, ?_, g3, fun a => ?_⟩
  ·show foldB freeF (x :: r) (some L) = some L'
   rw [foldB_cons (show freeF L x = some L1 from k1)]
   exact g1
  ·simp only [l12Free, List.foldl_cons, k1, Option.getD_some]
   exact g2
  ·have h1 := k3 a
   have h2 := g4 a
   rw [cntL_cons]
   refine ⟨by omega, fun h => (h2.2 h).trans (h1.2 (by omega))⟩
def trees (d : BDisk) : List (List BItem) := d.tree :: d.snaps.map (·.tree)
def cntD (ts : List (List BItem)) (a : Int) : Nat := (ts.map (fun t => cntL t a)).sum
theorem cntD_cons (t : List BItem) (ts : List (List BItem)) (a : Int) : cntD (t :: ts) a = cntL t a + cntD ts a := by simp [cntD]
theorem cntD_mem {ts : List (List BItem)} {t : List BItem} (h : t ∈ ts) (a : Int) : cntL t a ≤ cntD ts a := by
 induction ts with
 | nil => cases h
 | cons y r ih =>
  rw [cntD_cons]
  rcases List.mem_cons.1 h with rfl | h
  ·omega
  ·have := ih h; omega
theorem cntD_zero {ts : List (List BItem)} {a : Int} (h : ∀ t, t ∈ ts → ∀ x, x ∈ t → a ∉ x.ids) : cntD ts a = 0 := by
 induction ts with
 | nil => rfl
 | cons y r ih => rw [cntD_cons, ih (fun t ht => h t (by simp [ht])), cntL_zero (h y (by simp))]
theorem cntD_le {ts : List (List BItem)} (h : ∀ t, t ∈ ts → VT t) (a : Int) : cntD ts a ≤ 48 * ts.length := by
 induction ts with
 | nil => simp [cntD]
 | cons y r ih =>
  rw [cntD_cons, List.length_cons]
  have h1 := ih (fun t ht => h t (by simp [ht]))
  have h2 := l11Count_le (id := a) (tvalid_iff.2 (h y (by simp)))
  rw [l11Count_eq] at h2
  omega
theorem l12Count_eq (d : BDisk) (a : Int) : l12Count d a = cntD (trees d) a := by
 simp [l12Count, cntS, trees, l11Count_eq, cntD, Function.comp_def]
structure DHol (L : List BHeld) (ts : List (List BItem)) : Prop where
 vh : VH L
 vt : ∀ t, t ∈ ts → VT t
 ids : ∀ t, t ∈ ts → ∀ x, x ∈ t → l4Ids L x.ids = true
 use : ∀ a, us L a = (cntD ts a : Int)
def NamesOK (l : List BSnap) : Prop := l.length ≤ 6 ∧ ∀ (k : Nat) (s : BSnap), l[k]? = some s → l1Word s.name = true ∧ (k : Int) ≤ l12At l s.name
theorem dd_iff {d : BDisk} : DiskValid d = true ↔ NamesOK d.snaps ∧ DHol d.store (trees d) := by
 rw [dv_parts, valid_iff, tvalid_iff]
 have hf : ∀ l : List BItem, l11Files d.store l = true ↔ ∀ x, x ∈ l → l4Ids d.store x.ids = true := fun l => by
  unfold l11Files
  rw [List.all_eq_true]
  exact Iff.rfl
 constructor
 ·rintro ⟨h1, h2, h3, h4, ⟨h5, h6⟩, h7⟩
  have hi : ∀ t, t ∈ trees d → ∀ x, x ∈ t → l4Ids d.store x.ids = true := fun t ht => by
   rcases List.mem_cons.1 ht with rfl | ht
   ·exact (hf _).1 h5
   ·obtain ⟨s, hs, rfl⟩ := List.mem_map.1 ht
    obtain ⟨k, hk⟩ := List.getElem?_of_mem hs
    exact (hf _).1 (h6 k s hk)
  refine ⟨⟨h3, fun k s hs => ⟨(h4 k s hs).1, (h4 k s hs).2.1⟩⟩, ⟨h1, fun t ht => ?_, hi, fun a => ?_⟩⟩
  ·rcases List.mem_cons.1 ht with rfl | ht
   ·exact h2
   ·obtain ⟨s, hs, rfl⟩ := List.mem_map.1 ht
    obtain ⟨k, hk⟩ := List.getElem?_of_mem hs
    exact tvalid_iff.1 (h4 k s hk).2.2
  ·by_cases ha : a ∈ d.store.map (·.id)
   ·obtain ⟨h, hh, rfl⟩ := List.mem_map.1 ha
    have := List.all_eq_true.1 h7 h hh
    simp only [usesD, decide_eq_true_eq, l12Count_eq] at this
    rw [this, us, getH_mem h1.nd hh]
   ·rw [us, getH_not ha, cntD_zero]
    ·rfl
    ·intro t ht x hx hax
     have := ids_in h1 (hi t ht x hx) hax
     rw [us, getH_not ha] at this
     exact absurd this (by simp)
 ·rintro ⟨⟨h3, h4⟩, ⟨h1, h2, hi, hu⟩⟩
  have hm : ∀ (k : Nat) (s : BSnap), d.snaps[k]? = some s → s.tree ∈ trees d := fun k s hs => List.mem_cons.2 (.inr (List.mem_map.2 ⟨s, List.mem_of_getElem? hs, rfl⟩))
  refine ⟨h1, h2 _ (by simp [trees]), h3, fun k s hs => ⟨(h4 k s hs).1, (h4 k s hs).2, tvalid_iff.2 (h2 _ (hm k s hs))⟩, ⟨(hf _).2 (hi _ (by simp [trees])), fun k s hs => (hf _).2 (hi _ (hm k s hs))⟩, List.all_eq_true.2 fun h hh => ?_⟩
  simp only [usesD, decide_eq_true_eq, l12Count_eq]
  rw [← hu, us, getH_mem h1.nd hh]
def SnapBack (d : BDisk) (n : Bs) : Option BDisk := match atS d.snaps n with
 | none => none
 | some i => if DiskValid d then (l12Keep d.store (((d.snaps[i]?).map (·.tree)).getD [])).map (fun s => ⟨l12Free s d.tree, ((d.snaps[i]?).map (·.tree)).getD [], d.snaps⟩) else none
def DiskWrite (d : BDisk) (p : Bs) (b : List Int) : Option BDisk := if DiskValid d && FileValid b then (l11Write ⟨d.store, d.tree⟩ p b).map (fun v => ⟨v.store, v.tree, d.snaps⟩) else none
theorem at_some {l : List BSnap} {n : Bs} {i : Nat} (h : atS l n = some i) : ∃ s, l[i]? = some s ∧ s.name = n ∧ i < l.length ∧ ∀ j s', j < i → l[j]? = some s' → s'.name ≠ n := by
 obtain ⟨h1, h2, h3⟩ := List.findIdx?_eq_some_iff_getElem.1 h
 refine ⟨l[i], by simp [h1], by simpa using h2, h1, fun j s' hj hs e => ?_⟩
 have := h3 j hj
 obtain ⟨hj2, hs2⟩ := List.getElem?_eq_some_iff.1 hs
 rw [hs2] at this
 simp [e] at this
section
variable {d d1 : BDisk} {n : Bs}
theorem take_get (h : SnapTake d n = some d1) : DiskValid d = true ∧ l1Word n = true ∧ atS d.snaps n = none ∧ d.snaps.length < 6 ∧ ∃ s, l12Keep d.store d.tree = some s ∧ d1 = ⟨s, d.tree, d.snaps ++ [⟨n, d.tree⟩]⟩ := by
 unfold SnapTake at h
 split at h
 ·rename_i hc
  simp only [Bool.and_eq_true, decide_eq_true_eq] at hc
  obtain ⟨⟨⟨c1, c2⟩, c3⟩, c4⟩ := hc
  obtain ⟨s, h1, rfl⟩ := Option.map_eq_some_iff.1 h
  have := (dd_iff.1 c1).1.1
  exact ⟨c1, c2, by simpa using c3, by omega, s, h1, rfl⟩
 ·cases h
theorem back_get (h : SnapBack d n = some d1) : DiskValid d = true ∧ ∃ i s st, atS d.snaps n = some i ∧ d.snaps[i]? = some s ∧ s.name = n ∧ l12Keep d.store s.tree = some st ∧ d1 = ⟨l12Free st d.tree, s.tree, d.snaps⟩ := by
 unfold SnapBack at h
 split at h
 ·cases h
 ·rename_i i e
  split at h
  ·rename_i hc
   obtain ⟨s, h1, h2, _⟩ := at_some e
   rw [h1] at h
   obtain ⟨st, h3, h4⟩ := Option.map_eq_some_iff.1 h
   exact ⟨hc, i, s, st, e, h1, h2, h3, h4.symm⟩
  ·cases h
theorem snap_in {i : Nat} {s : BSnap} (h : d.snaps[i]? = some s) : s.tree ∈ trees d := List.mem_cons.2 (.inr (List.mem_map.2 ⟨s, List.mem_of_getElem? h, rfl⟩))
theorem DHol.le {L : List BHeld} {ts : List (List BItem)} (h : DHol L ts) (hl : ts.length ≤ 7) (a : Int) : us L a ≤ 336 := by
 have := h.use a
 have := cntD_le h.vt a
 omega
theorem trees_len (h : NamesOK d.snaps) : (trees d).length ≤ 7 := by
 have := h.1
 simp only [trees, List.length_cons, List.length_map]
 omega
theorem keep_can {L : List BHeld} {ts : List (List BItem)} (h : DHol L ts) (hl : ts.length ≤ 7) {t : List BItem} (ht : t ∈ ts) : ∃ L', l12Keep L t = some L' :=
 keepTs_ex t h.vh (h.ids t ht) (fun a => by
  have := h.le hl a
  have := h.use a
  have := cntD_mem ht a
  omega)
theorem keep_hol {L L' : List BHeld} {ts : List (List BItem)} (h : DHol L ts) {t : List BItem} (ht : t ∈ ts) (hk : l12Keep L t = some L') : DHol L' (t :: ts) ∧ ∀ a, us L' a = us L a + (cntL t a : Int) ∧ by_ L' a = by_ L a := by
 obtain ⟨k1, k2⟩ := keepTs t h.vh hk
 have hst : ∀ a, 0 < us L a → 0 < us L' a ∧ by_ L' a = by_ L a := fun a ha => ⟨by have := (k2 a).1; omega, (k2 a).2⟩
 have hi : ∀ u, u ∈ ts → ∀ x, x ∈ u → l4Ids L' x.ids = true := fun u hu x hx => ids_stay h.vh k1 hst (h.ids u hu x hx)
 refine ⟨⟨k1, fun u hu => ?_, fun u hu => ?_, fun a => ?_⟩, k2⟩
 ·rcases List.mem_cons.1 hu with rfl | hu
  ·exact h.vt _ ht
  ·exact h.vt _ hu
 ·rcases List.mem_cons.1 hu with rfl | hu
  ·exact hi _ ht
  ·exact hi _ hu
 ·rw [(k2 a).1, h.use a, cntD_cons]
  omega
theorem free_hol {L : List BHeld} {ts : List (List BItem)} {t : List BItem} (h : DHol L (t :: ts)) :
  ∃ L', freeTs L t = some L' ∧ l12Free L t = L' ∧ DHol L' ts ∧ ∀ a, us L' a = us L a - (cntL t a : Int) ∧ (0 < us L' a → by_ L' a = by_ L a) := by
 obtain ⟨L', g1, g2, g3, g4⟩ := frees t h.vh (h.ids t (by simp)) (fun a => by
  have := h.use a
  rw [cntD_cons] at this
  omega)
 have hu : ∀ a, us L' a = (cntD ts a : Int) := fun a => by
  have := h.use a
  have := (g4 a).1
  rw [cntD_cons] at *
  omega
 refine ⟨L', g1, g2, ⟨g3, fun u hu => h.vt u (by simp [hu]), fun u hu2 x hx => ids_keep h.vh g3 (fun a ha => ?_) (h.ids u (by simp [hu2]) x hx), hu⟩, g4⟩
 have h1 : 0 < cnt1 a x.ids := cnt1_pos.2 ha
 have h2 := cntL_mem hx a
 have h3 := cntD_mem hu2 a
 have h4 := hu a
 have h5 : 0 < us L' a := by omega
 exact ⟨h5, (g4 a).2 h5⟩
theorem DHol.perm {L : List BHeld} {ts us' : List (List BItem)} (h : DHol L ts) (hp : ts.Perm us') : DHol L us' :=
 ⟨h.vh, fun t ht => h.vt t (hp.mem_iff.2 ht), fun t ht => h.ids t (hp.mem_iff.2 ht), fun a => by rw [h.use a]; exact congrArg _ ((hp.map _).sum_nat)⟩
theorem take_valid (h : SnapTake d n = some d1) : DiskValid d1 = true := by
 obtain ⟨hd, hw, hn, hl, s, hk, rfl⟩ := take_get h
 obtain ⟨hN, hH⟩ := dd_iff.1 hd
 obtain ⟨g1, _⟩ := keep_hol hH (t := d.tree) (by simp [trees]) hk
 refine dd_iff.2 ⟨⟨by simp; omega, fun k s' hs => ?_⟩, g1.perm ?_⟩
 ·simp only [l12At, atS, List.findIdx?_append]
  by_cases hkl : k < d.snaps.length
  ·rw [List.getElem?_append_left hkl] at hs
   obtain ⟨h1, h2⟩ := hN.2 k s' hs
   refine ⟨h1, ?_⟩
   simp only [l12At, atS] at h2
   cases e : d.snaps.findIdx? (fun x => decide (x.name = s'.name)) with
   | none =>
    rw [e] at h2
    simp [optI] at h2
    omega
   | some i => rw [e] at h2; simpa using h2
  ·rw [List.getElem?_append_right (by omega)] at hs
   have hk0 : k = d.snaps.length := by
    have := (List.getElem?_eq_some_iff.1 hs).1
    simp at this
    omega
   subst hk0
   simp at hs
   subst hs
   refine ⟨hw, ?_⟩
   have : d.snaps.findIdx? (fun x => decide (x.name = n)) = none := hn
   simp [this, optI]
 ·simp only [trees, List.map_append, List.map_cons, List.map_nil]
  refine List.Perm.trans (List.Perm.swap _ _ _) (List.Perm.cons _ ?_)
  exact (List.perm_append_comm (l₁ := [d.tree])).trans (List.Perm.refl _)
end
end Sp
namespace Sp
open Fw
theorem l12Free_succ {l : List BItem} {k : Nat} {x : BItem} {s : List BHeld} (h : l[k]? = some x) : l12Free s (l.take (k + 1)) = (FileFree (l12Free s (l.take k)) x.ids).getD [] := by
 unfold l12Free
 rw [take_succ' h, List.foldl_append]
 rfl
theorem free_len (s : List BHeld) (ids : List Int) : ((FileFree s ids).getD []).length ≤ s.length := by
 cases e : FileFree s ids with
 | none => simp
 | some r =>
  unfold FileFree at e
  split at e
  ·exact foldB_inv (P := fun r : List BHeld => r.length ≤ s.length) (f := StoreDrop) (fun a b a' h1 h2 => Nat.le_trans (drop_len h2) h1) _ _ _ (Nat.le_refl _) e
  ·cases e
end Sp
namespace Sp
open Fw Nd
theorem names_nodup {l : List BSnap} : (∀ (k : Nat) (s : BSnap), l[k]? = some s → (k : Int) ≤ l12At l s.name) ↔ (l.map (·.name)).Nodup := by
 constructor
 ·intro h
  rw [List.nodup_iff_pairwise_ne, List.pairwise_map, List.pairwise_iff_getElem]
  intro i j hi hj hij e
  have h1 := h j l[j] (by simp)
  simp only [l12At] at h1
  cases e2 : atS l l[j].name with
  | none => rw [e2] at h1; simp [optI] at h1; omega
  | some m =>
   rw [e2] at h1
   obtain ⟨_, _, _, _, h4⟩ := at_some e2
   simp only [optI] at h1
   exact h4 i l[i] (by omega) (by simp) e
 ·intro h k s hs
  obtain ⟨hk, hk2⟩ := List.getElem?_eq_some_iff.1 hs
  simp only [l12At]
  cases e2 : atS l s.name with
  | none =>
   have := List.findIdx?_eq_none_iff.1 e2 s (List.mem_of_getElem? hs)
   simp at this
  | some m =>
   obtain ⟨s', h1, h2, h3, _⟩ := at_some e2
   simp only [optI]
   by_cases hm : m < k
   ·rw [List.nodup_iff_pairwise_ne, List.pairwise_map, List.pairwise_iff_getElem] at h
    obtain ⟨_, h1'⟩ := List.getElem?_eq_some_iff.1 h1
    exact absurd (by rw [h1', hk2, h2]) (h m k h3 hk hm)
   ·omega
theorem namesOK_iff {l : List BSnap} : NamesOK l ↔ l.length ≤ 6 ∧ (∀ s, s ∈ l → l1Word s.name = true) ∧ (l.map (·.name)).Nodup := by
 rw [← names_nodup]
 constructor
 ·rintro ⟨h1, h2⟩
  refine ⟨h1, fun s hs => ?_, fun k s hs => (h2 k s hs).2⟩
  obtain ⟨k, hk⟩ := List.getElem?_of_mem hs
  exact (h2 k s hk).1
 ·rintro ⟨h1, h2, h3⟩
  exact ⟨h1, fun k s hs => ⟨h2 s (List.mem_of_getElem? hs), h3 k s hs⟩⟩
theorem NamesOK.sub {l m : List BSnap} (h : NamesOK l) (hs : m.Sublist l) : NamesOK m := by
 obtain ⟨h1, h2, h3⟩ := namesOK_iff.1 h
 exact namesOK_iff.2 ⟨Nat.le_trans hs.length_le h1, fun s hm => h2 s (hs.subset hm), (hs.map _).nodup h3⟩
section
variable {d d1 : BDisk} {n : Bs} {p : Bs} {b : List Int}
theorem split_at {α : Type} {l : List α} {i : Nat} {x : α} (h : l[i]? = some x) : l = l.take i ++ x :: l.drop (i + 1) := by
 have := List.take_append_drop i l
 rw [drop_at h] at this
 exact this.symm
theorem back_hol (hd : DiskValid d = true) {i : Nat} {s : BSnap} {st : List BHeld} (hs : d.snaps[i]? = some s) (hk : l12Keep d.store s.tree = some st) :
  ∃ L', freeTs st d.tree = some L' ∧ l12Free st d.tree = L' ∧ DHol L' (s.tree :: d.snaps.map (·.tree)) ∧ ∀ a, us L' a = us d.store a + (cntL s.tree a : Int) - (cntL d.tree a : Int) ∧ (0 < us L' a → by_ L' a = by_ d.store a) := by
 obtain ⟨hN, hH⟩ := dd_iff.1 hd
 obtain ⟨g1, g2⟩ := keep_hol hH (snap_in hs) hk
 obtain ⟨L', k1, k2, k3, k4⟩ := free_hol (t := d.tree) (ts := s.tree :: d.snaps.map (·.tree)) (g1.perm (List.Perm.swap _ _ _))
 exact ⟨L', k1, k2, k3, fun a => ⟨by have := (g2 a).1; have := (k4 a).1; omega, fun ha => ((k4 a).2 ha).trans (g2 a).2⟩⟩
theorem back_valid (h : SnapBack d n = some d1) : DiskValid d1 = true := by
 obtain ⟨hd, i, s, st, hi, hs, hsn, hk, rfl⟩ := back_get h
 obtain ⟨L', _, k2, k3, _⟩ := back_hol hd hs hk
 refine dd_iff.2 ⟨(dd_iff.1 hd).1, ?_⟩
 show DHol (l12Free st d.tree) _
 rw [k2]
 exact k3
theorem dwrite_get (h : DiskWrite d p b = some d1) : DiskValid d = true ∧ FileValid b = true ∧ ∃ v, l11Write ⟨d.store, d.tree⟩ p b = some v ∧ d1 = ⟨v.store, v.tree, d.snaps⟩ := by
 unfold DiskWrite at h
 split at h
 ·rename_i hc
  simp only [Bool.and_eq_true] at hc
  obtain ⟨v, h1, h2⟩ := Option.map_eq_some_iff.1 h
  exact ⟨hc.1, hc.2, v, h1, h2.symm⟩
 ·cases h
theorem DHol.hol {L : List BHeld} {t : List BItem} {ts : List (List BItem)} (h : DHol L (t :: ts)) : Hol L t :=
 ⟨h.vh, h.vt t (by simp), h.ids t (by simp), fun a => by have := h.use a; rw [cntD_cons] at this; omega⟩
theorem dwrite_valid (h : DiskWrite d p b = some d1) : DiskValid d1 = true := by
 obtain ⟨hd, hb, v, hv, rfl⟩ := dwrite_get h
 obtain ⟨hN, hH⟩ := dd_iff.1 hd
 refine dd_iff.2 ⟨hN, ?_⟩
 show DHol v.store (v.tree :: d.snaps.map (·.tree))
 unfold l11Write at hv
 split at hv
 ·cases hv
 ·rename_i r hst
  obtain ⟨s, ids⟩ := r
  split at hv
  ·cases hv
  ·rename_i t ht
   obtain ⟨s', _, _, g1, g2, g3⟩ := write_ok (DHol.hol (ts := d.snaps.map (·.tree)) hH) hst ht
   obtain ⟨_, _, hsu, _⟩ := store_ok hH.vh hst
   have hv' : l11Write ⟨d.store, d.tree⟩ p b = some v := by
    simp only [l11Write, hst, ht]
    exact hv
   rw [g1] at hv'
   cases hv'
   have hu : ∀ a, us s' a = (cntD (t :: d.snaps.map (·.tree)) a : Int) := fun a => by
    have h1 := hH.use a
    have h2 : us s' a = us d.store a + (cntL t a : Int) - (cntL d.tree a : Int) := (g3 a).1
    simp only [trees, cntD_cons] at h1
    rw [cntD_cons]
    omega
   refine ⟨g2.vh, fun u hu2 => ?_, fun u hu2 x hx => ?_, hu⟩
   ·rcases List.mem_cons.1 hu2 with rfl | hu2
    ·exact g2.vt
    ·exact hH.vt u (List.mem_cons.2 (.inr hu2))
   ·rcases List.mem_cons.1 hu2 with rfl | hu2
    ·exact g2.ids x hx
    ·refine ids_keep hH.vh g2.vh (fun a ha => ?_) (hH.ids u (List.mem_cons.2 (.inr hu2)) x hx)
     have h1 : 0 < cnt1 a x.ids := cnt1_pos.2 ha
     have h2 := cntL_mem hx a
     have h3 := cntD_mem hu2 a
     have h4 := hu a
     rw [cntD_cons] at h4
     have h5 : 0 < us s' a := by omega
     have h6 := hH.use a
     simp only [trees, cntD_cons] at h6
     exact ⟨h5, ((g3 a).2 h5).trans ((hsu a).2 (by omega))⟩
end
end Sp
namespace Fw
open Go
section ops
variable {P : Program} {n : Nat} {ops : Array Oper} {Q : Post} {rest : List Oper} {L : Slots} {ds : List Deferred} {w w0 : World} {G0 : PH} {S : List Nat} {G : PH} {B : List Res}
variable {ty : TypeId} {ps : String} {af : Array Edge}
end ops
theorem All2.del {α β : Type} {R : α → β → Prop} {l : List α} {m : List β} (h : All2 R l m) : ∀ (i : Nat), All2 R (l.take i ++ l.drop (i + 1)) (m.take i ++ m.drop (i + 1)) := by
 induction h with
 | nil => intro i; simp; exact .nil
 | cons h t ih =>
  intro i
  cases i with
  | zero => simpa using t
  | succ i => simpa using .cons h (ih i)
end Fw
namespace Fw
open Sp
theorem sn_at {xs : List (Bs × Nd)} {L : List BSnap} {n : Bs} (h : SnOK xs L) (hc : ¬ optI (xs.findIdx? (fun x => decide (x.1 = n))) < 0) :
  ∃ (i : Nat) (x : Bs × Nd) (s : BSnap), optI (xs.findIdx? (fun x => decide (x.1 = n))) = (i : Int) ∧ xs[i]? = some x ∧ L[i]? = some s ∧ atS L n = some i ∧ Nd.TOK x.2 s.tree ∧ i < xs.length := by
 have hf := sn_find h n
 cases e : xs.findIdx? (fun x => decide (x.1 = n)) with
 | none => rw [e] at hc; simp [optI] at hc
 | some i =>
  rw [e] at hf
  obtain ⟨h1, h2, h3⟩ := List.findIdx?_eq_some_iff_getElem.1 e
  obtain ⟨s, h4, h5⟩ := h.at (i := i) (x := xs[i]) (by simp)
  exact ⟨i, xs[i], s, rfl, by simp, h4, hf.symm, h5.2.1, h1⟩
end Fw
namespace Sp
open Fw
section
variable {d d1 : BDisk} {n : Bs} {p : Bs} {b : List Int}
theorem back_isv (h : SnapBack d n = some d1) : DiskValid d = true := (back_get h).1
theorem dwrite_isv (h : DiskWrite d p b = some d1) : DiskValid d = true := (dwrite_get h).1
theorem back_eq (hd : DiskValid d = true) {i : Nat} {s : BSnap} (hi : atS d.snaps n = some i) (hs : d.snaps[i]? = some s) : SnapBack d n = (l12Keep d.store s.tree).map (fun st => ⟨l12Free st d.tree, s.tree, d.snaps⟩) := by
 unfold SnapBack
 rw [hi]
 simp only [hd, if_true, hs, Option.map_some, Option.getD_some]
theorem back_noat (h : optI (atS d.snaps n) < 0) : SnapBack d n = none := by
 cases e : atS d.snaps n with
 | none => unfold SnapBack; rw [e]
 | some i => rw [e] at h; simp only [optI] at h; omega
theorem back_nov (h : DiskValid d = false) : SnapBack d n = none := by
 cases e : SnapBack d n with
 | none => rfl
 | some q => rw [back_isv e] at h; cases h
theorem back_free (hd : DiskValid d = true) {i : Nat} {s : BSnap} {st : List BHeld} (hs : d.snaps[i]? = some s) (hk : l12Keep d.store s.tree = some st) : freeTs st d.tree = some (l12Free st d.tree) := by
 obtain ⟨L', g1, g2, _⟩ := back_hol hd hs hk
 rw [g1, g2]
theorem dk_lim {o : Option BDisk} (h : ∀ d1, o = some d1 → DiskValid d1 = true) : ((o.map (·.snaps)).getD []).length ≤ 6 := by
 cases o with
 | none => simp
 | some d1 => exact (dv_parts.1 (h d1 rfl)).2.2.1
end
end Sp
namespace Sp
open Fw
theorem l12Free_len : ∀ (l : List BItem) (s : List BHeld), (l12Free s l).length ≤ s.length
 | [], s => by simp [l12Free]
 | x :: r, s => by
  have h1 := free_len s x.ids
  have h2 := l12Free_len r ((FileFree s x.ids).getD [])
  have : l12Free s (x :: r) = l12Free ((FileFree s x.ids).getD []) r := by simp [l12Free]
  rw [this]
  omega
end Sp
namespace Sp
open Fw
theorem freeOld_len (s : List BHeld) (l : List BItem) : (freeOld s l).length ≤ s.length := by
 cases l with
 | nil => exact Nat.le_refl _
 | cons x r => exact free_len s x.ids
theorem l11Write_slen (v : BVol) (p : Bs) (b : List Int) : (((l11Write v p b).map (·.store)).getD []).length ≤ 16 := by
 have h := fileStore_len v.store b
 unfold l11Write
 cases e : FileStore v.store b with
 | none => simp
 | some r =>
  rw [e] at h
  simp only [Option.map_some, Option.getD_some] at h
  have h2 := freeOld_len r.1 (l11Ids v.tree p)
  cases e2 : TreePut v.tree ⟨p, false, r.2⟩ with
  | none => simp [e2]
  | some t => simp [e2]; omega
end Sp
namespace Sp
open Fw
end Sp
namespace Fw
open Go
end Fw
namespace Fw
open Go
end Fw
namespace Sp
open Fw Nd
def FileLoad (L : List BHeld) (ids : List Int) : Option (List Int) := if StoreValid L && l4Ids L ids then some (load L ids) else none
def TreeFind (l : List BItem) (p : Bs) : Option BItem := if TreeValid l then (atI l p).bind (fun i => l[i]?) else none
def readT (d : BDisk) (p : Bs) : Option (List Int) := match TreeFind d.tree p with
 | none => none
 | some x => if x.dir then none else FileLoad d.store x.ids
def SnapRead (d : BDisk) (n p : Bs) : Option (List Int) := match atS d.snaps n with
 | none => none
 | some i => if DiskValid d then readF d.store (((d.snaps[i]?).map (·.tree)).getD []) p else none
theorem readF_same {L L' : List BHeld} {l : List BItem} (h : ∀ x, x ∈ l → ∀ a, a ∈ x.ids → by_ L' a = by_ L a) (p : Bs) : readF L' l p = readF L l p := by
 unfold readF
 cases e : l11Ids l p with
 | nil => rfl
 | cons o r =>
  have ho : o ∈ l := by
   unfold l11Ids at e
   split at e
   ·split at e
    ·rename_i x hx
     split at e
     ·cases e
     ·simp only [List.cons.injEq] at e
      rw [← e.1]
      exact List.mem_of_getElem? hx
    ·cases e
   ·cases e
  simp only [load]
  congr 2
  exact List.map_congr_left (fun a ha => h o ho a ha)
theorem readT_eq {d : BDisk} (hv : DiskValid d = true) (p : Bs) : readT d p = readF d.store d.tree p := by
 obtain ⟨hN, hH⟩ := dd_iff.1 hv
 have ht := tvalid_iff.2 (hH.vt d.tree (by simp [trees]))
 unfold readT TreeFind readF l11Ids
 rw [if_pos ht]
 cases e : atI d.tree p with
 | none => rfl
 | some i =>
  simp only [Option.bind_some]
  cases e2 : d.tree[i]? with
  | none => rfl
  | some x =>
   have hi := hH.ids d.tree (by simp [trees]) x (List.mem_of_getElem? e2)
   have hs := valid_iff.2 hH.vh
   by_cases hd : x.dir = true
   ·simp [hd]
   ·simp [hd, FileLoad, hs, hi]
theorem tree_pos {L : List BHeld} {ts : List (List BItem)} (h : DHol L ts) {t : List BItem} (ht : t ∈ ts) {x : BItem} (hx : x ∈ t) {a : Int} (ha : a ∈ x.ids) : 0 < us L a := by
 have h1 : 0 < cnt1 a x.ids := cnt1_pos.2 ha
 have h2 := cntL_mem hx a
 have h3 := cntD_mem ht a
 have h4 := h.use a
 omega
theorem write_read2 {u : BVol} (hu : Hol u.store u.tree) {p : Bs} {b : List Int} {u' : BVol} (h : l11Write u p b = some u') :
  readF u'.store u'.tree p = some b ∧ ∀ a, 0 < us u.store a → 0 < us u'.store a → by_ u'.store a = by_ u.store a := by
 cases e : FileStore u.store b with
 | none => simp [l11Write, e] at h
 | some r =>
  cases e2 : TreePut u.tree ⟨p, false, r.2⟩ with
  | none => simp [l11Write, e, e2] at h
  | some t =>
   obtain ⟨s', _, _, h3, h4, h5⟩ := write_ok hu (s := r.1) (ids := r.2) e e2
   rw [h3] at h
   cases h
   obtain ⟨hs, hlen, hsu, hsb⟩ := store_ok hu.vh (s := r.1) (ids := r.2) e
   obtain ⟨_, ht, hx, hperm⟩ := put_perm2 e2
   have hm : (⟨p, false, r.2⟩ : BItem) ∈ t := hperm.mem_iff.2 (by simp)
   obtain ⟨i, g1, g2⟩ := (uniq_at ht.asc (p := p)).2.1 _ hm rfl
   have hl : l11Ids t p = [⟨p, false, r.2⟩] := by simp [l11Ids, g1, g2]
   refine ⟨?_, fun a ha ha' => ((h5 a).2 ha').trans ((hsu a).2 ha)⟩
   unfold readF
   simp only [hl]
   rw [load_cut hlen (fun i id hi => ?_), cut_flatten]
   have hpos : 0 < us s' id := by
    have h6 := h4.le id
    have h7 : cnt1 id r.2 ≤ cntL t id := cntL_mem hm id
    have h8 := cnt1_pos.2 (List.mem_of_getElem? hi)
    omega
   rw [(h5 id).2 hpos]
   exact hsb i id hi
theorem dwrite_read {d d1 : BDisk} {p : Bs} {b : List Int} (h : DiskWrite d p b = some d1) : readT d1 p = some b := by
 rw [readT_eq (dwrite_valid h)]
 obtain ⟨hd, hb, v, hv, rfl⟩ := dwrite_get h
 exact (write_read2 (DHol.hol (ts := d.snaps.map (·.tree)) (dd_iff.1 hd).2) hv).1
theorem dwrite_snaps {d d1 : BDisk} {p : Bs} {b : List Int} (h : DiskWrite d p b = some d1) : d1.snaps = d.snaps := by
 obtain ⟨hd, hb, v, hv, rfl⟩ := dwrite_get h
 rfl
theorem dwrite_readS {d d1 : BDisk} {p : Bs} {b : List Int} (h : DiskWrite d p b = some d1) (n q : Bs) : SnapRead d1 n q = SnapRead d n q := by
 have hv1 := dwrite_valid h
 obtain ⟨hd, hb, v, hv, rfl⟩ := dwrite_get h
 obtain ⟨_, hH⟩ := dd_iff.1 hd
 obtain ⟨_, hH1⟩ := dd_iff.1 hv1
 have hby := (write_read2 (DHol.hol (ts := d.snaps.map (·.tree)) hH) hv).2
 unfold SnapRead
 simp only [hv1, hd, if_true]
 cases e : atS d.snaps n with
 | none => rfl
 | some i =>
  obtain ⟨s, h1, _, _⟩ := at_some e
  simp only [h1, Option.map_some, Option.getD_some]
  refine readF_same (fun x hx a ha => ?_) q
  exact hby a (tree_pos hH (snap_in h1) hx ha) (tree_pos hH1 (List.mem_cons.2 (.inr (List.mem_map.2 ⟨s, List.mem_of_getElem? h1, rfl⟩))) hx ha)
theorem back_read {d : BDisk} {n p : Bs} {r : List Int} (h : SnapRead d n p = some r) : ∃ d1, SnapBack d n = some d1 ∧ readT d1 p = some r := by
 unfold SnapRead at h
 split at h
 ·cases h
 ·rename_i i e
  split at h
  ·rename_i hd
   obtain ⟨s, h1, h2, _⟩ := at_some e
   obtain ⟨hN, hH⟩ := dd_iff.1 hd
   obtain ⟨st, hk⟩ := keep_can hH (trees_len hN) (snap_in h1)
   have hb := back_eq hd e h1
   rw [hk] at hb
   refine ⟨_, hb, ?_⟩
   rw [readT_eq (back_valid hb)]
   obtain ⟨L', _, k2, k3, k4⟩ := back_hol hd h1 hk
   simp only [h1, Option.map_some, Option.getD_some] at h
   rw [← h]
   show readF (l12Free st d.tree) s.tree p = _
   rw [k2]
   exact readF_same (fun x hx a ha => (k4 a).2 (tree_pos k3 (by simp) hx ha)) p
  ·cases h
end Sp
namespace Sp
open Fw Nd
theorem tf_bad {l : List BItem} {p : Bs} (h : TreeValid l = false) : TreeFind l p = none := by simp [TreeFind, h]
theorem tf_no {T : Nd} {l : List BItem} {p : Bs} (h : TOK T l) (hf : T.find p = none) : TreeFind l p = none := by
 have := find_list h p
 rw [hf] at this
 unfold TreeFind
 split
 ·exact this.symm
 ·rfl
theorem tf_yes {T d : Nd} {l : List BItem} {p : Bs} (h : TOK T l) (hf : T.find p = some d) : TreeFind l p = some ⟨p, d.dir, d.ids⟩ := by
 have := find_list h p
 rw [hf] at this
 unfold TreeFind
 rw [if_pos (tvalid_iff.2 h.vt)]
 exact this.symm
theorem readT_no1 {d : BDisk} {p : Bs} (h : (TreeFind d.tree p).isSome = false) : readT d p = none := by
 unfold readT
 cases e : TreeFind d.tree p with
 | none => rfl
 | some x => rw [e] at h; cases h
theorem readT_no2 {d : BDisk} {p : Bs} (h : ((TreeFind d.tree p).getD ⟨[], false, []⟩).dir = true) : readT d p = none := by
 unfold readT
 cases e : TreeFind d.tree p with
 | none => rfl
 | some x => rw [e] at h; simp only [Option.getD_some] at h; simp [h]
theorem readT_yes {d : BDisk} {p : Bs} (h1 : (TreeFind d.tree p).isSome = true) (h2 : ((TreeFind d.tree p).getD ⟨[], false, []⟩).dir = false) : readT d p = FileLoad d.store ((TreeFind d.tree p).getD ⟨[], false, []⟩).ids := by
 unfold readT
 cases e : TreeFind d.tree p with
 | none => rw [e] at h1; cases h1
 | some x => rw [e] at h2; simp only [Option.getD_some] at h2; simp [h2]
theorem snapread_noat {d : BDisk} {n p : Bs} (h : optI (atS d.snaps n) < 0) : SnapRead d n p = none := by
 cases e : atS d.snaps n with
 | none => unfold SnapRead; rw [e]
 | some i => rw [e] at h; simp only [optI] at h; omega
theorem snapread_nov {d : BDisk} {n p : Bs} (h : DiskValid d = false) : SnapRead d n p = none := by
 unfold SnapRead
 split
 ·rfl
 ·simp [h]
theorem snapread_eq {d : BDisk} (hd : DiskValid d = true) {n p : Bs} {i : Nat} {s : BSnap} {T : Nd} (hi : atS d.snaps n = some i) (hs : d.snaps[i]? = some s) (hT : TOK T s.tree) : SnapRead d n p = readN d.store T p := by
 obtain ⟨_, hH⟩ := dd_iff.1 hd
 rw [read_eq (hH.ids s.tree (snap_in hs)) hT]
 unfold SnapRead
 rw [hi]
 simp only [hd, if_true, hs, Option.map_some, Option.getD_some]
end Sp
namespace Sp
open Fw
end Sp
namespace Fw
open Go
section
variable {P : Program} {n : Nat} {Q : Post} {L : Slots} {ds : List Deferred} {w : World}
def JP (n : Nat) (ds : List Deferred) (Lf : Slots) (J : Slots → World → Prop) : Post := fun e a w => e = .normal ∧ ∃ M, FrL n (M ++ Lf) ds a ∧ J M w
theorem W_join {x y : Code} (Lf : Slots) (J : Slots → World → Prop) (hf : Sub Lf L) (first : W P n (JP n ds Lf J) x L ds w) (second : ∀ M w, J M w → W P n Q y (M ++ Lf) ds w) : W P n Q (.seq x y) L ds w :=
 W_seq (fun a ha => wp_mono (first a ha) (fun e a' w' hq => by
  obtain ⟨he, M, hF, hJ⟩ := hq
  subst he
  exact second M w' hJ a' hF))
theorem N_J {Lf : Slots} {J : Slots → World → Prop} {M : Slots} (hJ : J M w) (hM : Sub M L := by (repeat (first | exact Sub.nil | refine Sub.cons rfl ?_))) (hf : Sub Lf L := by (repeat (first | exact Sub.nil | refine Sub.cons rfl ?_))) : N n (JP n ds Lf J) .normal L ds w :=
 fun _ ha => ⟨rfl, M, ha.sub (hM.app hf), hJ⟩
end
end Fw
namespace Sp
open Fw Nd
def HistoryBack (d : BDisk) (s p : Bs) : Option BDisk := match SnapRead d s p with
 | none => none
 | some b => DiskWrite d p b
theorem cut_cons {b : List Int} (h : b ≠ []) : l4Cut b = b.take 8 :: l4Cut (b.drop 8) := by
 have hl : 0 < b.length := List.length_pos_iff.2 h
 unfold l4Cut
 rw [show (b.length + 7) / 8 = ((b.drop 8).length + 7) / 8 + 1 by simp; omega, List.range_succ_eq_map, List.map_cons, List.map_map]
 congr 1
 ·rw [chunk_eq]; simp
 ·refine List.map_congr_left (fun k _ => ?_)
  simp only [Function.comp, chunk_eq, List.drop_drop]
  congr 2
  omega
theorem cut_blocks : ∀ (bs : List (List Int)), (∀ (i : Nat) (b : List Int), bs[i]? = some b → 1 ≤ b.length ∧ b.length ≤ 8 ∧ (i + 1 < bs.length → b.length = 8)) → l4Cut bs.flatten = bs
 | [], _ => by simp [l4Cut]
 | b :: r, h => by
  obtain ⟨h1, h2, h3⟩ := h 0 b rfl
  have hr := cut_blocks r (fun i c hc => by
   obtain ⟨g1, g2, g3⟩ := h (i + 1) c (by simpa using hc)
   exact ⟨g1, g2, fun hi => g3 (by simp; omega)⟩)
  rw [List.flatten_cons, cut_cons (by intro e; simp at e; rw [e.1] at h1; simp at h1)]
  cases r with
  | nil => simp [l4Cut, List.take_of_length_le h2, List.drop_of_length_le h2]
  | cons c r' =>
   have h8 := h3 (by simp)
   rw [List.take_left' h8, List.drop_left' h8, hr]
theorem load_blocks {L : List BHeld} (hV : VH L) {ids : List Int} (hl : l4Ids L ids = true) : l4Cut (load L ids) = ids.map (by_ L) := by
 show l4Cut (ids.map (fun id => (getH L id).bytes)).flatten = _
 refine cut_blocks _ (fun i b hb => ?_)
 rw [List.getElem?_map] at hb
 cases e : ids[i]? with
 | none => rw [e] at hb; cases hb
 | some id =>
  rw [e] at hb
  simp only [Option.map_some, Option.some.injEq] at hb
  subst hb
  have hp := (us_pos hV).1 (ids_in hV hl (List.mem_of_getElem? e))
  have hg := bv_len (get_ok hV hp).2.1
  refine ⟨hg.1, hg.2, fun hi => ?_⟩
  have h1 : idsOk L ids i = true := by
   simp only [l4Ids, Bool.and_eq_true] at hl
   exact List.all_eq_true.1 hl.1 i (by simpa using (List.getElem?_eq_some_iff.1 e).1)
  rw [idsOk_get e hp] at h1
  simp at hi h1
  omega
theorem put_there {L : List BHeld} (hV : VH L) {a : Int} (ha : 0 < us L a) : StorePut L (by_ L a) = (StoreKeep L a).map (fun l => (l, a)) := by
 have hp := (us_pos hV).1 ha
 have hid := get_id hp
 have hg := (get_ok hV hp).2.1
 have hm : getH L a ∈ L := by
  cases e : Sp.atH L a with
  | none => rw [e] at hp; cases hp
  | some i =>
   have hi := List.findIdx?_eq_some_iff_getElem.1 e
   obtain ⟨h1, _, _⟩ := hi
   rw [getH_some e (List.getElem?_eq_getElem h1)]
   exact List.getElem_mem h1
 obtain ⟨i, h1, h2⟩ := hV.like hm
 have := put_old hV hg h1 h2
 rw [← hid] at this
 exact this
theorem puts_there : ∀ (ids : List Int) {L L0 : List BHeld} {acc : List Int}, VH L → (∀ a, a ∈ ids → 0 < us L a) → (∀ a, by_ L a = by_ L0 a) → (∀ a, us L a + (cnt1 a ids : Int) ≤ 999) →
  foldB put1 (ids.map (by_ L0)) (some (L, acc)) = (foldB StoreKeep ids (some L)).map (fun l => (l, acc ++ ids))
 | [], L, L0, acc, _, _, _, _ => by simp [foldB]
 | x :: r, L, L0, acc, hV, hp, hb, hl => by
  have hx := hp x (by simp)
  have hx2 := hl x
  rw [cnt1_cons, if_pos rfl] at hx2
  have hu : (getH L x).uses < 999 := by
   have : us L x = (getH L x).uses := rfl
   omega
  obtain ⟨h1, h2⟩ := keep_get hV ((us_pos hV).1 hx) hu
  obtain ⟨k1, _, k3⟩ := keep_step hV h1
  have hput : put1 (L, acc) (by_ L0 x) = some (updH L ⟨(getH L x).id, (getH L x).bytes, (getH L x).uses + 1⟩, acc ++ [x]) := by
   unfold put1
   rw [← hb x, put_there hV hx, h1]
   rfl
  rw [List.map_cons, foldB_cons hput, foldB_cons h1, puts_there r (L0 := L0) k1 (fun a ha => by
   have h3 := (k3 a).1
   have := hp a (by simp [ha])
   split at h3 <;> omega) (fun a => (k3 a).2.trans (hb a)) (fun a => by
   have h3 := (k3 a).1
   have h4 := hl a
   rw [cnt1_cons] at h4
   split at h3
   ·rename_i ea; rw [if_pos ea] at h4; omega
   ·rename_i ea; rw [if_neg ea] at h4; omega)]
  simp
theorem store_there {L : List BHeld} (hV : VH L) {ids : List Int} (hl : l4Ids L ids = true) (hu : ∀ a, us L a + (cnt1 a ids : Int) ≤ 999) (hf : FileValid (load L ids) = true) :
  ∃ K, foldB StoreKeep ids (some L) = some K ∧ FileStore L (load L ids) = some (K, ids) ∧ VH K ∧ ∀ a, us K a = us L a + (cnt1 a ids : Int) ∧ by_ K a = by_ L a := by
 obtain ⟨K, hk⟩ := keeps_ex ids hV (fun a ha => ids_in hV hl ha) hu
 obtain ⟨g1, g2⟩ := keeps ids hV hk
 refine ⟨K, hk, ?_, g1, g2⟩
 unfold FileStore
 rw [if_pos (by simp [valid_iff.2 hV, hf]), load_blocks hV hl, puts_there ids hV (fun a ha => ids_in hV hl ha) (fun _ => rfl) hu, hk]
 rfl
theorem readF_get {L : List BHeld} {l : List BItem} {p : Bs} {b : List Int} (h : readF L l p = some b) : ∃ x, x ∈ l ∧ x.path = p ∧ x.dir = false ∧ l11Ids l p = [x] ∧ b = load L x.ids := by
 unfold readF at h
 cases e : l11Ids l p with
 | nil => rw [e] at h; cases h
 | cons o r =>
  rw [e] at h
  have hl := e
  unfold l11Ids at e
  split at e
  ·rename_i i hi
   split at e
   ·rename_i x hx
    split at e
    ·cases e
    ·rename_i hd
     simp only [List.cons.injEq] at e
     obtain ⟨rfl, rfl⟩ := e
     have hp := List.findIdx?_eq_some_iff_getElem.1 hi
     obtain ⟨h1, h2, _⟩ := hp
     rw [List.getElem?_eq_getElem h1] at hx
     simp only [Option.some.injEq] at hx
     refine ⟨x, hx ▸ List.getElem_mem h1, ?_, by simpa using hd, rfl, ?_⟩
     ·rw [← hx]; simpa using h2
     ·simp only [Option.some.injEq] at h
      exact h.symm
   ·cases e
  ·cases e
theorem keeps_len : ∀ (ids : List Int) {L K : List BHeld}, foldB StoreKeep ids (some L) = some K → K.length = L.length := fun ids L K h =>
 foldB_inv (P := fun r : List BHeld => r.length = L.length) (f := StoreKeep) (fun a b a' h1 h2 => (keep_len h2).trans h1) _ _ _ rfl h
theorem hist_get {d d1 : BDisk} {s p : Bs} (h : HistoryBack d s p = some d1) : ∃ b, SnapRead d s p = some b ∧ DiskWrite d p b = some d1 := by
 unfold HistoryBack at h
 split at h
 ·cases h
 ·rename_i b e
  exact ⟨b, e, h⟩
theorem snap_get {d : BDisk} {s p : Bs} {b : List Int} (h : SnapRead d s p = some b) : DiskValid d = true ∧ ∃ (t : List BItem) (x : BItem), t ∈ trees d ∧ x ∈ t ∧ b = load d.store x.ids := by
 unfold SnapRead at h
 split at h
 ·cases h
 ·rename_i i e
  split at h
  ·rename_i hd
   obtain ⟨q, h1, _, _⟩ := at_some e
   simp only [h1, Option.map_some, Option.getD_some] at h
   obtain ⟨x, hx, _, _, _, hb⟩ := readF_get h
   exact ⟨hd, q.tree, x, snap_in h1, hx, hb⟩
  ·cases h
theorem ids_room {L : List BHeld} {ts : List (List BItem)} (h : DHol L ts) (hl : ts.length ≤ 7) {t : List BItem} (ht : t ∈ ts) {x : BItem} (hx : x ∈ t) (a : Int) : us L a + (cnt1 a x.ids : Int) ≤ 999 := by
 have := h.le hl a
 have h1 := ids_le (h.ids t ht x hx)
 have := cnt1_le a x.ids
 omega
theorem hist_valid {d d1 : BDisk} {s p : Bs} (h : HistoryBack d s p = some d1) : DiskValid d1 = true := by
 obtain ⟨b, _, h2⟩ := hist_get h
 exact dwrite_valid h2
theorem hist_snaps {d d1 : BDisk} {s p : Bs} (h : HistoryBack d s p = some d1) : d1.snaps = d.snaps := by
 obtain ⟨b, _, h2⟩ := hist_get h
 exact dwrite_snaps h2
theorem hist_read {d d1 : BDisk} {s p : Bs} (h : HistoryBack d s p = some d1) : ∃ b, SnapRead d s p = some b ∧ readT d1 p = some b := by
 obtain ⟨b, h1, h2⟩ := hist_get h
 exact ⟨b, h1, dwrite_read h2⟩
theorem hist_blocks {d d1 : BDisk} {s p : Bs} (h : HistoryBack d s p = some d1) : d1.store.length ≤ d.store.length := by
 obtain ⟨b, h1, h2⟩ := hist_get h
 obtain ⟨hd, t, x, ht, hx, rfl⟩ := snap_get h1
 obtain ⟨_, hb, v, hv, rfl⟩ := dwrite_get h2
 obtain ⟨hN, hH⟩ := dd_iff.1 hd
 obtain ⟨K, k1, k2, _⟩ := store_there hH.vh (hH.ids t ht x hx) (ids_room hH (trees_len hN) ht hx) hb
 have hkl := keeps_len _ k1
 unfold l11Write at hv
 simp only [k2] at hv
 split at hv
 ·cases hv
 ·cases hv
  have := freeOld_len K (l11Ids d.tree p)
  simp only
  omega
theorem put_same {l : List BItem} {x : BItem} (hv : TreeValid l = true) (hx : x ∈ l) (hd : x.dir = false) : TreePut l x = some l := by
 have vl := tvalid_iff.1 hv
 obtain ⟨i, h1, h2⟩ := (uniq_at vl.asc (p := x.path)).2.1 x hx rfl
 have e : l5Put l x = l := by
  have hs : (l5Put l x).Pairwise ltp := putGo_sorted x l vl.asc
  have hm : ∀ y, y ∈ l5Put l x ↔ y ∈ l := fun y => by
   rw [put_mem]
   constructor
   ·rintro (rfl | ⟨h, _⟩)
    ·exact hx
    ·exact h
   ·intro h
    by_cases hp : y.path = x.path
    ·obtain ⟨j, g1, g2⟩ := (uniq_at vl.asc (p := x.path)).2.1 y h hp
     rw [h1] at g1
     cases g1
     rw [h2] at g2
     cases g2
     exact .inl rfl
    ·exact .inr ⟨h, hp⟩
  have ne : ∀ {a b : BItem}, ltp a b → a ≠ b := fun h e => by subst e; exact absurd h (by simp [ltp, lt_irrefl])
  have hp : (l5Put l x).Perm l := (List.perm_ext_iff_of_nodup (hs.imp ne) (vl.asc.imp ne)).2 hm
  exact hp.eq_of_pairwise (fun a b _ _ h1 h2 => absurd (lt_trans h1 h2) (by simp [lt_irrefl])) hs vl.asc
 unfold TreePut
 rw [if_pos (by simp [hv, vl.ok x hx])]
 simp [h1, h2, hd, e, hv]
theorem write_again {d : BDisk} (hd : DiskValid d = true) {p : Bs} {b : List Int} (hf : FileValid b = true) (h : readF d.store d.tree p = some b) : DiskWrite d p b = some d := by
 obtain ⟨hN, hH⟩ := dd_iff.1 hd
 obtain ⟨x, hx, hxp, hxd, hxl, rfl⟩ := readF_get h
 have ht : d.tree ∈ trees d := by simp [trees]
 have hi := hH.ids d.tree ht x hx
 obtain ⟨K, k1, k2, k3, k4⟩ := store_there hH.vh hi (ids_room hH (trees_len hN) ht hx) hf
 have hput : TreePut d.tree ⟨p, false, x.ids⟩ = some d.tree := by
  have e : (⟨p, false, x.ids⟩ : BItem) = x := by
   obtain ⟨a, b, c⟩ := x
   simp only at hxp hxd
   rw [hxp, hxd]
  rw [e]
  exact put_same (tvalid_iff.2 (hH.vt _ ht)) hx hxd
 have hiK : l4Ids K x.ids = true := ids_stay hH.vh k3 (fun a ha => ⟨by have := (k4 a).1; omega, (k4 a).2⟩) hi
 obtain ⟨L', g1, g2, g3⟩ := free_ok k3 hiK (fun a => by
  have := (k4 a).1
  have h5 := hH.use a
  omega)
 have hu : ∀ a, us L' a = us d.store a := fun a => by have := (k4 a).1; have := (g3 a).1; omega
 have e : L' = d.store := vh_ext hH.vh g2 hu (fun a ha => ((g3 a).2 (by rw [hu]; exact ha)).trans (k4 a).2)
 have hw : l11Write ⟨d.store, d.tree⟩ p (load d.store x.ids) = some ⟨d.store, d.tree⟩ := by
  unfold l11Write
  simp only [k2, hput, hxl, freeOld, g1, Option.getD_some, e]
 unfold DiskWrite
 simp [hd, hf, hw]
theorem hist_twice {d d1 : BDisk} {s p : Bs} (h : HistoryBack d s p = some d1) : HistoryBack d1 s p = some d1 := by
 obtain ⟨b, h1, h2⟩ := hist_get h
 have hv := dwrite_valid h2
 obtain ⟨_, hb, _⟩ := dwrite_get h2
 unfold HistoryBack
 rw [dwrite_readS h2, h1]
 exact write_again hv hb (by rw [← readT_eq hv]; exact dwrite_read h2)
theorem rd_got {R : Option (List Int)} {a : List Int} (ha : ∀ ys, R = some ys → a = ys) (ha' : R = none → a = []) : a = R.getD [] := by
 cases R with
 | none => rw [ha' rfl]; rfl
 | some ys => rw [ha _ rfl]; rfl
theorem ids_at {L : List BHeld} (hS : StoreValid L = true) {ids : List Int} (hl : l4Ids L ids = true) {k : Nat} {a : Int} (hk : ids[k]? = some a) : ∃ j : Nat, l3At L a = (j : Int) ∧ j < L.length ∧ L[j]? = some (getH L a) := by
 have hV := valid_iff.1 hS
 obtain ⟨i, h1, h2, _⟩ := get_some ((us_pos hV).1 (ids_in hV hl (List.mem_of_getElem? hk)))
 refine ⟨i, ?_, (List.getElem?_eq_some_iff.1 h2).1, h2⟩
 unfold l3At
 rw [h1]
 rfl
theorem l11_mem {l : List BItem} {p : Bs} {x : BItem} (h : x ∈ l11Ids l p) : x ∈ l := by
 unfold l11Ids at h
 split at h
 ·split at h
  ·rename_i y hy
   split at h
   ·cases h
   ·rw [List.mem_singleton.1 h]; exact List.mem_of_getElem? hy
  ·cases h
 ·cases h
theorem snap_ids {d : BDisk} (hd : DiskValid d = true) {i : Nat} {z : BSnap} (hz : d.snaps[i]? = some z) {p : Bs} {j : Nat} {x : BItem} (hx : (l11Ids z.tree p)[j]? = some x) : l4Ids d.store x.ids = true := by
 obtain ⟨_, hH⟩ := dd_iff.1 hd
 exact hH.ids z.tree (snap_in hz) x (l11_mem (List.mem_of_getElem? hx))
theorem dv_store {d : BDisk} (hd : DiskValid d = true) : StoreValid d.store = true := valid_iff.2 (dd_iff.1 hd).2.vh
theorem snapread_at {d : BDisk} (hd : DiskValid d = true) {n p : Bs} {i : Nat} {z : BSnap} (hi : atS d.snaps n = some i) (hz : d.snaps[i]? = some z) : SnapRead d n p = readF d.store z.tree p := by
 unfold SnapRead
 rw [hi]
 simp [hd, hz]
theorem snapread_nil {d : BDisk} (hd : DiskValid d = true) {n p : Bs} {i : Nat} {z : BSnap} (hi : atS d.snaps n = some i) (hz : d.snaps[i]? = some z) (h : (l11Ids z.tree p).length = 0) : SnapRead d n p = none := by
 rw [snapread_at hd hi hz]
 unfold readF
 rw [List.length_eq_zero_iff.1 h]
theorem snapread_one {d : BDisk} (hd : DiskValid d = true) {n p : Bs} {i : Nat} {z : BSnap} (hi : atS d.snaps n = some i) (hz : d.snaps[i]? = some z) {x : BItem} (h : (l11Ids z.tree p)[0]? = some x) : SnapRead d n p = some (load d.store x.ids) := by
 rw [snapread_at hd hi hz]
 unfold readF
 cases e : l11Ids z.tree p with
 | nil => rw [e] at h; cases h
 | cons o r =>
  rw [e] at h
  simp only [List.getElem?_cons_zero, Option.some.injEq] at h
  rw [h]
theorem snapread_len (d : BDisk) (n p : Bs) : ((SnapRead d n p).getD []).length ≤ 32 := by
 cases e : SnapRead d n p with
 | none => simp
 | some b =>
  obtain ⟨hd, t, x, ht, hx, rfl⟩ := snap_get e
  obtain ⟨_, hH⟩ := dd_iff.1 hd
  have h1 := load_len hH.vh x.ids
  have h2 := ids_le (hH.ids t ht x hx)
  simp only [Option.getD_some]
  omega
end Sp
namespace Sp
open Fw Nd
def ids (L : List BHeld) : List Int := L.map (·.id)
end Sp
namespace Fw
open Go
theorem nrm : (∀ (p : Prop) [Decidable p], (decide p = true) = p) ∧ (∀ (p : Prop) [Decidable p], (decide p = false) ↔ ¬p) ∧ (∀ {b : Bool}, ((!b) = true) = (b = false)) ∧ (∀ {b : Bool}, ((!b) = false) = (b = true)) ∧
  (∀ {a b : Bool}, ((!a) = b) ↔ (a = !b)) ∧ ((!true) = false) ∧ ((!false) = true) ∧ (∀ {a b : Int}, (¬ a < b) ↔ b ≤ a) ∧ (∀ {a b : Int}, (¬ a ≤ b) ↔ b < a) ∧ (∀ (x y : Bool), ((x && y) = true) = (x = true ∧ y = true)) ∧ (∀ (x y : Bool), ((x || y) = true) = (x = true ∨ y = true)) ∧
  (∀ (x y : Bool), ((x && y) = false) = (x = false ∨ y = false)) ∧ (∀ (x y : Bool), ((x || y) = false) = (x = false ∧ y = false)) ∧ (∀ {α : Type} [BEq α] [LawfulBEq α] {a b : α}, ((a == b) = true) ↔ a = b) ∧ (∀ {α : Type} [BEq α] [LawfulBEq α] {x y : α}, ((x == y) = false) ↔ x ≠ y) ∧ (∀ (b : Bool), decide (b = true) = b) := by
 refine ⟨?_, ?_, ?_, ?_, ?_, ?_, ?_, ?_, ?_, ?_, ?_, ?_, ?_, ?_, ?_, ?_⟩ <;> intros <;> first | rfl | (simp only [decide_eq_true_eq, decide_eq_false_iff_not, Bool.not_eq_true', Bool.not_eq_false', Bool.not_eq_eq_eq_not, Bool.not_true, Bool.not_false, Int.not_lt, Int.not_le, Bool.and_eq_true, Bool.or_eq_true, Bool.and_eq_false_iff, Bool.or_eq_false_iff, beq_iff_eq, beq_eq_false_iff_ne, Bool.decide_eq_true]) | simp
section
variable {P : Program} {n : Nat} {Q : Post} {L : Slots} {ds : List Deferred} {w : World} {ops : Array Oper} {y c : Code} {id : Nat} {l : List Oper}
theorem q1 (h : R P n l.toArray (K P y Q) l L ds w) : R P n ops (K P (.seq (.region id l.toArray false) y) Q) [] L ds w := R_nil (N_K (W_seq (W_region h)))
theorem q2 (h : R P n l.toArray (K P y Q) l L ds w) : W P n Q (.seq (.region id l.toArray false) y) L ds w := W_seq (W_region h)
theorem q3 (h : W P n Q c L ds w) : R P n ops (K P c Q) [] L ds w := R_nil (N_K h)
variable {d : Nat} {op : Op} {ty : TypeId} {ps : String} {af : Array Edge} {S : World → Prop} {f : Nat} {ls : Array Bool} {v : Value} {j : Nat} {b : Bool}
def rdy (l : List Oper) (ls : Array Bool) (i : Nat) : Bool := Region.noSelect l.toArray && Region.free .any l.toArray ls i && (Region.ready .any l.toArray ls).contains i
theorem RD_t (i : Nat) (hi : nth l i = some ⟨some d, op, ty, ps, af, none⟩) (hb : rdy l ls i = true) (hd : Nat.blt d n = true) (hv : ∀ w, S w → VAL P n L ds w ⟨some d, op, ty, ps, af, none⟩ v)
  (h : RD P n l Q S f (ls.setIfInBounds i true) ((d, v) :: L) ds w) : RD P n l Q S (f + 1) ls L ds w := by
 simp only [rdy, Bool.and_eq_true] at hb
 exact RD_take i hi hb.1.1 hb.1.2 hb.2 hd hv h
theorem RD_tg (i : Nat) (hi : nth l i = some ⟨some d, op, ty, ps, af, some (j, b)⟩) (hb : rdy l ls i = true) (hd : Nat.blt d n = true) (hy : ∀ a, FrL n L ds a → yielded l.toArray a.tmps j = some b) (hv : ∀ w, S w → VAL P n L ds w ⟨some d, op, ty, ps, af, none⟩ v)
  (h : RD P n l Q S f (ls.setIfInBounds i true) ((d, v) :: L) ds w) : RD P n l Q S (f + 1) ls L ds w := by
 simp only [rdy, Bool.and_eq_true] at hb
 exact RD_takeg i hi hb.1.1 hb.1.2 hb.2 hd hy hv h
end
theorem Z.{u} {α : Sort u} {a : α} : a = a := rfl
theorem kR {p : Prop} (h : p := by kernel_rfl) : p := h
theorem oM {p : Prop} (h : p := by omega) : p := h
theorem oO {a b : Prop} (h : (a ∧ b) := by exact ⟨by omega, by omega⟩) : a ∧ b := h
theorem aN {p : Prop} (h : p := by first | assumption | rfl | (simp; done) | (simp; omega) | omega) : p := h
def odl (n d : Nat) (L : Slots) (x : Operand) : Option Value := cond (Nat.blt d n) (od L x) none
theorem odl_some {n d : Nat} {L : Slots} {x : Operand} {v : Value} (h : odl n d L x = some v) : Nat.blt d n = true ∧ od L x = some v := by
 unfold odl at h
 cases e : Nat.blt d n with
 | true => rw [e] at h; exact ⟨rfl, h⟩
 | false => rw [e] at h; cases h
def passOk (n d : Nat) (l : List Oper) (L : Slots) (i : Nat) (c : Bool) : Bool := Nat.blt d n && match gs l i with
 | some t => (match lk L t with | some (.bool b) => !(b == c) | _ => false)
 | none => false
def guardOk (l : List Oper) (L : Slots) (i : Nat) (c : Bool) : Bool := match gs l i with
 | some t => (match lk L t with | some (.bool b) => (b == c) | _ => false)
 | none => false
section
variable {P : Program} {n : Nat} {Q : Post} {L : Slots} {ds : List Deferred} {w : World} {ops : Array Oper} {l rest : List Oper} {ty : TypeId} {ps : String} {af : Array Edge} {d : Nat} {x : Operand} {v : Value} {op : Op} {i : Nat} {b : Bool} {S : World → Prop} {f : Nat} {ls : Array Bool}
theorem mV (h : odl n d L x = some v) (next : R P n ops Q rest ((d, v) :: L) ds w) : R P n ops Q (⟨some d, .move x, ty, ps, af, none⟩ :: rest) L ds w := o_move (odl_some h).1 (odl_some h).2 next
theorem aG (h : odl n d L x = some v) (next : R P n ops Q rest ((d, v) :: L) ds w) : R P n ops Q (⟨some d, .assign x, ty, ps, af, none⟩ :: rest) L ds w := o_assign (odl_some h).1 (odl_some h).2 next
theorem rP (h : passOk n d l L i b = true) (next : R P n l.toArray Q rest ((d, undef) :: L) ds w) : R P n l.toArray Q (⟨some d, op, ty, ps, af, some (i, b)⟩ :: rest) L ds w := by
 unfold passOk at h
 simp only [Bool.and_eq_true] at h
 obtain ⟨h1, h2⟩ := h
 cases e : gs l i with
 | none => rw [e] at h2; cases h2
 | some t =>
  rw [e] at h2
  simp only at h2
  split at h2
  ·rename_i c e2
   exact R_pass h1 (yl_ne e e2 (by simpa using h2)) next
  ·cases h2
theorem gR {dd : Option Nat} (h : guardOk l L i b = true) (next : R P n l.toArray Q (⟨dd, op, ty, ps, af, none⟩ :: rest) L ds w) : R P n l.toArray Q (⟨dd, op, ty, ps, af, some (i, b)⟩ :: rest) L ds w := by
 unfold guardOk at h
 cases e : gs l i with
 | none => rw [e] at h; cases h
 | some t =>
  rw [e] at h
  simp only at h
  split at h
  ·rename_i c e2
   obtain rfl : c = b := by simpa using h
   exact R_guard (yl e e2) next
  ·cases h
theorem vM (i : Nat) (hi : nth l i = some ⟨some d, .move x, ty, ps, af, none⟩) (h : odl n d L x = some v) (next : RD P n l Q S f (ls.setIfInBounds i true) ((d, v) :: L) ds w) (hb : rdy l ls i = true := by kernel_rfl) : RD P n l Q S (f + 1) ls L ds w :=
 RD_t i hi hb (odl_some h).1 (fun _ _ => v_move (odl_some h).2) next
end
section
variable {n : Nat} {P : Program} {Q : Post} {L : Slots} {ds : List Deferred} {w : World} {fn : Func} {C : Ending → World → Prop}
theorem rt1 {t : Nat} {v : Value} (hr : fn.results = #[.tmp t]) (h : lk L t = some v) (hR : C (.returned (tupleOf [v])) w) : N n (bodyPost P fn C) .ret L [] w := ret_gen (rs := [.tmp t]) (vs := [v]) hr ⟨h, trivial⟩ hR
theorem rt2 {t t2 : Nat} {v v2 : Value} (hr : fn.results = #[.tmp t, .tmp t2]) (h : lk L t = some v) (h2 : lk L t2 = some v2) (hR : C (.returned (tupleOf [v, v2])) w) : N n (bodyPost P fn C) .ret L [] w := ret_gen (rs := [.tmp t, .tmp t2]) (vs := [v, v2]) hr ⟨h, h2, trivial⟩ hR
theorem W_lp {c : Code} (Lf : Slots) (J : Slots → World → Nat → Prop) (M0 : Slots) (m0 : Nat) (hf : Sub Lf L) (h0 : J M0 w m0)
  (round : ∀ M w m, J M w m → W P n (LP n ds Lf J m Q) c (M ++ Lf) ds w) (hM : Sub M0 L := by repeat (first | exact Sub.nil | refine Sub.cons rfl ?_)) : W P n Q (.loop c) L ds w := W_loop Lf J M0 m0 hf hM h0 round
theorem N_lp {Lf : Slots} {J : Slots → World → Nat → Prop} {m : Nat} {M : Slots} {m' : Nat} (hJ : J M w m') (hm : m' < m) (hM : Sub M L := by repeat (first | exact Sub.nil | refine Sub.cons rfl ?_)) (hf : Sub Lf L := by repeat (first | exact Sub.nil | refine Sub.cons rfl ?_)) : N n (LP n ds Lf J m Q) .normal L ds w := N_LP hJ hM hf hm
end
end Fw
namespace Go.Proofs.Tst
open Go Fw Tryz
theorem w_sameInts_c (w0 : World) (G0 : PH) (hG : PSub G0 w0) (va : Value) (a : List (Int)) (ha : RdI G0 va a) (vb : Value) (b : List (Int)) (hb : RdI G0 vb b) (hab : a = b) :
  Calls Tryz.prog 16 #[va, vb] w0 (Rets w0 (.bool true)) := by
 obtain ⟨aa, ka, rfl⟩ := ha.shape
 have hlima : a.length ≤ 1099511627776 := ha.lim
 obtain ⟨ab, kb, rfl⟩ := hb.shape
 have hlimb : b.length ≤ 1099511627776 := hb.lim
 have hle := congrArg List.length hab
 have H := Hp.init hG
 refine calls_of_W (l := [.slice aa a.length ka, .slice ab b.length kb]) func16 Z ntmps16 Z (q2 (aG Z (q3 (W_seq (q2 (mV Z (o_len_slice underlying33 Z Z (mV Z (o_len_slice underlying33 Z Z (o_neq Z Z Z (q3 ?_)))))))))))
 refine W_cond Z ?_ ?_
 ·intro hc1
  try simp only [nrm] at hc1
  refine q2 (aG Z (q3 (W_ret (N_K_ret (rt1 results16 Z ?_)))))
  exact absurd (show False from by omega) id
 intro hc1'
 try simp only [nrm] at hc1'
 refine W_skip (N_K (W_seq (q2 (aG Z (q3 (W_block ?_))))))
 refine W_lp (hf := (Sub.cons (t := 0) Z (Sub.cons (t := 1) Z Sub.nil))) (J := fun M w m => ∃ (k : Nat) (G : PH), M = [(5, .int .i64 (k : Int))] ∧ PLe G0 G ∧ Hp w0 G0 [] w G [] ∧ (k ≤ a.length) ∧ m = (a.length - k)) (h0 := ⟨0, _, Z, PLe.refl _, H, ?inv, Z⟩) (round := ?round)
 case inv => omega
 case round =>
  rintro _ w2 _ ⟨k, G2, rfl, hle2, H, hinv2, rfl⟩
  have ha := ha.up hle2
  have hb := hb.up hle2
  have hk := hinv2
  refine W_seq (q2 (mV Z (mV Z (o_len_slice underlying33 Z Z (o_lss Z Z Z (q3 ?_))))))
  refine W_cond Z ?_ ?_
  ·intro hc3
   try simp only [nrm] at hc3
   refine W_skip (N_K (W_seq (W_block (W_seq (W_drawK [] 9 H kR Z ?_))))); intro w4 H; have hd4 := PLe.refl G2
   refine vM 0 Z Z (vM 1 Z Z ?_)
   have hl5 := ha.len
   obtain ⟨b5, o5, z5, q5, ha5, hz5, hq5, hE5, hrow5, _⟩ := ha.at (i := k) oM
   clear hq5
   obtain ⟨rfl, hi5⟩ := hE5
   refine RD_t 2 Z kR Z (fun _ hK => v_index_P (i := k) ha5 underlying33 sizeOf3 Z Z Z oM) (RD_t 3 Z kR Z (fun _ hK => v_load_P hK isAgg3 Z (hrow5 0 _ Z)) (vM 4 Z Z (vM 5 Z Z ?_)))
   have hl6 := hb.len
   obtain ⟨b6, o6, z6, q6, ha6, hz6, hq6, hE6, hrow6, _⟩ := hb.at (i := k) oM
   clear hq6
   obtain ⟨rfl, hi6⟩ := hE6
   refine RD_t 6 Z kR Z (fun _ hK => v_index_P (i := k) ha6 underlying33 sizeOf3 Z Z Z oM) (RD_t 7 Z kR Z (fun _ hK => v_load_P hK isAgg3 Z (hrow6 0 _ Z)) (RD_t 8 Z kR Z (fun _ hK => v_neq Z Z) (RD_done kR (N_K ?_))))
   refine W_cond Z ?_ ?_
   ·intro hc7
    try simp only [nrm] at hc7
    refine q2 (aG Z (q3 (W_ret (N_B_ret (N_K_ret (N_LP_ret (N_B_ret (N_K_ret (rt1 results16 Z ?_)))))))))
    exact absurd (show False from by first | omega | (exact hc7 (Sp.same_at hab hz5 hz6))) id
   intro hc7'
   try simp only [nrm] at hc7'
   refine W_skip (N_B (N_K (W_region (mV Z (o_add Z Z Z oO (aG Z (R_nil ?_)))))))
   refine N_lp (hJ := ⟨k + 1, _, Z, hle2, H, ?inv, Z⟩) (hm := ?hm)
   case hm => omega
   case inv => omega
  intro hc3'
  try simp only [nrm] at hc3'
  refine W_exit (N_K_exit (N_LP_exit (N_B_same (N_K (q2 (aG Z (q3 (W_ret (rt1 results16 Z ?_)))))))))
  exact H.rets Z
theorem w_sameHeld_c (w0 : World) (G0 : PH) (hG : PSub G0 w0) (ca : List Value) (a : BHeld) (ha : heldE G0 a ca) (cb : List Value) (b : BHeld) (hb : heldE G0 b cb) (hab : a = b) :
  Calls Tryz.prog 69 #[.agg ca.toArray, .agg cb.toArray] w0 (Rets w0 (.bool true)) := by
 obtain ⟨a1, m1, c1, rfl, hi1, hr1, hj1⟩ := ha; have hn_hr1 := hr1.len; have hx_hr1 : _ ≤ 1099511627776 := hr1.lim
 obtain ⟨a2, m2, c2, rfl, hi2, hr2, hj2⟩ := hb; have hn_hr2 := hr2.len; have hx_hr2 : _ ≤ 1099511627776 := hr2.lim
 have H := Hp.init hG
 refine calls_of_W (l := [_, _]) func69 Z ntmps69 Z (q2 (o_box H Z Z Z ?_)); intro b3 w3 hb3 H
 refine o_box H Z Z Z ?_; intro b4 w4 hb4 H
 refine aG Z (q1 (o_fieldAddr 0 runUnderlying105 Z sizeOf3 Z Z Z (o_load_B 1 H isAgg3 Z Z Z Z (o_fieldAddr 0 runUnderlying105 Z sizeOf3 Z Z Z (o_load_B 0 H isAgg3 Z Z Z Z (o_eql Z Z Z (mV Z ?_)))))))
 refine R_case (t := 10) Z ?_ ?_
 ·intro hc5
  try simp only [nrm] at hc5
  refine gR Z (o_fieldAddr 2 runUnderlying105 Z sizeOf3 Z Z Z (gR Z (o_load_B 1 H isAgg3 Z Z Z Z (gR Z (o_fieldAddr 2 runUnderlying105 Z sizeOf3 Z Z Z (gR Z (o_load_B 0 H isAgg3 Z Z Z Z (gR Z (o_eql Z Z Z (o_pick_t Z Z Z (mV Z ?_)))))))))))
  refine R_case (t := 17) Z ?_ ?_
  ·intro hc6
   try simp only [nrm] at hc6
   refine gR Z (o_fieldAddr 1 runUnderlying105 Z sizeOf33 Z Z Z (gR Z (o_load_B 1 H isAgg33 Z Z Z Z (gR Z (o_fieldAddr 1 runUnderlying105 Z sizeOf33 Z Z Z (gR Z (o_load_B 0 H isAgg33 Z Z Z Z (gR Z (o_call call16 Z Z (w_sameInts_c _ _ H.sub _ _ hr1 _ _ hr2 (congrArg BHeld.bytes hab)) ?_)))))))))
   rintro _ w7 ⟨rfl, ew7⟩; have H := H.step ew7; refine ⟨_, rfl, ?_⟩
   refine o_pick_t Z Z Z (aG Z (q3 (W_ret (rt1 results69 Z ?_))))
   exact H.rets Z
  intro hc6'
  try simp only [nrm] at hc6'
  refine rP Z (rP Z (rP Z (rP Z (rP Z (o_pick_f Z Z Z (aG Z (q3 (W_ret (rt1 results69 Z ?_)))))))))
  exact absurd (show False from by simp [hab] at hc6') id
 intro hc5'
 try simp only [nrm] at hc5'
 refine rP Z (rP Z (rP Z (rP Z (rP Z (o_pick_f Z Z Z (mV Z (rP Z (rP Z (rP Z (rP Z (rP Z (o_pick_f Z Z Z (aG Z (q3 (W_ret ?_)))))))))))))))
 refine rt1 results69 Z ?_
 exact absurd (show False from by simp [hab] at hc5') id
theorem w_sameStore_c (w0 : World) (G0 : PH) (hG : PSub G0 w0) (va : Value) (a : List (BHeld)) (ha : RdH G0 va a) (vb : Value) (b : List (BHeld)) (hb : RdH G0 vb b) (hab : a = b) :
  Calls Tryz.prog 24 #[va, vb] w0 (Rets w0 (.bool true)) := by
 obtain ⟨aa, ka, rfl⟩ := ha.shape
 have hlima : a.length ≤ 1099511627776 := ha.lim
 obtain ⟨ab, kb, rfl⟩ := hb.shape
 have hlimb : b.length ≤ 1099511627776 := hb.lim
 have hle := congrArg List.length hab
 have H := Hp.init hG
 refine calls_of_W (l := [.slice aa a.length ka, .slice ab b.length kb]) func24 Z ntmps24 Z (q2 (aG Z (q3 (W_seq (q2 (mV Z (o_len_slice underlying23 Z Z (mV Z (o_len_slice underlying23 Z Z (o_neq Z Z Z (q3 ?_)))))))))))
 refine W_cond Z ?_ ?_
 ·intro hc1
  try simp only [nrm] at hc1
  refine q2 (aG Z (q3 (W_ret (N_K_ret (rt1 results24 Z ?_)))))
  exact absurd (show False from by omega) id
 intro hc1'
 try simp only [nrm] at hc1'
 refine W_skip (N_K (W_seq (q2 (aG Z (q3 (W_block ?_))))))
 refine W_lp (hf := (Sub.cons (t := 0) Z (Sub.cons (t := 1) Z Sub.nil))) (J := fun M w m => ∃ (k : Nat) (G : PH), M = [(5, .int .i64 (k : Int))] ∧ PLe G0 G ∧ Hp w0 G0 [] w G [] ∧ (k ≤ a.length) ∧ m = (a.length - k)) (h0 := ⟨0, _, Z, PLe.refl _, H, ?inv, Z⟩) (round := ?round)
 case inv => omega
 case round =>
  rintro _ w2 _ ⟨k, G2, rfl, hle2, H, hinv2, rfl⟩
  have ha := ha.up hle2
  have hb := hb.up hle2
  have hk := hinv2
  refine W_seq (q2 (mV Z (mV Z (o_len_slice underlying23 Z Z (o_lss Z Z Z (q3 ?_))))))
  refine W_cond Z ?_ ?_
  ·intro hc3
   try simp only [nrm] at hc3
   refine W_skip (N_K (W_seq (W_block (W_seq (W_drawK [] 10 H kR Z ?_))))); intro w4 H; have hd4 := PLe.refl G2
   refine vM 0 Z Z (vM 1 Z Z ?_)
   have hl5 := ha.len
   obtain ⟨b5, o5, z5, q5, ha5, hz5, hq5, hE5, hrow5, _⟩ := ha.at (i := k) oM
   clear hq5
   obtain ⟨a5, m5, c5, rfl, hi5, hr5, hj5⟩ := hE5; have hn_hr5 := hr5.len; have hx_hr5 : _ ≤ 1099511627776 := hr5.lim
   refine RD_t 2 Z kR Z (fun _ hK => v_index_P (i := k) ha5 underlying23 sizeOf105 Z Z Z oM) (RD_t 3 Z kR Z (fun _ hK => v_loadagg_P hK isAgg105 sizeOf105 Z hrow5 Z) (vM 4 Z Z (vM 5 Z Z ?_)))
   have hl6 := hb.len
   obtain ⟨b6, o6, z6, q6, ha6, hz6, hq6, hE6, hrow6, _⟩ := hb.at (i := k) oM
   clear hq6
   obtain ⟨a6, m6, c6, rfl, hi6, hr6, hj6⟩ := hE6; have hn_hr6 := hr6.len; have hx_hr6 : _ ≤ 1099511627776 := hr6.lim
   refine RD_t 6 Z kR Z (fun _ hK => v_index_P (i := k) ha6 underlying23 sizeOf105 Z Z Z oM) (RD_t 7 Z kR Z (fun _ hK => v_loadagg_P hK isAgg105 sizeOf105 Z hrow6 Z) ?_)
   refine RD_run [8] kR Z (RDs.cons Z ?_ RDs.nil)
   refine o_call call69 Z Z (w_sameHeld_c _ _ H.sub _ _ ⟨_, _, _, Z, ⟨by first | omega | (dsimp only; omega), by first | omega | (dsimp only; omega)⟩, hr5, ⟨by first | omega | (dsimp only; omega), by first | omega | (dsimp only; omega)⟩⟩ _ _ ⟨_, _, _, rfl, ⟨by first | omega | (dsimp only; omega), by first | omega | (dsimp only; omega)⟩, hr6, ⟨by first | omega | (dsimp only; omega), by first | omega | (dsimp only; omega)⟩⟩ (Sp.same_at hab hz5 hz6)) ?_
   rintro _ w7 ⟨rfl, ew7⟩; have H := H.step ew7; refine ⟨_, rfl, ?_⟩
   refine R_nil (N_DK (Kn.of' H hd4 SubL.nil) (RD_t 9 Z kR Z (fun _ hK => v_not Z) (RD_done kR (N_K (W_false Z (W_skip (N_B (N_K (W_region (mV Z (o_add Z Z Z oO (aG Z (R_nil ?_)))))))))))))
   refine N_lp (hJ := ⟨k + 1, _, Z, hle2, H, ?inv, Z⟩) (hm := ?hm)
   case hm => omega
   case inv => omega
  intro hc3'
  try simp only [nrm] at hc3'
  refine W_exit (N_K_exit (N_LP_exit (N_B_same (N_K (q2 (aG Z (q3 (W_ret (rt1 results24 Z ?_)))))))))
  exact H.rets Z
theorem w_sameItem_c (w0 : World) (G0 : PH) (hG : PSub G0 w0) (ca : List Value) (a : BItem) (ha : itemE G0 a ca) (cb : List Value) (b : BItem) (hb : itemE G0 b cb) (hab : a = b) :
  Calls Tryz.prog 70 #[.agg ca.toArray, .agg cb.toArray] w0 (Rets w0 (.bool true)) := by
 obtain ⟨a1, m1, c1, rfl, hi1, hr1⟩ := ha; have hy_hi1 : _ ≤ 16777216 := hi1; have hn_hr1 := hr1.len; have hx_hr1 : _ ≤ 1099511627776 := hr1.lim
 obtain ⟨a2, m2, c2, rfl, hi2, hr2⟩ := hb; have hy_hi2 : _ ≤ 16777216 := hi2; have hn_hr2 := hr2.len; have hx_hr2 : _ ≤ 1099511627776 := hr2.lim
 have H := Hp.init hG
 refine calls_of_W (l := [_, _]) func70 Z ntmps70 Z (q2 (o_box H Z Z Z ?_)); intro b3 w3 hb3 H
 refine o_box H Z Z Z ?_; intro b4 w4 hb4 H
 refine aG Z (q1 (o_fieldAddr 0 runUnderlying37 Z sizeOf9 Z Z Z (o_load_B 1 H isAgg9 Z Z Z Z (o_fieldAddr 0 runUnderlying37 Z sizeOf9 Z Z Z (o_load_B 0 H isAgg9 Z Z Z Z (o_seql Z Z Z (mV Z ?_)))))))
 refine R_case (t := 10) Z ?_ ?_
 ·intro hc5
  try simp only [nrm] at hc5
  refine gR Z (o_fieldAddr 1 runUnderlying37 Z sizeOf4 Z Z Z (gR Z (o_load_B 1 H isAgg4 Z Z Z Z (gR Z (o_fieldAddr 1 runUnderlying37 Z sizeOf4 Z Z Z (gR Z (o_load_B 0 H isAgg4 Z Z Z Z (gR Z (o_beql underlying4 Z Z Z (o_pick_t Z Z Z (mV Z ?_)))))))))))
  refine R_case (t := 17) Z ?_ ?_
  ·intro hc6
   try simp only [nrm] at hc6
   refine gR Z (o_fieldAddr 2 runUnderlying37 Z sizeOf33 Z Z Z (gR Z (o_load_B 1 H isAgg33 Z Z Z Z (gR Z (o_fieldAddr 2 runUnderlying37 Z sizeOf33 Z Z Z (gR Z (o_load_B 0 H isAgg33 Z Z Z Z (gR Z (o_call call16 Z Z (w_sameInts_c _ _ H.sub _ _ hr1 _ _ hr2 (congrArg BItem.ids hab)) ?_)))))))))
   rintro _ w7 ⟨rfl, ew7⟩; have H := H.step ew7; refine ⟨_, rfl, ?_⟩
   refine o_pick_t Z Z Z (aG Z (q3 (W_ret (rt1 results70 Z ?_))))
   exact H.rets Z
  intro hc6'
  try simp only [nrm] at hc6'
  refine rP Z (rP Z (rP Z (rP Z (rP Z (o_pick_f Z Z Z (aG Z (q3 (W_ret (rt1 results70 Z ?_)))))))))
  exact absurd (show False from by simp [hab] at hc6') id
 intro hc5'
 try simp only [nrm] at hc5'
 refine rP Z (rP Z (rP Z (rP Z (rP Z (o_pick_f Z Z Z (mV Z (rP Z (rP Z (rP Z (rP Z (rP Z (o_pick_f Z Z Z (aG Z (q3 (W_ret ?_)))))))))))))))
 refine rt1 results70 Z ?_
 exact absurd (show False from by simp [hab] at hc5') id
theorem w_sameTree_c (w0 : World) (G0 : PH) (hG : PSub G0 w0) (va : Value) (a : List (BItem)) (ha : RdItems G0 va a) (vb : Value) (b : List (BItem)) (hb : RdItems G0 vb b) (hab : a = b) :
  Calls Tryz.prog 25 #[va, vb] w0 (Rets w0 (.bool true)) := by
 obtain ⟨aa, ka, rfl⟩ := ha.shape
 have hlima : a.length ≤ 1099511627776 := ha.lim
 obtain ⟨ab, kb, rfl⟩ := hb.shape
 have hlimb : b.length ≤ 1099511627776 := hb.lim
 have hle := congrArg List.length hab
 have H := Hp.init hG
 refine calls_of_W (l := [.slice aa a.length ka, .slice ab b.length kb]) func25 Z ntmps25 Z (q2 (aG Z (q3 (W_seq (q2 (mV Z (o_len_slice underlying24 Z Z (mV Z (o_len_slice underlying24 Z Z (o_neq Z Z Z (q3 ?_)))))))))))
 refine W_cond Z ?_ ?_
 ·intro hc1
  try simp only [nrm] at hc1
  refine q2 (aG Z (q3 (W_ret (N_K_ret (rt1 results25 Z ?_)))))
  exact absurd (show False from by omega) id
 intro hc1'
 try simp only [nrm] at hc1'
 refine W_skip (N_K (W_seq (q2 (aG Z (q3 (W_block ?_))))))
 refine W_lp (hf := (Sub.cons (t := 0) Z (Sub.cons (t := 1) Z Sub.nil))) (J := fun M w m => ∃ (k : Nat) (G : PH), M = [(5, .int .i64 (k : Int))] ∧ PLe G0 G ∧ Hp w0 G0 [] w G [] ∧ (k ≤ a.length) ∧ m = (a.length - k)) (h0 := ⟨0, _, Z, PLe.refl _, H, ?inv, Z⟩) (round := ?round)
 case inv => omega
 case round =>
  rintro _ w2 _ ⟨k, G2, rfl, hle2, H, hinv2, rfl⟩
  have ha := ha.up hle2
  have hb := hb.up hle2
  have hk := hinv2
  refine W_seq (q2 (mV Z (mV Z (o_len_slice underlying24 Z Z (o_lss Z Z Z (q3 ?_))))))
  refine W_cond Z ?_ ?_
  ·intro hc3
   try simp only [nrm] at hc3
   refine W_skip (N_K (W_seq (W_block (W_seq (W_drawK [] 10 H kR Z ?_))))); intro w4 H; have hd4 := PLe.refl G2
   refine vM 0 Z Z (vM 1 Z Z ?_)
   have hl5 := ha.len
   obtain ⟨b5, o5, z5, q5, ha5, hz5, hq5, hE5, hrow5, _⟩ := ha.at (i := k) oM
   clear hq5
   obtain ⟨a5, m5, c5, rfl, hi5, hr5⟩ := hE5; have hy_hi5 : _ ≤ 16777216 := hi5; have hn_hr5 := hr5.len; have hx_hr5 : _ ≤ 1099511627776 := hr5.lim
   refine RD_t 2 Z kR Z (fun _ hK => v_index_P (i := k) ha5 underlying24 sizeOf37 Z Z Z oM) (RD_t 3 Z kR Z (fun _ hK => v_loadagg_P hK isAgg37 sizeOf37 Z hrow5 Z) (vM 4 Z Z (vM 5 Z Z ?_)))
   have hl6 := hb.len
   obtain ⟨b6, o6, z6, q6, ha6, hz6, hq6, hE6, hrow6, _⟩ := hb.at (i := k) oM
   clear hq6
   obtain ⟨a6, m6, c6, rfl, hi6, hr6⟩ := hE6; have hy_hi6 : _ ≤ 16777216 := hi6; have hn_hr6 := hr6.len; have hx_hr6 : _ ≤ 1099511627776 := hr6.lim
   refine RD_t 6 Z kR Z (fun _ hK => v_index_P (i := k) ha6 underlying24 sizeOf37 Z Z Z oM) (RD_t 7 Z kR Z (fun _ hK => v_loadagg_P hK isAgg37 sizeOf37 Z hrow6 Z) ?_)
   refine RD_run [8] kR Z (RDs.cons Z ?_ RDs.nil)
   refine o_call call70 Z Z (w_sameItem_c _ _ H.sub _ _ ⟨_, _, _, Z, hi5, hr5⟩ _ _ ⟨_, _, _, Z, hi6, hr6⟩ (Sp.same_at hab hz5 hz6)) ?_
   rintro _ w7 ⟨rfl, ew7⟩; have H := H.step ew7; refine ⟨_, rfl, ?_⟩
   refine R_nil (N_DK (Kn.of' H hd4 SubL.nil) (RD_t 9 Z kR Z (fun _ hK => v_not Z) (RD_done kR (N_K (W_false Z (W_skip (N_B (N_K (W_region (mV Z (o_add Z Z Z oO (aG Z (R_nil ?_)))))))))))))
   refine N_lp (hJ := ⟨k + 1, _, Z, hle2, H, ?inv, Z⟩) (hm := ?hm)
   case hm => omega
   case inv => omega
  intro hc3'
  try simp only [nrm] at hc3'
  refine W_exit (N_K_exit (N_LP_exit (N_B_same (N_K (q2 (aG Z (q3 (W_ret (rt1 results25 Z ?_)))))))))
  exact H.rets Z
end Go.Proofs.Tst

namespace Go.Proofs.Tst
open Go Fw Tryz
theorem w_sameSnap_c (w0 : World) (G0 : PH) (hG : PSub G0 w0) (ca : List Value) (a : BSnap) (ha : snapE G0 a ca) (cb : List Value) (b : BSnap) (hb : snapE G0 b cb) (hab : a = b) :
  Calls Tryz.prog 71 #[.agg ca.toArray, .agg cb.toArray] w0 (Rets w0 (.bool true)) := by
 obtain ⟨a1, m1, c1, rfl, hi1, hr1⟩ := ha; have hy_hi1 : _ ≤ 16777216 := hi1; have hn_hr1 := hr1.len; have hx_hr1 : _ ≤ 1099511627776 := hr1.lim
 obtain ⟨a2, m2, c2, rfl, hi2, hr2⟩ := hb; have hy_hi2 : _ ≤ 16777216 := hi2; have hn_hr2 := hr2.len; have hx_hr2 : _ ≤ 1099511627776 := hr2.lim
 have H := Hp.init hG
 refine calls_of_W (l := [_, _]) func71 Z ntmps71 Z (q2 (o_box H Z Z Z ?_)); intro b3 w3 hb3 H
 refine o_box H Z Z Z ?_; intro b4 w4 hb4 H
 refine aG Z (q1 (o_fieldAddr 0 runUnderlying81 Z sizeOf9 Z Z Z (o_load_B 1 H isAgg9 Z Z Z Z (o_fieldAddr 0 runUnderlying81 Z sizeOf9 Z Z Z (o_load_B 0 H isAgg9 Z Z Z Z (o_seql Z Z Z (mV Z ?_)))))))
 refine R_case (t := 10) Z ?_ ?_
 ·intro hc5
  try simp only [nrm] at hc5
  refine gR Z (o_fieldAddr 1 runUnderlying81 Z sizeOf24 Z Z Z (gR Z (o_load_B 1 H isAgg24 Z Z Z Z (gR Z (o_fieldAddr 1 runUnderlying81 Z sizeOf24 Z Z Z (gR Z (o_load_B 0 H isAgg24 Z Z Z Z (gR Z (o_call call25 Z Z (w_sameTree_c _ _ H.sub _ _ hr1 _ _ hr2 (congrArg BSnap.tree hab)) ?_)))))))))
  rintro _ w6 ⟨rfl, ew6⟩; have H := H.step ew6; refine ⟨_, rfl, ?_⟩
  refine o_pick_t Z Z Z (aG Z (q3 (W_ret (rt1 results71 Z ?_))))
  exact H.rets Z
 intro hc5'
 try simp only [nrm] at hc5'
 refine rP Z (rP Z (rP Z (rP Z (rP Z (o_pick_f Z Z Z (aG Z (q3 (W_ret (rt1 results71 Z ?_)))))))))
 exact absurd (show False from by simp [hab] at hc5') id
theorem w_sameSnaps_c (w0 : World) (G0 : PH) (hG : PSub G0 w0) (va : Value) (a : List (BSnap)) (ha : RdSn G0 va a) (vb : Value) (b : List (BSnap)) (hb : RdSn G0 vb b) (hab : a = b) :
  Calls Tryz.prog 29 #[va, vb] w0 (Rets w0 (.bool true)) := by
 obtain ⟨aa, ka, rfl⟩ := ha.shape
 have hlima : a.length ≤ 1099511627776 := ha.lim
 obtain ⟨ab, kb, rfl⟩ := hb.shape
 have hlimb : b.length ≤ 1099511627776 := hb.lim
 have hle := congrArg List.length hab
 have H := Hp.init hG
 refine calls_of_W (l := [.slice aa a.length ka, .slice ab b.length kb]) func29 Z ntmps29 Z (q2 (aG Z (q3 (W_seq (q2 (mV Z (o_len_slice underlying25 Z Z (mV Z (o_len_slice underlying25 Z Z (o_neq Z Z Z (q3 ?_)))))))))))
 refine W_cond Z ?_ ?_
 ·intro hc1
  try simp only [nrm] at hc1
  refine q2 (aG Z (q3 (W_ret (N_K_ret (rt1 results29 Z ?_)))))
  exact absurd (show False from by omega) id
 intro hc1'
 try simp only [nrm] at hc1'
 refine W_skip (N_K (W_seq (q2 (aG Z (q3 (W_block ?_))))))
 refine W_lp (hf := (Sub.cons (t := 0) Z (Sub.cons (t := 1) Z Sub.nil))) (J := fun M w m => ∃ (k : Nat) (G : PH), M = [(5, .int .i64 (k : Int))] ∧ PLe G0 G ∧ Hp w0 G0 [] w G [] ∧ (k ≤ a.length) ∧ m = (a.length - k)) (h0 := ⟨0, _, Z, PLe.refl _, H, ?inv, Z⟩) (round := ?round)
 case inv => omega
 case round =>
  rintro _ w2 _ ⟨k, G2, rfl, hle2, H, hinv2, rfl⟩
  have ha := ha.up hle2
  have hb := hb.up hle2
  have hk := hinv2
  refine W_seq (q2 (mV Z (mV Z (o_len_slice underlying25 Z Z (o_lss Z Z Z (q3 ?_))))))
  refine W_cond Z ?_ ?_
  ·intro hc3
   try simp only [nrm] at hc3
   refine W_skip (N_K (W_seq (W_block (W_seq (W_drawK [] 10 H kR Z ?_))))); intro w4 H; have hd4 := PLe.refl G2
   refine vM 0 Z Z (vM 1 Z Z ?_)
   have hl5 := ha.len
   obtain ⟨b5, o5, z5, q5, ha5, hz5, hq5, hE5, hrow5, _⟩ := ha.at (i := k) oM
   clear hq5
   obtain ⟨a5, m5, c5, rfl, hi5, hr5⟩ := hE5; have hy_hi5 : _ ≤ 16777216 := hi5; have hn_hr5 := hr5.len; have hx_hr5 : _ ≤ 1099511627776 := hr5.lim
   refine RD_t 2 Z kR Z (fun _ hK => v_index_P (i := k) ha5 underlying25 sizeOf81 Z Z Z oM) (RD_t 3 Z kR Z (fun _ hK => v_loadagg_P hK isAgg81 sizeOf81 Z hrow5 Z) (vM 4 Z Z (vM 5 Z Z ?_)))
   have hl6 := hb.len
   obtain ⟨b6, o6, z6, q6, ha6, hz6, hq6, hE6, hrow6, _⟩ := hb.at (i := k) oM
   clear hq6
   obtain ⟨a6, m6, c6, rfl, hi6, hr6⟩ := hE6; have hy_hi6 : _ ≤ 16777216 := hi6; have hn_hr6 := hr6.len; have hx_hr6 : _ ≤ 1099511627776 := hr6.lim
   refine RD_t 6 Z kR Z (fun _ hK => v_index_P (i := k) ha6 underlying25 sizeOf81 Z Z Z oM) (RD_t 7 Z kR Z (fun _ hK => v_loadagg_P hK isAgg81 sizeOf81 Z hrow6 Z) ?_)
   refine RD_run [8] kR Z (RDs.cons Z ?_ RDs.nil)
   refine o_call call71 Z Z (w_sameSnap_c _ _ H.sub _ _ ⟨_, _, _, Z, hi5, hr5⟩ _ _ ⟨_, _, _, Z, hi6, hr6⟩ (Sp.same_at hab hz5 hz6)) ?_
   rintro _ w7 ⟨rfl, ew7⟩; have H := H.step ew7; refine ⟨_, rfl, ?_⟩
   refine R_nil (N_DK (Kn.of' H hd4 SubL.nil) (RD_t 9 Z kR Z (fun _ hK => v_not Z) (RD_done kR (N_K (W_false Z (W_skip (N_B (N_K (W_region (mV Z (o_add Z Z Z oO (aG Z (R_nil ?_)))))))))))))
   refine N_lp (hJ := ⟨k + 1, _, Z, hle2, H, ?inv, Z⟩) (hm := ?hm)
   case hm => omega
   case inv => omega
  intro hc3'
  try simp only [nrm] at hc3'
  refine W_exit (N_K_exit (N_LP_exit (N_B_same (N_K (q2 (aG Z (q3 (W_ret (rt1 results29 Z ?_)))))))))
  exact H.rets Z
theorem w_sameDisk_c (w0 : World) (G0 : PH) (hG : PSub G0 w0) (ca : List Value) (a : BDisk) (ha : diskE G0 a ca) (cb : List Value) (b : BDisk) (hb : diskE G0 b cb) (hab : a = b) :
  Calls Tryz.prog 13 #[.agg ca.toArray, .agg cb.toArray] w0 (Rets w0 (.bool true)) := by
 obtain ⟨a1, m1, c1, a1', m1', c1', a1'', m1'', c1'', rfl, hr1, hr1', hr1''⟩ := ha; have hn_hr1 := hr1.len; have hx_hr1 : _ ≤ 1099511627776 := hr1.lim; have hn_hr1q := hr1'.len; have hx_hr1q : _ ≤ 1099511627776 := hr1'.lim; have hn_hr1qq := hr1''.len; have hx_hr1qq : _ ≤ 1099511627776 := hr1''.lim
 obtain ⟨a2, m2, c2, a2', m2', c2', a2'', m2'', c2'', rfl, hr2, hr2', hr2''⟩ := hb; have hn_hr2 := hr2.len; have hx_hr2 : _ ≤ 1099511627776 := hr2.lim; have hn_hr2q := hr2'.len; have hx_hr2q : _ ≤ 1099511627776 := hr2'.lim; have hn_hr2qq := hr2''.len; have hx_hr2qq : _ ≤ 1099511627776 := hr2''.lim
 have H := Hp.init hG
 refine calls_of_W (l := [_, _]) func13 Z ntmps13 Z (q2 (o_box H Z Z Z ?_)); intro b3 w3 hb3 H
 refine o_box H Z Z Z ?_; intro b4 w4 hb4 H
 refine aG Z (q1 (o_fieldAddr 0 runUnderlying27 Z sizeOf23 Z Z Z (o_load_B 1 H isAgg23 Z Z Z Z (o_fieldAddr 0 runUnderlying27 Z sizeOf23 Z Z Z (o_load_B 0 H isAgg23 Z Z Z Z (o_call call24 Z Z (w_sameStore_c _ _ H.sub _ _ hr1 _ _ hr2 (congrArg BDisk.store hab)) ?_))))))
 rintro _ w5 ⟨rfl, ew5⟩; have H := H.step ew5; refine ⟨_, rfl, ?_⟩
 refine mV Z (gR Z (o_fieldAddr 1 runUnderlying27 Z sizeOf24 Z Z Z (gR Z (o_load_B 1 H isAgg24 Z Z Z Z (gR Z (o_fieldAddr 1 runUnderlying27 Z sizeOf24 Z Z Z (gR Z (o_load_B 0 H isAgg24 Z Z Z Z (gR Z (o_call call25 Z Z (w_sameTree_c _ _ H.sub _ _ hr1' _ _ hr2' (congrArg BDisk.tree hab)) ?_))))))))))
 rintro _ w6 ⟨rfl, ew6⟩; have H := H.step ew6; refine ⟨_, rfl, ?_⟩
 refine o_pick_t Z Z Z (mV Z (gR Z (o_fieldAddr 2 runUnderlying27 Z sizeOf25 Z Z Z (gR Z (o_load_B 1 H isAgg25 Z Z Z Z (gR Z (o_fieldAddr 2 runUnderlying27 Z sizeOf25 Z Z Z (gR Z (o_load_B 0 H isAgg25 Z Z Z Z (gR Z (o_call call29 Z Z (w_sameSnaps_c _ _ H.sub _ _ hr1'' _ _ hr2'' (congrArg BDisk.snaps hab)) ?_)))))))))))
 rintro _ w7 ⟨rfl, ew7⟩; have H := H.step ew7; refine ⟨_, rfl, ?_⟩
 refine o_pick_t Z Z Z (aG Z (q3 (W_ret (rt1 results13 Z ?_))))
 exact H.rets Z
end Go.Proofs.Tst

namespace Go.Proofs.Tst
open Go Fw Tryz
theorem bf27 : BuildFact Tryz.prog 27 [(0, 1), (1, 1), (2, 1)] [.slice none 0 0, .slice none 0 0, .slice none 0 0] := buildFact zeroValue27 runUnderlying27 (fun w => by simp [sizeOf23, sizeOf24, sizeOf25])
theorem bf37 : BuildFact Tryz.prog 37 [(0, 1), (1, 1), (2, 1)] [str [], .bool false, .slice none 0 0] := buildFact zeroValue37 runUnderlying37 (fun w => by simp [sizeOf4, sizeOf9, sizeOf33])
theorem bf47 : BuildFact Tryz.prog 47 [(0, 1), (1, 1)] [.slice none 0 0, .slice none 0 0] := buildFact zeroValue47 runUnderlying47 (fun w => by simp [sizeOf23, sizeOf24])
theorem bf81 : BuildFact Tryz.prog 81 [(0, 1), (1, 1)] [str [], .slice none 0 0] := buildFact zeroValue81 runUnderlying81 (fun w => by simp [sizeOf9, sizeOf24])
theorem bf99 : BuildFact Tryz.prog 99 [(0, 1), (1, 1)] [.map none, .pointer none] := buildFact zeroValue99 runUnderlying99 (fun w => by simp [sizeOf96, sizeOf97])
theorem bf105 : BuildFact Tryz.prog 105 [(0, 1), (1, 1), (2, 1)] [.int .i64 0, .slice none 0 0, .int .i64 0] := buildFact zeroValue105 runUnderlying105 (fun w => by simp [sizeOf3, sizeOf33])
theorem bf118 : BuildFact Tryz.prog 118 [(0, 1), (1, 1)] [.slice none 0 0, .int .i64 0] := buildFact zeroValue118 runUnderlying118 (fun w => by simp [sizeOf3, sizeOf22])
theorem bf131 : BuildFact Tryz.prog 131 [(0, 2), (2, 2), (4, 1)] [.int .i32 0, .int .u32 0, .map none, .pointer none, .slice none 0 0] := buildFact zeroValue131 runUnderlying131 (fun w => by simp [sizeOf99, sizeOf128, sizeOf129])
theorem bf135 : BuildFact Tryz.prog 135 [(0, 1), (1, 1)] [str [], .pointer none] := buildFact zeroValue135 runUnderlying135 (fun w => by simp [sizeOf9, sizeOf97])
theorem bf149 : BuildFact Tryz.prog 149 [(0, 1), (1, 1), (2, 1), (3, 1)] [str [], .bool false, .slice none 0 0, .slice none 0 0] := buildFact zeroValue149 runUnderlying149 (fun w => by simp [sizeOf4, sizeOf9, sizeOf33, sizeOf147])
theorem bf195 : BuildFact Tryz.prog 195 [(0, 1), (1, 1)] [.slice none 0 0, .int .i64 0] := buildFact zeroValue195 runUnderlying195 (fun w => by simp [sizeOf3, sizeOf33])
end Go.Proofs.Tst

namespace Go.Proofs.Tst
open Go Fw Tryz
theorem l6In_c (w0 : World) (n : Int) (lo : Int) (hi : Int)  :
  Calls Tryz.prog 101 #[.int .i64 n, .int .i64 lo, .int .i64 hi] w0 (Rets w0 (.bool (Sp.l6In n lo hi))) := by
 have H := Hp.init0 w0
 refine calls_of_W (l := [.int .i64 n, .int .i64 lo, .int .i64 hi]) func101 Z ntmps101 Z (q2 (aG Z (q1 (mV Z (mV Z (o_geq Z Z Z (mV Z ?_)))))))
 refine R_case (t := 10) Z ?_ ?_
 ·intro hc1
  try simp only [nrm] at hc1
  refine gR Z (mV Z (gR Z (mV Z (gR Z (o_leq Z Z Z (o_pick_t Z Z Z (aG Z (q3 (W_ret (rt1 results101 Z ?_))))))))))
  exact H.rets (congrArg Value.bool (by unfold Sp.l6In; rw [Bool.eq_iff_iff]; simp; omega))
 intro hc1'
 try simp only [nrm] at hc1'
 refine rP Z (rP Z (rP Z (o_pick_f Z Z Z (aG Z (q3 (W_ret (rt1 results101 Z ?_)))))))
 exact H.rets (congrArg Value.bool (by unfold Sp.l6In; rw [Bool.eq_iff_iff]; simp; omega))
theorem l1Word_c (w0 : World) (s : Bs) (hs : s.length ≤ 16777216)  :
  Calls Tryz.prog 45 #[str s] w0 (Rets w0 (.bool (Sp.l1Word s))) := by
 have H := Hp.init0 w0
 refine calls_of_W (l := [str s]) func45 Z ntmps45 Z (q2 (aG Z (q3 (W_seq (q2 (aG Z (q3 (W_block ?_))))))))
 refine W_lp (hf := (Sub.cons (t := 0) Z Sub.nil)) (J := fun M w m => ∃ (k : Nat) (G : PH), M = [(3, .int .i64 (k : Int))] ∧ PLe (fun _ => none) G ∧ Hp w0 (fun _ => none) [] w G [] ∧ (k ≤ s.length ∧ (s.take k).all Sp.low = true) ∧ m = (s.length - k)) (h0 := ⟨0, _, Z, PLe.refl _, H, ?inv, Z⟩) (round := ?round)
 case inv => exact ⟨by omega, by simp⟩
 case round =>
  rintro _ w1 _ ⟨k, G1, rfl, hle1, H, hinv1, rfl⟩
  obtain ⟨hk, hall⟩ := hinv1
  refine W_seq (q2 (mV Z (mV Z (o_len_str underlying9 Z Z (o_lss Z Z Z (q3 ?_))))))
  refine W_cond Z ?_ ?_
  ·intro hc2
   try simp only [nrm] at hc2
   refine W_skip (N_K (W_seq (W_block (q2 (mV Z (mV Z (o_index_str underlying9 Z Z Z Z oM ?_))))))); intro ch3 hch3; have hlt3 := ch3.toNat_lt
   refine o_lss Z Z Z (mV Z ?_)
   refine R_case (t := 14) Z ?_ ?_
   ·intro hc4
    try simp only [nrm] at hc4
    refine rP Z (rP Z (rP Z (rP Z (o_pick_t Z Z Z (q3 (W_true Z (q2 (aG Z (q3 (W_ret (N_B_ret (N_K_ret (N_LP_ret (N_B_ret (N_K_ret ?_)))))))))))))))
    refine rt1 results45 Z ?_
    exact H.rets (congrArg Value.bool (by rw [Sp.l1Word, Sp.all_false hch3 (by simp [Sp.low]; omega)]; rfl))
   intro hc4'
   try simp only [nrm] at hc4'
   refine gR Z (mV Z (gR Z (mV Z (gR Z (o_index_str underlying9 Z Z Z Z oM ?_))))); intro ch5 hch5; have hlt5 := ch5.toNat_lt
   obtain rfl : ch5 = ch3 := Option.some.inj (hch5.symm.trans hch3)
   refine gR Z (o_gtr Z Z Z (o_pick_f Z Z Z (q3 ?_)))
   refine W_cond Z ?_ ?_
   ·intro hc6
    try simp only [nrm] at hc6
    refine q2 (aG Z (q3 (W_ret (N_B_ret (N_K_ret (N_LP_ret (N_B_ret (N_K_ret (rt1 results45 Z ?_)))))))))
    exact H.rets (congrArg Value.bool (by rw [Sp.l1Word, Sp.all_false hch5 (by simp [Sp.low]; omega)]; rfl))
   intro hc6'
   try simp only [nrm] at hc6'
   refine W_skip (N_B (N_K (W_region (mV Z (o_add Z Z Z oO (aG Z (R_nil ?_)))))))
   refine N_lp (hJ := ⟨k + 1, _, Z, hle1, H, ?inv, Z⟩) (hm := ?hm)
   case hm => omega
   case inv => exact ⟨by omega, Sp.all_take hall hch5 (by simp [Sp.low]; omega)⟩
  intro hc2'
  try simp only [nrm] at hc2'
  refine W_exit (N_K_exit (N_LP_exit (N_B_same (N_K (q2 (mV Z (o_len_str underlying9 Z Z (o_call call101 Z Z (l6In_c _ _ _ _ ) ?_))))))))
  rintro _ w8 ⟨rfl, ew8⟩; have H := H.step ew8; refine ⟨_, rfl, ?_⟩
  refine aG Z (q3 (W_ret (rt1 results45 Z ?_)))
  obtain rfl : k = s.length := by omega
  rw [List.take_length] at hall
  exact H.rets (congrArg Value.bool (by simp only [Sp.l1Word, Sp.l6In, hall]; rw [Bool.eq_iff_iff]; simp; omega))
theorem l1Cut_c (w0 : World) (G0 : PH) (hG : PSub G0 w0) (s : Bs) (hs : s.length ≤ 16777216)  :
  Calls Tryz.prog 207 #[str s] w0 (RetP w0 G0 (fun G v => RdT G v (Sp.cut s))) := by
 have H := Hp.init hG
 refine calls_of_W (l := [str s]) func207 Z ntmps207 Z (q2 (aG Z (q1 (o_buildSlice H underlying69 sizeOf9 (fun w => ⟨_, zeroValue9 w, Z⟩) Z Z Z Z Z Z Z ?_)))); intro b1 w1 hb1 H
 have H := H.blkAcc 1 (k := 0) (n := 0) rfl rfl (by decide)
 refine aG Z (q1 (aG Z (q3 (W_seq (q2 (aG Z (q3 (W_block ?_))))))))
 refine W_lp (hf := (Sub.cons (t := 0) Z (Sub.cons (t := 2) Z Sub.nil))) (J := fun M w m => ∃ (v : Value) (n : Nat) (cs : List Value) (xs : List (Bs)) (f k : Nat) (G : PH), M = [(4, .int .i64 (f : Int)), (5, .int .i64 (k : Int)), (3, v)] ∧ PLe G0 G ∧ Hp w0 G0 [] w G [acc 9 1 v n cs] ∧ (Chk strE 1 G cs xs ∧ n = xs.length ∧ f ≤ k ∧ k ≤ s.length ∧ xs.length ≤ k ∧ xs ++ Sp.cut (s.drop f) = Sp.cut s ∧ ∀ j, f ≤ j → j < k → s[j]? ≠ some 47) ∧ m = (s.length - k)) (h0 := ⟨_, _, _, [], 0, 0, _, Z, PLe.refl _, H, ?inv, Z⟩) (round := ?round)
 case inv => exact ⟨(Chk.nil (E := strE) (sz := 1) (G := G0)),  by first | rfl | simp | (simp; omega) | omega, (by simp)⟩
 case round =>
  rintro _ w2 _ ⟨v, n, cs, xs, f, k, G2, rfl, hle2, H, hinv2, rfl⟩
  obtain ⟨hchk2_0, hn2_0, hinv2⟩ := hinv2
  obtain ⟨av2_0, cv2_0, rfl⟩ := H.accShape (k := 0) rfl
  obtain ⟨h1, h2, h3, h4, h5⟩ := hinv2
  refine W_seq (q2 (mV Z (mV Z (o_len_str underlying9 Z Z (o_lss Z Z Z (q3 ?_))))))
  refine W_cond Z ?_ ?_
  ·intro hc3
   try simp only [nrm] at hc3
   refine W_skip (N_K (W_seq (W_block (q2 (mV Z (mV Z (o_index_str underlying9 Z Z Z Z oM ?_))))))); intro ch4 hch4; have hlt4 := ch4.toNat_lt
   refine o_eql Z Z Z (q3 ?_)
   refine W_cond Z ?_ ?_
   ·intro hc5
    try simp only [nrm] at hc5
    refine q2 (mV Z (mV Z (mV Z (mV Z (o_slice_str underlying9 Z Z Z Z oM oM oM (o_buildSlice H underlying69 sizeOf9 (fun w => ⟨_, zeroValue9 w, Z⟩) Z Z Z Z Z Z Z ?_)))))); intro b7 w7 hb7 H
    refine o_append1 0 H (sz := 1) (bytes := 16) underlying69 typeInfo9 ⟨_, Z, Z⟩ Z Z Z Z Z Z Z Z Z Z oM Z ?_; intro v8 w8 H
    have hchk8 := hchk2_0.snoc (show strE _ ((s.drop f).take (k - f)) _ from ⟨rfl, (by (first | assumption | (refine Sp.l5Parent_lim ?_; assumption) | (simp; done) | (simp; omega) | omega))⟩) rfl
    obtain ⟨av8, cv8, rfl⟩ := H.accShape (k := 0) rfl
    refine aG Z (q3 (W_region (mV Z (o_add Z Z Z oO (aG Z (R_nil (N_B (N_K (W_region (mV Z (o_add Z Z Z oO (aG Z (R_nil ?_)))))))))))))
    refine N_lp (hJ := ⟨_, _, _, (xs ++ [((s.drop f).take (k - f))]), k + 1, k + 1, _, Z, hle2, H, ?inv, Z⟩) (hm := ?hm)
    case hm => omega
    case inv => exact ⟨hchk8, aN, (by exact ⟨by omega, by omega, by simp; omega, Sp.cut_step h4 h1 (hch4 ▸ congrArg some (Sp.is47 oM)) h5, fun j g1 g2 => by omega⟩)⟩
   intro hc5'
   try simp only [nrm] at hc5'
   refine W_skip (N_B (N_K (W_region (mV Z (o_add Z Z Z oO (aG Z (R_nil ?_)))))))
   refine N_lp (hJ := ⟨_, _, _, xs, f, k + 1, _, Z, hle2, H, ?inv, Z⟩) (hm := ?hm)
   case hm => omega
   case inv => exact ⟨hchk2_0, aN, (by exact ⟨by omega, by omega, by omega, h4, Sp.noslash_succ h5 (hch4 ▸ Sp.not47 oM)⟩)⟩
  intro hc3'
  try simp only [nrm] at hc3'
  refine W_exit (N_K_exit (N_LP_exit (N_B_same (N_K (q2 (mV Z (mV Z (mV Z (o_slice_str_from underlying9 Z Z Z oM oM (o_buildSlice H underlying69 sizeOf9 (fun w => ⟨_, zeroValue9 w, Z⟩) Z Z Z Z Z Z Z ?_)))))))))); intro b13 w13 hb13 H
  refine o_append1 0 H (sz := 1) (bytes := 16) underlying69 typeInfo9 ⟨_, Z, Z⟩ Z Z Z Z Z Z Z Z Z Z oM Z ?_; intro v14 w14 H
  have hchk14 := hchk2_0.snoc (show strE _ (s.drop f) _ from ⟨rfl, (by (first | assumption | (refine Sp.l5Parent_lim ?_; assumption) | (simp; done) | (simp; omega) | omega))⟩) rfl
  obtain ⟨av14, cv14, rfl⟩ := H.accShape (k := 0) rfl
  refine aG Z (q3 (W_ret (rt1 results207 Z ?_)))
  obtain ⟨G515, H, hsg515, hsr515⟩ := H.shut' (k := 0) rfl hchk14 aN aN
  exact H.retP (by rw [← Sp.cut_end h4 h5 oM]; exact hsr515)
theorem PathValid_c (w0 : World) (G0 : PH) (hG : PSub G0 w0) (path : Bs) (hpath : path.length ≤ 16777216)  :
  Calls Tryz.prog 183 #[str path] w0 (Rets w0 (.bool (Sp.PathValid path))) := by
 have H := Hp.init hG
 refine calls_of_W (l := [str path]) func183 Z ntmps183 Z (q2 (aG Z (q1 (mV Z (o_call call207 Z Z (l1Cut_c _ _ H.sub _ hpath ) ?_)))))
 rintro _ w1 ⟨G1, u1_0, g1, rfl, hr1_0⟩
 have H := H.grow g1
 obtain ⟨a1_0, k1_0, rfl⟩ := hr1_0.shape; have hx_hr1_0 : _ ≤ 1099511627776 := hr1_0.lim
 refine ⟨_, Z, ?_⟩
 refine aG Z (q3 (W_seq (q2 (aG Z (q3 (W_block ?_))))))
 refine W_lp (hf := (Sub.cons (t := 3) Z Sub.nil)) (J := fun M w m => ∃ (k : Nat) (G : PH), M = [(4, .int .i64 (k : Int))] ∧ PLe G1 G ∧ Hp w0 G0 [] w G [] ∧ (k ≤ (Sp.cut path).length ∧ ((Sp.cut path).take k).all Sp.l1Word = true) ∧ m = ((Sp.cut path).length - k)) (h0 := ⟨0, _, Z, PLe.refl _, H, ?inv, Z⟩) (round := ?round)
 case inv => simp
 case round =>
  rintro _ w2 _ ⟨k, G2, rfl, hle2, H, hinv2, rfl⟩
  have hr1_0 := hr1_0.up hle2
  obtain ⟨hk, hall⟩ := hinv2
  refine W_seq (q2 (mV Z (mV Z (o_len_slice underlying69 Z Z (o_lss Z Z Z (q3 ?_))))))
  refine W_cond Z ?_ ?_
  ·intro hc3
   try simp only [nrm] at hc3
   refine W_skip (N_K (W_seq (W_block (q2 (mV Z (mV Z (o_index_P k hr1_0 underlying69 sizeOf9 Z Z Z Z aN ?_))))))); intro b4 o4 z4 q4 hz4 hE4 hrow4
   obtain ⟨rfl, hi4⟩ := hE4; have hy_hi4 : _ ≤ 16777216 := hi4
   refine o_load_P H isAgg9 Z Z (hrow4 0 _ Z) (o_call call45 Z Z (l1Word_c _ _ hi4 ) ?_)
   rintro _ w5 ⟨rfl, ew5⟩; have H := H.step ew5; refine ⟨_, rfl, ?_⟩
   refine o_not Z Z (q3 ?_)
   refine W_cond Z ?_ ?_
   ·intro hc6
    try simp only [nrm] at hc6
    refine q2 (aG Z (q3 (W_ret (N_B_ret (N_K_ret (N_LP_ret (N_B_ret (N_K_ret (rt1 results183 Z ?_)))))))))
    exact H.rets (congrArg Value.bool (by rw [Sp.PathValid, Sp.all_false hz4 hc6]; rfl))
   intro hc6'
   try simp only [nrm] at hc6'
   refine W_skip (N_B (N_K (W_region (mV Z (o_add Z Z Z oO (aG Z (R_nil ?_)))))))
   refine N_lp (hJ := ⟨k + 1, _, Z, hle2, H, ?inv, Z⟩) (hm := ?hm)
   case hm => omega
   case inv => exact ⟨by omega, Sp.all_take hall hz4 hc6'⟩
  intro hc3'
  try simp only [nrm] at hc3'
  refine W_exit (N_K_exit (N_LP_exit (N_B_same (N_K (q2 (mV Z (o_len_slice underlying69 Z Z (o_leq Z Z Z (aG Z (q3 (W_ret (rt1 results183 Z ?_))))))))))))
  obtain rfl : k = (Sp.cut path).length := by omega
  rw [List.take_length] at hall
  exact H.rets (congrArg Value.bool (by simp only [Sp.PathValid, hall, Bool.true_and]; rw [Bool.eq_iff_iff]; simp; omega))
theorem l1Last_c (w0 : World) (path : Bs) (hpath : path.length ≤ 16777216)  :
  Calls Tryz.prog 208 #[str path] w0 (Rets w0 (.int .i64 (Sp.l1Last path))) := by
 have H := Hp.init0 w0
 refine calls_of_W (l := [str path]) func208 Z ntmps208 Z (q2 (aG Z (q1 (aG Z (q3 (W_seq (q2 (aG Z (q3 (W_block ?_))))))))))
 refine W_lp (hf := (Sub.cons (t := 0) Z (Sub.cons (t := 2) Z Sub.nil))) (J := fun M w m => ∃ (k : Nat) (o : Option Nat) (G : PH), M = [(3, .int .i64 (Sp.optI o)), (4, .int .i64 (k : Int))] ∧ PLe (fun _ => none) G ∧ Hp w0 (fun _ => none) [] w G [] ∧ (k ≤ path.length ∧ o = (List.range k).foldl (Sp.lastF path) none) ∧ m = (path.length - k)) (h0 := ⟨0, none, _, Z, PLe.refl _, H, ?inv, Z⟩) (round := ?round)
 case inv => exact ⟨by omega, rfl⟩
 case round =>
  rintro _ w1 _ ⟨k, o, G1, rfl, hle1, H, hinv1, rfl⟩
  obtain ⟨hk, hall⟩ := hinv1
  refine W_seq (q2 (mV Z (mV Z (o_len_str underlying9 Z Z (o_lss Z Z Z (q3 ?_))))))
  refine W_cond Z ?_ ?_
  ·intro hc2
   try simp only [nrm] at hc2
   refine W_skip (N_K (W_seq (W_block (q2 (mV Z (mV Z (o_index_str underlying9 Z Z Z Z oM ?_))))))); intro ch3 hch3; have hlt3 := ch3.toNat_lt
   refine o_eql Z Z Z (q3 ?_)
   refine W_cond Z ?_ ?_
   ·intro hc4
    try simp only [nrm] at hc4
    refine W_region (mV Z (aG Z (R_nil (N_B (N_K (W_region (mV Z (o_add Z Z Z oO (aG Z (R_nil ?_))))))))))
    refine N_lp (hJ := ⟨k + 1, some k, _, Z, hle1, H, ?inv, Z⟩) (hm := ?hm)
    case hm => omega
    case inv => exact ⟨by omega, by rw [Sp.last_succ, ← hall, Sp.lastF, hch3, if_pos (congrArg some (Sp.is47 oM))]⟩
   intro hc4'
   try simp only [nrm] at hc4'
   refine W_skip (N_B (N_K (W_region (mV Z (o_add Z Z Z oO (aG Z (R_nil ?_)))))))
   refine N_lp (hJ := ⟨k + 1, o, _, Z, hle1, H, ?inv, Z⟩) (hm := ?hm)
   case hm => omega
   case inv => exact ⟨by omega, by rw [Sp.last_succ, ← hall, Sp.lastF, hch3, if_neg (Sp.not47 oM)]⟩
  intro hc2'
  try simp only [nrm] at hc2'
  refine W_exit (N_K_exit (N_LP_exit (N_B_same (N_K (q2 (mV Z (aG Z (q3 (W_ret (rt1 results208 Z ?_))))))))))
  obtain rfl : k = path.length := by omega
  exact H.rets (congrArg (Value.int .i64) (by rw [hall]; rfl))
theorem l5Parent_c (w0 : World) (path : Bs) (hpath : path.length ≤ 16777216)  :
  Calls Tryz.prog 184 #[str path] w0 (Rets w0 (str (Sp.l5Parent path))) := by
 have hl := Sp.l1Last_le path
 have H := Hp.init0 w0
 refine calls_of_W (l := [str path]) func184 Z ntmps184 Z (q2 (aG Z (q1 (mV Z (mV Z (o_call call208 Z Z (l1Last_c _ _ hpath ) ?_))))))
 rintro _ w1 ⟨rfl, ew1⟩; have H := H.step ew1; refine ⟨_, rfl, ?_⟩
 refine o_max Z Z Z (o_slice_str_to underlying9 Z Z Z oM oM (aG Z (q3 (W_ret (rt1 results184 Z ?_)))))
 exact H.rets Z
theorem l5At_c (w0 : World) (G0 : PH) (hG : PSub G0 w0) (vlist : Value) (list : List (BItem)) (hlist : RdItems G0 vlist list) (path : Bs) (hpath : path.length ≤ 16777216)  :
  Calls Tryz.prog 112 #[vlist, str path] w0 (Rets w0 (.int .i64 (Sp.l5At list path))) := by
 obtain ⟨alist, klist, rfl⟩ := hlist.shape
 have hlimlist : list.length ≤ 1099511627776 := hlist.lim
 have H := Hp.init hG
 refine calls_of_W (l := [.slice alist list.length klist, str path]) func112 Z ntmps112 Z (q2 (aG Z (q3 (W_seq (q2 (aG Z (q3 (W_block ?_))))))))
 refine W_lp (hf := (Sub.cons (t := 0) Z (Sub.cons (t := 1) Z Sub.nil))) (J := fun M w m => ∃ (k : Nat) (G : PH), M = [(5, .int .i64 (k : Int))] ∧ PLe G0 G ∧ Hp w0 G0 [] w G [] ∧ (k ≤ list.length ∧ (∀ j, j < k → ∀ y, list[j]? = some y → decide (y.path = path) = false)) ∧ m = (list.length - k)) (h0 := ⟨0, _, Z, PLe.refl _, H, ?inv, Z⟩) (round := ?round)
 case inv => exact ⟨by omega, fun j hj => by omega⟩
 case round =>
  rintro _ w1 _ ⟨k, G1, rfl, hle1, H, hinv1, rfl⟩
  have hlist := hlist.up hle1
  obtain ⟨hk, hall⟩ := hinv1
  refine W_seq (q2 (mV Z (mV Z (o_len_slice underlying24 Z Z (o_lss Z Z Z (q3 ?_))))))
  refine W_cond Z ?_ ?_
  ·intro hc2
   try simp only [nrm] at hc2
   refine W_skip (N_K (W_seq (W_block (q2 (mV Z (mV Z (o_index_P k hlist underlying24 sizeOf37 Z Z Z Z aN ?_))))))); intro b3 o3 z3 q3 hz3 hE3 hrow3
   obtain ⟨a3, m3, c3, rfl, hi3, hr3⟩ := hE3; have hy_hi3 : _ ≤ 16777216 := hi3; have hn_hr3 := hr3.len; have hx_hr3 : _ ≤ 1099511627776 := hr3.lim
   refine o_fieldAddr 0 runUnderlying37 Z sizeOf9 Z Z Z (o_load_P H isAgg9 Z Z (hrow3 0 _ Z) (mV Z (o_seql Z Z Z (q3 ?_))))
   refine W_cond Z ?_ ?_
   ·intro hc4
    try simp only [nrm] at hc4
    refine q2 (mV Z (aG Z (q3 (W_ret (N_B_ret (N_K_ret (N_LP_ret (N_B_ret (N_K_ret (rt1 results112 Z ?_))))))))))
    exact H.rets (congrArg (Value.int .i64) (by rw [Sp.l5At, Sp.atI, Sp.find_at hall hz3 (by simp; exact hc4)]; rfl))
   intro hc4'
   try simp only [nrm] at hc4'
   refine W_skip (N_B (N_K (W_region (mV Z (o_add Z Z Z oO (aG Z (R_nil ?_)))))))
   refine N_lp (hJ := ⟨k + 1, _, Z, hle1, H, ?inv, Z⟩) (hm := ?hm)
   case hm => omega
   case inv => exact ⟨by omega, Sp.none_succ hall hz3 (by simp; exact hc4')⟩
  intro hc2'
  try simp only [nrm] at hc2'
  refine W_exit (N_K_exit (N_LP_exit (N_B_same (N_K (q2 (aG Z (q3 (W_ret (rt1 results112 Z ?_)))))))))
  exact H.rets (congrArg (Value.int .i64) (by rw [Sp.l5At, Sp.atI, Sp.find_none hall oM]; rfl))
theorem l5Home_c (w0 : World) (G0 : PH) (hG : PSub G0 w0) (vlist : Value) (list : List (BItem)) (hlist : RdItems G0 vlist list) (path : Bs) (hpath : path.length ≤ 16777216)  :
  Calls Tryz.prog 146 #[vlist, str path] w0 (Rets w0 (.bool (Sp.l5Home list path))) := by
 obtain ⟨alist, klist, rfl⟩ := hlist.shape
 have hlimlist : list.length ≤ 1099511627776 := hlist.lim
 have H := Hp.init hG
 refine calls_of_W (l := [.slice alist list.length klist, str path]) func146 Z ntmps146 Z (q2 (aG Z (q1 (mV Z (o_call call184 Z Z (l5Parent_c _ _ hpath ) ?_)))))
 rintro _ w1 ⟨rfl, ew1⟩; have H := H.step ew1; refine ⟨_, rfl, ?_⟩
 refine aG Z (q1 (mV Z (mV Z ?_)))
 refine o_call call112 Z Z (l5At_c _ _ H.sub _ _ hlist _ (by (first | assumption | (refine Sp.l5Parent_lim ?_; assumption) | (simp; done) | (simp; omega) | omega)) ) ?_
 rintro _ w2 ⟨rfl, ew2⟩; have H := H.step ew2; refine ⟨_, rfl, ?_⟩
 refine aG Z (q1 (mV Z (o_seql Z Z Z (mV Z ?_))))
 refine R_case (t := 14) Z ?_ ?_
 ·intro hc3
  try simp only [nrm] at hc3
  refine rP Z (rP Z (rP Z (R_pass Z (yl_un Z Z) (R_pass Z (yl_un Z Z) (R_pass Z (yl_un Z Z) (R_pass Z (yl_un Z Z) (R_pass Z (yl_un Z Z) (rP Z (o_pick_t Z Z Z (aG Z (q3 (W_ret (rt1 results146 Z ?_)))))))))))))
  exact H.rets (congrArg Value.bool (by simp [Sp.l5Home, hc3]))
 intro hc3'
 try simp only [nrm] at hc3'
 refine gR Z (mV Z (gR Z (o_geq Z Z Z (gR Z (mV Z ?_)))))
 refine R_case (t := 17) Z ?_ ?_
 ·intro hc4
  try simp only [nrm] at hc4
  obtain ⟨i, x, hi1, hi2, hi3, hi4, hi5⟩ := Sp.at_nat hc4
  refine gR Z (mV Z (gR Z (mV Z (gR Z (o_index_P i hlist underlying24 sizeOf37 Z Z Z hi2 aN ?_))))); intro b5 o5 z5 q5 hz5 hE5 hrow5
  obtain ⟨a5, m5, c5, rfl, hi5, hr5⟩ := hE5; have hy_hi5 : _ ≤ 16777216 := hi5; have hn_hr5 := hr5.len; have hx_hr5 : _ ≤ 1099511627776 := hr5.lim
  refine gR Z (o_fieldAddr 1 runUnderlying37 Z sizeOf4 Z Z Z (gR Z (o_load_P H isAgg4 Z Z (hrow5 1 _ Z) (gR Z (o_pick_t Z Z Z (o_pick_f Z Z Z (aG Z (q3 (W_ret (rt1 results146 Z ?_))))))))))
  exact H.rets (congrArg Value.bool (by simp [Sp.l5Home, hc3', Sp.atI, hi1, hz5]))
 intro hc4'
 try simp only [nrm] at hc4'
 refine rP Z (rP Z (rP Z (rP Z (rP Z (gR Z (o_pick_f Z Z Z (o_pick_f Z Z Z (aG Z (q3 (W_ret (rt1 results146 Z ?_)))))))))))
 exact H.rets (congrArg Value.bool (by simp [Sp.l5Home, hc3', Sp.atI, Sp.at_none hc4']))
theorem l5Item_c (w0 : World) (G0 : PH) (hG : PSub G0 w0) (cx : List Value) (x : BItem) (hx : itemE G0 x cx)  :
  Calls Tryz.prog 145 #[.agg cx.toArray] w0 (Rets w0 (.bool (Sp.l5Item x))) := by
 obtain ⟨a1, m1, c1, rfl, hi1, hr1⟩ := hx; have hy_hi1 : _ ≤ 16777216 := hi1; have hn_hr1 := hr1.len; have hx_hr1 : _ ≤ 1099511627776 := hr1.lim
 have H := Hp.init hG
 refine calls_of_W (l := [_]) func145 Z ntmps145 Z (q2 (o_box H Z Z Z ?_)); intro b2 w2 hb2 H
 refine aG Z (q3 (W_seq (q2 (aG Z (q3 (W_block ?_))))))
 obtain ⟨ln3, hln3, H⟩ := H.name (k := 0) rfl
 refine W_lp (hf := (Sub.cons (t := 1) Z Sub.nil)) (J := fun M w m => ∃ (k : Nat) (G : PH), M = [(3, .int .i64 (k : Int))] ∧ PLe G0 G ∧ Hp w0 G0 [] w G [blk b2 (cl ln3 37)] ∧ (k ≤ x.ids.length ∧ (x.ids.take k).all (Sp.idOk x.dir) = true) ∧ m = (x.ids.length - k)) (h0 := ⟨0, _, Z, PLe.refl _, H, ?inv, Z⟩) (round := ?round)
 case inv => exact ⟨by omega, by simp⟩
 case round =>
  rintro _ w4 _ ⟨k, G4, rfl, hle4, H, hinv4, rfl⟩
  subst hln3
  have hr1 := hr1.up hle4
  obtain ⟨hk, hall⟩ := hinv4
  refine W_seq (q2 (mV Z (o_fieldAddr 2 runUnderlying37 Z sizeOf33 Z Z Z (o_load_B 0 H isAgg33 Z Z Z Z (o_len_slice underlying33 Z Z (o_lss Z Z Z (q3 ?_)))))))
  refine W_cond Z ?_ ?_
  ·intro hc5
   try simp only [nrm] at hc5
   refine W_skip (N_K (W_seq (W_block (q2 (o_fieldAddr 1 runUnderlying37 Z sizeOf4 Z Z Z (o_load_B 0 H isAgg4 Z Z Z Z (mV Z ?_)))))))
   refine R_case (t := 13) Z ?_ ?_
   ·intro hc6
    try simp only [nrm] at hc6
    refine rP Z (rP Z (rP Z (rP Z (rP Z (rP Z (rP Z (o_pick_t Z Z Z (q3 (W_true Z (q2 (aG Z (q3 (W_ret (N_B_ret (N_K_ret ?_)))))))))))))))
    refine N_LP_ret (N_B_ret (N_K_ret (rt1 results145 Z ?_)))
    exact H.rets (congrArg Value.bool (by rw [Sp.l5Item, Sp.all_false (c := x.ids[k]) (List.getElem?_eq_getElem oM) (by simp [Sp.idOk, hc6])]; rfl))
   intro hc6'
   try simp only [nrm] at hc6'
   refine gR Z (o_fieldAddr 2 runUnderlying37 Z sizeOf33 Z Z Z (gR Z (o_load_B 0 H isAgg33 Z Z Z Z (gR Z (mV Z (gR Z (o_index_P k hr1 underlying33 sizeOf3 Z Z Z Z aN ?_))))))); intro b7 o7 z7 q7 hz7 hE7 hrow7
   obtain ⟨rfl, hi7⟩ := hE7
   refine gR Z (o_load_P H isAgg3 Z Z (hrow7 0 _ Z) (gR Z (o_call call101 Z Z (l6In_c _ _ _ _ ) ?_)))
   rintro _ w8 ⟨rfl, ew8⟩; have H := H.step ew8; refine ⟨_, rfl, ?_⟩
   refine gR Z (o_not Z Z (o_pick_f Z Z Z (q3 ?_)))
   refine W_cond Z ?_ ?_
   ·intro hc9
    try simp only [nrm] at hc9
    refine q2 (aG Z (q3 (W_ret (N_B_ret (N_K_ret (N_LP_ret (N_B_ret (N_K_ret (rt1 results145 Z ?_)))))))))
    exact H.rets (congrArg Value.bool (by rw [Sp.l5Item, Sp.all_false hz7 (by simp [Sp.idOk, *])]; rfl))
   intro hc9'
   try simp only [nrm] at hc9'
   refine W_skip (N_B (N_K (W_region (mV Z (o_add Z Z Z oO (aG Z (R_nil ?_)))))))
   refine N_lp (hJ := ⟨k + 1, _, Z, hle4, H, ?inv, Z⟩) (hm := ?hm)
   case hm => omega
   case inv => exact ⟨by omega, Sp.all_take hall hz7 (by simp [Sp.idOk, *])⟩
  intro hc5'
  try simp only [nrm] at hc5'
  refine W_exit (N_K_exit (N_LP_exit (N_B_same (N_K (q2 (o_fieldAddr 0 runUnderlying37 Z sizeOf9 Z Z Z (o_load_B 0 H isAgg9 Z Z Z Z (o_call call183 Z Z (PathValid_c _ _ H.sub _ hi1 ) ?_))))))))
  rintro _ w11 ⟨rfl, ew11⟩; have H := H.step ew11; refine ⟨_, rfl, ?_⟩
  refine mV Z ?_
  refine R_case (t := 25) Z ?_ ?_
  ·intro hc12
   try simp only [nrm] at hc12
   refine gR Z (o_fieldAddr 2 runUnderlying37 Z sizeOf33 Z Z Z (gR Z (o_load_B 0 H isAgg33 Z Z Z Z (gR Z (o_len_slice underlying33 Z Z (gR Z (o_leq Z Z Z (o_pick_t Z Z Z (aG Z (q3 (W_ret (rt1 results145 Z ?_))))))))))))
   obtain rfl : k = x.ids.length := by omega
   rw [List.take_length] at hall
   exact H.rets (congrArg Value.bool (by simp only [Sp.l5Item, hall, hc12, Bool.true_and]; rw [Bool.eq_iff_iff]; simp; omega))
  intro hc12'
  try simp only [nrm] at hc12'
  refine rP Z (rP Z (rP Z (rP Z (o_pick_f Z Z Z (aG Z (q3 (W_ret (rt1 results145 Z ?_))))))))
  exact H.rets (congrArg Value.bool (by simp [Sp.l5Item, hc12']))
theorem TreeValid_c (w0 : World) (G0 : PH) (hG : PSub G0 w0) (vlist : Value) (list : List (BItem)) (hlist : RdItems G0 vlist list)  :
  Calls Tryz.prog 97 #[vlist] w0 (Rets w0 (.bool (Sp.TreeValid list))) := by
 obtain ⟨alist, klist, rfl⟩ := hlist.shape
 have hlimlist : list.length ≤ 1099511627776 := hlist.lim
 have H := Hp.init hG
 refine calls_of_W (l := [.slice alist list.length klist]) func97 Z ntmps97 Z (q2 (aG Z (q3 (W_seq (q2 (aG Z (q3 (W_block ?_))))))))
 refine W_lp (hf := (Sub.cons (t := 0) Z Sub.nil)) (J := fun M w m => ∃ (k : Nat) (G : PH), M = [(3, .int .i64 (k : Int))] ∧ PLe G0 G ∧ Hp w0 G0 [] w G [] ∧ (k ≤ list.length ∧ ∀ j, j < k → Sp.okT list j = true) ∧ m = (list.length - k)) (h0 := ⟨0, _, Z, PLe.refl _, H, ?inv, Z⟩) (round := ?round)
 case inv => exact ⟨by omega, fun j hj => by omega⟩
 case round =>
  rintro _ w1 _ ⟨k, G1, rfl, hle1, H, hinv1, rfl⟩
  have hlist := hlist.up hle1
  obtain ⟨hk, hall⟩ := hinv1
  refine W_seq (q2 (mV Z (mV Z (o_len_slice underlying24 Z Z (o_lss Z Z Z (q3 ?_))))))
  refine W_cond Z ?_ ?_
  ·intro hc2
   try simp only [nrm] at hc2
   refine W_skip (N_K (W_seq (W_block (W_seq (W_drawK [] 34 H kR Z ?_))))); intro w3 H; have hd3 := PLe.refl G1
   refine vM 0 Z Z (vM 1 Z Z ?_)
   have hl4 := hlist.len
   obtain ⟨b4, o4, z4, q4, ha4, hz4, hq4, hE4, hrow4, _⟩ := hlist.at (i := k) oM
   clear hq4
   obtain ⟨a4, m4, c4, rfl, hi4, hr4⟩ := hE4; have hy_hi4 : _ ≤ 16777216 := hi4; have hn_hr4 := hr4.len; have hx_hr4 : _ ≤ 1099511627776 := hr4.lim
   refine RD_t 2 Z kR Z (fun _ hK => v_index_P (i := k) ha4 underlying24 sizeOf37 Z Z Z oM) (RD_t 3 Z kR Z (fun _ hK => v_loadagg_P hK isAgg37 sizeOf37 Z hrow4 Z) ?_)
   refine RD_run [4] kR Z (RDs.cons Z ?_ RDs.nil)
   refine o_call call145 Z Z (l5Item_c _ _ H.sub _ _ ⟨_, _, _, Z, hi4, hr4⟩ ) ?_
   rintro _ w5 ⟨rfl, ew5⟩; have H := H.step ew5; refine ⟨_, rfl, ?_⟩
   refine R_nil (N_DK (Kn.of' H hd3 SubL.nil) (RD_t 5 Z kR Z (fun _ hK => v_not Z) (vM 6 Z Z ?_)))
   refine RD_case (t := 16) Z ?_ ?_
   ·intro hc6
    try simp only [nrm] at hc6
    refine RD_pass 7 Z kR kR kR Z (yl_ne Z Z Z) (RD_pass 8 Z kR kR kR Z (yl_ne Z Z Z) (RD_pass 9 Z kR kR kR Z (yl_ne Z Z Z) (RD_pass 10 Z kR kR kR Z (yl_un Z Z) (RD_pass 11 Z kR kR kR Z (yl_un Z Z) (RD_pass 12 Z kR kR kR Z (yl_un Z Z) (RD_pass 13 Z kR kR kR Z (yl_un Z Z) (RD_pass 14 Z kR kR kR Z (yl_un Z Z) (RD_pass 15 Z kR kR kR Z (yl_un Z Z) (RD_pass 16 Z kR kR kR Z (yl_un Z Z) (RD_pass 17 Z kR kR kR Z (yl_un Z Z) (RD_pass 18 Z kR kR kR Z (yl_un Z Z) (RD_pass 19 Z kR kR kR Z (yl_un Z Z) (RD_pass 20 Z kR kR kR Z (yl_un Z Z) (RD_pass 21 Z kR kR kR Z (yl_un Z Z) (RD_pass 22 Z kR kR kR Z (yl_ne Z Z Z) ?_)))))))))))))))
    refine RD_t 23 Z kR Z (fun _ hK => v_pick_t Z Z) (vM 24 Z Z (RD_pass 25 Z kR kR kR Z (yl_ne Z Z Z) (RD_pass 26 Z kR kR kR Z (yl_ne Z Z Z) (RD_pass 27 Z kR kR kR Z (yl_ne Z Z Z) (RD_pass 28 Z kR kR kR Z (yl_ne Z Z Z) (RD_pass 29 Z kR kR kR Z (yl_ne Z Z Z) (RD_pass 30 Z kR kR kR Z (yl_ne Z Z Z) (RD_pass 31 Z kR kR kR Z (yl_ne Z Z Z) (RD_pass 32 Z kR kR kR Z (yl_ne Z Z Z) (RD_t 33 Z kR Z (fun _ hK => v_pick_t Z Z) (RD_done kR (N_K (W_true Z (q2 (aG Z ?_)))))))))))))))
    refine q3 (W_ret (N_B_ret (N_K_ret (N_LP_ret (N_B_ret (N_K_ret (rt1 results97 Z ?_)))))))
    exact H.rets (congrArg Value.bool (by rw [Sp.TreeValid, Sp.not_all_range (k := k) oM (by rw [Sp.okT_at hz4]; simp [Sp.prevLt, *])]; rfl))
   intro hc6'
   try simp only [nrm] at hc6'
   refine RD_tg 7 Z kR Z (yl Z Z) (fun _ hK => v_move Z) (RD_tg 8 Z kR Z (yl Z Z) (fun _ hK => v_gtr Z Z) (RD_tg 9 Z kR Z (yl Z Z) (fun _ hK => v_move Z) ?_))
   refine RD_case (t := 19) Z ?_ ?_
   ·intro hc7
    try simp only [nrm] at hc7
    have hk0 : k ≠ 0 := by omega
    refine RD_tg 10 Z kR Z (yl Z Z) (fun _ hK => v_move Z) (RD_tg 11 Z kR Z (yl Z Z) (fun _ hK => v_move Z) (RD_tg 12 Z kR Z (yl Z Z) (fun _ hK => v_sub Z Z oO) ?_))
    have hl9 := hlist.len
    obtain ⟨b9, o9, z9, q9, ha9, hz9, hq9, hE9, hrow9, _⟩ := hlist.at (i := (k - 1)) oM
    clear hq9
    obtain ⟨a9, m9, c9, rfl, hi9, hr9⟩ := hE9; have hy_hi9 : _ ≤ 16777216 := hi9; have hn_hr9 := hr9.len; have hx_hr9 : _ ≤ 1099511627776 := hr9.lim
    refine RD_tg 13 Z kR Z (yl Z Z) (fun _ hK => v_index_P (i := (k - 1)) ha9 underlying24 sizeOf37 Z Z oM oM) (RD_tg 14 Z kR Z (yl Z Z) (fun _ hK => v_fieldAddr 0 runUnderlying37 Z sizeOf9 Z Z) (RD_tg 15 Z kR Z (yl Z Z) (fun _ hK => v_load_P hK isAgg9 Z (hrow9 0 _ Z)) (RD_tg 16 Z kR Z (yl Z Z) (fun _ hK => v_move Z) (RD_tg 17 Z kR Z (yl Z Z) (fun _ hK => v_move Z) ?_))))
    have hl10 := hlist.len
    obtain ⟨b10, o10, z10, q10, ha10, hz10, hq10, hE10, hrow10, _⟩ := hlist.at (i := k) oM
    clear hq10
    obtain ⟨a10, m10, c10, rfl, hi10, hr10⟩ := hE10; have hy_hi10 : _ ≤ 16777216 := hi10; have hn_hr10 := hr10.len; have hx_hr10 : _ ≤ 1099511627776 := hr10.lim
    have hzz10 : z4 = z10 := Option.some.inj (hz4.symm.trans hz10)
    subst hzz10
    refine RD_tg 18 Z kR Z (yl Z Z) (fun _ hK => v_index_P (i := k) ha10 underlying24 sizeOf37 Z Z Z oM) (RD_tg 19 Z kR Z (yl Z Z) (fun _ hK => v_fieldAddr 0 runUnderlying37 Z sizeOf9 Z Z) (RD_tg 20 Z kR Z (yl Z Z) (fun _ hK => v_load_P hK isAgg9 Z (hrow10 0 _ Z)) (RD_tg 21 Z kR Z (yl Z Z) (fun _ hK => v_sgeq Z Z) (RD_tg 22 Z kR Z (yl Z Z) (fun _ hK => v_pick_t Z Z) (RD_t 23 Z kR Z (fun _ hK => v_pick_f Z Z) (vM 24 Z Z ?_))))))
    refine RD_case (t := 34) Z ?_ ?_
    ·intro hc11
     try simp only [nrm] at hc11
     refine RD_pass 25 Z kR kR kR Z (yl_ne Z Z Z) (RD_pass 26 Z kR kR kR Z (yl_ne Z Z Z) (RD_pass 27 Z kR kR kR Z (yl_ne Z Z Z) (RD_pass 28 Z kR kR kR Z (yl_ne Z Z Z) (RD_pass 29 Z kR kR kR Z (yl_ne Z Z Z) (RD_pass 30 Z kR kR kR Z (yl_ne Z Z Z) (RD_pass 31 Z kR kR kR Z (yl_ne Z Z Z) (RD_pass 32 Z kR kR kR Z (yl_ne Z Z Z) (RD_t 33 Z kR Z (fun _ hK => v_pick_t Z Z) (RD_done kR (N_K (W_true Z (q2 (aG Z (q3 (W_ret ?_)))))))))))))))
     refine N_B_ret (N_K_ret (N_LP_ret (N_B_ret (N_K_ret (rt1 results97 Z ?_)))))
     exact H.rets (congrArg Value.bool (by rw [Sp.TreeValid, Sp.not_all_range (k := k) oM (by rw [Sp.okT_at hz4]; simp [Sp.prevLt, *])]; rfl))
    intro hc11'
    try simp only [nrm] at hc11'
    refine RD_tg 25 Z kR Z (yl Z Z) (fun _ hK => v_move Z) (RD_tg 26 Z kR Z (yl Z Z) (fun _ hK => v_move Z) (RD_tg 27 Z kR Z (yl Z Z) (fun _ hK => v_move Z) ?_))
    have hl12 := hlist.len
    obtain ⟨b12, o12, z12, q12, ha12, hz12, hq12, hE12, hrow12, _⟩ := hlist.at (i := k) oM
    clear hq12
    obtain ⟨a12, m12, c12, rfl, hi12, hr12⟩ := hE12; have hy_hi12 : _ ≤ 16777216 := hi12; have hn_hr12 := hr12.len; have hx_hr12 : _ ≤ 1099511627776 := hr12.lim
    have hzz12 : z4 = z12 := Option.some.inj (hz4.symm.trans hz12)
    subst hzz12
    refine RD_tg 28 Z kR Z (yl Z Z) (fun _ hK => v_index_P (i := k) ha12 underlying24 sizeOf37 Z Z Z oM) (RD_tg 29 Z kR Z (yl Z Z) (fun _ hK => v_fieldAddr 0 runUnderlying37 Z sizeOf9 Z Z) (RD_tg 30 Z kR Z (yl Z Z) (fun _ hK => v_load_P hK isAgg9 Z (hrow12 0 _ Z)) ?_))
    refine RD_run [31] kR Z (RDs.cons Z ?_ RDs.nil)
    refine gR Z (o_call call146 Z Z (l5Home_c _ _ H.sub _ _ hlist _ hi12 ) ?_)
    rintro _ w13 ⟨rfl, ew13⟩; have H := H.step ew13; refine ⟨_, rfl, ?_⟩
    refine R_nil (N_DK (Kn.of' H hd3 SubL.nil) (RD_tg 32 Z kR Z (yl Z Z) (fun _ hK => v_not Z) (RD_t 33 Z kR Z (fun _ hK => v_pick_f Z Z) (RD_done kR (N_K ?_)))))
    refine W_cond Z ?_ ?_
    ·intro hc14
     try simp only [nrm] at hc14
     refine q2 (aG Z (q3 (W_ret (N_B_ret (N_K_ret (N_LP_ret (N_B_ret (N_K_ret (rt1 results97 Z ?_)))))))))
     exact H.rets (congrArg Value.bool (by rw [Sp.TreeValid, Sp.not_all_range (k := k) oM (by rw [Sp.okT_at hz4]; simp [Sp.prevLt, *])]; rfl))
    intro hc14'
    try simp only [nrm] at hc14'
    refine W_skip (N_B (N_K (W_region (mV Z (o_add Z Z Z oO (aG Z (R_nil ?_)))))))
    refine N_lp (hJ := ⟨k + 1, _, Z, hle1, H, ?inv, Z⟩) (hm := ?hm)
    case hm => omega
    case inv => exact ⟨by omega, Sp.upto_succ hall (by rw [Sp.okT_at hz4]; simp [Sp.prevLt, *])⟩
   intro hc7'
   try simp only [nrm] at hc7'
   have hk0 : k = 0 := by omega
   refine RD_pass 10 Z kR kR kR Z (yl_ne Z Z Z) (RD_pass 11 Z kR kR kR Z (yl_ne Z Z Z) (RD_pass 12 Z kR kR kR Z (yl_ne Z Z Z) (RD_pass 13 Z kR kR kR Z (yl_ne Z Z Z) (RD_pass 14 Z kR kR kR Z (yl_ne Z Z Z) (RD_pass 15 Z kR kR kR Z (yl_ne Z Z Z) (RD_pass 16 Z kR kR kR Z (yl_ne Z Z Z) (RD_pass 17 Z kR kR kR Z (yl_ne Z Z Z) (RD_pass 18 Z kR kR kR Z (yl_ne Z Z Z) (RD_pass 19 Z kR kR kR Z (yl_ne Z Z Z) (RD_pass 20 Z kR kR kR Z (yl_ne Z Z Z) (RD_pass 21 Z kR kR kR Z (yl_ne Z Z Z) (RD_tg 22 Z kR Z (yl Z Z) (fun _ hK => v_pick_f Z Z) (RD_t 23 Z kR Z (fun _ hK => v_pick_f Z Z) (vM 24 Z Z (RD_tg 25 Z kR Z (yl Z Z) (fun _ hK => v_move Z) ?_)))))))))))))))
   refine RD_tg 26 Z kR Z (yl Z Z) (fun _ hK => v_move Z) (RD_tg 27 Z kR Z (yl Z Z) (fun _ hK => v_move Z) ?_)
   have hl16 := hlist.len
   obtain ⟨b16, o16, z16, q16, ha16, hz16, hq16, hE16, hrow16, _⟩ := hlist.at (i := k) oM
   clear hq16
   obtain ⟨a16, m16, c16, rfl, hi16, hr16⟩ := hE16; have hy_hi16 : _ ≤ 16777216 := hi16; have hn_hr16 := hr16.len; have hx_hr16 : _ ≤ 1099511627776 := hr16.lim
   have hzz16 : z4 = z16 := Option.some.inj (hz4.symm.trans hz16)
   subst hzz16
   refine RD_tg 28 Z kR Z (yl Z Z) (fun _ hK => v_index_P (i := k) ha16 underlying24 sizeOf37 Z Z Z oM) (RD_tg 29 Z kR Z (yl Z Z) (fun _ hK => v_fieldAddr 0 runUnderlying37 Z sizeOf9 Z Z) (RD_tg 30 Z kR Z (yl Z Z) (fun _ hK => v_load_P hK isAgg9 Z (hrow16 0 _ Z)) ?_))
   refine RD_run [31] kR Z (RDs.cons Z ?_ RDs.nil)
   refine gR Z (o_call call146 Z Z (l5Home_c _ _ H.sub _ _ hlist _ hi16 ) ?_)
   rintro _ w17 ⟨rfl, ew17⟩; have H := H.step ew17; refine ⟨_, rfl, ?_⟩
   refine R_nil (N_DK (Kn.of' H hd3 SubL.nil) (RD_tg 32 Z kR Z (yl Z Z) (fun _ hK => v_not Z) (RD_t 33 Z kR Z (fun _ hK => v_pick_f Z Z) (RD_done kR (N_K ?_)))))
   refine W_cond Z ?_ ?_
   ·intro hc18
    try simp only [nrm] at hc18
    refine q2 (aG Z (q3 (W_ret (N_B_ret (N_K_ret (N_LP_ret (N_B_ret (N_K_ret (rt1 results97 Z ?_)))))))))
    exact H.rets (congrArg Value.bool (by rw [Sp.TreeValid, Sp.not_all_range (k := k) oM (by rw [Sp.okT_at hz4]; simp [Sp.prevLt, *])]; rfl))
   intro hc18'
   try simp only [nrm] at hc18'
   refine W_skip (N_B (N_K (W_region (mV Z (o_add Z Z Z oO (aG Z (R_nil ?_)))))))
   refine N_lp (hJ := ⟨k + 1, _, Z, hle1, H, ?inv, Z⟩) (hm := ?hm)
   case hm => omega
   case inv => exact ⟨by omega, Sp.upto_succ hall (by rw [Sp.okT_at hz4]; simp [Sp.prevLt, *])⟩
  intro hc2'
  try simp only [nrm] at hc2'
  refine W_exit (N_K_exit (N_LP_exit (N_B_same (N_K (q2 (mV Z (o_len_slice underlying24 Z Z (o_leq Z Z Z (aG Z (q3 (W_ret (rt1 results97 Z ?_))))))))))))
  exact H.rets (congrArg Value.bool (by rw [Sp.TreeValid, Sp.all_range (fun j hj => hall j oM), Bool.true_and]; rw [Bool.eq_iff_iff]; simp; omega))
theorem l2Same_c (w0 : World) (G0 : PH) (hG : PSub G0 w0) (va : Value) (a : List (Int)) (ha : RdI G0 va a) (vb : Value) (b : List (Int)) (hb : RdI G0 vb b)  :
  Calls Tryz.prog 144 #[va, vb] w0 (Rets w0 (.bool (Sp.l2Same a b))) := by
 obtain ⟨aa, ka, rfl⟩ := ha.shape
 have hlima : a.length ≤ 1099511627776 := ha.lim
 obtain ⟨ab, kb, rfl⟩ := hb.shape
 have hlimb : b.length ≤ 1099511627776 := hb.lim
 have H := Hp.init hG
 refine calls_of_W (l := [.slice aa a.length ka, .slice ab b.length kb]) func144 Z ntmps144 Z (q2 (aG Z (q3 (W_seq (q2 (mV Z (o_len_slice underlying33 Z Z (mV Z (o_len_slice underlying33 Z Z (o_neq Z Z Z (q3 ?_)))))))))))
 refine W_cond Z ?_ ?_
 ·intro hc1
  try simp only [nrm] at hc1
  refine q2 (aG Z (q3 (W_ret (N_K_ret (rt1 results144 Z ?_)))))
  exact H.rets (congrArg Value.bool (by unfold Sp.l2Same; exact Sp.ne_len oM))
 intro hc1'
 try simp only [nrm] at hc1'
 refine W_skip (N_K (W_seq (q2 (aG Z (q3 (W_block ?_))))))
 refine W_lp (hf := (Sub.cons (t := 0) Z (Sub.cons (t := 1) Z Sub.nil))) (J := fun M w m => ∃ (k : Nat) (G : PH), M = [(5, .int .i64 (k : Int))] ∧ PLe G0 G ∧ Hp w0 G0 [] w G [] ∧ (k ≤ a.length ∧ a.take k = b.take k) ∧ m = (a.length - k)) (h0 := ⟨0, _, Z, PLe.refl _, H, ?inv, Z⟩) (round := ?round)
 case inv => exact ⟨by omega, by simp⟩
 case round =>
  rintro _ w2 _ ⟨k, G2, rfl, hle2, H, hinv2, rfl⟩
  have ha := ha.up hle2
  have hb := hb.up hle2
  obtain ⟨hk, hall⟩ := hinv2
  refine W_seq (q2 (mV Z (mV Z (o_len_slice underlying33 Z Z (o_lss Z Z Z (q3 ?_))))))
  refine W_cond Z ?_ ?_
  ·intro hc3
   try simp only [nrm] at hc3
   refine W_skip (N_K (W_seq (W_block (W_seq (W_drawK [] 9 H kR Z ?_))))); intro w4 H; have hd4 := PLe.refl G2
   refine vM 0 Z Z (vM 1 Z Z ?_)
   have hl5 := ha.len
   obtain ⟨b5, o5, z5, q5, ha5, hz5, hq5, hE5, hrow5, _⟩ := ha.at (i := k) oM
   clear hq5
   obtain ⟨rfl, hi5⟩ := hE5
   refine RD_t 2 Z kR Z (fun _ hK => v_index_P (i := k) ha5 underlying33 sizeOf3 Z Z Z oM) (RD_t 3 Z kR Z (fun _ hK => v_load_P hK isAgg3 Z (hrow5 0 _ Z)) (vM 4 Z Z (vM 5 Z Z ?_)))
   have hl6 := hb.len
   obtain ⟨b6, o6, z6, q6, ha6, hz6, hq6, hE6, hrow6, _⟩ := hb.at (i := k) oM
   clear hq6
   obtain ⟨rfl, hi6⟩ := hE6
   refine RD_t 6 Z kR Z (fun _ hK => v_index_P (i := k) ha6 underlying33 sizeOf3 Z Z Z oM) (RD_t 7 Z kR Z (fun _ hK => v_load_P hK isAgg3 Z (hrow6 0 _ Z)) (RD_t 8 Z kR Z (fun _ hK => v_neq Z Z) (RD_done kR (N_K ?_))))
   refine W_cond Z ?_ ?_
   ·intro hc7
    try simp only [nrm] at hc7
    refine q2 (aG Z (q3 (W_ret (N_B_ret (N_K_ret (N_LP_ret (N_B_ret (N_K_ret (rt1 results144 Z ?_)))))))))
    exact H.rets (congrArg Value.bool (by unfold Sp.l2Same; exact Sp.ne_at hz5 hz6 oM))
   intro hc7'
   try simp only [nrm] at hc7'
   refine W_skip (N_B (N_K (W_region (mV Z (o_add Z Z Z oO (aG Z (R_nil ?_)))))))
   refine N_lp (hJ := ⟨k + 1, _, Z, hle2, H, ?inv, Z⟩) (hm := ?hm)
   case hm => omega
   case inv => exact ⟨by omega, Sp.take_eq hall hz5 (by rw [hz6]; congr 1; omega)⟩
  intro hc3'
  try simp only [nrm] at hc3'
  refine W_exit (N_K_exit (N_LP_exit (N_B_same (N_K (q2 (aG Z (q3 (W_ret (rt1 results144 Z ?_)))))))))
  exact H.rets (congrArg Value.bool (by unfold Sp.l2Same; exact Sp.eq_all hall oM oM))
theorem BlockValid_c (w0 : World) (G0 : PH) (hG : PSub G0 w0) (vbytes : Value) (bytes : List (Int)) (hbytes : RdI G0 vbytes bytes)  :
  Calls Tryz.prog 143 #[vbytes] w0 (Rets w0 (.bool (Sp.BlockValid bytes))) := by
 obtain ⟨abytes, kbytes, rfl⟩ := hbytes.shape
 have hlimbytes : bytes.length ≤ 1099511627776 := hbytes.lim
 have H := Hp.init hG
 refine calls_of_W (l := [.slice abytes bytes.length kbytes]) func143 Z ntmps143 Z (q2 (aG Z (q3 (W_seq (q2 (aG Z (q3 (W_block ?_))))))))
 refine W_lp (hf := (Sub.cons (t := 0) Z Sub.nil)) (J := fun M w m => ∃ (k : Nat) (G : PH), M = [(3, .int .i64 (k : Int))] ∧ PLe G0 G ∧ Hp w0 G0 [] w G [] ∧ (k ≤ bytes.length ∧ (bytes.take k).all Sp.byteOk = true) ∧ m = (bytes.length - k)) (h0 := ⟨0, _, Z, PLe.refl _, H, ?inv, Z⟩) (round := ?round)
 case inv => exact ⟨by omega, by simp⟩
 case round =>
  rintro _ w1 _ ⟨k, G1, rfl, hle1, H, hinv1, rfl⟩
  have hbytes := hbytes.up hle1
  obtain ⟨hk, hall⟩ := hinv1
  refine W_seq (q2 (mV Z (mV Z (o_len_slice underlying33 Z Z (o_lss Z Z Z (q3 ?_))))))
  refine W_cond Z ?_ ?_
  ·intro hc2
   try simp only [nrm] at hc2
   refine W_skip (N_K (W_seq (W_block (q2 (mV Z (mV Z (o_index_P k hbytes underlying33 sizeOf3 Z Z Z Z aN ?_))))))); intro b3 o3 z3 q3 hz3 hE3 hrow3
   obtain ⟨rfl, hi3⟩ := hE3
   refine o_load_P H isAgg3 Z Z (hrow3 0 _ Z) (o_call call101 Z Z (l6In_c _ _ _ _ ) ?_)
   rintro _ w4 ⟨rfl, ew4⟩; have H := H.step ew4; refine ⟨_, rfl, ?_⟩
   refine o_not Z Z (q3 ?_)
   refine W_cond Z ?_ ?_
   ·intro hc5
    try simp only [nrm] at hc5
    refine q2 (aG Z (q3 (W_ret (N_B_ret (N_K_ret (N_LP_ret (N_B_ret (N_K_ret (rt1 results143 Z ?_)))))))))
    exact H.rets (congrArg Value.bool (by rw [Sp.BlockValid, Sp.all_false hz3 (by simp [Sp.byteOk, *])]; rfl))
   intro hc5'
   try simp only [nrm] at hc5'
   refine W_skip (N_B (N_K (W_region (mV Z (o_add Z Z Z oO (aG Z (R_nil ?_)))))))
   refine N_lp (hJ := ⟨k + 1, _, Z, hle1, H, ?inv, Z⟩) (hm := ?hm)
   case hm => omega
   case inv => exact ⟨by omega, Sp.all_take hall hz3 (by simp [Sp.byteOk, *])⟩
  intro hc2'
  try simp only [nrm] at hc2'
  refine W_exit (N_K_exit (N_LP_exit (N_B_same (N_K (q2 (mV Z (o_len_slice underlying33 Z Z (o_call call101 Z Z (l6In_c _ _ _ _ ) ?_))))))))
  rintro _ w7 ⟨rfl, ew7⟩; have H := H.step ew7; refine ⟨_, rfl, ?_⟩
  refine aG Z (q3 (W_ret (rt1 results143 Z ?_)))
  obtain rfl : k = bytes.length := by omega
  rw [List.take_length] at hall
  exact H.rets (congrArg Value.bool (by simp only [Sp.BlockValid, hall, Bool.true_and]))
theorem FileValid_c (w0 : World) (G0 : PH) (hG : PSub G0 w0) (vbytes : Value) (bytes : List (Int)) (hbytes : RdI G0 vbytes bytes)  :
  Calls Tryz.prog 63 #[vbytes] w0 (Rets w0 (.bool (Sp.FileValid bytes))) := by
 obtain ⟨abytes, kbytes, rfl⟩ := hbytes.shape
 have hlimbytes : bytes.length ≤ 1099511627776 := hbytes.lim
 have H := Hp.init hG
 refine calls_of_W (l := [.slice abytes bytes.length kbytes]) func63 Z ntmps63 Z (q2 (aG Z (q3 (W_seq (q2 (aG Z (q3 (W_block ?_))))))))
 refine W_lp (hf := (Sub.cons (t := 0) Z Sub.nil)) (J := fun M w m => ∃ (k : Nat) (G : PH), M = [(3, .int .i64 (k : Int))] ∧ PLe G0 G ∧ Hp w0 G0 [] w G [] ∧ (k ≤ bytes.length ∧ (bytes.take k).all Sp.byteOk = true) ∧ m = (bytes.length - k)) (h0 := ⟨0, _, Z, PLe.refl _, H, ?inv, Z⟩) (round := ?round)
 case inv => exact ⟨by omega, by simp⟩
 case round =>
  rintro _ w1 _ ⟨k, G1, rfl, hle1, H, hinv1, rfl⟩
  have hbytes := hbytes.up hle1
  obtain ⟨hk, hall⟩ := hinv1
  refine W_seq (q2 (mV Z (mV Z (o_len_slice underlying33 Z Z (o_lss Z Z Z (q3 ?_))))))
  refine W_cond Z ?_ ?_
  ·intro hc2
   try simp only [nrm] at hc2
   refine W_skip (N_K (W_seq (W_block (q2 (mV Z (mV Z (o_index_P k hbytes underlying33 sizeOf3 Z Z Z Z aN ?_))))))); intro b3 o3 z3 q3 hz3 hE3 hrow3
   obtain ⟨rfl, hi3⟩ := hE3
   refine o_load_P H isAgg3 Z Z (hrow3 0 _ Z) (o_call call101 Z Z (l6In_c _ _ _ _ ) ?_)
   rintro _ w4 ⟨rfl, ew4⟩; have H := H.step ew4; refine ⟨_, rfl, ?_⟩
   refine o_not Z Z (q3 ?_)
   refine W_cond Z ?_ ?_
   ·intro hc5
    try simp only [nrm] at hc5
    refine q2 (aG Z (q3 (W_ret (N_B_ret (N_K_ret (N_LP_ret (N_B_ret (N_K_ret (rt1 results63 Z ?_)))))))))
    exact H.rets (congrArg Value.bool (by rw [Sp.FileValid, Sp.all_false hz3 (by simp [Sp.byteOk, *])]; rfl))
   intro hc5'
   try simp only [nrm] at hc5'
   refine W_skip (N_B (N_K (W_region (mV Z (o_add Z Z Z oO (aG Z (R_nil ?_)))))))
   refine N_lp (hJ := ⟨k + 1, _, Z, hle1, H, ?inv, Z⟩) (hm := ?hm)
   case hm => omega
   case inv => exact ⟨by omega, Sp.all_take hall hz3 (by simp [Sp.byteOk, *])⟩
  intro hc2'
  try simp only [nrm] at hc2'
  refine W_exit (N_K_exit (N_LP_exit (N_B_same (N_K (q2 (mV Z (o_len_slice underlying33 Z Z (o_leq Z Z Z (aG Z (q3 (W_ret (rt1 results63 Z ?_))))))))))))
  obtain rfl : k = bytes.length := by omega
  rw [List.take_length] at hall
  exact H.rets (congrArg Value.bool (by simp only [Sp.FileValid, hall, Bool.true_and]; rw [Bool.eq_iff_iff]; simp; omega))
theorem StoreValid_c (w0 : World) (G0 : PH) (hG : PSub G0 w0) (vlist : Value) (list : List (BHeld)) (hlist : RdH G0 vlist list)  :
  Calls Tryz.prog 96 #[vlist] w0 (Rets w0 (.bool (Sp.StoreValid list))) := by
 obtain ⟨alist, klist, rfl⟩ := hlist.shape
 have hlimlist : list.length ≤ 1099511627776 := hlist.lim
 have H := Hp.init hG
 refine calls_of_W (l := [.slice alist list.length klist]) func96 Z ntmps96 Z (q2 (aG Z (q3 (W_seq (q2 (aG Z (q3 (W_block ?_))))))))
 refine W_lp (hf := (Sub.cons (t := 0) Z Sub.nil)) (J := fun M w m => ∃ (k : Nat) (G : PH), M = [(3, .int .i64 (k : Int))] ∧ PLe G0 G ∧ Hp w0 G0 [] w G [] ∧ (k ≤ list.length ∧ ∀ j, j < k → Sp.okH list j = true) ∧ m = (list.length - k)) (h0 := ⟨0, _, Z, PLe.refl _, H, ?inv, Z⟩) (round := ?round)
 case inv => exact ⟨by omega, fun j hj => by omega⟩
 case round =>
  rintro _ w1 _ ⟨k, G1, rfl, hle1, H, hinv1, rfl⟩
  have hlist := hlist.up hle1
  obtain ⟨hk, hall⟩ := hinv1
  refine W_seq (q2 (mV Z (mV Z (o_len_slice underlying23 Z Z (o_lss Z Z Z (q3 ?_))))))
  refine W_cond Z ?_ ?_
  ·intro hc2
   try simp only [nrm] at hc2
   refine W_skip (N_K (W_seq (W_block (q2 (mV Z (mV Z (o_index_P k hlist underlying23 sizeOf105 Z Z Z Z aN ?_))))))); intro b3 o3 z3 q3 hz3 hE3 hrow3
   obtain ⟨a3, m3, c3, rfl, hi3, hr3, hj3⟩ := hE3; have hn_hr3 := hr3.len; have hx_hr3 : _ ≤ 1099511627776 := hr3.lim
   refine o_loadagg_P H isAgg105 sizeOf105 Z Z hrow3 Z (o_alloc H zeroValue105 Z Z ?_); intro b4 w4 hb4 H
   refine o_store_B 0 H sizeOf105 Z Z Z Z Z Z Z Z ?_; intro w5 H
   refine q3 (W_seq (W_seq (W_drawK [0] 31 H kR Z ?_))); intro w6 H; have hd6 := PLe.refl G1
   refine RD_t 0 Z kR Z (fun _ hK => v_fieldAddr 0 runUnderlying105 Z sizeOf3 Z Z) (RD_t 1 Z kR Z (fun _ hK => v_load_B 0 hK isAgg3 Z Z Z) ?_)
   refine RD_run [2] kR Z (RDs.cons Z ?_ RDs.nil)
   refine o_call call101 Z Z (l6In_c _ _ _ _ ) ?_
   rintro _ w7 ⟨rfl, ew7⟩; have H := H.step ew7; refine ⟨_, rfl, ?_⟩
   refine R_nil (N_DK (Kn.of' H hd6 (SubL.cons 0 Z SubL.nil)) (RD_t 3 Z kR Z (fun _ hK => v_not Z) (vM 4 Z Z ?_)))
   refine RD_case (t := 20) Z ?_ ?_
   ·intro hc8
    try simp only [nrm] at hc8
    refine RD_pass 5 Z kR kR kR Z (yl_ne Z Z Z) (RD_pass 6 Z kR kR kR Z (yl_ne Z Z Z) (RD_pass 7 Z kR kR kR Z (yl_ne Z Z Z) (RD_pass 8 Z kR kR kR Z (yl_ne Z Z Z) (RD_t 9 Z kR Z (fun _ hK => v_pick_t Z Z) (vM 10 Z Z (RD_pass 11 Z kR kR kR Z (yl_ne Z Z Z) (RD_pass 12 Z kR kR kR Z (yl_ne Z Z Z) (RD_pass 13 Z kR kR kR Z (yl_ne Z Z Z) (RD_pass 14 Z kR kR kR Z (yl_ne Z Z Z) (RD_t 15 Z kR Z (fun _ hK => v_pick_t Z Z) (vM 16 Z Z (RD_pass 17 Z kR kR kR Z (yl_ne Z Z Z) (RD_pass 18 Z kR kR kR Z (yl_ne Z Z Z) (RD_pass 19 Z kR kR kR Z (yl_ne Z Z Z) (RD_pass 20 Z kR kR kR Z (yl_un Z Z) ?_)))))))))))))))
    refine RD_pass 21 Z kR kR kR Z (yl_un Z Z) (RD_pass 22 Z kR kR kR Z (yl_un Z Z) (RD_pass 23 Z kR kR kR Z (yl_un Z Z) (RD_pass 24 Z kR kR kR Z (yl_un Z Z) (RD_pass 25 Z kR kR kR Z (yl_un Z Z) (RD_pass 26 Z kR kR kR Z (yl_un Z Z) (RD_pass 27 Z kR kR kR Z (yl_un Z Z) (RD_pass 28 Z kR kR kR Z (yl_un Z Z) (RD_pass 29 Z kR kR kR Z (yl_ne Z Z Z) (RD_t 30 Z kR Z (fun _ hK => v_pick_t Z Z) (RD_done kR (N_K (W_true Z (q2 (aG Z (q3 ?_)))))))))))))))
    refine W_ret (N_K_ret (N_B_ret (N_K_ret (N_LP_ret (N_B_ret (N_K_ret (rt1 results96 Z ?_)))))))
    exact H.rets (congrArg Value.bool (by rw [Sp.StoreValid, Sp.not_all_range (k := k) oM (by rw [Sp.okH_at hz3]; simp [Sp.prevId, *])]; rfl))
   intro hc8'
   try simp only [nrm] at hc8'
   refine RD_tg 5 Z kR Z (yl Z Z) (fun _ hK => v_fieldAddr 1 runUnderlying105 Z sizeOf33 Z Z) (RD_tg 6 Z kR Z (yl Z Z) (fun _ hK => v_load_B 0 hK isAgg33 Z Z Z) ?_)
   refine RD_run [7] kR Z (RDs.cons Z ?_ RDs.nil)
   refine gR Z (o_call call143 Z Z (BlockValid_c _ _ H.sub _ _ hr3 ) ?_)
   rintro _ w9 ⟨rfl, ew9⟩; have H := H.step ew9; refine ⟨_, rfl, ?_⟩
   refine R_nil (N_DK (Kn.of' H hd6 (SubL.cons 0 Z SubL.nil)) (RD_tg 8 Z kR Z (yl Z Z) (fun _ hK => v_not Z) (RD_t 9 Z kR Z (fun _ hK => v_pick_f Z Z) (vM 10 Z Z ?_))))
   refine RD_case (t := 26) Z ?_ ?_
   ·intro hc10
    try simp only [nrm] at hc10
    refine RD_pass 11 Z kR kR kR Z (yl_ne Z Z Z) (RD_pass 12 Z kR kR kR Z (yl_ne Z Z Z) (RD_pass 13 Z kR kR kR Z (yl_ne Z Z Z) (RD_pass 14 Z kR kR kR Z (yl_ne Z Z Z) (RD_t 15 Z kR Z (fun _ hK => v_pick_t Z Z) (vM 16 Z Z (RD_pass 17 Z kR kR kR Z (yl_ne Z Z Z) (RD_pass 18 Z kR kR kR Z (yl_ne Z Z Z) (RD_pass 19 Z kR kR kR Z (yl_ne Z Z Z) (RD_pass 20 Z kR kR kR Z (yl_un Z Z) (RD_pass 21 Z kR kR kR Z (yl_un Z Z) (RD_pass 22 Z kR kR kR Z (yl_un Z Z) (RD_pass 23 Z kR kR kR Z (yl_un Z Z) (RD_pass 24 Z kR kR kR Z (yl_un Z Z) (RD_pass 25 Z kR kR kR Z (yl_un Z Z) (RD_pass 26 Z kR kR kR Z (yl_un Z Z) ?_)))))))))))))))
    refine RD_pass 27 Z kR kR kR Z (yl_un Z Z) (RD_pass 28 Z kR kR kR Z (yl_un Z Z) (RD_pass 29 Z kR kR kR Z (yl_ne Z Z Z) (RD_t 30 Z kR Z (fun _ hK => v_pick_t Z Z) (RD_done kR (N_K (W_true Z (q2 (aG Z (q3 (W_ret (N_K_ret (N_B_ret (N_K_ret (N_LP_ret (N_B_ret ?_)))))))))))))))
    refine N_K_ret (rt1 results96 Z ?_)
    exact H.rets (congrArg Value.bool (by rw [Sp.StoreValid, Sp.not_all_range (k := k) oM (by rw [Sp.okH_at hz3]; simp [Sp.prevId, *])]; rfl))
   intro hc10'
   try simp only [nrm] at hc10'
   refine RD_tg 11 Z kR Z (yl Z Z) (fun _ hK => v_fieldAddr 2 runUnderlying105 Z sizeOf3 Z Z) (RD_tg 12 Z kR Z (yl Z Z) (fun _ hK => v_load_B 0 hK isAgg3 Z Z Z) ?_)
   refine RD_run [13] kR Z (RDs.cons Z ?_ RDs.nil)
   refine gR Z (o_call call101 Z Z (l6In_c _ _ _ _ ) ?_)
   rintro _ w11 ⟨rfl, ew11⟩; have H := H.step ew11; refine ⟨_, rfl, ?_⟩
   refine R_nil (N_DK (Kn.of' H hd6 (SubL.cons 0 Z SubL.nil)) (RD_tg 14 Z kR Z (yl Z Z) (fun _ hK => v_not Z) (RD_t 15 Z kR Z (fun _ hK => v_pick_f Z Z) (vM 16 Z Z ?_))))
   refine RD_case (t := 32) Z ?_ ?_
   ·intro hc12
    try simp only [nrm] at hc12
    refine RD_pass 17 Z kR kR kR Z (yl_ne Z Z Z) (RD_pass 18 Z kR kR kR Z (yl_ne Z Z Z) (RD_pass 19 Z kR kR kR Z (yl_ne Z Z Z) (RD_pass 20 Z kR kR kR Z (yl_un Z Z) (RD_pass 21 Z kR kR kR Z (yl_un Z Z) (RD_pass 22 Z kR kR kR Z (yl_un Z Z) (RD_pass 23 Z kR kR kR Z (yl_un Z Z) (RD_pass 24 Z kR kR kR Z (yl_un Z Z) (RD_pass 25 Z kR kR kR Z (yl_un Z Z) (RD_pass 26 Z kR kR kR Z (yl_un Z Z) (RD_pass 27 Z kR kR kR Z (yl_un Z Z) (RD_pass 28 Z kR kR kR Z (yl_un Z Z) (RD_pass 29 Z kR kR kR Z (yl_ne Z Z Z) (RD_t 30 Z kR Z (fun _ hK => v_pick_t Z Z) (RD_done kR (N_K ?_)))))))))))))))
    refine W_true Z (q2 (aG Z (q3 (W_ret (N_K_ret (N_B_ret (N_K_ret (N_LP_ret (N_B_ret (N_K_ret (rt1 results96 Z ?_)))))))))))
    exact H.rets (congrArg Value.bool (by rw [Sp.StoreValid, Sp.not_all_range (k := k) oM (by rw [Sp.okH_at hz3]; simp [Sp.prevId, *])]; rfl))
   intro hc12'
   try simp only [nrm] at hc12'
   refine RD_tg 17 Z kR Z (yl Z Z) (fun _ hK => v_move Z) (RD_tg 18 Z kR Z (yl Z Z) (fun _ hK => v_gtr Z Z) (RD_tg 19 Z kR Z (yl Z Z) (fun _ hK => v_move Z) ?_))
   refine RD_case (t := 35) Z ?_ ?_
   ·intro hc13
    try simp only [nrm] at hc13
    have hk0 : k ≠ 0 := by omega
    refine RD_tg 20 Z kR Z (yl Z Z) (fun _ hK => v_move Z) (RD_tg 21 Z kR Z (yl Z Z) (fun _ hK => v_move Z) (RD_tg 22 Z kR Z (yl Z Z) (fun _ hK => v_sub Z Z oO) ?_))
    have hl15 := hlist.len
    obtain ⟨b15, o15, z15, q15, ha15, hz15, hq15, hE15, hrow15, _⟩ := hlist.at (i := (k - 1)) oM
    clear hq15
    obtain ⟨a15, m15, c15, rfl, hi15, hr15, hj15⟩ := hE15; have hn_hr15 := hr15.len; have hx_hr15 : _ ≤ 1099511627776 := hr15.lim
    refine RD_tg 23 Z kR Z (yl Z Z) (fun _ hK => v_index_P (i := (k - 1)) ha15 underlying23 sizeOf105 Z Z oM oM) (RD_tg 24 Z kR Z (yl Z Z) (fun _ hK => v_fieldAddr 0 runUnderlying105 Z sizeOf3 Z Z) (RD_tg 25 Z kR Z (yl Z Z) (fun _ hK => v_load_P hK isAgg3 Z (hrow15 0 _ Z)) (RD_tg 26 Z kR Z (yl Z Z) (fun _ hK => v_fieldAddr 0 runUnderlying105 Z sizeOf3 Z Z) (RD_tg 27 Z kR Z (yl Z Z) (fun _ hK => v_load_B 0 hK isAgg3 Z Z Z) (RD_tg 28 Z kR Z (yl Z Z) (fun _ hK => v_geq Z Z) (RD_tg 29 Z kR Z (yl Z Z) (fun _ hK => v_pick_t Z Z) (RD_t 30 Z kR Z (fun _ hK => v_pick_f Z Z) (RD_done kR (N_K ?_)))))))))
    refine W_cond Z ?_ ?_
    ·intro hc16
     try simp only [nrm] at hc16
     refine q2 (aG Z (q3 (W_ret (N_K_ret (N_B_ret (N_K_ret (N_LP_ret (N_B_ret (N_K_ret (rt1 results96 Z ?_))))))))))
     exact H.rets (congrArg Value.bool (by rw [Sp.StoreValid, Sp.not_all_range (k := k) oM (by rw [Sp.okH_at hz3]; simp [Sp.prevId, *]; intro h; omega)]; rfl))
    intro hc16'
    try simp only [nrm] at hc16'
    refine W_skip (N_K (q2 (aG Z (q3 (W_block ?_)))))
    obtain ⟨ln17, hln17, H⟩ := H.name (k := 0) rfl
    refine W_lp (hf := (Sub.cons (t := 0) Z (Sub.cons (t := 3) Z (Sub.cons (t := 4) Z Sub.nil)))) (J := fun M w m => ∃ (i : Nat) (G : PH), M = [(5, .int .i64 (i : Int))] ∧ PLe G1 G ∧ Hp w0 G0 [] w G [blk b4 (cl ln17 105)] ∧ (i ≤ k ∧ (list.take i).all (fun g => !Sp.l2Same g.bytes z3.bytes) = true) ∧ m = (k - i)) (h0 := ⟨0, _, Z, PLe.refl _, H, ?inv, Z⟩) (round := ?round)
    case inv => exact ⟨by omega, by simp⟩
    case round =>
     rintro _ w18 _ ⟨i, G18, rfl, hle18, H, hinv18, rfl⟩
     subst hln17
     have hlist := hlist.up hle18
     have hr3 := hr3.up hle18
     have hle1 := hle1.trans hle18
     obtain ⟨hi, hall2⟩ := hinv18
     refine W_seq (q2 (mV Z (mV Z (o_lss Z Z Z (q3 ?_)))))
     refine W_cond Z ?_ ?_
     ·intro hc19
      try simp only [nrm] at hc19
      refine W_skip (N_K (W_seq (W_block (W_seq (W_drawK [0] 8 H kR Z ?_))))); intro w20 H; have hd20 := PLe.refl G18
      refine vM 0 Z Z (vM 1 Z Z ?_)
      have hl21 := hlist.len
      obtain ⟨b21, o21, z21, q21, ha21, hz21, hq21, hE21, hrow21, _⟩ := hlist.at (i := i) oM
      clear hq21
      obtain ⟨a21, m21, c21, rfl, hi21, hr21, hj21⟩ := hE21; have hn_hr21 := hr21.len; have hx_hr21 : _ ≤ 1099511627776 := hr21.lim
      refine RD_t 2 Z kR Z (fun _ hK => v_index_P (i := i) ha21 underlying23 sizeOf105 Z Z Z oM) (RD_t 3 Z kR Z (fun _ hK => v_fieldAddr 1 runUnderlying105 Z sizeOf33 Z Z) (RD_t 4 Z kR Z (fun _ hK => v_load_P hK isAgg33 Z (hrow21 1 _ Z)) (RD_t 5 Z kR Z (fun _ hK => v_fieldAddr 1 runUnderlying105 Z sizeOf33 Z Z) (RD_t 6 Z kR Z (fun _ hK => v_load_B 0 hK isAgg33 Z Z Z) ?_))))
      refine RD_run [7] kR Z (RDs.cons Z ?_ RDs.nil)
      refine o_call call144 Z Z (l2Same_c _ _ H.sub _ _ hr21 _ _ hr3 ) ?_
      rintro _ w22 ⟨rfl, ew22⟩; have H := H.step ew22; refine ⟨_, rfl, ?_⟩
      refine R_nil (N_DK (Kn.of' H hd20 (SubL.cons 0 Z SubL.nil)) (RD_done kR (N_K ?_)))
      refine W_cond Z ?_ ?_
      ·intro hc23
       try simp only [nrm] at hc23
       refine q2 (aG Z (q3 (W_ret (N_B_ret (N_K_ret (N_LP_ret (N_B_ret (N_B_ret (N_K_ret (N_LP_ret (N_B_ret (N_K_ret (rt1 results96 Z ?_)))))))))))))
       exact H.rets (congrArg Value.bool (by rw [Sp.StoreValid, Sp.not_all_range (k := k) oM (by rw [Sp.okH_at hz3, Sp.all_false (l := list.take k) (k := i) (by rw [List.getElem?_take, if_pos oM]; exact hz21) (by simp [*])]; simp)]; rfl))
      intro hc23'
      try simp only [nrm] at hc23'
      refine W_skip (N_B (N_K (W_region (mV Z (o_add Z Z Z oO (aG Z (R_nil ?_)))))))
      refine N_lp (hJ := ⟨i + 1, _, Z, hle18, H, ?inv, Z⟩) (hm := ?hm)
      case hm => omega
      case inv => exact ⟨by omega, Sp.all_take hall2 hz21 (by simp [*])⟩
     intro hc19'
     try simp only [nrm] at hc19'
     refine W_exit (N_K_exit (N_LP_exit (N_B_same (N_B (N_K (W_region (mV Z (o_add Z Z Z oO (aG Z (R_nil ?_))))))))))
     have H := H.del (k := 0) rfl
     refine N_lp (hJ := ⟨k + 1, _, Z, hle1, H, ?inv, Z⟩) (hm := ?hm)
     case hm => omega
     case inv => exact ⟨by omega, Sp.upto_succ hall (by (obtain rfl : i = k := by omega); rw [Sp.okH_at hz3, hall2]; simp [Sp.prevId, *])⟩
   intro hc13'
   try simp only [nrm] at hc13'
   have hk0 : k = 0 := by omega
   refine RD_pass 20 Z kR kR kR Z (yl_ne Z Z Z) (RD_pass 21 Z kR kR kR Z (yl_ne Z Z Z) (RD_pass 22 Z kR kR kR Z (yl_ne Z Z Z) (RD_pass 23 Z kR kR kR Z (yl_ne Z Z Z) (RD_pass 24 Z kR kR kR Z (yl_ne Z Z Z) (RD_pass 25 Z kR kR kR Z (yl_ne Z Z Z) (RD_pass 26 Z kR kR kR Z (yl_ne Z Z Z) (RD_pass 27 Z kR kR kR Z (yl_ne Z Z Z) (RD_pass 28 Z kR kR kR Z (yl_ne Z Z Z) (RD_tg 29 Z kR Z (yl Z Z) (fun _ hK => v_pick_f Z Z) (RD_t 30 Z kR Z (fun _ hK => v_pick_f Z Z) (RD_done kR (N_K (W_false Z (W_skip (N_K ?_)))))))))))))))
   refine q2 (aG Z (q3 (W_block ?_)))
   obtain ⟨ln26, hln26, H⟩ := H.name (k := 0) rfl
   refine W_lp (hf := (Sub.cons (t := 0) Z (Sub.cons (t := 3) Z (Sub.cons (t := 4) Z Sub.nil)))) (J := fun M w m => ∃ (i : Nat) (G : PH), M = [(5, .int .i64 (i : Int))] ∧ PLe G1 G ∧ Hp w0 G0 [] w G [blk b4 (cl ln26 105)] ∧ (i ≤ k ∧ (list.take i).all (fun g => !Sp.l2Same g.bytes z3.bytes) = true) ∧ m = (k - i)) (h0 := ⟨0, _, Z, PLe.refl _, H, ?inv, Z⟩) (round := ?round)
   case inv => exact ⟨by omega, by simp⟩
   case round =>
    rintro _ w27 _ ⟨i, G27, rfl, hle27, H, hinv27, rfl⟩
    subst hln26
    have hlist := hlist.up hle27
    have hr3 := hr3.up hle27
    have hle1 := hle1.trans hle27
    obtain ⟨hi, hall2⟩ := hinv27
    refine W_seq (q2 (mV Z (mV Z (o_lss Z Z Z (q3 ?_)))))
    refine W_cond Z ?_ ?_
    ·intro hc28
     try simp only [nrm] at hc28
     refine W_skip (N_K (W_seq (W_block (W_seq (W_drawK [0] 8 H kR Z ?_))))); intro w29 H; have hd29 := PLe.refl G27
     refine vM 0 Z Z (vM 1 Z Z ?_)
     have hl30 := hlist.len
     obtain ⟨b30, o30, z30, q30, ha30, hz30, hq30, hE30, hrow30, _⟩ := hlist.at (i := i) oM
     clear hq30
     obtain ⟨a30, m30, c30, rfl, hi30, hr30, hj30⟩ := hE30; have hn_hr30 := hr30.len; have hx_hr30 : _ ≤ 1099511627776 := hr30.lim
     refine RD_t 2 Z kR Z (fun _ hK => v_index_P (i := i) ha30 underlying23 sizeOf105 Z Z Z oM) (RD_t 3 Z kR Z (fun _ hK => v_fieldAddr 1 runUnderlying105 Z sizeOf33 Z Z) (RD_t 4 Z kR Z (fun _ hK => v_load_P hK isAgg33 Z (hrow30 1 _ Z)) (RD_t 5 Z kR Z (fun _ hK => v_fieldAddr 1 runUnderlying105 Z sizeOf33 Z Z) (RD_t 6 Z kR Z (fun _ hK => v_load_B 0 hK isAgg33 Z Z Z) ?_))))
     refine RD_run [7] kR Z (RDs.cons Z ?_ RDs.nil)
     refine o_call call144 Z Z (l2Same_c _ _ H.sub _ _ hr30 _ _ hr3 ) ?_
     rintro _ w31 ⟨rfl, ew31⟩; have H := H.step ew31; refine ⟨_, rfl, ?_⟩
     refine R_nil (N_DK (Kn.of' H hd29 (SubL.cons 0 Z SubL.nil)) (RD_done kR (N_K ?_)))
     refine W_cond Z ?_ ?_
     ·intro hc32
      try simp only [nrm] at hc32
      refine q2 (aG Z (q3 (W_ret (N_B_ret (N_K_ret (N_LP_ret (N_B_ret (N_B_ret (N_K_ret (N_LP_ret (N_B_ret (N_K_ret (rt1 results96 Z ?_)))))))))))))
      exact H.rets (congrArg Value.bool (by rw [Sp.StoreValid, Sp.not_all_range (k := k) oM (by rw [Sp.okH_at hz3, Sp.all_false (l := list.take k) (k := i) (by rw [List.getElem?_take, if_pos oM]; exact hz30) (by simp [*])]; simp)]; rfl))
     intro hc32'
     try simp only [nrm] at hc32'
     refine W_skip (N_B (N_K (W_region (mV Z (o_add Z Z Z oO (aG Z (R_nil ?_)))))))
     refine N_lp (hJ := ⟨i + 1, _, Z, hle27, H, ?inv, Z⟩) (hm := ?hm)
     case hm => omega
     case inv => exact ⟨by omega, Sp.all_take hall2 hz30 (by simp [*])⟩
    intro hc28'
    try simp only [nrm] at hc28'
    refine W_exit (N_K_exit (N_LP_exit (N_B_same (N_B (N_K (W_region (mV Z (o_add Z Z Z oO (aG Z (R_nil ?_))))))))))
    have H := H.del (k := 0) rfl
    refine N_lp (hJ := ⟨k + 1, _, Z, hle1, H, ?inv, Z⟩) (hm := ?hm)
    case hm => omega
    case inv => exact ⟨by omega, Sp.upto_succ hall (by (obtain rfl : i = k := by omega); rw [Sp.okH_at hz3, hall2]; simp [Sp.prevId, *])⟩
  intro hc2'
  try simp only [nrm] at hc2'
  refine W_exit (N_K_exit (N_LP_exit (N_B_same (N_K (q2 (mV Z (o_len_slice underlying23 Z Z (o_leq Z Z Z (aG Z (q3 (W_ret (rt1 results96 Z ?_))))))))))))
  exact H.rets (congrArg Value.bool (by rw [Sp.StoreValid, Sp.all_range (fun j hj => hall j oM), Bool.true_and]; rw [Bool.eq_iff_iff]; simp; omega))
theorem l3At_c (w0 : World) (G0 : PH) (hG : PSub G0 w0) (vlist : Value) (list : List (BHeld)) (hlist : RdH G0 vlist list) (id : Int)  :
  Calls Tryz.prog 113 #[vlist, .int .i64 id] w0 (Rets w0 (.int .i64 (Sp.l3At list id))) := by
 obtain ⟨alist, klist, rfl⟩ := hlist.shape
 have hlimlist : list.length ≤ 1099511627776 := hlist.lim
 have H := Hp.init hG
 refine calls_of_W (l := [.slice alist list.length klist, .int .i64 id]) func113 Z ntmps113 Z (q2 (aG Z (q3 (W_seq (q2 (aG Z (q3 (W_block ?_))))))))
 refine W_lp (hf := (Sub.cons (t := 0) Z (Sub.cons (t := 1) Z Sub.nil))) (J := fun M w m => ∃ (k : Nat) (G : PH), M = [(5, .int .i64 (k : Int))] ∧ PLe G0 G ∧ Hp w0 G0 [] w G [] ∧ (k ≤ list.length ∧ (∀ j, j < k → ∀ y, list[j]? = some y → decide (y.id = id) = false)) ∧ m = (list.length - k)) (h0 := ⟨0, _, Z, PLe.refl _, H, ?inv, Z⟩) (round := ?round)
 case inv => exact ⟨by omega, fun j hj => by omega⟩
 case round =>
  rintro _ w1 _ ⟨k, G1, rfl, hle1, H, hinv1, rfl⟩
  have hlist := hlist.up hle1
  obtain ⟨hk, hall⟩ := hinv1
  refine W_seq (q2 (mV Z (mV Z (o_len_slice underlying23 Z Z (o_lss Z Z Z (q3 ?_))))))
  refine W_cond Z ?_ ?_
  ·intro hc2
   try simp only [nrm] at hc2
   refine W_skip (N_K (W_seq (W_block (q2 (mV Z (mV Z (o_index_P k hlist underlying23 sizeOf105 Z Z Z Z aN ?_))))))); intro b3 o3 z3 q3 hz3 hE3 hrow3
   obtain ⟨a3, m3, c3, rfl, hi3, hr3, hj3⟩ := hE3; have hn_hr3 := hr3.len; have hx_hr3 : _ ≤ 1099511627776 := hr3.lim
   refine o_fieldAddr 0 runUnderlying105 Z sizeOf3 Z Z Z (o_load_P H isAgg3 Z Z (hrow3 0 _ Z) (mV Z (o_eql Z Z Z (q3 ?_))))
   refine W_cond Z ?_ ?_
   ·intro hc4
    try simp only [nrm] at hc4
    refine q2 (mV Z (aG Z (q3 (W_ret (N_B_ret (N_K_ret (N_LP_ret (N_B_ret (N_K_ret (rt1 results113 Z ?_))))))))))
    exact H.rets (congrArg (Value.int .i64) (by rw [Sp.l3At, Sp.atH, Sp.find_at hall hz3 (by simp; omega)]; rfl))
   intro hc4'
   try simp only [nrm] at hc4'
   refine W_skip (N_B (N_K (W_region (mV Z (o_add Z Z Z oO (aG Z (R_nil ?_)))))))
   refine N_lp (hJ := ⟨k + 1, _, Z, hle1, H, ?inv, Z⟩) (hm := ?hm)
   case hm => omega
   case inv => exact ⟨by omega, Sp.none_succ hall hz3 (by simp; omega)⟩
  intro hc2'
  try simp only [nrm] at hc2'
  refine W_exit (N_K_exit (N_LP_exit (N_B_same (N_K (q2 (aG Z (q3 (W_ret (rt1 results113 Z ?_)))))))))
  exact H.rets (congrArg (Value.int .i64) (by rw [Sp.l3At, Sp.atH, Sp.find_none hall oM]; rfl))
theorem l3Like_c (w0 : World) (G0 : PH) (hG : PSub G0 w0) (vlist : Value) (list : List (BHeld)) (hlist : RdH G0 vlist list) (vbytes : Value) (bytes : List (Int)) (hbytes : RdI G0 vbytes bytes)  :
  Calls Tryz.prog 190 #[vlist, vbytes] w0 (Rets w0 (.int .i64 (Sp.l3Like list bytes))) := by
 obtain ⟨alist, klist, rfl⟩ := hlist.shape
 have hlimlist : list.length ≤ 1099511627776 := hlist.lim
 obtain ⟨abytes, kbytes, rfl⟩ := hbytes.shape
 have hlimbytes : bytes.length ≤ 1099511627776 := hbytes.lim
 have H := Hp.init hG
 refine calls_of_W (l := [.slice alist list.length klist, .slice abytes bytes.length kbytes]) func190 Z ntmps190 Z (q2 (aG Z (q3 (W_seq (q2 (aG Z (q3 (W_block ?_))))))))
 refine W_lp (hf := (Sub.cons (t := 0) Z (Sub.cons (t := 1) Z Sub.nil))) (J := fun M w m => ∃ (k : Nat) (G : PH), M = [(5, .int .i64 (k : Int))] ∧ PLe G0 G ∧ Hp w0 G0 [] w G [] ∧ (k ≤ list.length ∧ (∀ j, j < k → ∀ y, list[j]? = some y → Sp.l2Same y.bytes bytes = false)) ∧ m = (list.length - k)) (h0 := ⟨0, _, Z, PLe.refl _, H, ?inv, Z⟩) (round := ?round)
 case inv => exact ⟨by omega, fun j hj => by omega⟩
 case round =>
  rintro _ w1 _ ⟨k, G1, rfl, hle1, H, hinv1, rfl⟩
  have hlist := hlist.up hle1
  have hbytes := hbytes.up hle1
  obtain ⟨hk, hall⟩ := hinv1
  refine W_seq (q2 (mV Z (mV Z (o_len_slice underlying23 Z Z (o_lss Z Z Z (q3 ?_))))))
  refine W_cond Z ?_ ?_
  ·intro hc2
   try simp only [nrm] at hc2
   refine W_skip (N_K (W_seq (W_block (q2 (mV Z (mV Z (o_index_P k hlist underlying23 sizeOf105 Z Z Z Z aN ?_))))))); intro b3 o3 z3 q3 hz3 hE3 hrow3
   obtain ⟨a3, m3, c3, rfl, hi3, hr3, hj3⟩ := hE3; have hn_hr3 := hr3.len; have hx_hr3 : _ ≤ 1099511627776 := hr3.lim
   refine o_fieldAddr 1 runUnderlying105 Z sizeOf33 Z Z Z (o_load_P H isAgg33 Z Z (hrow3 1 _ Z) (mV Z (o_call call144 Z Z (l2Same_c _ _ H.sub _ _ hr3 _ _ hbytes ) ?_)))
   rintro _ w4 ⟨rfl, ew4⟩; have H := H.step ew4; refine ⟨_, rfl, ?_⟩
   refine q3 ?_
   refine W_cond Z ?_ ?_
   ·intro hc5
    try simp only [nrm] at hc5
    refine q2 (mV Z (aG Z (q3 (W_ret (N_B_ret (N_K_ret (N_LP_ret (N_B_ret (N_K_ret (rt1 results190 Z ?_))))))))))
    exact H.rets (congrArg (Value.int .i64) (by rw [Sp.l3Like, Sp.like, Sp.find_at hall hz3 hc5]; rfl))
   intro hc5'
   try simp only [nrm] at hc5'
   refine W_skip (N_B (N_K (W_region (mV Z (o_add Z Z Z oO (aG Z (R_nil ?_)))))))
   refine N_lp (hJ := ⟨k + 1, _, Z, hle1, H, ?inv, Z⟩) (hm := ?hm)
   case hm => omega
   case inv => exact ⟨by omega, Sp.none_succ hall hz3 hc5'⟩
  intro hc2'
  try simp only [nrm] at hc2'
  refine W_exit (N_K_exit (N_LP_exit (N_B_same (N_K (q2 (aG Z (q3 (W_ret (rt1 results190 Z ?_)))))))))
  exact H.rets (congrArg (Value.int .i64) (by rw [Sp.l3Like, Sp.like, Sp.find_none hall oM]; rfl))
theorem l3Copy_c (w0 : World) (G0 : PH) (hG : PSub G0 w0) (vlist : Value) (list : List (BHeld)) (hlist : RdH G0 vlist list)  :
  Calls Tryz.prog 102 #[vlist] w0 (RetO w0 G0 (AccOf heldE 3 105 list)) := by
 obtain ⟨alist, klist, rfl⟩ := hlist.shape
 have hlimlist : list.length ≤ 1099511627776 := hlist.lim
 have H := Hp.init hG
 refine calls_of_W (l := [.slice alist list.length klist]) func102 Z ntmps102 Z (q2 (aG Z (q1 (o_buildSlice H underlying23 sizeOf105 (fun w => ⟨_, zeroValue105 w, Z⟩) Z Z Z Z Z Z Z ?_)))); intro b1 w1 hb1 H
 have H := H.blkAcc 3 (k := 0) (n := 0) rfl rfl (by decide)
 refine aG Z (q3 (W_seq (q2 (aG Z (q3 (W_block ?_))))))
 refine W_lp (hf := (Sub.cons (t := 0) Z (Sub.cons (t := 2) Z Sub.nil))) (J := fun M w m => ∃ (v : Value) (n : Nat) (cs : List Value) (xs : List (BHeld)) (k : Nat) (G : PH), M = [(4, .int .i64 (k : Int)), (3, v)] ∧ PLe G0 G ∧ Hp w0 G0 [] w G [acc 105 3 v n cs] ∧ (Chk heldE 3 G cs xs ∧ n = xs.length ∧ k ≤ list.length ∧ xs.length = k ∧ xs = list.take k) ∧ m = (list.length - k)) (h0 := ⟨_, _, _, [], 0, _, Z, PLe.refl _, H, ?inv, Z⟩) (round := ?round)
 case inv => exact ⟨(Chk.nil (E := heldE) (sz := 3) (G := G0)),  by first | rfl | simp | (simp; omega) | omega, (by simp)⟩
 case round =>
  rintro _ w2 _ ⟨v, n, cs, xs, k, G2, rfl, hle2, H, hinv2, rfl⟩
  have hlist := hlist.up hle2
  obtain ⟨hchk2_0, hn2_0, hinv2⟩ := hinv2
  obtain ⟨av2_0, cv2_0, rfl⟩ := H.accShape (k := 0) rfl
  obtain ⟨hk, hxl, hxs⟩ := hinv2
  refine W_seq (q2 (mV Z (mV Z (o_len_slice underlying23 Z Z (o_lss Z Z Z (q3 ?_))))))
  refine W_cond Z ?_ ?_
  ·intro hc3
   try simp only [nrm] at hc3
   refine W_skip (N_K (W_seq (W_block (q2 (mV Z (mV Z (o_index_P k hlist underlying23 sizeOf105 Z Z Z Z aN ?_))))))); intro b4 o4 z4 q4 hz4 hE4 hrow4
   obtain ⟨a4, m4, c4, rfl, hi4, hr4, hj4⟩ := hE4; have hn_hr4 := hr4.len; have hx_hr4 : _ ≤ 1099511627776 := hr4.lim
   refine o_loadagg_P H isAgg105 sizeOf105 Z Z hrow4 Z (o_alloc H zeroValue105 Z Z ?_); intro b5 w5 hb5 H
   refine o_store_B 0 H sizeOf105 Z Z Z Z Z Z Z Z ?_; intro w6 H
   refine q1 (o_buildSlice H underlying33 sizeOf3 (fun w => ⟨_, zeroValue3 w, Z⟩) Z Z Z Z Z Z Z ?_); intro b7 w7 hb7 H
   have H := H.blkAcc 1 (k := 0) (n := 0) rfl rfl (by decide)
   refine o_fieldAddr 1 runUnderlying105 Z sizeOf33 Z Z Z (o_load_B 1 H isAgg33 Z Z Z Z ?_)
   refine o_append_P 0 H hr4 (by intro z cs hz u hu; obtain ⟨rfl, _⟩ := hz; simp at hu; subst hu; rfl) (sz := 1) (bytes := 8) underlying33 typeInfo3 ⟨_, rfl, rfl⟩ rfl rfl rfl rfl rfl rfl rfl oM rfl ?_; intro v8 w8 css8 hcl8 hcs8 H
   have hchk8 : Chk intE 1 G2 ([] ++ css8.flatten) _ := ⟨css8, rfl, hcl8, hcs8⟩
   obtain ⟨av8, cv8, rfl⟩ := H.accShape (k := 0) rfl
   refine o_fieldAddr 1 runUnderlying105 Z sizeOf33 Z Z Z (o_store_B 1 H sizeOf33 Z Z Z Z Z Z Z Z ?_); intro w9 H
   refine q3 (W_region (mV Z (o_loadagg_B 1 H isAgg105 sizeOf105 Z Z Z Z Z (o_buildSlice H underlying23 sizeOf105 (fun w => ⟨_, zeroValue105 w, Z⟩) Z Z Z Z Z Z Z ?_)))); intro b10 w10 hb10 H
   refine o_append1 2 H (sz := 3) (bytes := 40) underlying23 typeInfo105 ⟨_, Z, Z⟩ Z Z Z Z Z Z Z Z Z Z oM Z ?_; intro v11 w11 H
   obtain ⟨G12, H, hsg12, hsr12⟩ := H.shut' (k := 0) rfl hchk8 aN aN
   have hchk2_0 := hchk2_0.up hsg12
   have hle2 := hle2.trans hsg12
   have hchk11 := hchk2_0.snoc (show heldE _ z4 _ from ⟨_, _, _, rfl, ⟨by first | omega | (dsimp only; omega), by first | omega | (dsimp only; omega)⟩, hsr12, ⟨by first | omega | (dsimp only; omega), by first | omega | (dsimp only; omega)⟩⟩) rfl
   obtain ⟨av11, cv11, rfl⟩ := H.accShape (k := 1) rfl
   refine aG Z (R_nil (N_B (N_K (W_region (mV Z (o_add Z Z Z oO (aG Z (R_nil ?_))))))))
   have H := H.del (k := 0) rfl
   refine N_lp (hJ := ⟨_, _, _, (xs ++ [z4]), k + 1, _, Z, hle2, H, ?inv, Z⟩) (hm := ?hm)
   case hm => omega
   case inv => exact ⟨hchk11, aN, (by exact ⟨by omega, by simp [hxl], by rw [Sp.take_succ' hz4, hxs]⟩)⟩
  intro hc3'
  try simp only [nrm] at hc3'
  refine W_exit (N_K_exit (N_LP_exit (N_B_same (N_K (q2 (mV Z (aG Z (q3 (W_ret (rt1 results102 Z ?_))))))))))
  obtain rfl : k = list.length := by omega
  rw [List.take_length] at hxs
  subst hxs
  exact H.retO (k := 0) rfl (AccOf.mk (by assumption) hchk2_0) (acc_nd _ _ _ _ _)
theorem l12At_c (w0 : World) (G0 : PH) (hG : PSub G0 w0) (vlist : Value) (list : List (BSnap)) (hlist : RdSn G0 vlist list) (name : Bs) (hname : name.length ≤ 16777216)  :
  Calls Tryz.prog 46 #[vlist, str name] w0 (Rets w0 (.int .i64 (Sp.l12At list name))) := by
 obtain ⟨alist, klist, rfl⟩ := hlist.shape
 have hlimlist : list.length ≤ 1099511627776 := hlist.lim
 have H := Hp.init hG
 refine calls_of_W (l := [.slice alist list.length klist, str name]) func46 Z ntmps46 Z (q2 (aG Z (q3 (W_seq (q2 (aG Z (q3 (W_block ?_))))))))
 refine W_lp (hf := (Sub.cons (t := 0) Z (Sub.cons (t := 1) Z Sub.nil))) (J := fun M w m => ∃ (k : Nat) (G : PH), M = [(5, .int .i64 (k : Int))] ∧ PLe G0 G ∧ Hp w0 G0 [] w G [] ∧ (k ≤ list.length ∧ (∀ j, j < k → ∀ y, list[j]? = some y → decide (y.name = name) = false)) ∧ m = (list.length - k)) (h0 := ⟨0, _, Z, PLe.refl _, H, ?inv, Z⟩) (round := ?round)
 case inv => exact ⟨by omega, fun j hj => by omega⟩
 case round =>
  rintro _ w1 _ ⟨k, G1, rfl, hle1, H, hinv1, rfl⟩
  have hlist := hlist.up hle1
  obtain ⟨hk, hall⟩ := hinv1
  refine W_seq (q2 (mV Z (mV Z (o_len_slice underlying25 Z Z (o_lss Z Z Z (q3 ?_))))))
  refine W_cond Z ?_ ?_
  ·intro hc2
   try simp only [nrm] at hc2
   refine W_skip (N_K (W_seq (W_block (q2 (mV Z (mV Z (o_index_P k hlist underlying25 sizeOf81 Z Z Z Z aN ?_))))))); intro b3 o3 z3 q3 hz3 hE3 hrow3
   obtain ⟨a3, m3, c3, rfl, hi3, hr3⟩ := hE3; have hy_hi3 : _ ≤ 16777216 := hi3; have hn_hr3 := hr3.len; have hx_hr3 : _ ≤ 1099511627776 := hr3.lim
   refine o_fieldAddr 0 runUnderlying81 Z sizeOf9 Z Z Z (o_load_P H isAgg9 Z Z (hrow3 0 _ Z) (mV Z (o_seql Z Z Z (q3 ?_))))
   refine W_cond Z ?_ ?_
   ·intro hc4
    try simp only [nrm] at hc4
    refine q2 (mV Z (aG Z (q3 (W_ret (N_B_ret (N_K_ret (N_LP_ret (N_B_ret (N_K_ret (rt1 results46 Z ?_))))))))))
    exact H.rets (congrArg (Value.int .i64) (by rw [Sp.l12At, Sp.atS, Sp.find_at hall hz3 (by simp; exact hc4)]; rfl))
   intro hc4'
   try simp only [nrm] at hc4'
   refine W_skip (N_B (N_K (W_region (mV Z (o_add Z Z Z oO (aG Z (R_nil ?_)))))))
   refine N_lp (hJ := ⟨k + 1, _, Z, hle1, H, ?inv, Z⟩) (hm := ?hm)
   case hm => omega
   case inv => exact ⟨by omega, Sp.none_succ hall hz3 (by simp; exact hc4')⟩
  intro hc2'
  try simp only [nrm] at hc2'
  refine W_exit (N_K_exit (N_LP_exit (N_B_same (N_K (q2 (aG Z (q3 (W_ret (rt1 results46 Z ?_)))))))))
  exact H.rets (congrArg (Value.int .i64) (by rw [Sp.l12At, Sp.atS, Sp.find_none hall oM]; rfl))
end Go.Proofs.Tst

