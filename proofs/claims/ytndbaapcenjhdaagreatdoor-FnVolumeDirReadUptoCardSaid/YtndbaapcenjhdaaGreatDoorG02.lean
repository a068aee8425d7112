/- Part 2 of the proof: the program logic and plain functions. Conditions: none. -/
import Derived.Test.YtndbaapcenjhdaaGreatDoorG01
import Derived.Conc.MuLone
import Derived.Test.YtndbaapcenjhdaaGreatDoorG00
import Derived.Laws.BytesArg
import Derived.KernelRfl
import Derived.Test.YtndbaapcenjhdaaGreatDoorProg
set_option linter.all false
set_option maxRecDepth 100000
set_option maxHeartbeats 1000000
namespace Fw
open Go
theorem get_setCs : ∀ (vs l : List Value) (o j : Nat), (setCs l o vs)[j]? = if o ≤ j ∧ j < o + vs.length ∧ j < l.length then vs[j - o]? else l[j]?
  | [], l, o, j => by simp only [setCs, List.length_nil, Nat.add_zero]; rw [if_neg (by omega)]
  | v :: r, l, o, j => by
    simp only [setCs, get_setCs r, length_setN, List.length_cons]
    rw [setN_eq, List.getElem?_set]
    by_cases h : o = j
    · subst h
      rw [if_neg (by omega)]
      by_cases h2 : o < l.length
      · simp [h2]
      · simp [h2]
    · by_cases h2 : o + 1 ≤ j ∧ j < o + 1 + r.length ∧ j < l.length
      · rw [if_pos h2, if_pos (by omega)]
        rw [show j - o = (j - (o + 1)) + 1 by omega, List.getElem?_cons_succ]
      · rw [if_neg h2, if_neg h, if_neg (by omega)]
theorem get_ins {c : List Value} {x : Value} {i : Nat} (hi : i ≤ c.length) (j : Nat) : (c.take i ++ x :: c.drop i)[j]? = if j < i then c[j]? else if j = i then some x else c[j - 1]? := by
  have hl : (c.take i).length = i := by simp; omega
  by_cases h : j < i
  · rw [if_pos h, List.getElem?_append_left (by omega), List.getElem?_take, if_pos h]
  · rw [if_neg h, List.getElem?_append_right (by omega), hl]
    by_cases h2 : j = i
    · subst h2; simp
    · rw [if_neg h2, show j - i = (j - i - 1) + 1 by omega, List.getElem?_cons_succ, List.getElem?_drop]
      congr 1; omega
theorem insC {c : List Value} {x z : Value} {i : Nat} (hi : i ≤ c.length) : setCs (setCs (c ++ [z]) (i + 1) (c.drop i)) i [x] = c.take i ++ x :: c.drop i := by
  apply List.ext_getElem?
  intro j
  rw [get_ins hi]
  simp only [get_setCs, length_setCs, List.length_append, List.length_cons, List.length_nil, List.length_drop]
  rcases Nat.lt_trichotomy j i with h | h | h
  · rw [if_neg (by omega), if_neg (by omega), List.getElem?_append_left (by omega), if_pos h]
  · subst h
    rw [if_pos (by omega), if_neg (by omega), if_pos rfl]
    simp
  · rw [if_neg (by omega)]
    by_cases h2 : j < c.length + 1
    · rw [if_pos (by omega), if_neg (by omega), if_neg (by omega), List.getElem?_drop]
      congr 1; omega
    · rw [if_neg (by omega), if_neg (by omega), if_neg (by omega), List.getElem?_eq_none (by simp; omega), List.getElem?_eq_none (by omega)]
theorem insC2 {c : List Value} {x z : Value} {i r : Nat} (hi : i ≤ c.length) (hr : i + r = c.length + 1) : setCs (setCs (c.take i ++ List.replicate r z) i [x]) (i + 1) (c.drop i) = c.take i ++ x :: c.drop i := by
  apply List.ext_getElem?
  intro j
  have hl : (c.take i).length = i := by simp; omega
  rw [get_ins hi]
  simp only [get_setCs, length_setCs, List.length_append, List.length_cons, List.length_nil, List.length_drop, hl, List.length_replicate]
  rcases Nat.lt_trichotomy j i with h | h | h
  · rw [if_neg (by omega), if_neg (by omega), List.getElem?_append_left (by omega), if_pos h, List.getElem?_take, if_pos h]
  · subst h
    rw [if_neg (by omega), if_pos (by omega), if_neg (by omega), if_pos rfl]
    simp
  · by_cases h2 : j < c.length + 1
    · rw [if_pos (by omega), if_neg (by omega), if_neg (by omega), List.getElem?_drop]
      congr 1; omega
    · rw [if_neg (by omega), if_neg (by omega), if_neg (by omega), if_neg (by omega), List.getElem?_eq_none (by simp; omega), List.getElem?_eq_none (by omega)]
theorem ptrs_ins (ks : List Nd) (k : Nd) (i : Nat) : (ptrs ks).take i ++ ptr k.b :: (ptrs ks).drop i = ptrs (ks.take i ++ k :: ks.drop i) := by simp [ptrs, List.map_take, List.map_drop]
theorem ptrs_del (ks : List Nd) (i : Nat) : (ptrs ks).take i ++ (ptrs ks).drop (i + 1) = ptrs (ks.take i ++ ks.drop (i + 1)) := by simp [ptrs, List.map_take, List.map_drop]
theorem ptrs_one {ks : List Nd} : ∀ v, v ∈ ptrs ks → v.oneCell' = true := by
  intro v hv
  obtain ⟨k, _, rfl⟩ := List.mem_map.1 hv
  rfl
theorem chkK {G : PH} : ∀ ks : List Nd, Chk kdE 1 G (ptrs ks) ks
  | [] => Chk.nil
  | k :: r => (Chk.one (E := kdE) (sz := 1) (G := G) (x := k) rfl rfl).app (chkK r)
section ops
variable {P : Program} {n : Nat} {ops : Array Oper} {Q : Post} {rest : List Oper} {L : Slots} {ds : List Deferred} {w w0 : World} {G0 : PH} {S : List Nat} {G : PH} {B : List Res}
variable {ty : TypeId} {ps : String} {af : Array Edge}
theorem o_slice_from1 {d : Nat} {t e : TypeId} {x y : Operand} {b m c i : Nat} {p : Int} (hU : P.underlying t = some (.slice e)) (hS : ∀ w, (Go.sizeOf e).run P w = .ok 1 w) (hd : Nat.blt d n = true) (hx : od L x = some (.slice (some ⟨b, 0, none⟩) m c))
    (hy : od L y = some (.int .i64 p)) (hp : p = (i : Int)) (hi : i ≤ m) (hc : i < c) (next : R P n ops Q rest ((d, .slice (some ⟨b, i, none⟩) (m - i) (c - i)) :: L) ds w) :
    R P n ops Q (⟨some d, .slice t x (some y) none none, ty, ps, af, none⟩ :: rest) L ds w := by
  refine o_slice_from (i := i) hU hS hd hx hy hp hi ?_
  rw [if_neg (by omega)]
  simpa [Addr.add_lit] using next
theorem v_slice_from1 {d : Nat} {t e : TypeId} {x y : Operand} {b m c i : Nat} {p : Int} (hU : P.underlying t = some (.slice e)) (hS : ∀ w, (Go.sizeOf e).run P w = .ok 1 w) (hx : od L x = some (.slice (some ⟨b, 0, none⟩) m c))
    (hy : od L y = some (.int .i64 p)) (hp : p = (i : Int)) (hi : i ≤ m) (hc : i < c) : VAL P n L ds w (⟨some d, .slice t x (some y) none none, ty, ps, af, none⟩) (.slice (some ⟨b, i, none⟩) (m - i) (c - i)) := by
  have h := v_slice_from (P := P) (n := n) (ds := ds) (w := w) (d := d) (ty := ty) (ps := ps) (af := af) (i := i) hU hS hx hy hp hi
  rw [if_neg (by omega)] at h
  simpa [Addr.add_lit] using h
theorem o_slice3 {d : Nat} {t e : TypeId} {x y z u : Operand} {a : Option Addr} {m c sz i j k : Nat} {p q r : Int} (hU : P.underlying t = some (.slice e)) (hS : ∀ w, (Go.sizeOf e).run P w = .ok sz w) (hd : Nat.blt d n = true) (hx : od L x = some (.slice a m c))
    (hy : od L y = some (.int .i64 p)) (hz : od L z = some (.int .i64 q)) (hu : od L u = some (.int .i64 r)) (hp : p = (i : Int)) (hq : q = (j : Int)) (hr : r = (k : Int)) (h1 : i ≤ j) (h2 : j ≤ k) (h3 : k ≤ c)
    (next : R P n ops Q rest ((d, .slice (if k = i then a else a.map (·.add (i * sz))) (j - i) (k - i)) :: L) ds w) : R P n ops Q (⟨some d, .slice t x (some y) (some z) (some u), ty, ps, af, none⟩ :: rest) L ds w :=
  R_run hd (fun b hb => by
    subst hp hq hr
    simp [execOp, hb.eval hx, hb.eval hy, hb.eval hz, hb.eval hu, Instr.sliceAt, Instr.slice, run_underlying hU, Instr.sliceBounds, Instr.sliceBound, asIntOf, hS, h1, h2, h3]) next
theorem o_slice_mid1 {d : Nat} {t e : TypeId} {x y z : Operand} {b m c i j : Nat} {p q : Int} (hU : P.underlying t = some (.slice e)) (hS : ∀ w, (Go.sizeOf e).run P w = .ok 1 w) (hd : Nat.blt d n = true) (hx : od L x = some (.slice (some ⟨b, 0, none⟩) m c))
    (hy : od L y = some (.int .i64 p)) (hz : od L z = some (.int .i64 q)) (hp : p = (i : Int)) (hq : q = (j : Int)) (h1 : i ≤ j) (h2 : j ≤ c) (hc : i < c)
    (next : R P n ops Q rest ((d, .slice (some ⟨b, i, none⟩) (j - i) (c - i)) :: L) ds w) : R P n ops Q (⟨some d, .slice t x (some y) (some z) none, ty, ps, af, none⟩ :: rest) L ds w := by
  refine o_slice (i := i) (j := j) hU hS hd hx hy hz hp hq h1 h2 ?_
  rw [if_neg (by omega)]
  simpa [Addr.add_lit] using next
end ops
end Fw
namespace Fw
open Go
theorem Hp.accMax {w0 w : World} {G0 G : PH} {S : List Nat} {B : List Res} (H : Hp w0 G0 S w G B) {k : Nat} {e : TypeId} {sz n m c : Nat} {a : Option Addr} {cells : List Value} (hk : nth B k = some (acc e sz (.slice a m c) n cells)) : c ≤ 9223372036854775807 := by
  obtain ⟨_, h⟩ := (H.own _ (nth_mem hk)).1
  rcases h with ⟨h, _⟩ | ⟨b, cap, C, g1, _, _, g4, _⟩
  · cases h; decide
  · simp only [Value.slice.injEq] at g1
    obtain ⟨_, _, rfl⟩ := g1
    simp only [maxLen] at g4
    omega
end Fw
namespace Fw.Nd
open Sp
end Fw.Nd
namespace Sp
open Fw
def cntT (l : List Nd) (id : Int) : Nat := (l.map (fun t => l11Count (t.flat []) id)).sum
theorem cntT_succ {l : List Nd} {id : Int} {k : Nat} {z : Nd} (h : l[k]? = some z) : cntT (l.take (k + 1)) id = cntT (l.take k) id + cntU (z.flat []) id (z.flat []).length := by
  simp [cntT, take_succ' h, l11Count]
theorem ids4 {l : List BHeld} {ids : List Int} (h : l4Ids l ids = true) : ids.length ≤ 4 := by
  simp only [l4Ids, Bool.and_eq_true, decide_eq_true_eq] at h
  exact h.2
end Sp
namespace Sp
open Fw
end Sp
namespace Sp
end Sp
namespace Fw
open Go
theorem ChkF.onecells {α : Type} {E : Fr → α → List Value → Prop} {sz : Nat} {c : List Value} {xs : List α} {F : Fr} (h : ChkF E sz c xs F) (hE : ∀ F x cs, E F x cs → ∀ u ∈ cs, u.oneCell' = true) : ∀ u ∈ c, u.oneCell' = true := by
  obtain ⟨css, Fs, rfl, rfl, h3, h4, h5⟩ := h
  intro u hu
  obtain ⟨cs, hcs, hu⟩ := List.mem_flatten.1 hu
  obtain ⟨j, hj⟩ := List.getElem?_of_mem hcs
  have hj' := (List.getElem?_eq_some_iff.1 hj).1
  obtain ⟨cs', Fi, e1, e2, e3, e4⟩ := h5 j xs[j] (by simp)
  rw [hj] at e1
  cases e1
  exact hE _ _ _ e4 u hu
section ops
variable {P : Program} {n : Nat} {ops : Array Oper} {Q : Post} {rest : List Oper} {L : Slots} {ds : List Deferred} {w w0 : World} {G0 : PH} {S : List Nat} {G : PH} {B : List Res}
variable {ty : TypeId} {ps : String} {af : Array Edge}
theorem o_append_F {α : Type} {E : Fr → α → List Value → Prop} (k : Nat) {F : Fr} (H : Hp w0 G0 S w G (frag F :: B)) {d : Nat} {t e e2 : TypeId} {i : TypeInfo} {sz bytes : Nat} {x y : Operand} {v : Value} {k0 : Nat} {xs : List Value} {a : Option Addr} {m c : Nat} {zs : List α}
    (ho : OwnS E sz e2 F (.slice a m c) zs) (hE : ∀ F x cs, E F x cs → ∀ u ∈ cs, u.oneCell' = true)
    (hU : P.underlying t = some (.slice e)) (hI : ∀ w, (typeInfo e).run P w = .ok i w) (hz : ∃ z, i.zero = some z ∧ (vc z).length = sz) (hs : i.size = sz) (hby : i.bytes = bytes) (hsz : Nat.blt 0 sz = true) (hd : Nat.blt d n = true)
    (hx : od L x = some v) (hy : od L y = some (.slice a m c)) (hk : nth B k = some (acc e sz v k0 xs)) (hb : k0 + m ≤ 2199023255552) (hb2 : Nat.ble bytes 64 = true)
    (next : ∀ v' w' cells F', Hp w0 G0 S w' G (frag F' :: setN B k (acc e sz v' (k0 + m) (xs ++ cells))) → ChkF E sz cells zs F' → m = zs.length → R P n ops Q rest ((d, v') :: L) ds w') :
    R P n ops Q (⟨some d, .call ⟨.builtin .append, #[x, y], #[t, t]⟩, ty, ps, af, none⟩ :: rest) L ds w := by
  obtain ⟨h0, h | ⟨b, cap, C, cells, F', h1, h2, h3, rfl, h5, h6, h7⟩⟩ := ho
  · obtain ⟨h1, rfl, rfl⟩ := h
    simp only [Value.slice.injEq] at h1
    obtain ⟨rfl, rfl, rfl⟩ := h1
    refine o_append_P (α := Int) (lim := LIM) (E := fun _ _ _ => False) (k + 1) H (zs := []) (RdS.nil _ _ _) (by simp) hU hI hz hs hby hsz hd hx hy (by simpa [nth] using hk) hb hb2 ?_
    intro v' w' css hcl _ H'
    have : css = [] := List.eq_nil_of_length_eq_zero (by simpa using hcl)
    subst this
    exact next v' w' [] [] (by simpa [setN] using H') ChkF.nil rfl
  · simp only [Value.slice.injEq] at h1
    obtain ⟨rfl, rfl, rfl⟩ := h1
    have hw : w.heap[b]? = some (.cells C e2 (0, 0)) := (H.own (frag ((b, .cells C e2 (0, 0)) :: F')) (List.mem_cons_self ..)).1 b _ (by simp [fh])
    refine o_append (k + 1) H (b := b) (o := 0) (m := zs.length) (c := c) (news := cells) hU hI hz hs hby hsz hd hx hy (by simpa [nth] using hk) h7.length (fun j u hu => ?_) (h7.onecells hE) hb (by simpa using hb2) ?_
    · rw [← h6, List.getElem?_take] at hu
      split at hu
      · simp only [World.cell?, Nat.zero_add, hw]
        simpa using hu
      · cases hu
    · intro v' w' H'
      simp only [setN] at H'
      have H2 := H'.outF
      exact next v' w' cells F' (by simpa [delN] using H2.del (k := 0) rfl) h7 rfl
end ops
section
variable (NT PT : TypeId)
mutual
def NdC : Nd → Fr → Prop
  | .mk b nm d ids ks => fun F => nm.length ≤ 16777216 ∧ ks.length ≤ 1099511627776 ∧ ∃ a m c kv Fi Fk Fs, F = Fi ++ (b, cl [str nm, .bool d, .slice a m c, kv] NT) :: Fk ∧ OI Fi (.slice a m c) ids ∧ KArr PT ks kv Fk Fs ∧ NdsC ks Fs
def NdsC : List Nd → Fr → Prop
  | [] => fun F => F = []
  | k :: r => fun F => ∃ F1 F2, F = F1 ++ F2 ∧ NdC k F1 ∧ NdsC r F2
end
end
section
variable {NT PT : TypeId}
theorem NdsC.snoc {k : Nd} {Fk : Fr} : ∀ {l : List Nd} {F : Fr}, NdsC NT PT l F → NdC NT PT k Fk → NdsC NT PT (l ++ [k]) (F ++ Fk)
  | [], F, h, hk => by simp only [NdsC] at h; subst h; simp only [List.nil_append, NdsC]; exact ⟨Fk, [], by simp, hk, rfl⟩
  | q :: r, F, h, hk => by
    simp only [NdsC] at h
    obtain ⟨F1, F2, rfl, h1, h2⟩ := h
    simp only [List.cons_append, NdsC]
    exact ⟨F1, F2 ++ Fk, by simp, h1, NdsC.snoc h2 hk⟩
end
end Fw
namespace Fw
open Go
theorem OIs.mk {e : TypeId} {F : Fr} {v : Value} {xs : List BItem} (h : OwnS itemO 3 e F v xs) : OIs F v xs := ⟨e, h⟩
end Fw
namespace Fw
open Go
section
variable {NT PT : TypeId} {w0 w : World} {G0 G : PH} {S : List Nat} {B : List Res}
end
end Fw
namespace Fw
open Go
theorem Chk.kd {G : PH} {c : List Value} {ks : List Nd} (h : Chk kdE 1 G c ks) : c = ptrs ks := by
  obtain ⟨css, rfl, h2, h3⟩ := h
  have : css = ks.map (fun k => [ptr k.b]) := by
    apply List.ext_getElem?
    intro i
    rw [List.getElem?_map]
    cases hk : ks[i]? with
    | none =>
      rw [List.getElem?_eq_none_iff] at hk
      simp only [Option.map_none]
      exact List.getElem?_eq_none (by omega)
    | some k =>
      obtain ⟨cs, e1, e2, e3⟩ := h3 i k hk
      rw [e1, e3]; rfl
  rw [this]
  clear this h2 h3
  induction ks with
  | nil => rfl
  | cons k r ih => simp [ptrs] at ih ⊢; exact ih
end Fw
namespace Fw
open Go
section
variable {P : Program} {n : Nat} {ops : Array Oper} {Q : Post} {rest : List Oper} {L : Slots} {ds : List Deferred} {w w0 : World} {G0 : PH} {S : List Nat} {G : PH} {B : List Res}
variable {ty : TypeId} {ps : String} {af : Array Edge}
variable {fn : Func} {C : Ending → World → Prop}
end
def osE : PH → (Bs × Nd) → List Value → Prop := fun _ x cs => cs = [str x.1, ptr x.2.b] ∧ x.1.length ≤ 16777216
instance : MonoE osE := ⟨fun _ h => h⟩
abbrev SnOK (xs : List (Bs × Nd)) (L : List BSnap) : Prop := All2 (fun x s => x.1 = s.name ∧ Nd.TOK x.2 s.tree ∧ Sp.TreeValid s.tree = true) xs L
theorem All2.len {α β : Type} {R : α → β → Prop} {l : List α} {m : List β} (h : All2 R l m) : l.length = m.length := by
  induction h with
  | nil => rfl
  | cons _ _ ih => simp [ih]
theorem All2.snoc {α β : Type} {R : α → β → Prop} {l : List α} {m : List β} {x : α} {y : β} (h : All2 R l m) (hx : R x y) : All2 R (l ++ [x]) (m ++ [y]) := by
  induction h with
  | nil => exact .cons hx .nil
  | cons h _ ih => exact .cons h ih
theorem All2.at {α β : Type} {R : α → β → Prop} {l : List α} {m : List β} (h : All2 R l m) : ∀ {i : Nat} {x : α}, l[i]? = some x → ∃ y, m[i]? = some y ∧ R x y := by
  induction h with
  | nil => intro i x hx; simp at hx
  | cons h _ ih =>
    intro i x hx
    cases i with
    | zero => simp at hx; subst hx; exact ⟨_, rfl, h⟩
    | succ i => exact ih (by simpa using hx)
end Fw
namespace Fw
open Go
end Fw
namespace Fw
open Go
section
variable {P : Program} {n : Nat} {ops : Array Oper} {Q : Post} {rest : List Oper} {L : Slots} {ds : List Deferred} {w : World}
variable {ty : TypeId} {ps : String} {af : Array Edge}
end
end Fw
namespace Fw
open Go
section
variable {NT PT : TypeId} {w0 w : World} {G0 G : PH} {S : List Nat} {B : List Res}
theorem NdsO.snoc {k : Nd} {Fk : Fr} {l : List Nd} {F : Fr} (h : NdsO NT PT G l F) (hk : NdO NT PT G k Fk) : NdsO NT PT G (l ++ [k]) (F ++ Fk) :=
  NdsO.app.2 ⟨F, Fk, rfl, h, by simp only [NdsO]; exact ⟨Fk, [], by simp, hk, rfl⟩⟩
end
end Fw
namespace Sp
open Fw
def useOK (s : List BHeld) (ts : List Nd) : Bool := ts.all (fun t => (t.flat []).all (fun x => l4Ids s x.ids)) && s.all (fun h => decide ((cntT ts h.id : Int) = h.uses))
end Sp
namespace Fw
open Sp
end Fw
namespace Fw
open Sp
end Fw
namespace Fw
open Go Sp
theorem take_eq {d : BDisk} {n : Bs} (hd : DiskValid d = true) (h1 : l1Word n = true) (h2 : (atS d.snaps n).isNone = true) (h3 : d.snaps.length ≠ 6) : SnapTake d n = (l12Keep d.store d.tree).map (fun s => ⟨s, d.tree, d.snaps ++ [⟨n, d.tree⟩]⟩) := by
  unfold SnapTake
  rw [if_pos]
  simp [hd, h1, h2, h3]
theorem All2.push {xs : List (Bs × Nd)} {L : List BSnap} {x : Bs × Nd} {s : BSnap} (h : SnOK xs L) (h1 : x.1 = s.name) (h2 : Nd.TOK x.2 s.tree) (h3 : TreeValid s.tree = true) : SnOK (xs ++ [x]) (L ++ [s]) := h.snoc ⟨h1, h2, h3⟩
end Fw
namespace Fw
open Go Sp
theorem OHs.mk {e : TypeId} {F : Fr} {v : Value} {xs : List BHeld} (h : OwnS heldO 3 e F v xs) : OHs F v xs := ⟨e, h⟩
end Fw
namespace Fw
theorem oh_nil : OHs [] (.slice none 0 0) [] := ⟨0, by simp, .inl ⟨rfl, rfl, rfl⟩⟩
theorem oi_nil : OIs [] (.slice none 0 0) [] := ⟨0, by simp, .inl ⟨rfl, rfl, rfl⟩⟩
end Fw
namespace Fw
open Sp
end Fw
namespace Sp
theorem same_at {α : Type} {a b : List α} {k : Nat} {x y : α} (h : a = b) (hx : a[k]? = some x) (hy : b[k]? = some y) : x = y := by subst h; rw [hx] at hy; exact Option.some.inj hy
end Sp
namespace Sp
theorem take_set {α : Type} {xs a : List α} {k : Nat} {z : α} (h : xs.take k = a.take k) (hl : xs.length = a.length) (hz : a[k]? = some z) : (xs.set k z).take (k + 1) = a.take (k + 1) := by
  have hk := (List.getElem?_eq_some_iff.1 hz).1
  rw [take_succ' hz, ← h]
  apply List.ext_getElem?
  intro j
  rw [List.getElem?_take]
  rcases Nat.lt_trichotomy j k with h1 | h1 | h1
  · rw [if_pos (by omega), List.getElem?_set_ne (by omega), List.getElem?_append_left (by simp; omega), List.getElem?_take, if_pos h1]
  · subst h1
    rw [if_pos (by omega), List.getElem?_set_self (by omega), List.getElem?_append_right (by simp; omega)]
    simp [Nat.min_eq_left (by omega : j ≤ xs.length)]
  · rw [if_neg (by omega), List.getElem?_eq_none (by simp; omega)]
end Sp
namespace Fw
open Go
theorem split_at {α : Type} : ∀ (Fs : List (List α)) (i : Nat) (Fi : List α), Fs[i]? = some Fi → Fs.flatten = (Fs.take i).flatten ++ (Fi ++ (Fs.drop (i + 1)).flatten)
  | [], i, _, h => by simp at h
  | x :: r, 0, Fi, h => by simp at h; subst h; simp
  | x :: r, i + 1, Fi, h => by
    simp only [List.getElem?_cons_succ] at h
    simp only [List.flatten_cons, List.take_succ_cons, List.drop_succ_cons, List.append_assoc]
    rw [split_at r i Fi h]
theorem set_flat {α : Type} (Fs : List (List α)) (i : Nat) (F' : List α) (hi : i < Fs.length) : (Fs.set i F').flatten = (Fs.take i).flatten ++ (F' ++ (Fs.drop (i + 1)).flatten) := by
  have h := split_at (Fs.set i F') i F' (by simp [hi])
  rw [h, List.take_set_of_le (Nat.le_refl _), List.drop_set_of_lt (by omega)]
theorem flat_get {α : Type} {sz : Nat} : ∀ (css : List (List α)) (i : Nat) (cs : List α), (∀ c ∈ css, c.length = sz) → css[i]? = some cs → ∀ j v, cs[j]? = some v → css.flatten[i * sz + j]? = some v
  | [], i, cs, _, h, j, v, hv => by simp at h
  | c :: r, 0, cs, hl, h, j, v, hv => by
    simp at h
    subst h
    rw [List.flatten_cons, Nat.zero_mul, Nat.zero_add, List.getElem?_append_left (List.getElem?_eq_some_iff.1 hv).1]
    exact hv
  | c :: r, i + 1, cs, hl, h, j, v, hv => by
    have hc := hl c (by simp)
    simp only [List.getElem?_cons_succ] at h
    rw [List.flatten_cons, List.getElem?_append_right (by rw [hc, Nat.add_mul]; omega), hc, Nat.add_mul, show i * sz + 1 * sz + j - sz = i * sz + j by omega]
    exact flat_get r i cs (fun d hd => hl d (by simp [hd])) h j v hv
section
variable {α : Type} {E : Fr → α → List Value → Prop} {sz : Nat}
theorem ChkF.focus {c : List Value} {xs : List α} {F : Fr} (h : ChkF E sz c xs F) {i : Nat} {x : α} (hx : xs[i]? = some x) :
    ∃ (cs : List Value) (F1 Fi F2 : Fr), F = F1 ++ (Fi ++ F2) ∧ cs.length = sz ∧ E Fi x cs ∧ (∀ j v, cs[j]? = some v → c[i * sz + j]? = some v) ∧
      (∀ (Fi' : Fr) (x' : α) (off : Nat) (vs : List Value), off + vs.length ≤ sz → E Fi' x' (setCs cs off vs) → ChkF E sz (setCs c (i * sz + off) vs) (xs.set i x') (F1 ++ (Fi' ++ F2))) ∧
      ∀ (Fi' : Fr) (x' : α), E Fi' x' cs → ChkF E sz c (xs.set i x') (F1 ++ (Fi' ++ F2)) := by
  obtain ⟨css, Fs, rfl, rfl, h3, h4, h5⟩ := h
  obtain ⟨cs, Fi, e1, e2, e3, e4⟩ := h5 i x hx
  have hsz := ChkF.szs h3 h5
  have hil : i < css.length := (List.getElem?_eq_some_iff.1 e1).1
  suffices key : ∀ (Fi' : Fr) (x' : α) (off : Nat) (vs : List Value), off + vs.length ≤ sz → E Fi' x' (setCs cs off vs) → ChkF E sz (setCs css.flatten (i * sz + off) vs) (xs.set i x') ((Fs.take i).flatten ++ (Fi' ++ (Fs.drop (i + 1)).flatten)) from
    ⟨cs, _, Fi, _, split_at Fs i Fi e2, e3, e4, flat_get css i cs hsz e1, key, fun Fi' x' hE => key Fi' x' 0 [] (by simp) hE⟩
  intro Fi' x' off vs ho hE
  refine ⟨css.set i (setCs cs off vs), Fs.set i Fi', setCs_flatten ho css i cs hsz e1, (set_flat Fs i Fi' (by omega)).symm, by simp [h3], by simp [h4], ?_⟩
  intro j y hy
  rw [List.getElem?_set] at hy
  rw [List.getElem?_set, List.getElem?_set]
  by_cases hij : i = j
  · subst hij
    rw [if_pos rfl, if_pos (by omega)] at hy
    simp only [Option.some.injEq] at hy
    subst hy
    rw [if_pos rfl, if_pos hil, if_pos rfl, if_pos (by omega)]
    exact ⟨_, _, rfl, rfl, by rw [length_setCs]; exact e3, hE⟩
  · rw [if_neg hij] at hy
    rw [if_neg hij, if_neg hij]
    exact h5 j y hy
theorem ChkF.rep {z : List Value} {x0 : α} (h : E [] x0 z) (hl : z.length = sz) (n : Nat) : ChkF E sz (Fw.rep n z) (List.replicate n x0) [] := by
  refine ⟨List.replicate n z, List.replicate n [], rep_flat z n, by simp, by simp, by simp, fun i x hx => ?_⟩
  have hi := (List.getElem?_eq_some_iff.1 hx).1
  simp only [List.length_replicate] at hi
  simp [hi] at hx
  subst hx
  exact ⟨z, [], by simp [hi], by simp [hi], hl, h⟩
variable {w0 w w' : World} {G0 G G' : PH} {S : List Nat} {B Bs : List Res}
end
section ops
variable {P : Program} {n : Nat} {ops : Array Oper} {Q : Post} {rest : List Oper} {L : Slots} {ds : List Deferred} {w w0 : World} {G0 : PH} {S : List Nat} {G : PH} {B : List Res}
variable {ty : TypeId} {ps : String} {af : Array Edge}
theorem o_bneq_same {d : Nat} {x y : Operand} {t u : TypeId} {p : Bool} (hT : P.underlying t = some .bool) (hd : Nat.blt d n = true) (hx : od L x = some (.bool p)) (hy : od L y = some (.bool p))
    (next : R P n ops Q rest ((d, .bool false) :: L) ds w) : R P n ops Q (⟨some d, .binOp .neq t x y u, ty, ps, af, none⟩ :: rest) L ds w :=
  o_bneq hT hd hx hy (by simpa using next)
end ops
section
variable {w0 w w' : World} {G0 G G' : PH} {S : List Nat} {B Bs : List Res}
theorem Hp.lendOHs (H : Hp w0 G0 S w G B) {ks : List Nat} {k : Nat} {F : Fr} {v : Value} {xs : List BHeld} (hk : nth B k = some (frag F)) (hm : ks.contains k = true) (h : OHs F v xs) : RdH (PPlus G w (fpsAt B ks)) v xs :=
  h.rd (fun b o hb => H.lendPredL hk hm b o hb) (dm_nodup H hk)
theorem Hp.lendOIs (H : Hp w0 G0 S w G B) {ks : List Nat} {k : Nat} {F : Fr} {v : Value} {xs : List BItem} (hk : nth B k = some (frag F)) (hm : ks.contains k = true) (h : OIs F v xs) : RdItems (PPlus G w (fpsAt B ks)) v xs :=
  h.rd (fun b o hb => H.lendPredL hk hm b o hb) (dm_nodup H hk)
theorem OSn.mk {e : TypeId} {F : Fr} {v : Value} {xs : List BSnap} (h : OwnS snapO 2 e F v xs) : OSn F v xs := ⟨_, h⟩
theorem OI.mk {e : TypeId} {F : Fr} {v : Value} {xs : List Int} (h : OwnS intO 1 e F v xs) : OI F v xs := ⟨_, h⟩
end
end Fw
namespace Fw
open Go
section
variable {α : Type}
def cnt (c : α → Nat) : List α → Nat
  | [] => 0
  | x :: r => c x + cnt c r
variable {f : Int → α → α} {c : α → Nat}
theorem cnt_append : ∀ (a b : List α), cnt c (a ++ b) = cnt c a + cnt c b
  | [], b => by simp [cnt]
  | x :: r, b => by simp [cnt, cnt_append r b]; omega
theorem take_succ {a : List α} {i : Nat} {x : α} (h : a[i]? = some x) : a.take (i + 1) = a.take i ++ [x] := by
  rw [List.take_add_one, h]; rfl
theorem cnt_succ {a : List α} {i : Nat} {x : α} (h : a[i]? = some x) : cnt c (a.take (i + 1)) = cnt c (a.take i) + c x := by
  rw [take_succ h, cnt_append]; simp [cnt]
theorem cnt_le {a : List α} {i : Nat} {x : α} (h : a[i]? = some x) : cnt c (a.take i) + c x ≤ cnt c a := by
  rw [← cnt_succ h]
  conv => rhs; rw [← List.take_append_drop (i + 1) a, cnt_append]
  omega
end
end Fw
namespace Fw
open Go
theorem nrm : (∀ (p : Prop) [Decidable p], (decide p = true) = p) ∧ (∀ (p : Prop) [Decidable p], (decide p = false) ↔ ¬p) ∧ (∀ {b : Bool}, ((!b) = true) = (b = false)) ∧ (∀ {b : Bool}, ((!b) = false) = (b = true)) ∧
    (∀ {a b : Bool}, ((!a) = b) ↔ (a = !b)) ∧ ((!true) = false) ∧ ((!false) = true) ∧ (∀ {a b : Int}, (¬ a < b) ↔ b ≤ a) ∧ (∀ {a b : Int}, (¬ a ≤ b) ↔ b < a) ∧ (∀ (x y : Bool), ((x && y) = true) = (x = true ∧ y = true)) ∧ (∀ (x y : Bool), ((x || y) = true) = (x = true ∨ y = true)) ∧
    (∀ (x y : Bool), ((x && y) = false) = (x = false ∨ y = false)) ∧ (∀ (x y : Bool), ((x || y) = false) = (x = false ∧ y = false)) ∧ (∀ {α : Type} [BEq α] [LawfulBEq α] {a b : α}, ((a == b) = true) ↔ a = b) ∧ (∀ {α : Type} [BEq α] [LawfulBEq α] {x y : α}, ((x == y) = false) ↔ x ≠ y) ∧ (∀ (b : Bool), decide (b = true) = b) := by
  refine ⟨?_, ?_, ?_, ?_, ?_, ?_, ?_, ?_, ?_, ?_, ?_, ?_, ?_, ?_, ?_, ?_⟩ <;> intros <;> first | rfl | (simp only [decide_eq_true_eq, decide_eq_false_iff_not, Bool.not_eq_true', Bool.not_eq_false', Bool.not_eq_eq_eq_not, Bool.not_true, Bool.not_false, Int.not_lt, Int.not_le, Bool.and_eq_true, Bool.or_eq_true, Bool.and_eq_false_iff, Bool.or_eq_false_iff, beq_iff_eq, beq_eq_false_iff_ne, Bool.decide_eq_true]) | simp
section
variable {P : Program} {n : Nat} {Q : Post} {L : Slots} {ds : List Deferred} {w : World} {ops : Array Oper} {y c : Code} {id : Nat} {l : List Oper}
theorem q1 (h : R P n l.toArray (K P y Q) l L ds w) : R P n ops (K P (.seq (.region id l.toArray false) y) Q) [] L ds w := R_nil (N_K (W_seq (W_region h)))
theorem q2 (h : R P n l.toArray (K P y Q) l L ds w) : W P n Q (.seq (.region id l.toArray false) y) L ds w := W_seq (W_region h)
theorem q3 (h : W P n Q c L ds w) : R P n ops (K P c Q) [] L ds w := R_nil (N_K h)
variable {d : Nat} {op : Op} {ty : TypeId} {ps : String} {af : Array Edge} {S : World → Prop} {f : Nat} {ls : Array Bool} {v : Value} {j : Nat} {b : Bool}
def rdy (l : List Oper) (ls : Array Bool) (i : Nat) : Bool := Region.noSelect l.toArray && Region.free .any l.toArray ls i && (Region.ready .any l.toArray ls).contains i
theorem RD_t (i : Nat) (hi : nth l i = some ⟨some d, op, ty, ps, af, none⟩) (hb : rdy l ls i = true) (hd : Nat.blt d n = true) (hv : ∀ w, S w → VAL P n L ds w ⟨some d, op, ty, ps, af, none⟩ v)
    (h : RD P n l Q S f (ls.setIfInBounds i true) ((d, v) :: L) ds w) : RD P n l Q S (f + 1) ls L ds w := by
  simp only [rdy, Bool.and_eq_true] at hb
  exact RD_take i hi hb.1.1 hb.1.2 hb.2 hd hv h
theorem RD_tg (i : Nat) (hi : nth l i = some ⟨some d, op, ty, ps, af, some (j, b)⟩) (hb : rdy l ls i = true) (hd : Nat.blt d n = true) (hy : ∀ a, FrL n L ds a → yielded l.toArray a.tmps j = some b) (hv : ∀ w, S w → VAL P n L ds w ⟨some d, op, ty, ps, af, none⟩ v)
    (h : RD P n l Q S f (ls.setIfInBounds i true) ((d, v) :: L) ds w) : RD P n l Q S (f + 1) ls L ds w := by
  simp only [rdy, Bool.and_eq_true] at hb
  exact RD_takeg i hi hb.1.1 hb.1.2 hb.2 hd hy hv h
end
end Fw
namespace Go.Proofs.Tst
open Go Fw
theorem bf26 : BuildFact Tryz.prog 26 [(0, 1), (1, 1)] [.slice none 0 0, .slice none 0 0] := buildFact Tryz.zeroValue26 Tryz.runUnderlying26 (fun w => by simp [Tryz.sizeOf23, Tryz.sizeOf24])
theorem bf39 : BuildFact Tryz.prog 39 [(0, 1), (1, 1), (2, 1)] [str [], .bool false, .slice none 0 0] := buildFact Tryz.zeroValue39 Tryz.runUnderlying39 (fun w => by simp [Tryz.sizeOf4, Tryz.sizeOf9, Tryz.sizeOf27])
theorem bf69 : BuildFact Tryz.prog 69 [(0, 1), (1, 1)] [.map none, .pointer none] := buildFact Tryz.zeroValue69 Tryz.runUnderlying69 (fun w => by simp [Tryz.sizeOf66, Tryz.sizeOf67])
theorem bf83 : BuildFact Tryz.prog 83 [(0, 1), (1, 1), (2, 1), (3, 1)] [str [], .bool false, .slice none 0 0, .slice none 0 0] := buildFact Tryz.zeroValue83 Tryz.runUnderlying83 (fun w => by simp [Tryz.sizeOf4, Tryz.sizeOf9, Tryz.sizeOf27, Tryz.sizeOf81])
theorem bf114 : BuildFact Tryz.prog 114 [(0, 1), (1, 1)] [.slice none 0 0, .int .i64 0] := buildFact Tryz.zeroValue114 Tryz.runUnderlying114 (fun w => by simp [Tryz.sizeOf3, Tryz.sizeOf22])
theorem bf117 : BuildFact Tryz.prog 117 [(0, 1), (1, 1), (2, 1)] [.int .i64 0, .slice none 0 0, .int .i64 0] := buildFact Tryz.zeroValue117 Tryz.runUnderlying117 (fun w => by simp [Tryz.sizeOf3, Tryz.sizeOf27])
theorem bf179 : BuildFact Tryz.prog 179 [(0, 1), (1, 1)] [.slice none 0 0, .int .i64 0] := buildFact Tryz.zeroValue179 Tryz.runUnderlying179 (fun w => by simp [Tryz.sizeOf3, Tryz.sizeOf27])
end Go.Proofs.Tst

namespace Go.Proofs.Tst
open Go Fw
theorem l6In_c (w0 : World) (n : Int) (lo : Int) (hi : Int)  :
  Calls Tryz.prog 87 #[.int .i64 n, .int .i64 lo, .int .i64 hi] w0 (Rets w0 (.bool (Sp.l6In n lo hi))) := by
 have H := Hp.init0 w0
 refine calls_of_W (l := [.int .i64 n, .int .i64 lo, .int .i64 hi]) Tryz.func87 rfl Tryz.ntmps87 rfl ?_
 refine q2 ?_
 refine o_assign rfl rfl ?_
 refine q1 ?_
 refine o_move rfl rfl ?_
 refine o_move rfl rfl ?_
 refine o_geq rfl rfl rfl ?_
 refine o_move rfl rfl ?_
 refine R_case (t := 10) rfl ?_ ?_
 ·intro hc1
  try simp only [nrm] at hc1
  refine R_guard (yl rfl rfl) ?_
  refine o_move rfl rfl ?_
  refine R_guard (yl rfl rfl) ?_
  refine o_move rfl rfl ?_
  refine R_guard (yl rfl rfl) ?_
  refine o_leq rfl rfl rfl ?_
  refine o_pick_t rfl rfl rfl ?_
  refine o_assign rfl rfl ?_
  refine q3 ?_
  refine W_ret ?_
  refine ret_gen (rs := [.tmp 6]) (vs := [_]) Tryz.results87 ⟨rfl, trivial⟩ ?_
  exact H.rets (congrArg Value.bool (by unfold Sp.l6In; rw [Bool.eq_iff_iff]; simp; omega))
 intro hc1'
 try simp only [nrm] at hc1'
 refine R_pass rfl (yl_ne rfl rfl rfl) ?_
 refine R_pass rfl (yl_ne rfl rfl rfl) ?_
 refine R_pass rfl (yl_ne rfl rfl rfl) ?_
 refine o_pick_f rfl rfl rfl ?_
 refine o_assign rfl rfl ?_
 refine q3 ?_
 refine W_ret ?_
 refine ret_gen (rs := [.tmp 6]) (vs := [_]) Tryz.results87 ⟨rfl, trivial⟩ ?_
 exact H.rets (congrArg Value.bool (by unfold Sp.l6In; rw [Bool.eq_iff_iff]; simp; omega))
theorem l1Word_c (w0 : World) (s : Bs) (hs : s.length ≤ 16777216)  :
  Calls Tryz.prog 53 #[str s] w0 (Rets w0 (.bool (Sp.l1Word s))) := by
 have H := Hp.init0 w0
 refine calls_of_W (l := [str s]) Tryz.func53 rfl Tryz.ntmps53 rfl ?_
 refine q2 ?_
 refine o_assign rfl rfl ?_
 refine q3 ?_
 refine W_seq ?_
 refine q2 ?_
 refine o_assign rfl rfl ?_
 refine q3 ?_
 refine W_block ?_
 refine W_loop (hf := (Sub.cons (t := 0) rfl Sub.nil)) (J := fun M w m => ∃ (k : Nat) (G : PH), M = [(3, .int .i64 (k : Int))] ∧ PLe (fun _ => none) G ∧ Hp w0 (fun _ => none) [] w G [] ∧ (k ≤ s.length ∧ (s.take k).all Sp.low = true) ∧ m = (s.length - k)) (h0 := ⟨0, _, rfl, PLe.refl _, H, ?inv, rfl⟩) (hM := ?hM) (round := ?round)
 case hM => (repeat (first | exact Sub.nil | refine Sub.cons rfl ?_))
 case inv => exact ⟨by omega, by simp⟩
 case round =>
  rintro _ w1 _ ⟨k, G1, rfl, hle1, H, hinv1, rfl⟩
  obtain ⟨hk, hall⟩ := hinv1
  refine W_seq ?_
  refine q2 ?_
  refine o_move rfl rfl ?_
  refine o_move rfl rfl ?_
  refine o_len_str Tryz.underlying9 rfl rfl ?_
  refine o_lss rfl rfl rfl ?_
  refine q3 ?_
  refine W_cond rfl ?_ ?_
  ·intro hc2
   try simp only [nrm] at hc2
   refine W_skip ?_
   refine N_K ?_
   refine W_seq ?_
   refine W_block ?_
   refine q2 ?_
   refine o_move rfl rfl ?_
   refine o_move rfl rfl ?_
   refine o_index_str Tryz.underlying9 rfl rfl rfl rfl (by omega) ?_; intro ch3 hch3; have hlt3 := ch3.toNat_lt
   refine o_lss rfl rfl rfl ?_
   refine o_move rfl rfl ?_
   refine R_case (t := 14) rfl ?_ ?_
   ·intro hc4
    try simp only [nrm] at hc4
    refine R_pass rfl (yl_ne rfl rfl rfl) ?_
    refine R_pass rfl (yl_ne rfl rfl rfl) ?_
    refine R_pass rfl (yl_ne rfl rfl rfl) ?_
    refine R_pass rfl (yl_ne rfl rfl rfl) ?_
    refine o_pick_t rfl rfl rfl ?_
    refine q3 ?_
    refine W_true rfl ?_
    refine q2 ?_
    refine o_assign rfl rfl ?_
    refine q3 ?_
    refine W_ret ?_
    refine N_B_ret ?_
    refine N_K_ret ?_
    refine N_LP_ret ?_
    refine N_B_ret ?_
    refine N_K_ret ?_
    refine ret_gen (rs := [.tmp 2]) (vs := [_]) Tryz.results53 ⟨rfl, trivial⟩ ?_
    exact H.rets (congrArg Value.bool (by rw [Sp.l1Word, Sp.all_false hch3 (by simp [Sp.low]; omega)]; rfl))
   intro hc4'
   try simp only [nrm] at hc4'
   refine R_guard (yl rfl rfl) ?_
   refine o_move rfl rfl ?_
   refine R_guard (yl rfl rfl) ?_
   refine o_move rfl rfl ?_
   refine R_guard (yl rfl rfl) ?_
   refine o_index_str Tryz.underlying9 rfl rfl rfl rfl (by omega) ?_; intro ch5 hch5; have hlt5 := ch5.toNat_lt
   obtain rfl : ch5 = ch3 := Option.some.inj (hch5.symm.trans hch3)
   refine R_guard (yl rfl rfl) ?_
   refine o_gtr rfl rfl rfl ?_
   refine o_pick_f rfl rfl rfl ?_
   refine q3 ?_
   refine W_cond rfl ?_ ?_
   ·intro hc6
    try simp only [nrm] at hc6
    refine q2 ?_
    refine o_assign rfl rfl ?_
    refine q3 ?_
    refine W_ret ?_
    refine N_B_ret ?_
    refine N_K_ret ?_
    refine N_LP_ret ?_
    refine N_B_ret ?_
    refine N_K_ret ?_
    refine ret_gen (rs := [.tmp 2]) (vs := [_]) Tryz.results53 ⟨rfl, trivial⟩ ?_
    exact H.rets (congrArg Value.bool (by rw [Sp.l1Word, Sp.all_false hch5 (by simp [Sp.low]; omega)]; rfl))
   intro hc6'
   try simp only [nrm] at hc6'
   refine W_skip ?_
   refine N_B ?_
   refine N_K ?_
   refine W_region ?_
   refine o_move rfl rfl ?_
   refine o_add rfl rfl rfl ⟨by omega, by omega⟩ ?_
   refine o_assign rfl rfl ?_
   refine R_nil ?_
   refine N_LP (hJ := ⟨k + 1, _, rfl, hle1, H, ?inv, rfl⟩) (hM := ?hM) (hf := ?hf) (hm := ?hm)
   case hM => (repeat (first | exact Sub.nil | refine Sub.cons rfl ?_))
   case hf => (repeat (first | exact Sub.nil | refine Sub.cons rfl ?_))
   case hm => omega
   case inv => exact ⟨by omega, Sp.all_take hall hch5 (by simp [Sp.low]; omega)⟩
  intro hc2'
  try simp only [nrm] at hc2'
  refine W_exit ?_
  refine N_K_exit ?_
  refine N_LP_exit ?_
  refine N_B_same ?_
  refine N_K ?_
  refine q2 ?_
  refine o_move rfl rfl ?_
  refine o_len_str Tryz.underlying9 rfl rfl ?_
  refine o_call Tryz.call87 rfl rfl (l6In_c _ _ _ _ ) ?_
  rintro _ w8 ⟨rfl, ew8⟩; have H := H.step ew8; refine ⟨_, rfl, ?_⟩
  refine o_assign rfl rfl ?_
  refine q3 ?_
  refine W_ret ?_
  refine ret_gen (rs := [.tmp 2]) (vs := [_]) Tryz.results53 ⟨rfl, trivial⟩ ?_
  obtain rfl : k = s.length := by omega
  rw [List.take_length] at hall
  exact H.rets (congrArg Value.bool (by simp only [Sp.l1Word, Sp.l6In, hall]; rw [Bool.eq_iff_iff]; simp; omega))
theorem l1Cut_c (w0 : World) (G0 : PH) (hG : PSub G0 w0) (s : Bs) (hs : s.length ≤ 16777216)  :
  Calls Tryz.prog 174 #[str s] w0 (RetP w0 G0 (fun G v => RdT G v (Sp.cut s))) := by
 have H := Hp.init hG
 refine calls_of_W (l := [str s]) Tryz.func174 rfl Tryz.ntmps174 rfl ?_
 refine q2 ?_
 refine o_assign rfl rfl ?_
 refine q1 ?_
 refine o_buildSlice H Tryz.underlying87 Tryz.sizeOf9 (fun w => ⟨_, Tryz.zeroValue9 w, rfl⟩) rfl rfl rfl rfl rfl rfl rfl ?_; intro b1 w1 hb1 H
 have H := H.blkAcc 1 (k := 0) (n := 0) rfl rfl (by decide)
 refine o_assign rfl rfl ?_
 refine q1 ?_
 refine o_assign rfl rfl ?_
 refine q3 ?_
 refine W_seq ?_
 refine q2 ?_
 refine o_assign rfl rfl ?_
 refine q3 ?_
 refine W_block ?_
 refine W_loop (hf := (Sub.cons (t := 0) rfl (Sub.cons (t := 2) rfl Sub.nil))) (J := fun M w m => ∃ (v : Value) (n : Nat) (cs : List Value) (xs : List (Bs)) (f k : Nat) (G : PH), M = [(4, .int .i64 (f : Int)), (5, .int .i64 (k : Int)), (3, v)] ∧ PLe G0 G ∧ Hp w0 G0 [] w G [acc 9 1 v n cs] ∧ (Chk strE 1 G cs xs ∧ n = xs.length ∧ f ≤ k ∧ k ≤ s.length ∧ xs.length ≤ k ∧ xs ++ Sp.cut (s.drop f) = Sp.cut s ∧ ∀ j, f ≤ j → j < k → s[j]? ≠ some 47) ∧ m = (s.length - k)) (h0 := ⟨_, _, _, [], 0, 0, _, rfl, PLe.refl _, H, ?inv, rfl⟩) (hM := ?hM) (round := ?round)
 case hM => (repeat (first | exact Sub.nil | refine Sub.cons rfl ?_))
 case inv => exact ⟨(Chk.nil (E := strE) (sz := 1) (G := G0)),  by first | rfl | simp | (simp; omega) | omega, (by simp)⟩
 case round =>
  rintro _ w2 _ ⟨v, n, cs, xs, f, k, G2, rfl, hle2, H, hinv2, rfl⟩
  obtain ⟨hchk2_0, hn2_0, hinv2⟩ := hinv2
  obtain ⟨av2_0, cv2_0, rfl⟩ := H.accShape (k := 0) rfl
  obtain ⟨h1, h2, h3, h4, h5⟩ := hinv2
  refine W_seq ?_
  refine q2 ?_
  refine o_move rfl rfl ?_
  refine o_move rfl rfl ?_
  refine o_len_str Tryz.underlying9 rfl rfl ?_
  refine o_lss rfl rfl rfl ?_
  refine q3 ?_
  refine W_cond rfl ?_ ?_
  ·intro hc3
   try simp only [nrm] at hc3
   refine W_skip ?_
   refine N_K ?_
   refine W_seq ?_
   refine W_block ?_
   refine q2 ?_
   refine o_move rfl rfl ?_
   refine o_move rfl rfl ?_
   refine o_index_str Tryz.underlying9 rfl rfl rfl rfl (by omega) ?_; intro ch4 hch4; have hlt4 := ch4.toNat_lt
   refine o_eql rfl rfl rfl ?_
   refine q3 ?_
   refine W_cond rfl ?_ ?_
   ·intro hc5
    try simp only [nrm] at hc5
    refine q2 ?_
    refine o_move rfl rfl ?_
    refine o_move rfl rfl ?_
    refine o_move rfl rfl ?_
    refine o_move rfl rfl ?_
    refine o_slice_str Tryz.underlying9 rfl rfl rfl rfl (by omega) (by omega) (by omega) ?_
    refine o_buildSlice H Tryz.underlying87 Tryz.sizeOf9 (fun w => ⟨_, Tryz.zeroValue9 w, rfl⟩) rfl rfl rfl rfl rfl rfl rfl ?_; intro b7 w7 hb7 H
    refine o_append1 0 H (sz := 1) (bytes := 16) Tryz.underlying87 Tryz.typeInfo9 ⟨_, rfl, rfl⟩ rfl rfl rfl rfl rfl rfl rfl rfl rfl rfl (by omega) rfl ?_; intro v8 w8 H
    have hchk8 := hchk2_0.snoc (show strE _ ((s.drop f).take (k - f)) _ from ⟨rfl, (by (first | assumption | (refine Sp.l5Parent_lim ?_; assumption) | (simp; done) | (simp; omega) | omega))⟩) rfl
    obtain ⟨av8, cv8, rfl⟩ := H.accShape (k := 0) rfl
    refine o_assign rfl rfl ?_
    refine q3 ?_
    refine W_region ?_
    refine o_move rfl rfl ?_
    refine o_add rfl rfl rfl ⟨by omega, by omega⟩ ?_
    refine o_assign rfl rfl ?_
    refine R_nil ?_
    refine N_B ?_
    refine N_K ?_
    refine W_region ?_
    refine o_move rfl rfl ?_
    refine o_add rfl rfl rfl ⟨by omega, by omega⟩ ?_
    refine o_assign rfl rfl ?_
    refine R_nil ?_
    refine N_LP (hJ := ⟨_, _, _, (xs ++ [((s.drop f).take (k - f))]), k + 1, k + 1, _, rfl, hle2, H, ?inv, rfl⟩) (hM := ?hM) (hf := ?hf) (hm := ?hm)
    case hM => (repeat (first | exact Sub.nil | refine Sub.cons rfl ?_))
    case hf => (repeat (first | exact Sub.nil | refine Sub.cons rfl ?_))
    case hm => omega
    case inv => exact ⟨hchk8, (by first | assumption | (simp; omega) | omega), (by exact ⟨by omega, by omega, by simp; omega, Sp.cut_step h4 h1 (hch4 ▸ congrArg some (Sp.is47 (by omega))) h5, fun j g1 g2 => by omega⟩)⟩
   intro hc5'
   try simp only [nrm] at hc5'
   refine W_skip ?_
   refine N_B ?_
   refine N_K ?_
   refine W_region ?_
   refine o_move rfl rfl ?_
   refine o_add rfl rfl rfl ⟨by omega, by omega⟩ ?_
   refine o_assign rfl rfl ?_
   refine R_nil ?_
   refine N_LP (hJ := ⟨_, _, _, xs, f, k + 1, _, rfl, hle2, H, ?inv, rfl⟩) (hM := ?hM) (hf := ?hf) (hm := ?hm)
   case hM => (repeat (first | exact Sub.nil | refine Sub.cons rfl ?_))
   case hf => (repeat (first | exact Sub.nil | refine Sub.cons rfl ?_))
   case hm => omega
   case inv => exact ⟨hchk2_0, (by first | assumption | (simp; omega) | omega), (by exact ⟨by omega, by omega, by omega, h4, Sp.noslash_succ h5 (hch4 ▸ Sp.not47 (by omega))⟩)⟩
  intro hc3'
  try simp only [nrm] at hc3'
  refine W_exit ?_
  refine N_K_exit ?_
  refine N_LP_exit ?_
  refine N_B_same ?_
  refine N_K ?_
  refine q2 ?_
  refine o_move rfl rfl ?_
  refine o_move rfl rfl ?_
  refine o_move rfl rfl ?_
  refine o_slice_str_from Tryz.underlying9 rfl rfl rfl (by omega) (by omega) ?_
  refine o_buildSlice H Tryz.underlying87 Tryz.sizeOf9 (fun w => ⟨_, Tryz.zeroValue9 w, rfl⟩) rfl rfl rfl rfl rfl rfl rfl ?_; intro b13 w13 hb13 H
  refine o_append1 0 H (sz := 1) (bytes := 16) Tryz.underlying87 Tryz.typeInfo9 ⟨_, rfl, rfl⟩ rfl rfl rfl rfl rfl rfl rfl rfl rfl rfl (by omega) rfl ?_; intro v14 w14 H
  have hchk14 := hchk2_0.snoc (show strE _ (s.drop f) _ from ⟨rfl, (by (first | assumption | (refine Sp.l5Parent_lim ?_; assumption) | (simp; done) | (simp; omega) | omega))⟩) rfl
  obtain ⟨av14, cv14, rfl⟩ := H.accShape (k := 0) rfl
  refine o_assign rfl rfl ?_
  refine q3 ?_
  refine W_ret ?_
  refine ret_gen (rs := [.tmp 2]) (vs := [_]) Tryz.results174 ⟨rfl, trivial⟩ ?_
  obtain ⟨G15, H, hsg15, hsr15⟩ := H.shut' (k := 0) rfl hchk14 (by first | assumption | (simp; done) | (simp; omega) | omega) (by first | assumption | (simp; done) | (simp; omega) | omega)
  have hchk2_0 := hchk2_0.up hsg15
  have hchk14 := hchk14.up hsg15
  have hle2 := hle2.trans hsg15
  exact H.retP (by rw [← Sp.cut_end h4 h5 (by omega)]; exact hsr15)
theorem PathValid_c (w0 : World) (G0 : PH) (hG : PSub G0 w0) (path : Bs) (hpath : path.length ≤ 16777216)  :
  Calls Tryz.prog 149 #[str path] w0 (Rets w0 (.bool (Sp.PathValid path))) := by
 have H := Hp.init hG
 refine calls_of_W (l := [str path]) Tryz.func149 rfl Tryz.ntmps149 rfl ?_
 refine q2 ?_
 refine o_assign rfl rfl ?_
 refine q1 ?_
 refine o_move rfl rfl ?_
 refine o_call Tryz.call174 rfl rfl (l1Cut_c _ _ H.sub _ hpath ) ?_
 rintro _ w1 ⟨G1, u1_0, g1, rfl, hr1_0⟩
 have H := H.grow g1
 obtain ⟨a1_0, k1_0, rfl⟩ := hr1_0.shape; have hx_hr1_0 : _ ≤ 1099511627776 := hr1_0.lim
 refine ⟨_, rfl, ?_⟩
 refine o_assign rfl rfl ?_
 refine q3 ?_
 refine W_seq ?_
 refine q2 ?_
 refine o_assign rfl rfl ?_
 refine q3 ?_
 refine W_block ?_
 refine W_loop (hf := (Sub.cons (t := 3) rfl Sub.nil)) (J := fun M w m => ∃ (k : Nat) (G : PH), M = [(4, .int .i64 (k : Int))] ∧ PLe G1 G ∧ Hp w0 G0 [] w G [] ∧ (k ≤ (Sp.cut path).length ∧ ((Sp.cut path).take k).all Sp.l1Word = true) ∧ m = ((Sp.cut path).length - k)) (h0 := ⟨0, _, rfl, PLe.refl _, H, ?inv, rfl⟩) (hM := ?hM) (round := ?round)
 case hM => (repeat (first | exact Sub.nil | refine Sub.cons rfl ?_))
 case inv => simp
 case round =>
  rintro _ w2 _ ⟨k, G2, rfl, hle2, H, hinv2, rfl⟩
  have hr1_0 := hr1_0.up hle2
  obtain ⟨hk, hall⟩ := hinv2
  refine W_seq ?_
  refine q2 ?_
  refine o_move rfl rfl ?_
  refine o_move rfl rfl ?_
  refine o_len_slice Tryz.underlying87 rfl rfl ?_
  refine o_lss rfl rfl rfl ?_
  refine q3 ?_
  refine W_cond rfl ?_ ?_
  ·intro hc3
   try simp only [nrm] at hc3
   refine W_skip ?_
   refine N_K ?_
   refine W_seq ?_
   refine W_block ?_
   refine q2 ?_
   refine o_move rfl rfl ?_
   refine o_move rfl rfl ?_
   refine o_index_P _ hr1_0 Tryz.underlying87 Tryz.sizeOf9 rfl rfl rfl rfl (by omega) ?_; intro b4 o4 z4 q4 hz4 hE4 hrow4
   obtain ⟨rfl, hi4⟩ := hE4; have hy_hi4 : _ ≤ 16777216 := hi4
   refine o_load_P H Tryz.isAgg9 rfl rfl (hrow4 0 _ rfl) ?_
   refine o_call Tryz.call53 rfl rfl (l1Word_c _ _ hi4 ) ?_
   rintro _ w5 ⟨rfl, ew5⟩; have H := H.step ew5; refine ⟨_, rfl, ?_⟩
   refine o_not rfl rfl ?_
   refine q3 ?_
   refine W_cond rfl ?_ ?_
   ·intro hc6
    try simp only [nrm] at hc6
    refine q2 ?_
    refine o_assign rfl rfl ?_
    refine q3 ?_
    refine W_ret ?_
    refine N_B_ret ?_
    refine N_K_ret ?_
    refine N_LP_ret ?_
    refine N_B_ret ?_
    refine N_K_ret ?_
    refine ret_gen (rs := [.tmp 2]) (vs := [_]) Tryz.results149 ⟨rfl, trivial⟩ ?_
    exact H.rets (congrArg Value.bool (by rw [Sp.PathValid, Sp.all_false hz4 hc6]; rfl))
   intro hc6'
   try simp only [nrm] at hc6'
   refine W_skip ?_
   refine N_B ?_
   refine N_K ?_
   refine W_region ?_
   refine o_move rfl rfl ?_
   refine o_add rfl rfl rfl ⟨by omega, by omega⟩ ?_
   refine o_assign rfl rfl ?_
   refine R_nil ?_
   refine N_LP (hJ := ⟨k + 1, _, rfl, hle2, H, ?inv, rfl⟩) (hM := ?hM) (hf := ?hf) (hm := ?hm)
   case hM => (repeat (first | exact Sub.nil | refine Sub.cons rfl ?_))
   case hf => (repeat (first | exact Sub.nil | refine Sub.cons rfl ?_))
   case hm => omega
   case inv => exact ⟨by omega, Sp.all_take hall hz4 hc6'⟩
  intro hc3'
  try simp only [nrm] at hc3'
  refine W_exit ?_
  refine N_K_exit ?_
  refine N_LP_exit ?_
  refine N_B_same ?_
  refine N_K ?_
  refine q2 ?_
  refine o_move rfl rfl ?_
  refine o_len_slice Tryz.underlying87 rfl rfl ?_
  refine o_leq rfl rfl rfl ?_
  refine o_assign rfl rfl ?_
  refine q3 ?_
  refine W_ret ?_
  refine ret_gen (rs := [.tmp 2]) (vs := [_]) Tryz.results149 ⟨rfl, trivial⟩ ?_
  obtain rfl : k = (Sp.cut path).length := by omega
  rw [List.take_length] at hall
  exact H.rets (congrArg Value.bool (by simp only [Sp.PathValid, hall, Bool.true_and]; rw [Bool.eq_iff_iff]; simp; omega))
theorem l1Last_c (w0 : World) (path : Bs) (hpath : path.length ≤ 16777216)  :
  Calls Tryz.prog 189 #[str path] w0 (Rets w0 (.int .i64 (Sp.l1Last path))) := by
 have H := Hp.init0 w0
 refine calls_of_W (l := [str path]) Tryz.func189 rfl Tryz.ntmps189 rfl ?_
 refine q2 ?_
 refine o_assign rfl rfl ?_
 refine q1 ?_
 refine o_assign rfl rfl ?_
 refine q3 ?_
 refine W_seq ?_
 refine q2 ?_
 refine o_assign rfl rfl ?_
 refine q3 ?_
 refine W_block ?_
 refine W_loop (hf := (Sub.cons (t := 0) rfl (Sub.cons (t := 2) rfl Sub.nil))) (J := fun M w m => ∃ (k : Nat) (o : Option Nat) (G : PH), M = [(3, .int .i64 (Sp.optI o)), (4, .int .i64 (k : Int))] ∧ PLe (fun _ => none) G ∧ Hp w0 (fun _ => none) [] w G [] ∧ (k ≤ path.length ∧ o = (List.range k).foldl (Sp.lastF path) none) ∧ m = (path.length - k)) (h0 := ⟨0, none, _, rfl, PLe.refl _, H, ?inv, rfl⟩) (hM := ?hM) (round := ?round)
 case hM => (repeat (first | exact Sub.nil | refine Sub.cons rfl ?_))
 case inv => exact ⟨by omega, rfl⟩
 case round =>
  rintro _ w1 _ ⟨k, o, G1, rfl, hle1, H, hinv1, rfl⟩
  obtain ⟨hk, hall⟩ := hinv1
  refine W_seq ?_
  refine q2 ?_
  refine o_move rfl rfl ?_
  refine o_move rfl rfl ?_
  refine o_len_str Tryz.underlying9 rfl rfl ?_
  refine o_lss rfl rfl rfl ?_
  refine q3 ?_
  refine W_cond rfl ?_ ?_
  ·intro hc2
   try simp only [nrm] at hc2
   refine W_skip ?_
   refine N_K ?_
   refine W_seq ?_
   refine W_block ?_
   refine q2 ?_
   refine o_move rfl rfl ?_
   refine o_move rfl rfl ?_
   refine o_index_str Tryz.underlying9 rfl rfl rfl rfl (by omega) ?_; intro ch3 hch3; have hlt3 := ch3.toNat_lt
   refine o_eql rfl rfl rfl ?_
   refine q3 ?_
   refine W_cond rfl ?_ ?_
   ·intro hc4
    try simp only [nrm] at hc4
    refine W_region ?_
    refine o_move rfl rfl ?_
    refine o_assign rfl rfl ?_
    refine R_nil ?_
    refine N_B ?_
    refine N_K ?_
    refine W_region ?_
    refine o_move rfl rfl ?_
    refine o_add rfl rfl rfl ⟨by omega, by omega⟩ ?_
    refine o_assign rfl rfl ?_
    refine R_nil ?_
    refine N_LP (hJ := ⟨k + 1, some k, _, rfl, hle1, H, ?inv, rfl⟩) (hM := ?hM) (hf := ?hf) (hm := ?hm)
    case hM => (repeat (first | exact Sub.nil | refine Sub.cons rfl ?_))
    case hf => (repeat (first | exact Sub.nil | refine Sub.cons rfl ?_))
    case hm => omega
    case inv => exact ⟨by omega, by rw [Sp.last_succ, ← hall, Sp.lastF, hch3, if_pos (congrArg some (Sp.is47 (by omega)))]⟩
   intro hc4'
   try simp only [nrm] at hc4'
   refine W_skip ?_
   refine N_B ?_
   refine N_K ?_
   refine W_region ?_
   refine o_move rfl rfl ?_
   refine o_add rfl rfl rfl ⟨by omega, by omega⟩ ?_
   refine o_assign rfl rfl ?_
   refine R_nil ?_
   refine N_LP (hJ := ⟨k + 1, o, _, rfl, hle1, H, ?inv, rfl⟩) (hM := ?hM) (hf := ?hf) (hm := ?hm)
   case hM => (repeat (first | exact Sub.nil | refine Sub.cons rfl ?_))
   case hf => (repeat (first | exact Sub.nil | refine Sub.cons rfl ?_))
   case hm => omega
   case inv => exact ⟨by omega, by rw [Sp.last_succ, ← hall, Sp.lastF, hch3, if_neg (Sp.not47 (by omega))]⟩
  intro hc2'
  try simp only [nrm] at hc2'
  refine W_exit ?_
  refine N_K_exit ?_
  refine N_LP_exit ?_
  refine N_B_same ?_
  refine N_K ?_
  refine q2 ?_
  refine o_move rfl rfl ?_
  refine o_assign rfl rfl ?_
  refine q3 ?_
  refine W_ret ?_
  refine ret_gen (rs := [.tmp 2]) (vs := [_]) Tryz.results189 ⟨rfl, trivial⟩ ?_
  obtain rfl : k = path.length := by omega
  exact H.rets (congrArg (Value.int .i64) (by rw [hall]; rfl))
theorem l5Parent_c (w0 : World) (path : Bs) (hpath : path.length ≤ 16777216)  :
  Calls Tryz.prog 165 #[str path] w0 (Rets w0 (str (Sp.l5Parent path))) := by
 have hl := Sp.l1Last_le path
 have H := Hp.init0 w0
 refine calls_of_W (l := [str path]) Tryz.func165 rfl Tryz.ntmps165 rfl ?_
 refine q2 ?_
 refine o_assign rfl rfl ?_
 refine q1 ?_
 refine o_move rfl rfl ?_
 refine o_move rfl rfl ?_
 refine o_call Tryz.call189 rfl rfl (l1Last_c _ _ hpath ) ?_
 rintro _ w1 ⟨rfl, ew1⟩; have H := H.step ew1; refine ⟨_, rfl, ?_⟩
 refine o_max rfl rfl rfl ?_
 refine o_slice_str_to Tryz.underlying9 rfl rfl rfl (by omega) (by omega) ?_
 refine o_assign rfl rfl ?_
 refine q3 ?_
 refine W_ret ?_
 refine ret_gen (rs := [.tmp 2]) (vs := [_]) Tryz.results165 ⟨rfl, trivial⟩ ?_
 exact H.rets rfl
theorem l5At_c (w0 : World) (G0 : PH) (hG : PSub G0 w0) (vlist : Value) (list : List (BItem)) (hlist : RdItems G0 vlist list) (path : Bs) (hpath : path.length ≤ 16777216)  :
  Calls Tryz.prog 100 #[vlist, str path] w0 (Rets w0 (.int .i64 (Sp.l5At list path))) := by
 obtain ⟨alist, klist, rfl⟩ := hlist.shape
 have hlimlist : list.length ≤ 1099511627776 := hlist.lim
 have H := Hp.init hG
 refine calls_of_W (l := [.slice alist list.length klist, str path]) Tryz.func100 rfl Tryz.ntmps100 rfl ?_
 refine q2 ?_
 refine o_assign rfl rfl ?_
 refine q3 ?_
 refine W_seq ?_
 refine q2 ?_
 refine o_assign rfl rfl ?_
 refine q3 ?_
 refine W_block ?_
 refine W_loop (hf := (Sub.cons (t := 0) rfl (Sub.cons (t := 1) rfl Sub.nil))) (J := fun M w m => ∃ (k : Nat) (G : PH), M = [(5, .int .i64 (k : Int))] ∧ PLe G0 G ∧ Hp w0 G0 [] w G [] ∧ (k ≤ list.length ∧ (∀ j, j < k → ∀ y, list[j]? = some y → decide (y.path = path) = false)) ∧ m = (list.length - k)) (h0 := ⟨0, _, rfl, PLe.refl _, H, ?inv, rfl⟩) (hM := ?hM) (round := ?round)
 case hM => (repeat (first | exact Sub.nil | refine Sub.cons rfl ?_))
 case inv => exact ⟨by omega, fun j hj => by omega⟩
 case round =>
  rintro _ w1 _ ⟨k, G1, rfl, hle1, H, hinv1, rfl⟩
  have hlist := hlist.up hle1
  obtain ⟨hk, hall⟩ := hinv1
  refine W_seq ?_
  refine q2 ?_
  refine o_move rfl rfl ?_
  refine o_move rfl rfl ?_
  refine o_len_slice Tryz.underlying24 rfl rfl ?_
  refine o_lss rfl rfl rfl ?_
  refine q3 ?_
  refine W_cond rfl ?_ ?_
  ·intro hc2
   try simp only [nrm] at hc2
   refine W_skip ?_
   refine N_K ?_
   refine W_seq ?_
   refine W_block ?_
   refine q2 ?_
   refine o_move rfl rfl ?_
   refine o_move rfl rfl ?_
   refine o_index_P _ hlist Tryz.underlying24 Tryz.sizeOf39 rfl rfl rfl rfl (by omega) ?_; intro b3 o3 z3 q3 hz3 hE3 hrow3
   obtain ⟨a3, m3, c3, rfl, hi3, hr3⟩ := hE3; have hy_hi3 : _ ≤ 16777216 := hi3; have hn_hr3 := hr3.len; have hx_hr3 : _ ≤ 1099511627776 := hr3.lim
   refine o_fieldAddr 0 Tryz.runUnderlying39 rfl Tryz.sizeOf9 rfl rfl rfl ?_
   refine o_load_P H Tryz.isAgg9 rfl rfl (hrow3 0 _ rfl) ?_
   refine o_move rfl rfl ?_
   refine o_seql rfl rfl rfl ?_
   refine q3 ?_
   refine W_cond rfl ?_ ?_
   ·intro hc4
    try simp only [nrm] at hc4
    refine q2 ?_
    refine o_move rfl rfl ?_
    refine o_assign rfl rfl ?_
    refine q3 ?_
    refine W_ret ?_
    refine N_B_ret ?_
    refine N_K_ret ?_
    refine N_LP_ret ?_
    refine N_B_ret ?_
    refine N_K_ret ?_
    refine ret_gen (rs := [.tmp 4]) (vs := [_]) Tryz.results100 ⟨rfl, trivial⟩ ?_
    exact H.rets (congrArg (Value.int .i64) (by rw [Sp.l5At, Sp.atI, Sp.find_at hall hz3 (by simp; exact hc4)]; rfl))
   intro hc4'
   try simp only [nrm] at hc4'
   refine W_skip ?_
   refine N_B ?_
   refine N_K ?_
   refine W_region ?_
   refine o_move rfl rfl ?_
   refine o_add rfl rfl rfl ⟨by omega, by omega⟩ ?_
   refine o_assign rfl rfl ?_
   refine R_nil ?_
   refine N_LP (hJ := ⟨k + 1, _, rfl, hle1, H, ?inv, rfl⟩) (hM := ?hM) (hf := ?hf) (hm := ?hm)
   case hM => (repeat (first | exact Sub.nil | refine Sub.cons rfl ?_))
   case hf => (repeat (first | exact Sub.nil | refine Sub.cons rfl ?_))
   case hm => omega
   case inv => exact ⟨by omega, Sp.none_succ hall hz3 (by simp; exact hc4')⟩
  intro hc2'
  try simp only [nrm] at hc2'
  refine W_exit ?_
  refine N_K_exit ?_
  refine N_LP_exit ?_
  refine N_B_same ?_
  refine N_K ?_
  refine q2 ?_
  refine o_assign rfl rfl ?_
  refine q3 ?_
  refine W_ret ?_
  refine ret_gen (rs := [.tmp 4]) (vs := [_]) Tryz.results100 ⟨rfl, trivial⟩ ?_
  exact H.rets (congrArg (Value.int .i64) (by rw [Sp.l5At, Sp.atI, Sp.find_none hall (by omega)]; rfl))
theorem l5Home_c (w0 : World) (G0 : PH) (hG : PSub G0 w0) (vlist : Value) (list : List (BItem)) (hlist : RdItems G0 vlist list) (path : Bs) (hpath : path.length ≤ 16777216)  :
  Calls Tryz.prog 140 #[vlist, str path] w0 (Rets w0 (.bool (Sp.l5Home list path))) := by
 obtain ⟨alist, klist, rfl⟩ := hlist.shape
 have hlimlist : list.length ≤ 1099511627776 := hlist.lim
 have H := Hp.init hG
 refine calls_of_W (l := [.slice alist list.length klist, str path]) Tryz.func140 rfl Tryz.ntmps140 rfl ?_
 refine q2 ?_
 refine o_assign rfl rfl ?_
 refine q1 ?_
 refine o_move rfl rfl ?_
 refine o_call Tryz.call165 rfl rfl (l5Parent_c _ _ hpath ) ?_
 rintro _ w1 ⟨rfl, ew1⟩; have H := H.step ew1; refine ⟨_, rfl, ?_⟩
 refine o_assign rfl rfl ?_
 refine q1 ?_
 refine o_move rfl rfl ?_
 refine o_move rfl rfl ?_
 refine o_call Tryz.call100 rfl rfl (l5At_c _ _ H.sub _ _ hlist _ (by (first | assumption | (refine Sp.l5Parent_lim ?_; assumption) | (simp; done) | (simp; omega) | omega)) ) ?_
 rintro _ w2 ⟨rfl, ew2⟩; have H := H.step ew2; refine ⟨_, rfl, ?_⟩
 refine o_assign rfl rfl ?_
 refine q1 ?_
 refine o_move rfl rfl ?_
 refine o_seql rfl rfl rfl ?_
 refine o_move rfl rfl ?_
 refine R_case (t := 14) rfl ?_ ?_
 ·intro hc3
  try simp only [nrm] at hc3
  refine R_pass rfl (yl_ne rfl rfl rfl) ?_
  refine R_pass rfl (yl_ne rfl rfl rfl) ?_
  refine R_pass rfl (yl_ne rfl rfl rfl) ?_
  refine R_pass rfl (yl_un rfl rfl) ?_
  refine R_pass rfl (yl_un rfl rfl) ?_
  refine R_pass rfl (yl_un rfl rfl) ?_
  refine R_pass rfl (yl_un rfl rfl) ?_
  refine R_pass rfl (yl_un rfl rfl) ?_
  refine R_pass rfl (yl_ne rfl rfl rfl) ?_
  refine o_pick_t rfl rfl rfl ?_
  refine o_assign rfl rfl ?_
  refine q3 ?_
  refine W_ret ?_
  refine ret_gen (rs := [.tmp 4]) (vs := [_]) Tryz.results140 ⟨rfl, trivial⟩ ?_
  exact H.rets (congrArg Value.bool (by simp [Sp.l5Home, hc3]))
 intro hc3'
 try simp only [nrm] at hc3'
 refine R_guard (yl rfl rfl) ?_
 refine o_move rfl rfl ?_
 refine R_guard (yl rfl rfl) ?_
 refine o_geq rfl rfl rfl ?_
 refine R_guard (yl rfl rfl) ?_
 refine o_move rfl rfl ?_
 refine R_case (t := 17) rfl ?_ ?_
 ·intro hc4
  try simp only [nrm] at hc4
  obtain ⟨i, x, hi1, hi2, hi3, hi4, hi5⟩ := Sp.at_nat hc4
  refine R_guard (yl rfl rfl) ?_
  refine o_move rfl rfl ?_
  refine R_guard (yl rfl rfl) ?_
  refine o_move rfl rfl ?_
  refine R_guard (yl rfl rfl) ?_
  refine o_index_P i hlist Tryz.underlying24 Tryz.sizeOf39 rfl rfl rfl hi2 (by omega) ?_; intro b5 o5 z5 q5 hz5 hE5 hrow5
  obtain ⟨a5, m5, c5, rfl, hi5, hr5⟩ := hE5; have hy_hi5 : _ ≤ 16777216 := hi5; have hn_hr5 := hr5.len; have hx_hr5 : _ ≤ 1099511627776 := hr5.lim
  refine R_guard (yl rfl rfl) ?_
  refine o_fieldAddr 1 Tryz.runUnderlying39 rfl Tryz.sizeOf4 rfl rfl rfl ?_
  refine R_guard (yl rfl rfl) ?_
  refine o_load_P H Tryz.isAgg4 rfl rfl (hrow5 1 _ rfl) ?_
  refine R_guard (yl rfl rfl) ?_
  refine o_pick_t rfl rfl rfl ?_
  refine o_pick_f rfl rfl rfl ?_
  refine o_assign rfl rfl ?_
  refine q3 ?_
  refine W_ret ?_
  refine ret_gen (rs := [.tmp 4]) (vs := [_]) Tryz.results140 ⟨rfl, trivial⟩ ?_
  exact H.rets (congrArg Value.bool (by simp [Sp.l5Home, hc3', Sp.atI, hi1, hz5]))
 intro hc4'
 try simp only [nrm] at hc4'
 refine R_pass rfl (yl_ne rfl rfl rfl) ?_
 refine R_pass rfl (yl_ne rfl rfl rfl) ?_
 refine R_pass rfl (yl_ne rfl rfl rfl) ?_
 refine R_pass rfl (yl_ne rfl rfl rfl) ?_
 refine R_pass rfl (yl_ne rfl rfl rfl) ?_
 refine R_guard (yl rfl rfl) ?_
 refine o_pick_f rfl rfl rfl ?_
 refine o_pick_f rfl rfl rfl ?_
 refine o_assign rfl rfl ?_
 refine q3 ?_
 refine W_ret ?_
 refine ret_gen (rs := [.tmp 4]) (vs := [_]) Tryz.results140 ⟨rfl, trivial⟩ ?_
 exact H.rets (congrArg Value.bool (by simp [Sp.l5Home, hc3', Sp.atI, Sp.at_none hc4']))
theorem l5Item_c (w0 : World) (G0 : PH) (hG : PSub G0 w0) (cx : List Value) (x : BItem) (hx : itemE G0 x cx)  :
  Calls Tryz.prog 99 #[.agg cx.toArray] w0 (Rets w0 (.bool (Sp.l5Item x))) := by
 obtain ⟨a1, m1, c1, rfl, hi1, hr1⟩ := hx; have hy_hi1 : _ ≤ 16777216 := hi1; have hn_hr1 := hr1.len; have hx_hr1 : _ ≤ 1099511627776 := hr1.lim
 have H := Hp.init hG
 refine calls_of_W (l := [_]) Tryz.func99 rfl Tryz.ntmps99 rfl ?_
 refine q2 ?_
 refine o_box H rfl rfl rfl ?_; intro b2 w2 hb2 H
 refine o_assign rfl rfl ?_
 refine q3 ?_
 refine W_seq ?_
 refine q2 ?_
 refine o_assign rfl rfl ?_
 refine q3 ?_
 refine W_block ?_
 obtain ⟨ln3, hln3, H⟩ := H.name (k := 0) rfl
 refine W_loop (hf := (Sub.cons (t := 1) rfl Sub.nil)) (J := fun M w m => ∃ (k : Nat) (G : PH), M = [(3, .int .i64 (k : Int))] ∧ PLe G0 G ∧ Hp w0 G0 [] w G [blk b2 (cl ln3 39)] ∧ (k ≤ x.ids.length ∧ (x.ids.take k).all (Sp.idOk x.dir) = true) ∧ m = (x.ids.length - k)) (h0 := ⟨0, _, rfl, PLe.refl _, H, ?inv, rfl⟩) (hM := ?hM) (round := ?round)
 case hM => (repeat (first | exact Sub.nil | refine Sub.cons rfl ?_))
 case inv => exact ⟨by omega, by simp⟩
 case round =>
  rintro _ w4 _ ⟨k, G4, rfl, hle4, H, hinv4, rfl⟩
  subst hln3
  have hr1 := hr1.up hle4
  obtain ⟨hk, hall⟩ := hinv4
  refine W_seq ?_
  refine q2 ?_
  refine o_move rfl rfl ?_
  refine o_fieldAddr 2 Tryz.runUnderlying39 rfl Tryz.sizeOf27 rfl rfl rfl ?_
  refine o_load_B 0 H Tryz.isAgg27 rfl rfl rfl rfl ?_
  refine o_len_slice Tryz.underlying27 rfl rfl ?_
  refine o_lss rfl rfl rfl ?_
  refine q3 ?_
  refine W_cond rfl ?_ ?_
  ·intro hc5
   try simp only [nrm] at hc5
   refine W_skip ?_
   refine N_K ?_
   refine W_seq ?_
   refine W_block ?_
   refine q2 ?_
   refine o_fieldAddr 1 Tryz.runUnderlying39 rfl Tryz.sizeOf4 rfl rfl rfl ?_
   refine o_load_B 0 H Tryz.isAgg4 rfl rfl rfl rfl ?_
   refine o_move rfl rfl ?_
   refine R_case (t := 13) rfl ?_ ?_
   ·intro hc6
    try simp only [nrm] at hc6
    refine R_pass rfl (yl_ne rfl rfl rfl) ?_
    refine R_pass rfl (yl_ne rfl rfl rfl) ?_
    refine R_pass rfl (yl_ne rfl rfl rfl) ?_
    refine R_pass rfl (yl_ne rfl rfl rfl) ?_
    refine R_pass rfl (yl_ne rfl rfl rfl) ?_
    refine R_pass rfl (yl_ne rfl rfl rfl) ?_
    refine R_pass rfl (yl_ne rfl rfl rfl) ?_
    refine o_pick_t rfl rfl rfl ?_
    refine q3 ?_
    refine W_true rfl ?_
    refine q2 ?_
    refine o_assign rfl rfl ?_
    refine q3 ?_
    refine W_ret ?_
    refine N_B_ret ?_
    refine N_K_ret ?_
    refine N_LP_ret ?_
    refine N_B_ret ?_
    refine N_K_ret ?_
    refine ret_gen (rs := [.tmp 2]) (vs := [_]) Tryz.results99 ⟨rfl, trivial⟩ ?_
    exact H.rets (congrArg Value.bool (by rw [Sp.l5Item, Sp.all_false (c := x.ids[k]) (List.getElem?_eq_getElem (by omega)) (by simp [Sp.idOk, hc6])]; rfl))
   intro hc6'
   try simp only [nrm] at hc6'
   refine R_guard (yl rfl rfl) ?_
   refine o_fieldAddr 2 Tryz.runUnderlying39 rfl Tryz.sizeOf27 rfl rfl rfl ?_
   refine R_guard (yl rfl rfl) ?_
   refine o_load_B 0 H Tryz.isAgg27 rfl rfl rfl rfl ?_
   refine R_guard (yl rfl rfl) ?_
   refine o_move rfl rfl ?_
   refine R_guard (yl rfl rfl) ?_
   refine o_index_P _ hr1 Tryz.underlying27 Tryz.sizeOf3 rfl rfl rfl rfl (by omega) ?_; intro b7 o7 z7 q7 hz7 hE7 hrow7
   obtain ⟨rfl, hi7⟩ := hE7
   refine R_guard (yl rfl rfl) ?_
   refine o_load_P H Tryz.isAgg3 rfl rfl (hrow7 0 _ rfl) ?_
   refine R_guard (yl rfl rfl) ?_
   refine o_call Tryz.call87 rfl rfl (l6In_c _ _ _ _ ) ?_
   rintro _ w8 ⟨rfl, ew8⟩; have H := H.step ew8; refine ⟨_, rfl, ?_⟩
   refine R_guard (yl rfl rfl) ?_
   refine o_not rfl rfl ?_
   refine o_pick_f rfl rfl rfl ?_
   refine q3 ?_
   refine W_cond rfl ?_ ?_
   ·intro hc9
    try simp only [nrm] at hc9
    refine q2 ?_
    refine o_assign rfl rfl ?_
    refine q3 ?_
    refine W_ret ?_
    refine N_B_ret ?_
    refine N_K_ret ?_
    refine N_LP_ret ?_
    refine N_B_ret ?_
    refine N_K_ret ?_
    refine ret_gen (rs := [.tmp 2]) (vs := [_]) Tryz.results99 ⟨rfl, trivial⟩ ?_
    exact H.rets (congrArg Value.bool (by rw [Sp.l5Item, Sp.all_false hz7 (by simp [Sp.idOk, *])]; rfl))
   intro hc9'
   try simp only [nrm] at hc9'
   refine W_skip ?_
   refine N_B ?_
   refine N_K ?_
   refine W_region ?_
   refine o_move rfl rfl ?_
   refine o_add rfl rfl rfl ⟨by omega, by omega⟩ ?_
   refine o_assign rfl rfl ?_
   refine R_nil ?_
   refine N_LP (hJ := ⟨k + 1, _, rfl, hle4, H, ?inv, rfl⟩) (hM := ?hM) (hf := ?hf) (hm := ?hm)
   case hM => (repeat (first | exact Sub.nil | refine Sub.cons rfl ?_))
   case hf => (repeat (first | exact Sub.nil | refine Sub.cons rfl ?_))
   case hm => omega
   case inv => exact ⟨by omega, Sp.all_take hall hz7 (by simp [Sp.idOk, *])⟩
  intro hc5'
  try simp only [nrm] at hc5'
  refine W_exit ?_
  refine N_K_exit ?_
  refine N_LP_exit ?_
  refine N_B_same ?_
  refine N_K ?_
  refine q2 ?_
  refine o_fieldAddr 0 Tryz.runUnderlying39 rfl Tryz.sizeOf9 rfl rfl rfl ?_
  refine o_load_B 0 H Tryz.isAgg9 rfl rfl rfl rfl ?_
  refine o_call Tryz.call149 rfl rfl (PathValid_c _ _ H.sub _ hi1 ) ?_
  rintro _ w11 ⟨rfl, ew11⟩; have H := H.step ew11; refine ⟨_, rfl, ?_⟩
  refine o_move rfl rfl ?_
  refine R_case (t := 25) rfl ?_ ?_
  ·intro hc12
   try simp only [nrm] at hc12
   refine R_guard (yl rfl rfl) ?_
   refine o_fieldAddr 2 Tryz.runUnderlying39 rfl Tryz.sizeOf27 rfl rfl rfl ?_
   refine R_guard (yl rfl rfl) ?_
   refine o_load_B 0 H Tryz.isAgg27 rfl rfl rfl rfl ?_
   refine R_guard (yl rfl rfl) ?_
   refine o_len_slice Tryz.underlying27 rfl rfl ?_
   refine R_guard (yl rfl rfl) ?_
   refine o_leq rfl rfl rfl ?_
   refine o_pick_t rfl rfl rfl ?_
   refine o_assign rfl rfl ?_
   refine q3 ?_
   refine W_ret ?_
   refine ret_gen (rs := [.tmp 2]) (vs := [_]) Tryz.results99 ⟨rfl, trivial⟩ ?_
   obtain rfl : k = x.ids.length := by omega
   rw [List.take_length] at hall
   exact H.rets (congrArg Value.bool (by simp only [Sp.l5Item, hall, hc12, Bool.true_and]; rw [Bool.eq_iff_iff]; simp; omega))
  intro hc12'
  try simp only [nrm] at hc12'
  refine R_pass rfl (yl_ne rfl rfl rfl) ?_
  refine R_pass rfl (yl_ne rfl rfl rfl) ?_
  refine R_pass rfl (yl_ne rfl rfl rfl) ?_
  refine R_pass rfl (yl_ne rfl rfl rfl) ?_
  refine o_pick_f rfl rfl rfl ?_
  refine o_assign rfl rfl ?_
  refine q3 ?_
  refine W_ret ?_
  refine ret_gen (rs := [.tmp 2]) (vs := [_]) Tryz.results99 ⟨rfl, trivial⟩ ?_
  exact H.rets (congrArg Value.bool (by simp [Sp.l5Item, hc12']))
theorem TreeValid_c (w0 : World) (G0 : PH) (hG : PSub G0 w0) (vlist : Value) (list : List (BItem)) (hlist : RdItems G0 vlist list)  :
  Calls Tryz.prog 84 #[vlist] w0 (Rets w0 (.bool (Sp.TreeValid list))) := by
 obtain ⟨alist, klist, rfl⟩ := hlist.shape
 have hlimlist : list.length ≤ 1099511627776 := hlist.lim
 have H := Hp.init hG
 refine calls_of_W (l := [.slice alist list.length klist]) Tryz.func84 rfl Tryz.ntmps84 rfl ?_
 refine q2 ?_
 refine o_assign rfl rfl ?_
 refine q3 ?_
 refine W_seq ?_
 refine q2 ?_
 refine o_assign rfl rfl ?_
 refine q3 ?_
 refine W_block ?_
 refine W_loop (hf := (Sub.cons (t := 0) rfl Sub.nil)) (J := fun M w m => ∃ (k : Nat) (G : PH), M = [(3, .int .i64 (k : Int))] ∧ PLe G0 G ∧ Hp w0 G0 [] w G [] ∧ (k ≤ list.length ∧ ∀ j, j < k → Sp.okT list j = true) ∧ m = (list.length - k)) (h0 := ⟨0, _, rfl, PLe.refl _, H, ?inv, rfl⟩) (hM := ?hM) (round := ?round)
 case hM => (repeat (first | exact Sub.nil | refine Sub.cons rfl ?_))
 case inv => exact ⟨by omega, fun j hj => by omega⟩
 case round =>
  rintro _ w1 _ ⟨k, G1, rfl, hle1, H, hinv1, rfl⟩
  have hlist := hlist.up hle1
  obtain ⟨hk, hall⟩ := hinv1
  refine W_seq ?_
  refine q2 ?_
  refine o_move rfl rfl ?_
  refine o_move rfl rfl ?_
  refine o_len_slice Tryz.underlying24 rfl rfl ?_
  refine o_lss rfl rfl rfl ?_
  refine q3 ?_
  refine W_cond rfl ?_ ?_
  ·intro hc2
   try simp only [nrm] at hc2
   refine W_skip ?_
   refine N_K ?_
   refine W_seq ?_
   refine W_block ?_
   refine W_seq ?_
   refine W_drawK [] 34 H (by kernel_rfl) rfl ?_; intro w3 H; have hd3 := PLe.refl G1
   refine RD_t 0 rfl (by kernel_rfl) rfl (fun _ hK => v_move rfl) ?_
   refine RD_t 1 rfl (by kernel_rfl) rfl (fun _ hK => v_move rfl) ?_
   have hl4 := hlist.len
   obtain ⟨b4, o4, z4, q4, ha4, hz4, hq4, hE4, hrow4, _⟩ := hlist.at (i := k) (by omega)
   clear hq4
   obtain ⟨a4, m4, c4, rfl, hi4, hr4⟩ := hE4; have hy_hi4 : _ ≤ 16777216 := hi4; have hn_hr4 := hr4.len; have hx_hr4 : _ ≤ 1099511627776 := hr4.lim
   refine RD_t 2 rfl (by kernel_rfl) rfl (fun _ hK => v_index_P (i := k) ha4 Tryz.underlying24 Tryz.sizeOf39 rfl rfl rfl (by omega)) ?_
   refine RD_t 3 rfl (by kernel_rfl) rfl (fun _ hK => v_loadagg_P hK Tryz.isAgg39 Tryz.sizeOf39 rfl hrow4 rfl) ?_
   refine RD_run [4] (by kernel_rfl) rfl (RDs.cons rfl ?_ RDs.nil)
   refine o_call Tryz.call99 rfl rfl (l5Item_c _ _ H.sub _ _ ⟨_, _, _, rfl, hi4, hr4⟩ ) ?_
   rintro _ w5 ⟨rfl, ew5⟩; have H := H.step ew5; refine ⟨_, rfl, ?_⟩
   refine R_nil ?_
   refine N_DK (Kn.of' H hd3 SubL.nil) ?_
   refine RD_t 5 rfl (by kernel_rfl) rfl (fun _ hK => v_not rfl) ?_
   refine RD_t 6 rfl (by kernel_rfl) rfl (fun _ hK => v_move rfl) ?_
   refine RD_case (t := 16) rfl ?_ ?_
   ·intro hc6
    try simp only [nrm] at hc6
    refine RD_pass 7 rfl (by kernel_rfl) (by kernel_rfl) (by kernel_rfl) rfl (yl_ne rfl rfl rfl) ?_
    refine RD_pass 8 rfl (by kernel_rfl) (by kernel_rfl) (by kernel_rfl) rfl (yl_ne rfl rfl rfl) ?_
    refine RD_pass 9 rfl (by kernel_rfl) (by kernel_rfl) (by kernel_rfl) rfl (yl_ne rfl rfl rfl) ?_
    refine RD_pass 10 rfl (by kernel_rfl) (by kernel_rfl) (by kernel_rfl) rfl (yl_un rfl rfl) ?_
    refine RD_pass 11 rfl (by kernel_rfl) (by kernel_rfl) (by kernel_rfl) rfl (yl_un rfl rfl) ?_
    refine RD_pass 12 rfl (by kernel_rfl) (by kernel_rfl) (by kernel_rfl) rfl (yl_un rfl rfl) ?_
    refine RD_pass 13 rfl (by kernel_rfl) (by kernel_rfl) (by kernel_rfl) rfl (yl_un rfl rfl) ?_
    refine RD_pass 14 rfl (by kernel_rfl) (by kernel_rfl) (by kernel_rfl) rfl (yl_un rfl rfl) ?_
    refine RD_pass 15 rfl (by kernel_rfl) (by kernel_rfl) (by kernel_rfl) rfl (yl_un rfl rfl) ?_
    refine RD_pass 16 rfl (by kernel_rfl) (by kernel_rfl) (by kernel_rfl) rfl (yl_un rfl rfl) ?_
    refine RD_pass 17 rfl (by kernel_rfl) (by kernel_rfl) (by kernel_rfl) rfl (yl_un rfl rfl) ?_
    refine RD_pass 18 rfl (by kernel_rfl) (by kernel_rfl) (by kernel_rfl) rfl (yl_un rfl rfl) ?_
    refine RD_pass 19 rfl (by kernel_rfl) (by kernel_rfl) (by kernel_rfl) rfl (yl_un rfl rfl) ?_
    refine RD_pass 20 rfl (by kernel_rfl) (by kernel_rfl) (by kernel_rfl) rfl (yl_un rfl rfl) ?_
    refine RD_pass 21 rfl (by kernel_rfl) (by kernel_rfl) (by kernel_rfl) rfl (yl_un rfl rfl) ?_
    refine RD_pass 22 rfl (by kernel_rfl) (by kernel_rfl) (by kernel_rfl) rfl (yl_ne rfl rfl rfl) ?_
    refine RD_t 23 rfl (by kernel_rfl) rfl (fun _ hK => v_pick_t rfl rfl) ?_
    refine RD_t 24 rfl (by kernel_rfl) rfl (fun _ hK => v_move rfl) ?_
    refine RD_pass 25 rfl (by kernel_rfl) (by kernel_rfl) (by kernel_rfl) rfl (yl_ne rfl rfl rfl) ?_
    refine RD_pass 26 rfl (by kernel_rfl) (by kernel_rfl) (by kernel_rfl) rfl (yl_ne rfl rfl rfl) ?_
    refine RD_pass 27 rfl (by kernel_rfl) (by kernel_rfl) (by kernel_rfl) rfl (yl_ne rfl rfl rfl) ?_
    refine RD_pass 28 rfl (by kernel_rfl) (by kernel_rfl) (by kernel_rfl) rfl (yl_ne rfl rfl rfl) ?_
    refine RD_pass 29 rfl (by kernel_rfl) (by kernel_rfl) (by kernel_rfl) rfl (yl_ne rfl rfl rfl) ?_
    refine RD_pass 30 rfl (by kernel_rfl) (by kernel_rfl) (by kernel_rfl) rfl (yl_ne rfl rfl rfl) ?_
    refine RD_pass 31 rfl (by kernel_rfl) (by kernel_rfl) (by kernel_rfl) rfl (yl_ne rfl rfl rfl) ?_
    refine RD_pass 32 rfl (by kernel_rfl) (by kernel_rfl) (by kernel_rfl) rfl (yl_ne rfl rfl rfl) ?_
    refine RD_t 33 rfl (by kernel_rfl) rfl (fun _ hK => v_pick_t rfl rfl) ?_
    refine RD_done (by kernel_rfl) ?_
    refine N_K ?_
    refine W_true rfl ?_
    refine q2 ?_
    refine o_assign rfl rfl ?_
    refine q3 ?_
    refine W_ret ?_
    refine N_B_ret ?_
    refine N_K_ret ?_
    refine N_LP_ret ?_
    refine N_B_ret ?_
    refine N_K_ret ?_
    refine ret_gen (rs := [.tmp 2]) (vs := [_]) Tryz.results84 ⟨rfl, trivial⟩ ?_
    exact H.rets (congrArg Value.bool (by rw [Sp.TreeValid, Sp.not_all_range (k := k) (by omega) (by rw [Sp.okT_at hz4]; simp [Sp.prevLt, *])]; rfl))
   intro hc6'
   try simp only [nrm] at hc6'
   refine RD_tg 7 rfl (by kernel_rfl) rfl (yl rfl rfl) (fun _ hK => v_move rfl) ?_
   refine RD_tg 8 rfl (by kernel_rfl) rfl (yl rfl rfl) (fun _ hK => v_gtr rfl rfl) ?_
   refine RD_tg 9 rfl (by kernel_rfl) rfl (yl rfl rfl) (fun _ hK => v_move rfl) ?_
   refine RD_case (t := 19) rfl ?_ ?_
   ·intro hc7
    try simp only [nrm] at hc7
    have hk0 : k ≠ 0 := by omega
    refine RD_tg 10 rfl (by kernel_rfl) rfl (yl rfl rfl) (fun _ hK => v_move rfl) ?_
    refine RD_tg 11 rfl (by kernel_rfl) rfl (yl rfl rfl) (fun _ hK => v_move rfl) ?_
    refine RD_tg 12 rfl (by kernel_rfl) rfl (yl rfl rfl) (fun _ hK => v_sub rfl rfl ⟨by omega, by omega⟩) ?_
    have hl9 := hlist.len
    obtain ⟨b9, o9, z9, q9, ha9, hz9, hq9, hE9, hrow9, _⟩ := hlist.at (i := (k - 1)) (by omega)
    clear hq9
    obtain ⟨a9, m9, c9, rfl, hi9, hr9⟩ := hE9; have hy_hi9 : _ ≤ 16777216 := hi9; have hn_hr9 := hr9.len; have hx_hr9 : _ ≤ 1099511627776 := hr9.lim
    refine RD_tg 13 rfl (by kernel_rfl) rfl (yl rfl rfl) (fun _ hK => v_index_P (i := (k - 1)) ha9 Tryz.underlying24 Tryz.sizeOf39 rfl rfl (by omega) (by omega)) ?_
    refine RD_tg 14 rfl (by kernel_rfl) rfl (yl rfl rfl) (fun _ hK => v_fieldAddr 0 Tryz.runUnderlying39 rfl Tryz.sizeOf9 rfl rfl) ?_
    refine RD_tg 15 rfl (by kernel_rfl) rfl (yl rfl rfl) (fun _ hK => v_load_P hK Tryz.isAgg9 rfl (hrow9 0 _ rfl)) ?_
    refine RD_tg 16 rfl (by kernel_rfl) rfl (yl rfl rfl) (fun _ hK => v_move rfl) ?_
    refine RD_tg 17 rfl (by kernel_rfl) rfl (yl rfl rfl) (fun _ hK => v_move rfl) ?_
    have hl10 := hlist.len
    obtain ⟨b10, o10, z10, q10, ha10, hz10, hq10, hE10, hrow10, _⟩ := hlist.at (i := k) (by omega)
    clear hq10
    obtain ⟨a10, m10, c10, rfl, hi10, hr10⟩ := hE10; have hy_hi10 : _ ≤ 16777216 := hi10; have hn_hr10 := hr10.len; have hx_hr10 : _ ≤ 1099511627776 := hr10.lim
    have hzz10 : z4 = z10 := Option.some.inj (hz4.symm.trans hz10)
    subst hzz10
    refine RD_tg 18 rfl (by kernel_rfl) rfl (yl rfl rfl) (fun _ hK => v_index_P (i := k) ha10 Tryz.underlying24 Tryz.sizeOf39 rfl rfl rfl (by omega)) ?_
    refine RD_tg 19 rfl (by kernel_rfl) rfl (yl rfl rfl) (fun _ hK => v_fieldAddr 0 Tryz.runUnderlying39 rfl Tryz.sizeOf9 rfl rfl) ?_
    refine RD_tg 20 rfl (by kernel_rfl) rfl (yl rfl rfl) (fun _ hK => v_load_P hK Tryz.isAgg9 rfl (hrow10 0 _ rfl)) ?_
    refine RD_tg 21 rfl (by kernel_rfl) rfl (yl rfl rfl) (fun _ hK => v_sgeq rfl rfl) ?_
    refine RD_tg 22 rfl (by kernel_rfl) rfl (yl rfl rfl) (fun _ hK => v_pick_t rfl rfl) ?_
    refine RD_t 23 rfl (by kernel_rfl) rfl (fun _ hK => v_pick_f rfl rfl) ?_
    refine RD_t 24 rfl (by kernel_rfl) rfl (fun _ hK => v_move rfl) ?_
    refine RD_case (t := 34) rfl ?_ ?_
    ·intro hc11
     try simp only [nrm] at hc11
     refine RD_pass 25 rfl (by kernel_rfl) (by kernel_rfl) (by kernel_rfl) rfl (yl_ne rfl rfl rfl) ?_
     refine RD_pass 26 rfl (by kernel_rfl) (by kernel_rfl) (by kernel_rfl) rfl (yl_ne rfl rfl rfl) ?_
     refine RD_pass 27 rfl (by kernel_rfl) (by kernel_rfl) (by kernel_rfl) rfl (yl_ne rfl rfl rfl) ?_
     refine RD_pass 28 rfl (by kernel_rfl) (by kernel_rfl) (by kernel_rfl) rfl (yl_ne rfl rfl rfl) ?_
     refine RD_pass 29 rfl (by kernel_rfl) (by kernel_rfl) (by kernel_rfl) rfl (yl_ne rfl rfl rfl) ?_
     refine RD_pass 30 rfl (by kernel_rfl) (by kernel_rfl) (by kernel_rfl) rfl (yl_ne rfl rfl rfl) ?_
     refine RD_pass 31 rfl (by kernel_rfl) (by kernel_rfl) (by kernel_rfl) rfl (yl_ne rfl rfl rfl) ?_
     refine RD_pass 32 rfl (by kernel_rfl) (by kernel_rfl) (by kernel_rfl) rfl (yl_ne rfl rfl rfl) ?_
     refine RD_t 33 rfl (by kernel_rfl) rfl (fun _ hK => v_pick_t rfl rfl) ?_
     refine RD_done (by kernel_rfl) ?_
     refine N_K ?_
     refine W_true rfl ?_
     refine q2 ?_
     refine o_assign rfl rfl ?_
     refine q3 ?_
     refine W_ret ?_
     refine N_B_ret ?_
     refine N_K_ret ?_
     refine N_LP_ret ?_
     refine N_B_ret ?_
     refine N_K_ret ?_
     refine ret_gen (rs := [.tmp 2]) (vs := [_]) Tryz.results84 ⟨rfl, trivial⟩ ?_
     exact H.rets (congrArg Value.bool (by rw [Sp.TreeValid, Sp.not_all_range (k := k) (by omega) (by rw [Sp.okT_at hz4]; simp [Sp.prevLt, *])]; rfl))
    intro hc11'
    try simp only [nrm] at hc11'
    refine RD_tg 25 rfl (by kernel_rfl) rfl (yl rfl rfl) (fun _ hK => v_move rfl) ?_
    refine RD_tg 26 rfl (by kernel_rfl) rfl (yl rfl rfl) (fun _ hK => v_move rfl) ?_
    refine RD_tg 27 rfl (by kernel_rfl) rfl (yl rfl rfl) (fun _ hK => v_move rfl) ?_
    have hl12 := hlist.len
    obtain ⟨b12, o12, z12, q12, ha12, hz12, hq12, hE12, hrow12, _⟩ := hlist.at (i := k) (by omega)
    clear hq12
    obtain ⟨a12, m12, c12, rfl, hi12, hr12⟩ := hE12; have hy_hi12 : _ ≤ 16777216 := hi12; have hn_hr12 := hr12.len; have hx_hr12 : _ ≤ 1099511627776 := hr12.lim
    have hzz12 : z4 = z12 := Option.some.inj (hz4.symm.trans hz12)
    subst hzz12
    refine RD_tg 28 rfl (by kernel_rfl) rfl (yl rfl rfl) (fun _ hK => v_index_P (i := k) ha12 Tryz.underlying24 Tryz.sizeOf39 rfl rfl rfl (by omega)) ?_
    refine RD_tg 29 rfl (by kernel_rfl) rfl (yl rfl rfl) (fun _ hK => v_fieldAddr 0 Tryz.runUnderlying39 rfl Tryz.sizeOf9 rfl rfl) ?_
    refine RD_tg 30 rfl (by kernel_rfl) rfl (yl rfl rfl) (fun _ hK => v_load_P hK Tryz.isAgg9 rfl (hrow12 0 _ rfl)) ?_
    refine RD_run [31] (by kernel_rfl) rfl (RDs.cons rfl ?_ RDs.nil)
    refine R_guard (yl rfl rfl) ?_
    refine o_call Tryz.call140 rfl rfl (l5Home_c _ _ H.sub _ _ hlist _ hi12 ) ?_
    rintro _ w13 ⟨rfl, ew13⟩; have H := H.step ew13; refine ⟨_, rfl, ?_⟩
    refine R_nil ?_
    refine N_DK (Kn.of' H hd3 SubL.nil) ?_
    refine RD_tg 32 rfl (by kernel_rfl) rfl (yl rfl rfl) (fun _ hK => v_not rfl) ?_
    refine RD_t 33 rfl (by kernel_rfl) rfl (fun _ hK => v_pick_f rfl rfl) ?_
    refine RD_done (by kernel_rfl) ?_
    refine N_K ?_
    refine W_cond rfl ?_ ?_
    ·intro hc14
     try simp only [nrm] at hc14
     refine q2 ?_
     refine o_assign rfl rfl ?_
     refine q3 ?_
     refine W_ret ?_
     refine N_B_ret ?_
     refine N_K_ret ?_
     refine N_LP_ret ?_
     refine N_B_ret ?_
     refine N_K_ret ?_
     refine ret_gen (rs := [.tmp 2]) (vs := [_]) Tryz.results84 ⟨rfl, trivial⟩ ?_
     exact H.rets (congrArg Value.bool (by rw [Sp.TreeValid, Sp.not_all_range (k := k) (by omega) (by rw [Sp.okT_at hz4]; simp [Sp.prevLt, *])]; rfl))
    intro hc14'
    try simp only [nrm] at hc14'
    refine W_skip ?_
    refine N_B ?_
    refine N_K ?_
    refine W_region ?_
    refine o_move rfl rfl ?_
    refine o_add rfl rfl rfl ⟨by omega, by omega⟩ ?_
    refine o_assign rfl rfl ?_
    refine R_nil ?_
    refine N_LP (hJ := ⟨k + 1, _, rfl, hle1, H, ?inv, rfl⟩) (hM := ?hM) (hf := ?hf) (hm := ?hm)
    case hM => (repeat (first | exact Sub.nil | refine Sub.cons rfl ?_))
    case hf => (repeat (first | exact Sub.nil | refine Sub.cons rfl ?_))
    case hm => omega
    case inv => exact ⟨by omega, Sp.upto_succ hall (by rw [Sp.okT_at hz4]; simp [Sp.prevLt, *])⟩
   intro hc7'
   try simp only [nrm] at hc7'
   have hk0 : k = 0 := by omega
   refine RD_pass 10 rfl (by kernel_rfl) (by kernel_rfl) (by kernel_rfl) rfl (yl_ne rfl rfl rfl) ?_
   refine RD_pass 11 rfl (by kernel_rfl) (by kernel_rfl) (by kernel_rfl) rfl (yl_ne rfl rfl rfl) ?_
   refine RD_pass 12 rfl (by kernel_rfl) (by kernel_rfl) (by kernel_rfl) rfl (yl_ne rfl rfl rfl) ?_
   refine RD_pass 13 rfl (by kernel_rfl) (by kernel_rfl) (by kernel_rfl) rfl (yl_ne rfl rfl rfl) ?_
   refine RD_pass 14 rfl (by kernel_rfl) (by kernel_rfl) (by kernel_rfl) rfl (yl_ne rfl rfl rfl) ?_
   refine RD_pass 15 rfl (by kernel_rfl) (by kernel_rfl) (by kernel_rfl) rfl (yl_ne rfl rfl rfl) ?_
   refine RD_pass 16 rfl (by kernel_rfl) (by kernel_rfl) (by kernel_rfl) rfl (yl_ne rfl rfl rfl) ?_
   refine RD_pass 17 rfl (by kernel_rfl) (by kernel_rfl) (by kernel_rfl) rfl (yl_ne rfl rfl rfl) ?_
   refine RD_pass 18 rfl (by kernel_rfl) (by kernel_rfl) (by kernel_rfl) rfl (yl_ne rfl rfl rfl) ?_
   refine RD_pass 19 rfl (by kernel_rfl) (by kernel_rfl) (by kernel_rfl) rfl (yl_ne rfl rfl rfl) ?_
   refine RD_pass 20 rfl (by kernel_rfl) (by kernel_rfl) (by kernel_rfl) rfl (yl_ne rfl rfl rfl) ?_
   refine RD_pass 21 rfl (by kernel_rfl) (by kernel_rfl) (by kernel_rfl) rfl (yl_ne rfl rfl rfl) ?_
   refine RD_tg 22 rfl (by kernel_rfl) rfl (yl rfl rfl) (fun _ hK => v_pick_f rfl rfl) ?_
   refine RD_t 23 rfl (by kernel_rfl) rfl (fun _ hK => v_pick_f rfl rfl) ?_
   refine RD_t 24 rfl (by kernel_rfl) rfl (fun _ hK => v_move rfl) ?_
   refine RD_tg 25 rfl (by kernel_rfl) rfl (yl rfl rfl) (fun _ hK => v_move rfl) ?_
   refine RD_tg 26 rfl (by kernel_rfl) rfl (yl rfl rfl) (fun _ hK => v_move rfl) ?_
   refine RD_tg 27 rfl (by kernel_rfl) rfl (yl rfl rfl) (fun _ hK => v_move rfl) ?_
   have hl16 := hlist.len
   obtain ⟨b16, o16, z16, q16, ha16, hz16, hq16, hE16, hrow16, _⟩ := hlist.at (i := k) (by omega)
   clear hq16
   obtain ⟨a16, m16, c16, rfl, hi16, hr16⟩ := hE16; have hy_hi16 : _ ≤ 16777216 := hi16; have hn_hr16 := hr16.len; have hx_hr16 : _ ≤ 1099511627776 := hr16.lim
   have hzz16 : z4 = z16 := Option.some.inj (hz4.symm.trans hz16)
   subst hzz16
   refine RD_tg 28 rfl (by kernel_rfl) rfl (yl rfl rfl) (fun _ hK => v_index_P (i := k) ha16 Tryz.underlying24 Tryz.sizeOf39 rfl rfl rfl (by omega)) ?_
   refine RD_tg 29 rfl (by kernel_rfl) rfl (yl rfl rfl) (fun _ hK => v_fieldAddr 0 Tryz.runUnderlying39 rfl Tryz.sizeOf9 rfl rfl) ?_
   refine RD_tg 30 rfl (by kernel_rfl) rfl (yl rfl rfl) (fun _ hK => v_load_P hK Tryz.isAgg9 rfl (hrow16 0 _ rfl)) ?_
   refine RD_run [31] (by kernel_rfl) rfl (RDs.cons rfl ?_ RDs.nil)
   refine R_guard (yl rfl rfl) ?_
   refine o_call Tryz.call140 rfl rfl (l5Home_c _ _ H.sub _ _ hlist _ hi16 ) ?_
   rintro _ w17 ⟨rfl, ew17⟩; have H := H.step ew17; refine ⟨_, rfl, ?_⟩
   refine R_nil ?_
   refine N_DK (Kn.of' H hd3 SubL.nil) ?_
   refine RD_tg 32 rfl (by kernel_rfl) rfl (yl rfl rfl) (fun _ hK => v_not rfl) ?_
   refine RD_t 33 rfl (by kernel_rfl) rfl (fun _ hK => v_pick_f rfl rfl) ?_
   refine RD_done (by kernel_rfl) ?_
   refine N_K ?_
   refine W_cond rfl ?_ ?_
   ·intro hc18
    try simp only [nrm] at hc18
    refine q2 ?_
    refine o_assign rfl rfl ?_
    refine q3 ?_
    refine W_ret ?_
    refine N_B_ret ?_
    refine N_K_ret ?_
    refine N_LP_ret ?_
    refine N_B_ret ?_
    refine N_K_ret ?_
    refine ret_gen (rs := [.tmp 2]) (vs := [_]) Tryz.results84 ⟨rfl, trivial⟩ ?_
    exact H.rets (congrArg Value.bool (by rw [Sp.TreeValid, Sp.not_all_range (k := k) (by omega) (by rw [Sp.okT_at hz4]; simp [Sp.prevLt, *])]; rfl))
   intro hc18'
   try simp only [nrm] at hc18'
   refine W_skip ?_
   refine N_B ?_
   refine N_K ?_
   refine W_region ?_
   refine o_move rfl rfl ?_
   refine o_add rfl rfl rfl ⟨by omega, by omega⟩ ?_
   refine o_assign rfl rfl ?_
   refine R_nil ?_
   refine N_LP (hJ := ⟨k + 1, _, rfl, hle1, H, ?inv, rfl⟩) (hM := ?hM) (hf := ?hf) (hm := ?hm)
   case hM => (repeat (first | exact Sub.nil | refine Sub.cons rfl ?_))
   case hf => (repeat (first | exact Sub.nil | refine Sub.cons rfl ?_))
   case hm => omega
   case inv => exact ⟨by omega, Sp.upto_succ hall (by rw [Sp.okT_at hz4]; simp [Sp.prevLt, *])⟩
  intro hc2'
  try simp only [nrm] at hc2'
  refine W_exit ?_
  refine N_K_exit ?_
  refine N_LP_exit ?_
  refine N_B_same ?_
  refine N_K ?_
  refine q2 ?_
  refine o_move rfl rfl ?_
  refine o_len_slice Tryz.underlying24 rfl rfl ?_
  refine o_leq rfl rfl rfl ?_
  refine o_assign rfl rfl ?_
  refine q3 ?_
  refine W_ret ?_
  refine ret_gen (rs := [.tmp 2]) (vs := [_]) Tryz.results84 ⟨rfl, trivial⟩ ?_
  exact H.rets (congrArg Value.bool (by rw [Sp.TreeValid, Sp.all_range (fun j hj => hall j (by omega)), Bool.true_and]; rw [Bool.eq_iff_iff]; simp; omega))
theorem l2Same_c (w0 : World) (G0 : PH) (hG : PSub G0 w0) (va : Value) (a : List (Int)) (ha : RdI G0 va a) (vb : Value) (b : List (Int)) (hb : RdI G0 vb b)  :
  Calls Tryz.prog 139 #[va, vb] w0 (Rets w0 (.bool (Sp.l2Same a b))) := by
 obtain ⟨aa, ka, rfl⟩ := ha.shape
 have hlima : a.length ≤ 1099511627776 := ha.lim
 obtain ⟨ab, kb, rfl⟩ := hb.shape
 have hlimb : b.length ≤ 1099511627776 := hb.lim
 have H := Hp.init hG
 refine calls_of_W (l := [.slice aa a.length ka, .slice ab b.length kb]) Tryz.func139 rfl Tryz.ntmps139 rfl ?_
 refine q2 ?_
 refine o_assign rfl rfl ?_
 refine q3 ?_
 refine W_seq ?_
 refine q2 ?_
 refine o_move rfl rfl ?_
 refine o_len_slice Tryz.underlying27 rfl rfl ?_
 refine o_move rfl rfl ?_
 refine o_len_slice Tryz.underlying27 rfl rfl ?_
 refine o_neq rfl rfl rfl ?_
 refine q3 ?_
 refine W_cond rfl ?_ ?_
 ·intro hc1
  try simp only [nrm] at hc1
  refine q2 ?_
  refine o_assign rfl rfl ?_
  refine q3 ?_
  refine W_ret ?_
  refine N_K_ret ?_
  refine ret_gen (rs := [.tmp 4]) (vs := [_]) Tryz.results139 ⟨rfl, trivial⟩ ?_
  exact H.rets (congrArg Value.bool (by unfold Sp.l2Same; exact Sp.ne_len (by omega)))
 intro hc1'
 try simp only [nrm] at hc1'
 refine W_skip ?_
 refine N_K ?_
 refine W_seq ?_
 refine q2 ?_
 refine o_assign rfl rfl ?_
 refine q3 ?_
 refine W_block ?_
 refine W_loop (hf := (Sub.cons (t := 0) rfl (Sub.cons (t := 1) rfl Sub.nil))) (J := fun M w m => ∃ (k : Nat) (G : PH), M = [(5, .int .i64 (k : Int))] ∧ PLe G0 G ∧ Hp w0 G0 [] w G [] ∧ (k ≤ a.length ∧ a.take k = b.take k) ∧ m = (a.length - k)) (h0 := ⟨0, _, rfl, PLe.refl _, H, ?inv, rfl⟩) (hM := ?hM) (round := ?round)
 case hM => (repeat (first | exact Sub.nil | refine Sub.cons rfl ?_))
 case inv => exact ⟨by omega, by simp⟩
 case round =>
  rintro _ w2 _ ⟨k, G2, rfl, hle2, H, hinv2, rfl⟩
  have ha := ha.up hle2
  have hb := hb.up hle2
  obtain ⟨hk, hall⟩ := hinv2
  refine W_seq ?_
  refine q2 ?_
  refine o_move rfl rfl ?_
  refine o_move rfl rfl ?_
  refine o_len_slice Tryz.underlying27 rfl rfl ?_
  refine o_lss rfl rfl rfl ?_
  refine q3 ?_
  refine W_cond rfl ?_ ?_
  ·intro hc3
   try simp only [nrm] at hc3
   refine W_skip ?_
   refine N_K ?_
   refine W_seq ?_
   refine W_block ?_
   refine W_seq ?_
   refine W_drawK [] 9 H (by kernel_rfl) rfl ?_; intro w4 H; have hd4 := PLe.refl G2
   refine RD_t 0 rfl (by kernel_rfl) rfl (fun _ hK => v_move rfl) ?_
   refine RD_t 1 rfl (by kernel_rfl) rfl (fun _ hK => v_move rfl) ?_
   have hl5 := ha.len
   obtain ⟨b5, o5, z5, q5, ha5, hz5, hq5, hE5, hrow5, _⟩ := ha.at (i := k) (by omega)
   clear hq5
   obtain ⟨rfl, hi5⟩ := hE5
   refine RD_t 2 rfl (by kernel_rfl) rfl (fun _ hK => v_index_P (i := k) ha5 Tryz.underlying27 Tryz.sizeOf3 rfl rfl rfl (by omega)) ?_
   refine RD_t 3 rfl (by kernel_rfl) rfl (fun _ hK => v_load_P hK Tryz.isAgg3 rfl (hrow5 0 _ rfl)) ?_
   refine RD_t 4 rfl (by kernel_rfl) rfl (fun _ hK => v_move rfl) ?_
   refine RD_t 5 rfl (by kernel_rfl) rfl (fun _ hK => v_move rfl) ?_
   have hl6 := hb.len
   obtain ⟨b6, o6, z6, q6, ha6, hz6, hq6, hE6, hrow6, _⟩ := hb.at (i := k) (by omega)
   clear hq6
   obtain ⟨rfl, hi6⟩ := hE6
   refine RD_t 6 rfl (by kernel_rfl) rfl (fun _ hK => v_index_P (i := k) ha6 Tryz.underlying27 Tryz.sizeOf3 rfl rfl rfl (by omega)) ?_
   refine RD_t 7 rfl (by kernel_rfl) rfl (fun _ hK => v_load_P hK Tryz.isAgg3 rfl (hrow6 0 _ rfl)) ?_
   refine RD_t 8 rfl (by kernel_rfl) rfl (fun _ hK => v_neq rfl rfl) ?_
   refine RD_done (by kernel_rfl) ?_
   refine N_K ?_
   refine W_cond rfl ?_ ?_
   ·intro hc7
    try simp only [nrm] at hc7
    refine q2 ?_
    refine o_assign rfl rfl ?_
    refine q3 ?_
    refine W_ret ?_
    refine N_B_ret ?_
    refine N_K_ret ?_
    refine N_LP_ret ?_
    refine N_B_ret ?_
    refine N_K_ret ?_
    refine ret_gen (rs := [.tmp 4]) (vs := [_]) Tryz.results139 ⟨rfl, trivial⟩ ?_
    exact H.rets (congrArg Value.bool (by unfold Sp.l2Same; exact Sp.ne_at hz5 hz6 (by omega)))
   intro hc7'
   try simp only [nrm] at hc7'
   refine W_skip ?_
   refine N_B ?_
   refine N_K ?_
   refine W_region ?_
   refine o_move rfl rfl ?_
   refine o_add rfl rfl rfl ⟨by omega, by omega⟩ ?_
   refine o_assign rfl rfl ?_
   refine R_nil ?_
   refine N_LP (hJ := ⟨k + 1, _, rfl, hle2, H, ?inv, rfl⟩) (hM := ?hM) (hf := ?hf) (hm := ?hm)
   case hM => (repeat (first | exact Sub.nil | refine Sub.cons rfl ?_))
   case hf => (repeat (first | exact Sub.nil | refine Sub.cons rfl ?_))
   case hm => omega
   case inv => exact ⟨by omega, Sp.take_eq hall hz5 (by rw [hz6]; congr 1; omega)⟩
  intro hc3'
  try simp only [nrm] at hc3'
  refine W_exit ?_
  refine N_K_exit ?_
  refine N_LP_exit ?_
  refine N_B_same ?_
  refine N_K ?_
  refine q2 ?_
  refine o_assign rfl rfl ?_
  refine q3 ?_
  refine W_ret ?_
  refine ret_gen (rs := [.tmp 4]) (vs := [_]) Tryz.results139 ⟨rfl, trivial⟩ ?_
  exact H.rets (congrArg Value.bool (by unfold Sp.l2Same; exact Sp.eq_all hall (by omega) (by omega)))
theorem BlockValid_c (w0 : World) (G0 : PH) (hG : PSub G0 w0) (vbytes : Value) (bytes : List (Int)) (hbytes : RdI G0 vbytes bytes)  :
  Calls Tryz.prog 138 #[vbytes] w0 (Rets w0 (.bool (Sp.BlockValid bytes))) := by
 obtain ⟨abytes, kbytes, rfl⟩ := hbytes.shape
 have hlimbytes : bytes.length ≤ 1099511627776 := hbytes.lim
 have H := Hp.init hG
 refine calls_of_W (l := [.slice abytes bytes.length kbytes]) Tryz.func138 rfl Tryz.ntmps138 rfl ?_
 refine q2 ?_
 refine o_assign rfl rfl ?_
 refine q3 ?_
 refine W_seq ?_
 refine q2 ?_
 refine o_assign rfl rfl ?_
 refine q3 ?_
 refine W_block ?_
 refine W_loop (hf := (Sub.cons (t := 0) rfl Sub.nil)) (J := fun M w m => ∃ (k : Nat) (G : PH), M = [(3, .int .i64 (k : Int))] ∧ PLe G0 G ∧ Hp w0 G0 [] w G [] ∧ (k ≤ bytes.length ∧ (bytes.take k).all Sp.byteOk = true) ∧ m = (bytes.length - k)) (h0 := ⟨0, _, rfl, PLe.refl _, H, ?inv, rfl⟩) (hM := ?hM) (round := ?round)
 case hM => (repeat (first | exact Sub.nil | refine Sub.cons rfl ?_))
 case inv => exact ⟨by omega, by simp⟩
 case round =>
  rintro _ w1 _ ⟨k, G1, rfl, hle1, H, hinv1, rfl⟩
  have hbytes := hbytes.up hle1
  obtain ⟨hk, hall⟩ := hinv1
  refine W_seq ?_
  refine q2 ?_
  refine o_move rfl rfl ?_
  refine o_move rfl rfl ?_
  refine o_len_slice Tryz.underlying27 rfl rfl ?_
  refine o_lss rfl rfl rfl ?_
  refine q3 ?_
  refine W_cond rfl ?_ ?_
  ·intro hc2
   try simp only [nrm] at hc2
   refine W_skip ?_
   refine N_K ?_
   refine W_seq ?_
   refine W_block ?_
   refine q2 ?_
   refine o_move rfl rfl ?_
   refine o_move rfl rfl ?_
   refine o_index_P _ hbytes Tryz.underlying27 Tryz.sizeOf3 rfl rfl rfl rfl (by omega) ?_; intro b3 o3 z3 q3 hz3 hE3 hrow3
   obtain ⟨rfl, hi3⟩ := hE3
   refine o_load_P H Tryz.isAgg3 rfl rfl (hrow3 0 _ rfl) ?_
   refine o_call Tryz.call87 rfl rfl (l6In_c _ _ _ _ ) ?_
   rintro _ w4 ⟨rfl, ew4⟩; have H := H.step ew4; refine ⟨_, rfl, ?_⟩
   refine o_not rfl rfl ?_
   refine q3 ?_
   refine W_cond rfl ?_ ?_
   ·intro hc5
    try simp only [nrm] at hc5
    refine q2 ?_
    refine o_assign rfl rfl ?_
    refine q3 ?_
    refine W_ret ?_
    refine N_B_ret ?_
    refine N_K_ret ?_
    refine N_LP_ret ?_
    refine N_B_ret ?_
    refine N_K_ret ?_
    refine ret_gen (rs := [.tmp 2]) (vs := [_]) Tryz.results138 ⟨rfl, trivial⟩ ?_
    exact H.rets (congrArg Value.bool (by rw [Sp.BlockValid, Sp.all_false hz3 (by simp [Sp.byteOk, *])]; rfl))
   intro hc5'
   try simp only [nrm] at hc5'
   refine W_skip ?_
   refine N_B ?_
   refine N_K ?_
   refine W_region ?_
   refine o_move rfl rfl ?_
   refine o_add rfl rfl rfl ⟨by omega, by omega⟩ ?_
   refine o_assign rfl rfl ?_
   refine R_nil ?_
   refine N_LP (hJ := ⟨k + 1, _, rfl, hle1, H, ?inv, rfl⟩) (hM := ?hM) (hf := ?hf) (hm := ?hm)
   case hM => (repeat (first | exact Sub.nil | refine Sub.cons rfl ?_))
   case hf => (repeat (first | exact Sub.nil | refine Sub.cons rfl ?_))
   case hm => omega
   case inv => exact ⟨by omega, Sp.all_take hall hz3 (by simp [Sp.byteOk, *])⟩
  intro hc2'
  try simp only [nrm] at hc2'
  refine W_exit ?_
  refine N_K_exit ?_
  refine N_LP_exit ?_
  refine N_B_same ?_
  refine N_K ?_
  refine q2 ?_
  refine o_move rfl rfl ?_
  refine o_len_slice Tryz.underlying27 rfl rfl ?_
  refine o_call Tryz.call87 rfl rfl (l6In_c _ _ _ _ ) ?_
  rintro _ w7 ⟨rfl, ew7⟩; have H := H.step ew7; refine ⟨_, rfl, ?_⟩
  refine o_assign rfl rfl ?_
  refine q3 ?_
  refine W_ret ?_
  refine ret_gen (rs := [.tmp 2]) (vs := [_]) Tryz.results138 ⟨rfl, trivial⟩ ?_
  obtain rfl : k = bytes.length := by omega
  rw [List.take_length] at hall
  exact H.rets (congrArg Value.bool (by simp only [Sp.BlockValid, hall, Bool.true_and]))
theorem FileValid_c (w0 : World) (G0 : PH) (hG : PSub G0 w0) (vbytes : Value) (bytes : List (Int)) (hbytes : RdI G0 vbytes bytes)  :
  Calls Tryz.prog 35 #[vbytes] w0 (Rets w0 (.bool (Sp.FileValid bytes))) := by
 obtain ⟨abytes, kbytes, rfl⟩ := hbytes.shape
 have hlimbytes : bytes.length ≤ 1099511627776 := hbytes.lim
 have H := Hp.init hG
 refine calls_of_W (l := [.slice abytes bytes.length kbytes]) Tryz.func35 rfl Tryz.ntmps35 rfl ?_
 refine q2 ?_
 refine o_assign rfl rfl ?_
 refine q3 ?_
 refine W_seq ?_
 refine q2 ?_
 refine o_assign rfl rfl ?_
 refine q3 ?_
 refine W_block ?_
 refine W_loop (hf := (Sub.cons (t := 0) rfl Sub.nil)) (J := fun M w m => ∃ (k : Nat) (G : PH), M = [(3, .int .i64 (k : Int))] ∧ PLe G0 G ∧ Hp w0 G0 [] w G [] ∧ (k ≤ bytes.length ∧ (bytes.take k).all Sp.byteOk = true) ∧ m = (bytes.length - k)) (h0 := ⟨0, _, rfl, PLe.refl _, H, ?inv, rfl⟩) (hM := ?hM) (round := ?round)
 case hM => (repeat (first | exact Sub.nil | refine Sub.cons rfl ?_))
 case inv => exact ⟨by omega, by simp⟩
 case round =>
  rintro _ w1 _ ⟨k, G1, rfl, hle1, H, hinv1, rfl⟩
  have hbytes := hbytes.up hle1
  obtain ⟨hk, hall⟩ := hinv1
  refine W_seq ?_
  refine q2 ?_
  refine o_move rfl rfl ?_
  refine o_move rfl rfl ?_
  refine o_len_slice Tryz.underlying27 rfl rfl ?_
  refine o_lss rfl rfl rfl ?_
  refine q3 ?_
  refine W_cond rfl ?_ ?_
  ·intro hc2
   try simp only [nrm] at hc2
   refine W_skip ?_
   refine N_K ?_
   refine W_seq ?_
   refine W_block ?_
   refine q2 ?_
   refine o_move rfl rfl ?_
   refine o_move rfl rfl ?_
   refine o_index_P _ hbytes Tryz.underlying27 Tryz.sizeOf3 rfl rfl rfl rfl (by omega) ?_; intro b3 o3 z3 q3 hz3 hE3 hrow3
   obtain ⟨rfl, hi3⟩ := hE3
   refine o_load_P H Tryz.isAgg3 rfl rfl (hrow3 0 _ rfl) ?_
   refine o_call Tryz.call87 rfl rfl (l6In_c _ _ _ _ ) ?_
   rintro _ w4 ⟨rfl, ew4⟩; have H := H.step ew4; refine ⟨_, rfl, ?_⟩
   refine o_not rfl rfl ?_
   refine q3 ?_
   refine W_cond rfl ?_ ?_
   ·intro hc5
    try simp only [nrm] at hc5
    refine q2 ?_
    refine o_assign rfl rfl ?_
    refine q3 ?_
    refine W_ret ?_
    refine N_B_ret ?_
    refine N_K_ret ?_
    refine N_LP_ret ?_
    refine N_B_ret ?_
    refine N_K_ret ?_
    refine ret_gen (rs := [.tmp 2]) (vs := [_]) Tryz.results35 ⟨rfl, trivial⟩ ?_
    exact H.rets (congrArg Value.bool (by rw [Sp.FileValid, Sp.all_false hz3 (by simp [Sp.byteOk, *])]; rfl))
   intro hc5'
   try simp only [nrm] at hc5'
   refine W_skip ?_
   refine N_B ?_
   refine N_K ?_
   refine W_region ?_
   refine o_move rfl rfl ?_
   refine o_add rfl rfl rfl ⟨by omega, by omega⟩ ?_
   refine o_assign rfl rfl ?_
   refine R_nil ?_
   refine N_LP (hJ := ⟨k + 1, _, rfl, hle1, H, ?inv, rfl⟩) (hM := ?hM) (hf := ?hf) (hm := ?hm)
   case hM => (repeat (first | exact Sub.nil | refine Sub.cons rfl ?_))
   case hf => (repeat (first | exact Sub.nil | refine Sub.cons rfl ?_))
   case hm => omega
   case inv => exact ⟨by omega, Sp.all_take hall hz3 (by simp [Sp.byteOk, *])⟩
  intro hc2'
  try simp only [nrm] at hc2'
  refine W_exit ?_
  refine N_K_exit ?_
  refine N_LP_exit ?_
  refine N_B_same ?_
  refine N_K ?_
  refine q2 ?_
  refine o_move rfl rfl ?_
  refine o_len_slice Tryz.underlying27 rfl rfl ?_
  refine o_leq rfl rfl rfl ?_
  refine o_assign rfl rfl ?_
  refine q3 ?_
  refine W_ret ?_
  refine ret_gen (rs := [.tmp 2]) (vs := [_]) Tryz.results35 ⟨rfl, trivial⟩ ?_
  obtain rfl : k = bytes.length := by omega
  rw [List.take_length] at hall
  exact H.rets (congrArg Value.bool (by simp only [Sp.FileValid, hall, Bool.true_and]; rw [Bool.eq_iff_iff]; simp; omega))
theorem StoreValid_c (w0 : World) (G0 : PH) (hG : PSub G0 w0) (vlist : Value) (list : List (BHeld)) (hlist : RdH G0 vlist list)  :
  Calls Tryz.prog 83 #[vlist] w0 (Rets w0 (.bool (Sp.StoreValid list))) := by
 obtain ⟨alist, klist, rfl⟩ := hlist.shape
 have hlimlist : list.length ≤ 1099511627776 := hlist.lim
 have H := Hp.init hG
 refine calls_of_W (l := [.slice alist list.length klist]) Tryz.func83 rfl Tryz.ntmps83 rfl ?_
 refine q2 ?_
 refine o_assign rfl rfl ?_
 refine q3 ?_
 refine W_seq ?_
 refine q2 ?_
 refine o_assign rfl rfl ?_
 refine q3 ?_
 refine W_block ?_
 refine W_loop (hf := (Sub.cons (t := 0) rfl Sub.nil)) (J := fun M w m => ∃ (k : Nat) (G : PH), M = [(3, .int .i64 (k : Int))] ∧ PLe G0 G ∧ Hp w0 G0 [] w G [] ∧ (k ≤ list.length ∧ ∀ j, j < k → Sp.okH list j = true) ∧ m = (list.length - k)) (h0 := ⟨0, _, rfl, PLe.refl _, H, ?inv, rfl⟩) (hM := ?hM) (round := ?round)
 case hM => (repeat (first | exact Sub.nil | refine Sub.cons rfl ?_))
 case inv => exact ⟨by omega, fun j hj => by omega⟩
 case round =>
  rintro _ w1 _ ⟨k, G1, rfl, hle1, H, hinv1, rfl⟩
  have hlist := hlist.up hle1
  obtain ⟨hk, hall⟩ := hinv1
  refine W_seq ?_
  refine q2 ?_
  refine o_move rfl rfl ?_
  refine o_move rfl rfl ?_
  refine o_len_slice Tryz.underlying23 rfl rfl ?_
  refine o_lss rfl rfl rfl ?_
  refine q3 ?_
  refine W_cond rfl ?_ ?_
  ·intro hc2
   try simp only [nrm] at hc2
   refine W_skip ?_
   refine N_K ?_
   refine W_seq ?_
   refine W_block ?_
   refine q2 ?_
   refine o_move rfl rfl ?_
   refine o_move rfl rfl ?_
   refine o_index_P _ hlist Tryz.underlying23 Tryz.sizeOf117 rfl rfl rfl rfl (by omega) ?_; intro b3 o3 z3 q3 hz3 hE3 hrow3
   obtain ⟨a3, m3, c3, rfl, hi3, hr3, hj3⟩ := hE3; have hn_hr3 := hr3.len; have hx_hr3 : _ ≤ 1099511627776 := hr3.lim
   refine o_loadagg_P H Tryz.isAgg117 Tryz.sizeOf117 rfl rfl hrow3 rfl ?_
   refine o_alloc H Tryz.zeroValue117 rfl rfl ?_; intro b4 w4 hb4 H
   refine o_store_B 0 H Tryz.sizeOf117 rfl rfl rfl rfl rfl rfl rfl rfl ?_; intro w5 H
   refine q3 ?_
   refine W_seq ?_
   refine W_seq ?_
   refine W_drawK [0] 31 H (by kernel_rfl) rfl ?_; intro w6 H; have hd6 := PLe.refl G1
   refine RD_t 0 rfl (by kernel_rfl) rfl (fun _ hK => v_fieldAddr 0 Tryz.runUnderlying117 rfl Tryz.sizeOf3 rfl rfl) ?_
   refine RD_t 1 rfl (by kernel_rfl) rfl (fun _ hK => v_load_B 0 hK Tryz.isAgg3 rfl rfl rfl) ?_
   refine RD_run [2] (by kernel_rfl) rfl (RDs.cons rfl ?_ RDs.nil)
   refine o_call Tryz.call87 rfl rfl (l6In_c _ _ _ _ ) ?_
   rintro _ w7 ⟨rfl, ew7⟩; have H := H.step ew7; refine ⟨_, rfl, ?_⟩
   refine R_nil ?_
   refine N_DK (Kn.of' H hd6 (SubL.cons 0 rfl SubL.nil)) ?_
   refine RD_t 3 rfl (by kernel_rfl) rfl (fun _ hK => v_not rfl) ?_
   refine RD_t 4 rfl (by kernel_rfl) rfl (fun _ hK => v_move rfl) ?_
   refine RD_case (t := 20) rfl ?_ ?_
   ·intro hc8
    try simp only [nrm] at hc8
    refine RD_pass 5 rfl (by kernel_rfl) (by kernel_rfl) (by kernel_rfl) rfl (yl_ne rfl rfl rfl) ?_
    refine RD_pass 6 rfl (by kernel_rfl) (by kernel_rfl) (by kernel_rfl) rfl (yl_ne rfl rfl rfl) ?_
    refine RD_pass 7 rfl (by kernel_rfl) (by kernel_rfl) (by kernel_rfl) rfl (yl_ne rfl rfl rfl) ?_
    refine RD_pass 8 rfl (by kernel_rfl) (by kernel_rfl) (by kernel_rfl) rfl (yl_ne rfl rfl rfl) ?_
    refine RD_t 9 rfl (by kernel_rfl) rfl (fun _ hK => v_pick_t rfl rfl) ?_
    refine RD_t 10 rfl (by kernel_rfl) rfl (fun _ hK => v_move rfl) ?_
    refine RD_pass 11 rfl (by kernel_rfl) (by kernel_rfl) (by kernel_rfl) rfl (yl_ne rfl rfl rfl) ?_
    refine RD_pass 12 rfl (by kernel_rfl) (by kernel_rfl) (by kernel_rfl) rfl (yl_ne rfl rfl rfl) ?_
    refine RD_pass 13 rfl (by kernel_rfl) (by kernel_rfl) (by kernel_rfl) rfl (yl_ne rfl rfl rfl) ?_
    refine RD_pass 14 rfl (by kernel_rfl) (by kernel_rfl) (by kernel_rfl) rfl (yl_ne rfl rfl rfl) ?_
    refine RD_t 15 rfl (by kernel_rfl) rfl (fun _ hK => v_pick_t rfl rfl) ?_
    refine RD_t 16 rfl (by kernel_rfl) rfl (fun _ hK => v_move rfl) ?_
    refine RD_pass 17 rfl (by kernel_rfl) (by kernel_rfl) (by kernel_rfl) rfl (yl_ne rfl rfl rfl) ?_
    refine RD_pass 18 rfl (by kernel_rfl) (by kernel_rfl) (by kernel_rfl) rfl (yl_ne rfl rfl rfl) ?_
    refine RD_pass 19 rfl (by kernel_rfl) (by kernel_rfl) (by kernel_rfl) rfl (yl_ne rfl rfl rfl) ?_
    refine RD_pass 20 rfl (by kernel_rfl) (by kernel_rfl) (by kernel_rfl) rfl (yl_un rfl rfl) ?_
    refine RD_pass 21 rfl (by kernel_rfl) (by kernel_rfl) (by kernel_rfl) rfl (yl_un rfl rfl) ?_
    refine RD_pass 22 rfl (by kernel_rfl) (by kernel_rfl) (by kernel_rfl) rfl (yl_un rfl rfl) ?_
    refine RD_pass 23 rfl (by kernel_rfl) (by kernel_rfl) (by kernel_rfl) rfl (yl_un rfl rfl) ?_
    refine RD_pass 24 rfl (by kernel_rfl) (by kernel_rfl) (by kernel_rfl) rfl (yl_un rfl rfl) ?_
    refine RD_pass 25 rfl (by kernel_rfl) (by kernel_rfl) (by kernel_rfl) rfl (yl_un rfl rfl) ?_
    refine RD_pass 26 rfl (by kernel_rfl) (by kernel_rfl) (by kernel_rfl) rfl (yl_un rfl rfl) ?_
    refine RD_pass 27 rfl (by kernel_rfl) (by kernel_rfl) (by kernel_rfl) rfl (yl_un rfl rfl) ?_
    refine RD_pass 28 rfl (by kernel_rfl) (by kernel_rfl) (by kernel_rfl) rfl (yl_un rfl rfl) ?_
    refine RD_pass 29 rfl (by kernel_rfl) (by kernel_rfl) (by kernel_rfl) rfl (yl_ne rfl rfl rfl) ?_
    refine RD_t 30 rfl (by kernel_rfl) rfl (fun _ hK => v_pick_t rfl rfl) ?_
    refine RD_done (by kernel_rfl) ?_
    refine N_K ?_
    refine W_true rfl ?_
    refine q2 ?_
    refine o_assign rfl rfl ?_
    refine q3 ?_
    refine W_ret ?_
    refine N_K_ret ?_
    refine N_B_ret ?_
    refine N_K_ret ?_
    refine N_LP_ret ?_
    refine N_B_ret ?_
    refine N_K_ret ?_
    refine ret_gen (rs := [.tmp 2]) (vs := [_]) Tryz.results83 ⟨rfl, trivial⟩ ?_
    exact H.rets (congrArg Value.bool (by rw [Sp.StoreValid, Sp.not_all_range (k := k) (by omega) (by rw [Sp.okH_at hz3]; simp [Sp.prevId, *])]; rfl))
   intro hc8'
   try simp only [nrm] at hc8'
   refine RD_tg 5 rfl (by kernel_rfl) rfl (yl rfl rfl) (fun _ hK => v_fieldAddr 1 Tryz.runUnderlying117 rfl Tryz.sizeOf27 rfl rfl) ?_
   refine RD_tg 6 rfl (by kernel_rfl) rfl (yl rfl rfl) (fun _ hK => v_load_B 0 hK Tryz.isAgg27 rfl rfl rfl) ?_
   refine RD_run [7] (by kernel_rfl) rfl (RDs.cons rfl ?_ RDs.nil)
   refine R_guard (yl rfl rfl) ?_
   refine o_call Tryz.call138 rfl rfl (BlockValid_c _ _ H.sub _ _ hr3 ) ?_
   rintro _ w9 ⟨rfl, ew9⟩; have H := H.step ew9; refine ⟨_, rfl, ?_⟩
   refine R_nil ?_
   refine N_DK (Kn.of' H hd6 (SubL.cons 0 rfl SubL.nil)) ?_
   refine RD_tg 8 rfl (by kernel_rfl) rfl (yl rfl rfl) (fun _ hK => v_not rfl) ?_
   refine RD_t 9 rfl (by kernel_rfl) rfl (fun _ hK => v_pick_f rfl rfl) ?_
   refine RD_t 10 rfl (by kernel_rfl) rfl (fun _ hK => v_move rfl) ?_
   refine RD_case (t := 26) rfl ?_ ?_
   ·intro hc10
    try simp only [nrm] at hc10
    refine RD_pass 11 rfl (by kernel_rfl) (by kernel_rfl) (by kernel_rfl) rfl (yl_ne rfl rfl rfl) ?_
    refine RD_pass 12 rfl (by kernel_rfl) (by kernel_rfl) (by kernel_rfl) rfl (yl_ne rfl rfl rfl) ?_
    refine RD_pass 13 rfl (by kernel_rfl) (by kernel_rfl) (by kernel_rfl) rfl (yl_ne rfl rfl rfl) ?_
    refine RD_pass 14 rfl (by kernel_rfl) (by kernel_rfl) (by kernel_rfl) rfl (yl_ne rfl rfl rfl) ?_
    refine RD_t 15 rfl (by kernel_rfl) rfl (fun _ hK => v_pick_t rfl rfl) ?_
    refine RD_t 16 rfl (by kernel_rfl) rfl (fun _ hK => v_move rfl) ?_
    refine RD_pass 17 rfl (by kernel_rfl) (by kernel_rfl) (by kernel_rfl) rfl (yl_ne rfl rfl rfl) ?_
    refine RD_pass 18 rfl (by kernel_rfl) (by kernel_rfl) (by kernel_rfl) rfl (yl_ne rfl rfl rfl) ?_
    refine RD_pass 19 rfl (by kernel_rfl) (by kernel_rfl) (by kernel_rfl) rfl (yl_ne rfl rfl rfl) ?_
    refine RD_pass 20 rfl (by kernel_rfl) (by kernel_rfl) (by kernel_rfl) rfl (yl_un rfl rfl) ?_
    refine RD_pass 21 rfl (by kernel_rfl) (by kernel_rfl) (by kernel_rfl) rfl (yl_un rfl rfl) ?_
    refine RD_pass 22 rfl (by kernel_rfl) (by kernel_rfl) (by kernel_rfl) rfl (yl_un rfl rfl) ?_
    refine RD_pass 23 rfl (by kernel_rfl) (by kernel_rfl) (by kernel_rfl) rfl (yl_un rfl rfl) ?_
    refine RD_pass 24 rfl (by kernel_rfl) (by kernel_rfl) (by kernel_rfl) rfl (yl_un rfl rfl) ?_
    refine RD_pass 25 rfl (by kernel_rfl) (by kernel_rfl) (by kernel_rfl) rfl (yl_un rfl rfl) ?_
    refine RD_pass 26 rfl (by kernel_rfl) (by kernel_rfl) (by kernel_rfl) rfl (yl_un rfl rfl) ?_
    refine RD_pass 27 rfl (by kernel_rfl) (by kernel_rfl) (by kernel_rfl) rfl (yl_un rfl rfl) ?_
    refine RD_pass 28 rfl (by kernel_rfl) (by kernel_rfl) (by kernel_rfl) rfl (yl_un rfl rfl) ?_
    refine RD_pass 29 rfl (by kernel_rfl) (by kernel_rfl) (by kernel_rfl) rfl (yl_ne rfl rfl rfl) ?_
    refine RD_t 30 rfl (by kernel_rfl) rfl (fun _ hK => v_pick_t rfl rfl) ?_
    refine RD_done (by kernel_rfl) ?_
    refine N_K ?_
    refine W_true rfl ?_
    refine q2 ?_
    refine o_assign rfl rfl ?_
    refine q3 ?_
    refine W_ret ?_
    refine N_K_ret ?_
    refine N_B_ret ?_
    refine N_K_ret ?_
    refine N_LP_ret ?_
    refine N_B_ret ?_
    refine N_K_ret ?_
    refine ret_gen (rs := [.tmp 2]) (vs := [_]) Tryz.results83 ⟨rfl, trivial⟩ ?_
    exact H.rets (congrArg Value.bool (by rw [Sp.StoreValid, Sp.not_all_range (k := k) (by omega) (by rw [Sp.okH_at hz3]; simp [Sp.prevId, *])]; rfl))
   intro hc10'
   try simp only [nrm] at hc10'
   refine RD_tg 11 rfl (by kernel_rfl) rfl (yl rfl rfl) (fun _ hK => v_fieldAddr 2 Tryz.runUnderlying117 rfl Tryz.sizeOf3 rfl rfl) ?_
   refine RD_tg 12 rfl (by kernel_rfl) rfl (yl rfl rfl) (fun _ hK => v_load_B 0 hK Tryz.isAgg3 rfl rfl rfl) ?_
   refine RD_run [13] (by kernel_rfl) rfl (RDs.cons rfl ?_ RDs.nil)
   refine R_guard (yl rfl rfl) ?_
   refine o_call Tryz.call87 rfl rfl (l6In_c _ _ _ _ ) ?_
   rintro _ w11 ⟨rfl, ew11⟩; have H := H.step ew11; refine ⟨_, rfl, ?_⟩
   refine R_nil ?_
   refine N_DK (Kn.of' H hd6 (SubL.cons 0 rfl SubL.nil)) ?_
   refine RD_tg 14 rfl (by kernel_rfl) rfl (yl rfl rfl) (fun _ hK => v_not rfl) ?_
   refine RD_t 15 rfl (by kernel_rfl) rfl (fun _ hK => v_pick_f rfl rfl) ?_
   refine RD_t 16 rfl (by kernel_rfl) rfl (fun _ hK => v_move rfl) ?_
   refine RD_case (t := 32) rfl ?_ ?_
   ·intro hc12
    try simp only [nrm] at hc12
    refine RD_pass 17 rfl (by kernel_rfl) (by kernel_rfl) (by kernel_rfl) rfl (yl_ne rfl rfl rfl) ?_
    refine RD_pass 18 rfl (by kernel_rfl) (by kernel_rfl) (by kernel_rfl) rfl (yl_ne rfl rfl rfl) ?_
    refine RD_pass 19 rfl (by kernel_rfl) (by kernel_rfl) (by kernel_rfl) rfl (yl_ne rfl rfl rfl) ?_
    refine RD_pass 20 rfl (by kernel_rfl) (by kernel_rfl) (by kernel_rfl) rfl (yl_un rfl rfl) ?_
    refine RD_pass 21 rfl (by kernel_rfl) (by kernel_rfl) (by kernel_rfl) rfl (yl_un rfl rfl) ?_
    refine RD_pass 22 rfl (by kernel_rfl) (by kernel_rfl) (by kernel_rfl) rfl (yl_un rfl rfl) ?_
    refine RD_pass 23 rfl (by kernel_rfl) (by kernel_rfl) (by kernel_rfl) rfl (yl_un rfl rfl) ?_
    refine RD_pass 24 rfl (by kernel_rfl) (by kernel_rfl) (by kernel_rfl) rfl (yl_un rfl rfl) ?_
    refine RD_pass 25 rfl (by kernel_rfl) (by kernel_rfl) (by kernel_rfl) rfl (yl_un rfl rfl) ?_
    refine RD_pass 26 rfl (by kernel_rfl) (by kernel_rfl) (by kernel_rfl) rfl (yl_un rfl rfl) ?_
    refine RD_pass 27 rfl (by kernel_rfl) (by kernel_rfl) (by kernel_rfl) rfl (yl_un rfl rfl) ?_
    refine RD_pass 28 rfl (by kernel_rfl) (by kernel_rfl) (by kernel_rfl) rfl (yl_un rfl rfl) ?_
    refine RD_pass 29 rfl (by kernel_rfl) (by kernel_rfl) (by kernel_rfl) rfl (yl_ne rfl rfl rfl) ?_
    refine RD_t 30 rfl (by kernel_rfl) rfl (fun _ hK => v_pick_t rfl rfl) ?_
    refine RD_done (by kernel_rfl) ?_
    refine N_K ?_
    refine W_true rfl ?_
    refine q2 ?_
    refine o_assign rfl rfl ?_
    refine q3 ?_
    refine W_ret ?_
    refine N_K_ret ?_
    refine N_B_ret ?_
    refine N_K_ret ?_
    refine N_LP_ret ?_
    refine N_B_ret ?_
    refine N_K_ret ?_
    refine ret_gen (rs := [.tmp 2]) (vs := [_]) Tryz.results83 ⟨rfl, trivial⟩ ?_
    exact H.rets (congrArg Value.bool (by rw [Sp.StoreValid, Sp.not_all_range (k := k) (by omega) (by rw [Sp.okH_at hz3]; simp [Sp.prevId, *])]; rfl))
   intro hc12'
   try simp only [nrm] at hc12'
   refine RD_tg 17 rfl (by kernel_rfl) rfl (yl rfl rfl) (fun _ hK => v_move rfl) ?_
   refine RD_tg 18 rfl (by kernel_rfl) rfl (yl rfl rfl) (fun _ hK => v_gtr rfl rfl) ?_
   refine RD_tg 19 rfl (by kernel_rfl) rfl (yl rfl rfl) (fun _ hK => v_move rfl) ?_
   refine RD_case (t := 35) rfl ?_ ?_
   ·intro hc13
    try simp only [nrm] at hc13
    have hk0 : k ≠ 0 := by omega
    refine RD_tg 20 rfl (by kernel_rfl) rfl (yl rfl rfl) (fun _ hK => v_move rfl) ?_
    refine RD_tg 21 rfl (by kernel_rfl) rfl (yl rfl rfl) (fun _ hK => v_move rfl) ?_
    refine RD_tg 22 rfl (by kernel_rfl) rfl (yl rfl rfl) (fun _ hK => v_sub rfl rfl ⟨by omega, by omega⟩) ?_
    have hl15 := hlist.len
    obtain ⟨b15, o15, z15, q15, ha15, hz15, hq15, hE15, hrow15, _⟩ := hlist.at (i := (k - 1)) (by omega)
    clear hq15
    obtain ⟨a15, m15, c15, rfl, hi15, hr15, hj15⟩ := hE15; have hn_hr15 := hr15.len; have hx_hr15 : _ ≤ 1099511627776 := hr15.lim
    refine RD_tg 23 rfl (by kernel_rfl) rfl (yl rfl rfl) (fun _ hK => v_index_P (i := (k - 1)) ha15 Tryz.underlying23 Tryz.sizeOf117 rfl rfl (by omega) (by omega)) ?_
    refine RD_tg 24 rfl (by kernel_rfl) rfl (yl rfl rfl) (fun _ hK => v_fieldAddr 0 Tryz.runUnderlying117 rfl Tryz.sizeOf3 rfl rfl) ?_
    refine RD_tg 25 rfl (by kernel_rfl) rfl (yl rfl rfl) (fun _ hK => v_load_P hK Tryz.isAgg3 rfl (hrow15 0 _ rfl)) ?_
    refine RD_tg 26 rfl (by kernel_rfl) rfl (yl rfl rfl) (fun _ hK => v_fieldAddr 0 Tryz.runUnderlying117 rfl Tryz.sizeOf3 rfl rfl) ?_
    refine RD_tg 27 rfl (by kernel_rfl) rfl (yl rfl rfl) (fun _ hK => v_load_B 0 hK Tryz.isAgg3 rfl rfl rfl) ?_
    refine RD_tg 28 rfl (by kernel_rfl) rfl (yl rfl rfl) (fun _ hK => v_geq rfl rfl) ?_
    refine RD_tg 29 rfl (by kernel_rfl) rfl (yl rfl rfl) (fun _ hK => v_pick_t rfl rfl) ?_
    refine RD_t 30 rfl (by kernel_rfl) rfl (fun _ hK => v_pick_f rfl rfl) ?_
    refine RD_done (by kernel_rfl) ?_
    refine N_K ?_
    refine W_cond rfl ?_ ?_
    ·intro hc16
     try simp only [nrm] at hc16
     refine q2 ?_
     refine o_assign rfl rfl ?_
     refine q3 ?_
     refine W_ret ?_
     refine N_K_ret ?_
     refine N_B_ret ?_
     refine N_K_ret ?_
     refine N_LP_ret ?_
     refine N_B_ret ?_
     refine N_K_ret ?_
     refine ret_gen (rs := [.tmp 2]) (vs := [_]) Tryz.results83 ⟨rfl, trivial⟩ ?_
     exact H.rets (congrArg Value.bool (by rw [Sp.StoreValid, Sp.not_all_range (k := k) (by omega) (by rw [Sp.okH_at hz3]; simp [Sp.prevId, *]; intro h; omega)]; rfl))
    intro hc16'
    try simp only [nrm] at hc16'
    refine W_skip ?_
    refine N_K ?_
    refine q2 ?_
    refine o_assign rfl rfl ?_
    refine q3 ?_
    refine W_block ?_
    obtain ⟨ln17, hln17, H⟩ := H.name (k := 0) rfl
    refine W_loop (hf := (Sub.cons (t := 0) rfl (Sub.cons (t := 3) rfl (Sub.cons (t := 4) rfl Sub.nil)))) (J := fun M w m => ∃ (i : Nat) (G : PH), M = [(5, .int .i64 (i : Int))] ∧ PLe G1 G ∧ Hp w0 G0 [] w G [blk b4 (cl ln17 117)] ∧ (i ≤ k ∧ (list.take i).all (fun g => !Sp.l2Same g.bytes z3.bytes) = true) ∧ m = (k - i)) (h0 := ⟨0, _, rfl, PLe.refl _, H, ?inv, rfl⟩) (hM := ?hM) (round := ?round)
    case hM => (repeat (first | exact Sub.nil | refine Sub.cons rfl ?_))
    case inv => exact ⟨by omega, by simp⟩
    case round =>
     rintro _ w18 _ ⟨i, G18, rfl, hle18, H, hinv18, rfl⟩
     subst hln17
     have hlist := hlist.up hle18
     have hr3 := hr3.up hle18
     have hrow3 := hrow3.up hle18
     have hr15 := hr15.up hle18
     have hrow15 := hrow15.up hle18
     have hle1 := hle1.trans hle18
     obtain ⟨hi, hall2⟩ := hinv18
     refine W_seq ?_
     refine q2 ?_
     refine o_move rfl rfl ?_
     refine o_move rfl rfl ?_
     refine o_lss rfl rfl rfl ?_
     refine q3 ?_
     refine W_cond rfl ?_ ?_
     ·intro hc19
      try simp only [nrm] at hc19
      refine W_skip ?_
      refine N_K ?_
      refine W_seq ?_
      refine W_block ?_
      refine W_seq ?_
      refine W_drawK [0] 8 H (by kernel_rfl) rfl ?_; intro w20 H; have hd20 := PLe.refl G18
      refine RD_t 0 rfl (by kernel_rfl) rfl (fun _ hK => v_move rfl) ?_
      refine RD_t 1 rfl (by kernel_rfl) rfl (fun _ hK => v_move rfl) ?_
      have hl21 := hlist.len
      obtain ⟨b21, o21, z21, q21, ha21, hz21, hq21, hE21, hrow21, _⟩ := hlist.at (i := i) (by omega)
      clear hq21
      obtain ⟨a21, m21, c21, rfl, hi21, hr21, hj21⟩ := hE21; have hn_hr21 := hr21.len; have hx_hr21 : _ ≤ 1099511627776 := hr21.lim
      refine RD_t 2 rfl (by kernel_rfl) rfl (fun _ hK => v_index_P (i := i) ha21 Tryz.underlying23 Tryz.sizeOf117 rfl rfl rfl (by omega)) ?_
      refine RD_t 3 rfl (by kernel_rfl) rfl (fun _ hK => v_fieldAddr 1 Tryz.runUnderlying117 rfl Tryz.sizeOf27 rfl rfl) ?_
      refine RD_t 4 rfl (by kernel_rfl) rfl (fun _ hK => v_load_P hK Tryz.isAgg27 rfl (hrow21 1 _ rfl)) ?_
      refine RD_t 5 rfl (by kernel_rfl) rfl (fun _ hK => v_fieldAddr 1 Tryz.runUnderlying117 rfl Tryz.sizeOf27 rfl rfl) ?_
      refine RD_t 6 rfl (by kernel_rfl) rfl (fun _ hK => v_load_B 0 hK Tryz.isAgg27 rfl rfl rfl) ?_
      refine RD_run [7] (by kernel_rfl) rfl (RDs.cons rfl ?_ RDs.nil)
      refine o_call Tryz.call139 rfl rfl (l2Same_c _ _ H.sub _ _ hr21 _ _ hr3 ) ?_
      rintro _ w22 ⟨rfl, ew22⟩; have H := H.step ew22; refine ⟨_, rfl, ?_⟩
      refine R_nil ?_
      refine N_DK (Kn.of' H hd20 (SubL.cons 0 rfl SubL.nil)) ?_
      refine RD_done (by kernel_rfl) ?_
      refine N_K ?_
      refine W_cond rfl ?_ ?_
      ·intro hc23
       try simp only [nrm] at hc23
       refine q2 ?_
       refine o_assign rfl rfl ?_
       refine q3 ?_
       refine W_ret ?_
       refine N_B_ret ?_
       refine N_K_ret ?_
       refine N_LP_ret ?_
       refine N_B_ret ?_
       refine N_B_ret ?_
       refine N_K_ret ?_
       refine N_LP_ret ?_
       refine N_B_ret ?_
       refine N_K_ret ?_
       refine ret_gen (rs := [.tmp 2]) (vs := [_]) Tryz.results83 ⟨rfl, trivial⟩ ?_
       exact H.rets (congrArg Value.bool (by rw [Sp.StoreValid, Sp.not_all_range (k := k) (by omega) (by rw [Sp.okH_at hz3, Sp.all_false (l := list.take k) (k := i) (by rw [List.getElem?_take, if_pos (by omega)]; exact hz21) (by simp [*])]; simp)]; rfl))
      intro hc23'
      try simp only [nrm] at hc23'
      refine W_skip ?_
      refine N_B ?_
      refine N_K ?_
      refine W_region ?_
      refine o_move rfl rfl ?_
      refine o_add rfl rfl rfl ⟨by omega, by omega⟩ ?_
      refine o_assign rfl rfl ?_
      refine R_nil ?_
      refine N_LP (hJ := ⟨i + 1, _, rfl, hle18, H, ?inv, rfl⟩) (hM := ?hM) (hf := ?hf) (hm := ?hm)
      case hM => (repeat (first | exact Sub.nil | refine Sub.cons rfl ?_))
      case hf => (repeat (first | exact Sub.nil | refine Sub.cons rfl ?_))
      case hm => omega
      case inv => exact ⟨by omega, Sp.all_take hall2 hz21 (by simp [*])⟩
     intro hc19'
     try simp only [nrm] at hc19'
     refine W_exit ?_
     refine N_K_exit ?_
     refine N_LP_exit ?_
     refine N_B_same ?_
     refine N_B ?_
     refine N_K ?_
     refine W_region ?_
     refine o_move rfl rfl ?_
     refine o_add rfl rfl rfl ⟨by omega, by omega⟩ ?_
     refine o_assign rfl rfl ?_
     refine R_nil ?_
     have H := H.del (k := 0) rfl
     refine N_LP (hJ := ⟨k + 1, _, rfl, hle1, H, ?inv, rfl⟩) (hM := ?hM) (hf := ?hf) (hm := ?hm)
     case hM => (repeat (first | exact Sub.nil | refine Sub.cons rfl ?_))
     case hf => (repeat (first | exact Sub.nil | refine Sub.cons rfl ?_))
     case hm => omega
     case inv => exact ⟨by omega, Sp.upto_succ hall (by (obtain rfl : i = k := by omega); rw [Sp.okH_at hz3, hall2]; simp [Sp.prevId, *])⟩
   intro hc13'
   try simp only [nrm] at hc13'
   have hk0 : k = 0 := by omega
   refine RD_pass 20 rfl (by kernel_rfl) (by kernel_rfl) (by kernel_rfl) rfl (yl_ne rfl rfl rfl) ?_
   refine RD_pass 21 rfl (by kernel_rfl) (by kernel_rfl) (by kernel_rfl) rfl (yl_ne rfl rfl rfl) ?_
   refine RD_pass 22 rfl (by kernel_rfl) (by kernel_rfl) (by kernel_rfl) rfl (yl_ne rfl rfl rfl) ?_
   refine RD_pass 23 rfl (by kernel_rfl) (by kernel_rfl) (by kernel_rfl) rfl (yl_ne rfl rfl rfl) ?_
   refine RD_pass 24 rfl (by kernel_rfl) (by kernel_rfl) (by kernel_rfl) rfl (yl_ne rfl rfl rfl) ?_
   refine RD_pass 25 rfl (by kernel_rfl) (by kernel_rfl) (by kernel_rfl) rfl (yl_ne rfl rfl rfl) ?_
   refine RD_pass 26 rfl (by kernel_rfl) (by kernel_rfl) (by kernel_rfl) rfl (yl_ne rfl rfl rfl) ?_
   refine RD_pass 27 rfl (by kernel_rfl) (by kernel_rfl) (by kernel_rfl) rfl (yl_ne rfl rfl rfl) ?_
   refine RD_pass 28 rfl (by kernel_rfl) (by kernel_rfl) (by kernel_rfl) rfl (yl_ne rfl rfl rfl) ?_
   refine RD_tg 29 rfl (by kernel_rfl) rfl (yl rfl rfl) (fun _ hK => v_pick_f rfl rfl) ?_
   refine RD_t 30 rfl (by kernel_rfl) rfl (fun _ hK => v_pick_f rfl rfl) ?_
   refine RD_done (by kernel_rfl) ?_
   refine N_K ?_
   refine W_false rfl ?_
   refine W_skip ?_
   refine N_K ?_
   refine q2 ?_
   refine o_assign rfl rfl ?_
   refine q3 ?_
   refine W_block ?_
   obtain ⟨ln26, hln26, H⟩ := H.name (k := 0) rfl
   refine W_loop (hf := (Sub.cons (t := 0) rfl (Sub.cons (t := 3) rfl (Sub.cons (t := 4) rfl Sub.nil)))) (J := fun M w m => ∃ (i : Nat) (G : PH), M = [(5, .int .i64 (i : Int))] ∧ PLe G1 G ∧ Hp w0 G0 [] w G [blk b4 (cl ln26 117)] ∧ (i ≤ k ∧ (list.take i).all (fun g => !Sp.l2Same g.bytes z3.bytes) = true) ∧ m = (k - i)) (h0 := ⟨0, _, rfl, PLe.refl _, H, ?inv, rfl⟩) (hM := ?hM) (round := ?round)
   case hM => (repeat (first | exact Sub.nil | refine Sub.cons rfl ?_))
   case inv => exact ⟨by omega, by simp⟩
   case round =>
    rintro _ w27 _ ⟨i, G27, rfl, hle27, H, hinv27, rfl⟩
    subst hln26
    have hlist := hlist.up hle27
    have hr3 := hr3.up hle27
    have hrow3 := hrow3.up hle27
    have hle1 := hle1.trans hle27
    obtain ⟨hi, hall2⟩ := hinv27
    refine W_seq ?_
    refine q2 ?_
    refine o_move rfl rfl ?_
    refine o_move rfl rfl ?_
    refine o_lss rfl rfl rfl ?_
    refine q3 ?_
    refine W_cond rfl ?_ ?_
    ·intro hc28
     try simp only [nrm] at hc28
     refine W_skip ?_
     refine N_K ?_
     refine W_seq ?_
     refine W_block ?_
     refine W_seq ?_
     refine W_drawK [0] 8 H (by kernel_rfl) rfl ?_; intro w29 H; have hd29 := PLe.refl G27
     refine RD_t 0 rfl (by kernel_rfl) rfl (fun _ hK => v_move rfl) ?_
     refine RD_t 1 rfl (by kernel_rfl) rfl (fun _ hK => v_move rfl) ?_
     have hl30 := hlist.len
     obtain ⟨b30, o30, z30, q30, ha30, hz30, hq30, hE30, hrow30, _⟩ := hlist.at (i := i) (by omega)
     clear hq30
     obtain ⟨a30, m30, c30, rfl, hi30, hr30, hj30⟩ := hE30; have hn_hr30 := hr30.len; have hx_hr30 : _ ≤ 1099511627776 := hr30.lim
     refine RD_t 2 rfl (by kernel_rfl) rfl (fun _ hK => v_index_P (i := i) ha30 Tryz.underlying23 Tryz.sizeOf117 rfl rfl rfl (by omega)) ?_
     refine RD_t 3 rfl (by kernel_rfl) rfl (fun _ hK => v_fieldAddr 1 Tryz.runUnderlying117 rfl Tryz.sizeOf27 rfl rfl) ?_
     refine RD_t 4 rfl (by kernel_rfl) rfl (fun _ hK => v_load_P hK Tryz.isAgg27 rfl (hrow30 1 _ rfl)) ?_
     refine RD_t 5 rfl (by kernel_rfl) rfl (fun _ hK => v_fieldAddr 1 Tryz.runUnderlying117 rfl Tryz.sizeOf27 rfl rfl) ?_
     refine RD_t 6 rfl (by kernel_rfl) rfl (fun _ hK => v_load_B 0 hK Tryz.isAgg27 rfl rfl rfl) ?_
     refine RD_run [7] (by kernel_rfl) rfl (RDs.cons rfl ?_ RDs.nil)
     refine o_call Tryz.call139 rfl rfl (l2Same_c _ _ H.sub _ _ hr30 _ _ hr3 ) ?_
     rintro _ w31 ⟨rfl, ew31⟩; have H := H.step ew31; refine ⟨_, rfl, ?_⟩
     refine R_nil ?_
     refine N_DK (Kn.of' H hd29 (SubL.cons 0 rfl SubL.nil)) ?_
     refine RD_done (by kernel_rfl) ?_
     refine N_K ?_
     refine W_cond rfl ?_ ?_
     ·intro hc32
      try simp only [nrm] at hc32
      refine q2 ?_
      refine o_assign rfl rfl ?_
      refine q3 ?_
      refine W_ret ?_
      refine N_B_ret ?_
      refine N_K_ret ?_
      refine N_LP_ret ?_
      refine N_B_ret ?_
      refine N_B_ret ?_
      refine N_K_ret ?_
      refine N_LP_ret ?_
      refine N_B_ret ?_
      refine N_K_ret ?_
      refine ret_gen (rs := [.tmp 2]) (vs := [_]) Tryz.results83 ⟨rfl, trivial⟩ ?_
      exact H.rets (congrArg Value.bool (by rw [Sp.StoreValid, Sp.not_all_range (k := k) (by omega) (by rw [Sp.okH_at hz3, Sp.all_false (l := list.take k) (k := i) (by rw [List.getElem?_take, if_pos (by omega)]; exact hz30) (by simp [*])]; simp)]; rfl))
     intro hc32'
     try simp only [nrm] at hc32'
     refine W_skip ?_
     refine N_B ?_
     refine N_K ?_
     refine W_region ?_
     refine o_move rfl rfl ?_
     refine o_add rfl rfl rfl ⟨by omega, by omega⟩ ?_
     refine o_assign rfl rfl ?_
     refine R_nil ?_
     refine N_LP (hJ := ⟨i + 1, _, rfl, hle27, H, ?inv, rfl⟩) (hM := ?hM) (hf := ?hf) (hm := ?hm)
     case hM => (repeat (first | exact Sub.nil | refine Sub.cons rfl ?_))
     case hf => (repeat (first | exact Sub.nil | refine Sub.cons rfl ?_))
     case hm => omega
     case inv => exact ⟨by omega, Sp.all_take hall2 hz30 (by simp [*])⟩
    intro hc28'
    try simp only [nrm] at hc28'
    refine W_exit ?_
    refine N_K_exit ?_
    refine N_LP_exit ?_
    refine N_B_same ?_
    refine N_B ?_
    refine N_K ?_
    refine W_region ?_
    refine o_move rfl rfl ?_
    refine o_add rfl rfl rfl ⟨by omega, by omega⟩ ?_
    refine o_assign rfl rfl ?_
    refine R_nil ?_
    have H := H.del (k := 0) rfl
    refine N_LP (hJ := ⟨k + 1, _, rfl, hle1, H, ?inv, rfl⟩) (hM := ?hM) (hf := ?hf) (hm := ?hm)
    case hM => (repeat (first | exact Sub.nil | refine Sub.cons rfl ?_))
    case hf => (repeat (first | exact Sub.nil | refine Sub.cons rfl ?_))
    case hm => omega
    case inv => exact ⟨by omega, Sp.upto_succ hall (by (obtain rfl : i = k := by omega); rw [Sp.okH_at hz3, hall2]; simp [Sp.prevId, *])⟩
  intro hc2'
  try simp only [nrm] at hc2'
  refine W_exit ?_
  refine N_K_exit ?_
  refine N_LP_exit ?_
  refine N_B_same ?_
  refine N_K ?_
  refine q2 ?_
  refine o_move rfl rfl ?_
  refine o_len_slice Tryz.underlying23 rfl rfl ?_
  refine o_leq rfl rfl rfl ?_
  refine o_assign rfl rfl ?_
  refine q3 ?_
  refine W_ret ?_
  refine ret_gen (rs := [.tmp 2]) (vs := [_]) Tryz.results83 ⟨rfl, trivial⟩ ?_
  exact H.rets (congrArg Value.bool (by rw [Sp.StoreValid, Sp.all_range (fun j hj => hall j (by omega)), Bool.true_and]; rw [Bool.eq_iff_iff]; simp; omega))
theorem l3At_c (w0 : World) (G0 : PH) (hG : PSub G0 w0) (vlist : Value) (list : List (BHeld)) (hlist : RdH G0 vlist list) (id : Int)  :
  Calls Tryz.prog 151 #[vlist, .int .i64 id] w0 (Rets w0 (.int .i64 (Sp.l3At list id))) := by
 obtain ⟨alist, klist, rfl⟩ := hlist.shape
 have hlimlist : list.length ≤ 1099511627776 := hlist.lim
 have H := Hp.init hG
 refine calls_of_W (l := [.slice alist list.length klist, .int .i64 id]) Tryz.func151 rfl Tryz.ntmps151 rfl ?_
 refine q2 ?_
 refine o_assign rfl rfl ?_
 refine q3 ?_
 refine W_seq ?_
 refine q2 ?_
 refine o_assign rfl rfl ?_
 refine q3 ?_
 refine W_block ?_
 refine W_loop (hf := (Sub.cons (t := 0) rfl (Sub.cons (t := 1) rfl Sub.nil))) (J := fun M w m => ∃ (k : Nat) (G : PH), M = [(5, .int .i64 (k : Int))] ∧ PLe G0 G ∧ Hp w0 G0 [] w G [] ∧ (k ≤ list.length ∧ (∀ j, j < k → ∀ y, list[j]? = some y → decide (y.id = id) = false)) ∧ m = (list.length - k)) (h0 := ⟨0, _, rfl, PLe.refl _, H, ?inv, rfl⟩) (hM := ?hM) (round := ?round)
 case hM => (repeat (first | exact Sub.nil | refine Sub.cons rfl ?_))
 case inv => exact ⟨by omega, fun j hj => by omega⟩
 case round =>
  rintro _ w1 _ ⟨k, G1, rfl, hle1, H, hinv1, rfl⟩
  have hlist := hlist.up hle1
  obtain ⟨hk, hall⟩ := hinv1
  refine W_seq ?_
  refine q2 ?_
  refine o_move rfl rfl ?_
  refine o_move rfl rfl ?_
  refine o_len_slice Tryz.underlying23 rfl rfl ?_
  refine o_lss rfl rfl rfl ?_
  refine q3 ?_
  refine W_cond rfl ?_ ?_
  ·intro hc2
   try simp only [nrm] at hc2
   refine W_skip ?_
   refine N_K ?_
   refine W_seq ?_
   refine W_block ?_
   refine q2 ?_
   refine o_move rfl rfl ?_
   refine o_move rfl rfl ?_
   refine o_index_P _ hlist Tryz.underlying23 Tryz.sizeOf117 rfl rfl rfl rfl (by omega) ?_; intro b3 o3 z3 q3 hz3 hE3 hrow3
   obtain ⟨a3, m3, c3, rfl, hi3, hr3, hj3⟩ := hE3; have hn_hr3 := hr3.len; have hx_hr3 : _ ≤ 1099511627776 := hr3.lim
   refine o_fieldAddr 0 Tryz.runUnderlying117 rfl Tryz.sizeOf3 rfl rfl rfl ?_
   refine o_load_P H Tryz.isAgg3 rfl rfl (hrow3 0 _ rfl) ?_
   refine o_move rfl rfl ?_
   refine o_eql rfl rfl rfl ?_
   refine q3 ?_
   refine W_cond rfl ?_ ?_
   ·intro hc4
    try simp only [nrm] at hc4
    refine q2 ?_
    refine o_move rfl rfl ?_
    refine o_assign rfl rfl ?_
    refine q3 ?_
    refine W_ret ?_
    refine N_B_ret ?_
    refine N_K_ret ?_
    refine N_LP_ret ?_
    refine N_B_ret ?_
    refine N_K_ret ?_
    refine ret_gen (rs := [.tmp 4]) (vs := [_]) Tryz.results151 ⟨rfl, trivial⟩ ?_
    exact H.rets (congrArg (Value.int .i64) (by rw [Sp.l3At, Sp.atH, Sp.find_at hall hz3 (by simp; omega)]; rfl))
   intro hc4'
   try simp only [nrm] at hc4'
   refine W_skip ?_
   refine N_B ?_
   refine N_K ?_
   refine W_region ?_
   refine o_move rfl rfl ?_
   refine o_add rfl rfl rfl ⟨by omega, by omega⟩ ?_
   refine o_assign rfl rfl ?_
   refine R_nil ?_
   refine N_LP (hJ := ⟨k + 1, _, rfl, hle1, H, ?inv, rfl⟩) (hM := ?hM) (hf := ?hf) (hm := ?hm)
   case hM => (repeat (first | exact Sub.nil | refine Sub.cons rfl ?_))
   case hf => (repeat (first | exact Sub.nil | refine Sub.cons rfl ?_))
   case hm => omega
   case inv => exact ⟨by omega, Sp.none_succ hall hz3 (by simp; omega)⟩
  intro hc2'
  try simp only [nrm] at hc2'
  refine W_exit ?_
  refine N_K_exit ?_
  refine N_LP_exit ?_
  refine N_B_same ?_
  refine N_K ?_
  refine q2 ?_
  refine o_assign rfl rfl ?_
  refine q3 ?_
  refine W_ret ?_
  refine ret_gen (rs := [.tmp 4]) (vs := [_]) Tryz.results151 ⟨rfl, trivial⟩ ?_
  exact H.rets (congrArg (Value.int .i64) (by rw [Sp.l3At, Sp.atH, Sp.find_none hall (by omega)]; rfl))
theorem l3Like_c (w0 : World) (G0 : PH) (hG : PSub G0 w0) (vlist : Value) (list : List (BHeld)) (hlist : RdH G0 vlist list) (vbytes : Value) (bytes : List (Int)) (hbytes : RdI G0 vbytes bytes)  :
  Calls Tryz.prog 166 #[vlist, vbytes] w0 (Rets w0 (.int .i64 (Sp.l3Like list bytes))) := by
 obtain ⟨alist, klist, rfl⟩ := hlist.shape
 have hlimlist : list.length ≤ 1099511627776 := hlist.lim
 obtain ⟨abytes, kbytes, rfl⟩ := hbytes.shape
 have hlimbytes : bytes.length ≤ 1099511627776 := hbytes.lim
 have H := Hp.init hG
 refine calls_of_W (l := [.slice alist list.length klist, .slice abytes bytes.length kbytes]) Tryz.func166 rfl Tryz.ntmps166 rfl ?_
 refine q2 ?_
 refine o_assign rfl rfl ?_
 refine q3 ?_
 refine W_seq ?_
 refine q2 ?_
 refine o_assign rfl rfl ?_
 refine q3 ?_
 refine W_block ?_
 refine W_loop (hf := (Sub.cons (t := 0) rfl (Sub.cons (t := 1) rfl Sub.nil))) (J := fun M w m => ∃ (k : Nat) (G : PH), M = [(5, .int .i64 (k : Int))] ∧ PLe G0 G ∧ Hp w0 G0 [] w G [] ∧ (k ≤ list.length ∧ (∀ j, j < k → ∀ y, list[j]? = some y → Sp.l2Same y.bytes bytes = false)) ∧ m = (list.length - k)) (h0 := ⟨0, _, rfl, PLe.refl _, H, ?inv, rfl⟩) (hM := ?hM) (round := ?round)
 case hM => (repeat (first | exact Sub.nil | refine Sub.cons rfl ?_))
 case inv => exact ⟨by omega, fun j hj => by omega⟩
 case round =>
  rintro _ w1 _ ⟨k, G1, rfl, hle1, H, hinv1, rfl⟩
  have hlist := hlist.up hle1
  have hbytes := hbytes.up hle1
  obtain ⟨hk, hall⟩ := hinv1
  refine W_seq ?_
  refine q2 ?_
  refine o_move rfl rfl ?_
  refine o_move rfl rfl ?_
  refine o_len_slice Tryz.underlying23 rfl rfl ?_
  refine o_lss rfl rfl rfl ?_
  refine q3 ?_
  refine W_cond rfl ?_ ?_
  ·intro hc2
   try simp only [nrm] at hc2
   refine W_skip ?_
   refine N_K ?_
   refine W_seq ?_
   refine W_block ?_
   refine q2 ?_
   refine o_move rfl rfl ?_
   refine o_move rfl rfl ?_
   refine o_index_P _ hlist Tryz.underlying23 Tryz.sizeOf117 rfl rfl rfl rfl (by omega) ?_; intro b3 o3 z3 q3 hz3 hE3 hrow3
   obtain ⟨a3, m3, c3, rfl, hi3, hr3, hj3⟩ := hE3; have hn_hr3 := hr3.len; have hx_hr3 : _ ≤ 1099511627776 := hr3.lim
   refine o_fieldAddr 1 Tryz.runUnderlying117 rfl Tryz.sizeOf27 rfl rfl rfl ?_
   refine o_load_P H Tryz.isAgg27 rfl rfl (hrow3 1 _ rfl) ?_
   refine o_move rfl rfl ?_
   refine o_call Tryz.call139 rfl rfl (l2Same_c _ _ H.sub _ _ hr3 _ _ hbytes ) ?_
   rintro _ w4 ⟨rfl, ew4⟩; have H := H.step ew4; refine ⟨_, rfl, ?_⟩
   refine q3 ?_
   refine W_cond rfl ?_ ?_
   ·intro hc5
    try simp only [nrm] at hc5
    refine q2 ?_
    refine o_move rfl rfl ?_
    refine o_assign rfl rfl ?_
    refine q3 ?_
    refine W_ret ?_
    refine N_B_ret ?_
    refine N_K_ret ?_
    refine N_LP_ret ?_
    refine N_B_ret ?_
    refine N_K_ret ?_
    refine ret_gen (rs := [.tmp 4]) (vs := [_]) Tryz.results166 ⟨rfl, trivial⟩ ?_
    exact H.rets (congrArg (Value.int .i64) (by rw [Sp.l3Like, Sp.like, Sp.find_at hall hz3 hc5]; rfl))
   intro hc5'
   try simp only [nrm] at hc5'
   refine W_skip ?_
   refine N_B ?_
   refine N_K ?_
   refine W_region ?_
   refine o_move rfl rfl ?_
   refine o_add rfl rfl rfl ⟨by omega, by omega⟩ ?_
   refine o_assign rfl rfl ?_
   refine R_nil ?_
   refine N_LP (hJ := ⟨k + 1, _, rfl, hle1, H, ?inv, rfl⟩) (hM := ?hM) (hf := ?hf) (hm := ?hm)
   case hM => (repeat (first | exact Sub.nil | refine Sub.cons rfl ?_))
   case hf => (repeat (first | exact Sub.nil | refine Sub.cons rfl ?_))
   case hm => omega
   case inv => exact ⟨by omega, Sp.none_succ hall hz3 hc5'⟩
  intro hc2'
  try simp only [nrm] at hc2'
  refine W_exit ?_
  refine N_K_exit ?_
  refine N_LP_exit ?_
  refine N_B_same ?_
  refine N_K ?_
  refine q2 ?_
  refine o_assign rfl rfl ?_
  refine q3 ?_
  refine W_ret ?_
  refine ret_gen (rs := [.tmp 4]) (vs := [_]) Tryz.results166 ⟨rfl, trivial⟩ ?_
  exact H.rets (congrArg (Value.int .i64) (by rw [Sp.l3Like, Sp.like, Sp.find_none hall (by omega)]; rfl))
theorem l3Copy_c (w0 : World) (G0 : PH) (hG : PSub G0 w0) (vlist : Value) (list : List (BHeld)) (hlist : RdH G0 vlist list)  :
  Calls Tryz.prog 48 #[vlist] w0 (RetO w0 G0 (AccOf heldE 3 117 list)) := by
 obtain ⟨alist, klist, rfl⟩ := hlist.shape
 have hlimlist : list.length ≤ 1099511627776 := hlist.lim
 have H := Hp.init hG
 refine calls_of_W (l := [.slice alist list.length klist]) Tryz.func48 rfl Tryz.ntmps48 rfl ?_
 refine q2 ?_
 refine o_assign rfl rfl ?_
 refine q1 ?_
 refine o_buildSlice H Tryz.underlying23 Tryz.sizeOf117 (fun w => ⟨_, Tryz.zeroValue117 w, rfl⟩) rfl rfl rfl rfl rfl rfl rfl ?_; intro b1 w1 hb1 H
 have H := H.blkAcc 3 (k := 0) (n := 0) rfl rfl (by decide)
 refine o_assign rfl rfl ?_
 refine q3 ?_
 refine W_seq ?_
 refine q2 ?_
 refine o_assign rfl rfl ?_
 refine q3 ?_
 refine W_block ?_
 refine W_loop (hf := (Sub.cons (t := 0) rfl (Sub.cons (t := 2) rfl Sub.nil))) (J := fun M w m => ∃ (v : Value) (n : Nat) (cs : List Value) (xs : List (BHeld)) (k : Nat) (G : PH), M = [(4, .int .i64 (k : Int)), (3, v)] ∧ PLe G0 G ∧ Hp w0 G0 [] w G [acc 117 3 v n cs] ∧ (Chk heldE 3 G cs xs ∧ n = xs.length ∧ k ≤ list.length ∧ xs.length = k ∧ xs = list.take k) ∧ m = (list.length - k)) (h0 := ⟨_, _, _, [], 0, _, rfl, PLe.refl _, H, ?inv, rfl⟩) (hM := ?hM) (round := ?round)
 case hM => (repeat (first | exact Sub.nil | refine Sub.cons rfl ?_))
 case inv => exact ⟨(Chk.nil (E := heldE) (sz := 3) (G := G0)),  by first | rfl | simp | (simp; omega) | omega, (by simp)⟩
 case round =>
  rintro _ w2 _ ⟨v, n, cs, xs, k, G2, rfl, hle2, H, hinv2, rfl⟩
  have hlist := hlist.up hle2
  obtain ⟨hchk2_0, hn2_0, hinv2⟩ := hinv2
  obtain ⟨av2_0, cv2_0, rfl⟩ := H.accShape (k := 0) rfl
  obtain ⟨hk, hxl, hxs⟩ := hinv2
  refine W_seq ?_
  refine q2 ?_
  refine o_move rfl rfl ?_
  refine o_move rfl rfl ?_
  refine o_len_slice Tryz.underlying23 rfl rfl ?_
  refine o_lss rfl rfl rfl ?_
  refine q3 ?_
  refine W_cond rfl ?_ ?_
  ·intro hc3
   try simp only [nrm] at hc3
   refine W_skip ?_
   refine N_K ?_
   refine W_seq ?_
   refine W_block ?_
   refine q2 ?_
   refine o_move rfl rfl ?_
   refine o_move rfl rfl ?_
   refine o_index_P _ hlist Tryz.underlying23 Tryz.sizeOf117 rfl rfl rfl rfl (by omega) ?_; intro b4 o4 z4 q4 hz4 hE4 hrow4
   obtain ⟨a4, m4, c4, rfl, hi4, hr4, hj4⟩ := hE4; have hn_hr4 := hr4.len; have hx_hr4 : _ ≤ 1099511627776 := hr4.lim
   refine o_loadagg_P H Tryz.isAgg117 Tryz.sizeOf117 rfl rfl hrow4 rfl ?_
   refine o_alloc H Tryz.zeroValue117 rfl rfl ?_; intro b5 w5 hb5 H
   refine o_store_B 0 H Tryz.sizeOf117 rfl rfl rfl rfl rfl rfl rfl rfl ?_; intro w6 H
   refine q1 ?_
   refine o_buildSlice H Tryz.underlying27 Tryz.sizeOf3 (fun w => ⟨_, Tryz.zeroValue3 w, rfl⟩) rfl rfl rfl rfl rfl rfl rfl ?_; intro b7 w7 hb7 H
   have H := H.blkAcc 1 (k := 0) (n := 0) rfl rfl (by decide)
   refine o_fieldAddr 1 Tryz.runUnderlying117 rfl Tryz.sizeOf27 rfl rfl rfl ?_
   refine o_load_B 1 H Tryz.isAgg27 rfl rfl rfl rfl ?_
   refine o_append_P 0 H hr4 (by intro z cs hz u hu; obtain ⟨rfl, _⟩ := hz; simp at hu; subst hu; rfl) (sz := 1) (bytes := 8) Tryz.underlying27 Tryz.typeInfo3 ⟨_, rfl, rfl⟩ rfl rfl rfl rfl rfl rfl rfl (by omega) rfl ?_; intro v8 w8 css8 hcl8 hcs8 H
   have hchk8 : Chk intE 1 G2 ([] ++ css8.flatten) _ := ⟨css8, rfl, hcl8, hcs8⟩
   obtain ⟨av8, cv8, rfl⟩ := H.accShape (k := 0) rfl
   refine o_fieldAddr 1 Tryz.runUnderlying117 rfl Tryz.sizeOf27 rfl rfl rfl ?_
   refine o_store_B 1 H Tryz.sizeOf27 rfl rfl rfl rfl rfl rfl rfl rfl ?_; intro w9 H
   refine q3 ?_
   refine W_region ?_
   refine o_move rfl rfl ?_
   refine o_loadagg_B 1 H Tryz.isAgg117 Tryz.sizeOf117 rfl rfl rfl rfl rfl ?_
   refine o_buildSlice H Tryz.underlying23 Tryz.sizeOf117 (fun w => ⟨_, Tryz.zeroValue117 w, rfl⟩) rfl rfl rfl rfl rfl rfl rfl ?_; intro b10 w10 hb10 H
   refine o_append1 2 H (sz := 3) (bytes := 40) Tryz.underlying23 Tryz.typeInfo117 ⟨_, rfl, rfl⟩ rfl rfl rfl rfl rfl rfl rfl rfl rfl rfl (by omega) rfl ?_; intro v11 w11 H
   obtain ⟨G12, H, hsg12, hsr12⟩ := H.shut' (k := 0) rfl hchk8 (by first | assumption | (simp; done) | (simp; omega) | omega) (by first | assumption | (simp; done) | (simp; omega) | omega)
   have hlist := hlist.up hsg12
   have hchk2_0 := hchk2_0.up hsg12
   have hr4 := hr4.up hsg12
   have hrow4 := hrow4.up hsg12
   have hchk8 := hchk8.up hsg12
   have hle2 := hle2.trans hsg12
   have hchk11 := hchk2_0.snoc (show heldE _ z4 _ from ⟨_, _, _, rfl, ⟨by omega, by omega⟩, hsr12, ⟨by omega, by omega⟩⟩) rfl
   obtain ⟨av11, cv11, rfl⟩ := H.accShape (k := 1) rfl
   refine o_assign rfl rfl ?_
   refine R_nil ?_
   refine N_B ?_
   refine N_K ?_
   refine W_region ?_
   refine o_move rfl rfl ?_
   refine o_add rfl rfl rfl ⟨by omega, by omega⟩ ?_
   refine o_assign rfl rfl ?_
   refine R_nil ?_
   have H := H.del (k := 0) rfl
   refine N_LP (hJ := ⟨_, _, _, (xs ++ [z4]), k + 1, _, rfl, hle2, H, ?inv, rfl⟩) (hM := ?hM) (hf := ?hf) (hm := ?hm)
   case hM => (repeat (first | exact Sub.nil | refine Sub.cons rfl ?_))
   case hf => (repeat (first | exact Sub.nil | refine Sub.cons rfl ?_))
   case hm => omega
   case inv => exact ⟨hchk11, (by first | assumption | (simp; omega) | omega), (by exact ⟨by omega, by simp [hxl], by rw [Sp.take_succ' hz4, hxs]⟩)⟩
  intro hc3'
  try simp only [nrm] at hc3'
  refine W_exit ?_
  refine N_K_exit ?_
  refine N_LP_exit ?_
  refine N_B_same ?_
  refine N_K ?_
  refine q2 ?_
  refine o_move rfl rfl ?_
  refine o_assign rfl rfl ?_
  refine q3 ?_
  refine W_ret ?_
  refine ret_gen (rs := [.tmp 2]) (vs := [_]) Tryz.results48 ⟨rfl, trivial⟩ ?_
  obtain rfl : k = list.length := by omega
  rw [List.take_length] at hxs
  subst hxs
  exact H.retO (k := 0) rfl (AccOf.mk (by assumption) hchk2_0) (acc_nd _ _ _ _ _)
end Go.Proofs.Tst

namespace Go.Proofs.Tst
open Go Fw
theorem l3Free_c (w0 : World) (G0 : PH) (hG : PSub G0 w0) (vlist : Value) (list : List (BHeld)) (hlist : RdH G0 vlist list)  :
  Calls Tryz.prog 167 #[vlist] w0 (Rets w0 (.int .i64 (Sp.freeId list : Int))) := by
 obtain ⟨alist, klist, rfl⟩ := hlist.shape
 have hlimlist : list.length ≤ 1099511627776 := hlist.lim
 have H := Hp.init hG
 refine calls_of_W (l := [.slice alist list.length klist]) Tryz.func167 rfl Tryz.ntmps167 rfl ?_
 refine q2 ?_
 refine o_assign rfl rfl ?_
 refine q1 ?_
 refine o_assign rfl rfl ?_
 refine q3 ?_
 refine W_seq ?_
 refine W_block ?_
 refine W_loop (hf := (Sub.cons (t := 0) rfl (Sub.cons (t := 2) rfl Sub.nil))) (J := fun M w m => ∃ (k : Nat) (G : PH), M = [(3, .int .i64 ((k : Int) + 1))] ∧ PLe G0 G ∧ Hp w0 G0 [] w G [] ∧ (∀ j : Nat, j < k → (Sp.atH list ((j : Int) + 1)).isSome = true) ∧ m = (list.length + 1 - k)) (h0 := ⟨0, _, rfl, PLe.refl _, H, ?inv, rfl⟩) (hM := ?hM) (round := ?round)
 case hM => (repeat (first | exact Sub.nil | refine Sub.cons rfl ?_))
 case inv => exact fun j hj => by omega
 case round =>
  rintro _ w1 _ ⟨k, G1, rfl, hle1, H, hinv1, rfl⟩
  have hlist := hlist.up hle1
  have hall := hinv1; have hkl := Sp.free_le hall
  refine W_seq ?_
  refine q2 ?_
  refine o_move rfl rfl ?_
  refine o_move rfl rfl ?_
  refine o_call Tryz.call151 rfl rfl (l3At_c _ _ H.sub _ _ hlist _ ) ?_
  rintro _ w2 ⟨rfl, ew2⟩; have H := H.step ew2; refine ⟨_, rfl, ?_⟩
  refine o_geq rfl rfl rfl ?_
  refine q3 ?_
  refine W_cond rfl ?_ ?_
  ·intro hc3
   try simp only [nrm] at hc3
   refine W_skip ?_
   refine N_K ?_
   refine W_block ?_
   refine W_region ?_
   refine o_move rfl rfl ?_
   refine o_add rfl rfl rfl ⟨by omega, by omega⟩ ?_
   refine o_assign rfl rfl ?_
   refine R_nil ?_
   refine N_B ?_
   refine N_LP (hJ := ⟨k + 1, _, rfl, hle1, H, ?inv, rfl⟩) (hM := ?hM) (hf := ?hf) (hm := ?hm)
   case hM => (repeat (first | exact Sub.nil | refine Sub.cons rfl ?_))
   case hf => (repeat (first | exact Sub.nil | refine Sub.cons rfl ?_))
   case hm => omega
   case inv => exact Sp.upto_succ (p := fun j : Nat => (Sp.atH list ((j : Int) + 1)).isSome) hall (Sp.isSome_of hc3)
  intro hc3'
  try simp only [nrm] at hc3'
  refine W_exit ?_
  refine N_K_exit ?_
  refine N_LP_exit ?_
  refine N_B_same ?_
  refine N_K ?_
  refine q2 ?_
  refine o_move rfl rfl ?_
  refine o_assign rfl rfl ?_
  refine q3 ?_
  refine W_ret ?_
  refine ret_gen (rs := [.tmp 2]) (vs := [_]) Tryz.results167 ⟨rfl, trivial⟩ ?_
  exact H.rets (congrArg (Value.int .i64) (by rw [Sp.free_eq hall (Sp.isNone_of hc3')]; rfl))
end Go.Proofs.Tst

namespace Go.Proofs.Tst
open Go Fw
theorem l3With_c (w0 : World) (G0 : PH) (hG : PSub G0 w0) (vlist : Value) (list : List (BHeld)) (hlist : RdH G0 vlist list) (vbytes : Value) (bytes : List (Int)) (hbytes : RdI G0 vbytes bytes) (hS : list.length ≤ 1000000) :
  Calls Tryz.prog 168 #[vlist, vbytes] w0 (RetO w0 G0 (AccOf heldE 3 117 (Sp.l3With list bytes))) := by
 obtain ⟨alist, klist, rfl⟩ := hlist.shape
 have hlimlist : list.length ≤ 1099511627776 := hlist.lim
 obtain ⟨abytes, kbytes, rfl⟩ := hbytes.shape
 have hlimbytes : bytes.length ≤ 1099511627776 := hbytes.lim
 have hfr := Sp.free_lt list
 have H := Hp.init hG
 refine calls_of_W (l := [.slice alist list.length klist, .slice abytes bytes.length kbytes]) Tryz.func168 rfl Tryz.ntmps168 rfl ?_
 refine q2 ?_
 refine o_assign rfl rfl ?_
 refine q1 ?_
 refine o_move rfl rfl ?_
 refine o_call Tryz.call167 rfl rfl (l3Free_c _ _ H.sub _ _ hlist ) ?_
 rintro _ w1 ⟨rfl, ew1⟩; have H := H.step ew1; refine ⟨_, rfl, ?_⟩
 refine o_assign rfl rfl ?_
 refine q1 ?_
 refine o_buildSlice H Tryz.underlying23 Tryz.sizeOf117 (fun w => ⟨_, Tryz.zeroValue117 w, rfl⟩) rfl rfl rfl rfl rfl rfl rfl ?_; intro b2 w2 hb2 H
 have H := H.blkAcc 3 (k := 0) (n := 0) rfl rfl (by decide)
 refine o_assign rfl rfl ?_
 refine q1 ?_
 refine o_assign rfl rfl ?_
 refine q1 ?_
 refine o_move rfl rfl ?_
 refine o_buildSlice H Tryz.underlying27 Tryz.sizeOf3 (fun w => ⟨_, Tryz.zeroValue3 w, rfl⟩) rfl rfl rfl rfl rfl rfl rfl ?_; intro b3 w3 hb3 H
 have H := H.blkAcc 1 (k := 0) (n := 0) rfl rfl (by decide)
 refine o_move rfl rfl ?_
 refine o_append_P 0 H hbytes (by intro z cs hz u hu; obtain ⟨rfl, _⟩ := hz; simp at hu; subst hu; rfl) (sz := 1) (bytes := 8) Tryz.underlying27 Tryz.typeInfo3 ⟨_, rfl, rfl⟩ rfl rfl rfl rfl rfl rfl rfl (by omega) rfl ?_; intro v4 w4 css4 hcl4 hcs4 H
 have hchk4 : Chk intE 1 G0 ([] ++ css4.flatten) _ := ⟨css4, rfl, hcl4, hcs4⟩
 obtain ⟨av4, cv4, rfl⟩ := H.accShape (k := 0) rfl
 refine o_build bf117 rfl rfl rfl ?_
 refine o_alloc H Tryz.zeroValue117 rfl rfl ?_; intro b5 w5 hb5 H
 refine o_store_B 0 H Tryz.sizeOf117 rfl rfl rfl rfl rfl rfl rfl rfl ?_; intro w6 H
 refine q1 ?_
 refine o_move rfl rfl ?_
 refine o_call Tryz.call48 rfl rfl (l3Copy_c _ _ H.sub _ _ hlist ) ?_
 rintro _ w7 ⟨G7, v7, _, g7, rfl, ⟨cs7, rfl, hchk7⟩, hp7, hq7, hs7⟩
 have H := H.growO g7 hp7 hq7 hs7; obtain ⟨av7, cv7, rfl⟩ := H.accShape (k := 0) rfl
 have hlist := hlist.up g7.le
 have hbytes := hbytes.up g7.le
 have hchk4 := hchk4.up g7.le
 refine ⟨_, rfl, ?_⟩
 refine o_assign rfl rfl ?_
 refine q3 ?_
 refine W_seq ?_
 refine q2 ?_
 refine o_assign rfl rfl ?_
 refine q3 ?_
 refine W_block ?_
 obtain ⟨G8, H, hsg8, hsr8⟩ := H.shut' (k := 2) rfl hchk4 (by first | assumption | (simp; done) | (simp; omega) | omega) (by first | assumption | (simp; done) | (simp; omega) | omega)
 have hlist := hlist.up hsg8
 have hbytes := hbytes.up hsg8
 have hchk4 := hchk4.up hsg8
 have hchk7 := hchk7.up hsg8
 obtain ⟨G9, H, hsg9, hsr9⟩ := H.shut' (k := 0) rfl hchk7 (by first | assumption | (simp; done) | (simp; omega) | omega) (by first | assumption | (simp; done) | (simp; omega) | omega)
 have hlist := hlist.up hsg9
 have hbytes := hbytes.up hsg9
 have hchk4 := hchk4.up hsg9
 have hchk7 := hchk7.up hsg9
 have hsr8 := hsr8.up hsg9
 obtain ⟨ln10, hln10, H⟩ := H.name (k := 0) rfl
 refine W_loop (hf := (Sub.cons (t := 4) rfl (Sub.cons (t := 5) rfl (Sub.cons (t := 8) rfl (Sub.cons (t := 9) rfl Sub.nil))))) (J := fun M w m => ∃ (v : Value) (n : Nat) (cs : List Value) (xs : List (BHeld)) (d : Bool) (k : Nat) (G : PH), M = [(7, .bool d), (10, .int .i64 (k : Int)), (6, v)] ∧ PLe G9 G ∧ Hp w0 G0 [] w G [blk b5 (cl ln10 117), acc 117 3 v n cs] ∧ (Chk heldE 3 G cs xs ∧ n = xs.length ∧ k ≤ list.length ∧ xs.length ≤ k + 1 ∧ (d = false → xs = list.take k ∧ (list.take k).all (Sp.idF list) = true) ∧ (d = true → xs ++ list.drop k = Sp.l3With list bytes)) ∧ m = (list.length - k)) (h0 := ⟨_, _, _, [], false, 0, _, rfl, PLe.refl _, H, ?inv, rfl⟩) (hM := ?hM) (round := ?round)
 case hM => (repeat (first | exact Sub.nil | refine Sub.cons rfl ?_))
 case inv => exact ⟨(Chk.nil (E := heldE) (sz := 3) (G := G9)),  by first | rfl | simp | (simp; omega) | omega, (by simp)⟩
 case round =>
  rintro _ w11 _ ⟨v, n, cs, xs, d, k, G11, rfl, hle11, H, hinv11, rfl⟩
  subst hln10
  have hlist := hlist.up hle11
  have hbytes := hbytes.up hle11
  have hchk4 := hchk4.up hle11
  have hchk7 := hchk7.up hle11
  have hsr8 := hsr8.up hle11
  have hsr9 := hsr9.up hle11
  obtain ⟨hchk11_0, hn11_0, hinv11⟩ := hinv11
  obtain ⟨av11_0, cv11_0, rfl⟩ := H.accShape (k := 1) rfl
  obtain ⟨hk, hxl, hd0, hd1⟩ := hinv11
  refine W_seq ?_
  refine q2 ?_
  refine o_move rfl rfl ?_
  refine o_move rfl rfl ?_
  refine o_len_slice Tryz.underlying23 rfl rfl ?_
  refine o_lss rfl rfl rfl ?_
  refine q3 ?_
  refine W_cond rfl ?_ ?_
  ·intro hc12
   try simp only [nrm] at hc12
   refine W_skip ?_
   refine N_K ?_
   refine W_seq ?_
   refine W_block ?_
   refine W_seq ?_
   refine q2 ?_
   refine o_move rfl rfl ?_
   refine o_not rfl rfl ?_
   refine o_move rfl rfl ?_
   refine R_case (t := 29) rfl ?_ ?_
   ·intro hc13
    try simp only [nrm] at hc13
    refine R_guard (yl rfl rfl) ?_
    refine o_move rfl rfl ?_
    refine R_guard (yl rfl rfl) ?_
    refine o_move rfl rfl ?_
    refine R_guard (yl rfl rfl) ?_
    refine o_index_P _ hsr9 Tryz.underlying23 Tryz.sizeOf117 rfl rfl rfl rfl (by omega) ?_; intro b14 o14 z14 q14 hz14 hE14 hrow14
    obtain ⟨a14, m14, c14, rfl, hi14, hr14, hj14⟩ := hE14; have hn_hr14 := hr14.len; have hx_hr14 : _ ≤ 1099511627776 := hr14.lim
    refine R_guard (yl rfl rfl) ?_
    refine o_fieldAddr 0 Tryz.runUnderlying117 rfl Tryz.sizeOf3 rfl rfl rfl ?_
    refine R_guard (yl rfl rfl) ?_
    refine o_load_P H Tryz.isAgg3 rfl rfl (hrow14 0 _ rfl) ?_
    refine R_guard (yl rfl rfl) ?_
    refine o_move rfl rfl ?_
    refine R_guard (yl rfl rfl) ?_
    refine o_gtr rfl rfl rfl ?_
    refine o_pick_t rfl rfl rfl ?_
    refine q3 ?_
    refine W_cond rfl ?_ ?_
    ·intro hc15
     try simp only [nrm] at hc15
     refine q2 ?_
     refine o_move rfl rfl ?_
     refine o_loadagg_B 0 H Tryz.isAgg117 Tryz.sizeOf117 rfl rfl rfl rfl rfl ?_
     refine o_buildSlice H Tryz.underlying23 Tryz.sizeOf117 (fun w => ⟨_, Tryz.zeroValue117 w, rfl⟩) rfl rfl rfl rfl rfl rfl rfl ?_; intro b16 w16 hb16 H
     refine o_append1 1 H (sz := 3) (bytes := 40) Tryz.underlying23 Tryz.typeInfo117 ⟨_, rfl, rfl⟩ rfl rfl rfl rfl rfl rfl rfl rfl rfl rfl (by omega) rfl ?_; intro v17 w17 H
     have hchk17 := hchk11_0.snoc (show heldE _ ⟨(Sp.freeId list : Int), bytes, 1⟩ _ from ⟨_, _, _, rfl, ⟨by first | omega | (dsimp only; omega), by first | omega | (dsimp only; omega)⟩, hsr8, ⟨by first | omega | (dsimp only; omega), by first | omega | (dsimp only; omega)⟩⟩) rfl
     obtain ⟨av17, cv17, rfl⟩ := H.accShape (k := 1) rfl
     refine o_assign rfl rfl ?_
     refine q3 ?_
     refine W_region ?_
     refine o_assign rfl rfl ?_
     refine q3 ?_
     refine W_region ?_
     refine o_move rfl rfl ?_
     refine o_move rfl rfl ?_
     refine o_move rfl rfl ?_
     refine o_index_P _ hsr9 Tryz.underlying23 Tryz.sizeOf117 rfl rfl rfl rfl (by omega) ?_; intro b18 o18 z18 q18 hz18 hE18 hrow18
     obtain ⟨a18, m18, c18, rfl, hi18, hr18, hj18⟩ := hE18; have hn_hr18 := hr18.len; have hx_hr18 : _ ≤ 1099511627776 := hr18.lim
     have hzz18 : z14 = z18 := Option.some.inj (hz14.symm.trans hz18)
     subst hzz18
     refine o_loadagg_P H Tryz.isAgg117 Tryz.sizeOf117 rfl rfl hrow18 rfl ?_
     refine o_buildSlice H Tryz.underlying23 Tryz.sizeOf117 (fun w => ⟨_, Tryz.zeroValue117 w, rfl⟩) rfl rfl rfl rfl rfl rfl rfl ?_; intro b19 w19 hb19 H
     refine o_append1 1 H (sz := 3) (bytes := 40) Tryz.underlying23 Tryz.typeInfo117 ⟨_, rfl, rfl⟩ rfl rfl rfl rfl rfl rfl rfl rfl rfl rfl (by omega) rfl ?_; intro v20 w20 H
     have hchk20 := hchk17.snoc (show heldE _ z14 _ from ⟨_, _, _, rfl, ⟨by first | omega | (dsimp only; omega), by first | omega | (dsimp only; omega)⟩, hr18, ⟨by first | omega | (dsimp only; omega), by first | omega | (dsimp only; omega)⟩⟩) rfl
     obtain ⟨av20, cv20, rfl⟩ := H.accShape (k := 1) rfl
     refine o_assign rfl rfl ?_
     refine R_nil ?_
     refine N_B ?_
     refine N_K ?_
     refine W_region ?_
     refine o_move rfl rfl ?_
     refine o_add rfl rfl rfl ⟨by omega, by omega⟩ ?_
     refine o_assign rfl rfl ?_
     refine R_nil ?_
     refine N_LP (hJ := ⟨_, _, _, ((xs ++ [⟨(Sp.freeId list : Int), bytes, 1⟩]) ++ [z14]), true, k + 1, _, rfl, hle11, H, ?inv, rfl⟩) (hM := ?hM) (hf := ?hf) (hm := ?hm)
     case hM => (repeat (first | exact Sub.nil | refine Sub.cons rfl ?_))
     case hf => (repeat (first | exact Sub.nil | refine Sub.cons rfl ?_))
     case hm => omega
     case inv => exact ⟨hchk20, (by first | assumption | (simp; omega) | omega), (by exact ⟨by omega, by have := congrArg List.length (hd0 (by assumption)).1; simp at this ⊢; omega, by simp, fun _ => Sp.ins_new (F := Sp.idF list) (hd0 (by assumption)) hz14 (by simp [Sp.idF]; omega)⟩)⟩
    intro hc15'
    try simp only [nrm] at hc15'
    refine W_skip ?_
    refine N_K ?_
    refine W_region ?_
    refine o_move rfl rfl ?_
    refine o_move rfl rfl ?_
    refine o_move rfl rfl ?_
    refine o_index_P _ hsr9 Tryz.underlying23 Tryz.sizeOf117 rfl rfl rfl rfl (by omega) ?_; intro b22 o22 z22 q22 hz22 hE22 hrow22
    obtain ⟨a22, m22, c22, rfl, hi22, hr22, hj22⟩ := hE22; have hn_hr22 := hr22.len; have hx_hr22 : _ ≤ 1099511627776 := hr22.lim
    have hzz22 : z14 = z22 := Option.some.inj (hz14.symm.trans hz22)
    subst hzz22
    refine o_loadagg_P H Tryz.isAgg117 Tryz.sizeOf117 rfl rfl hrow22 rfl ?_
    refine o_buildSlice H Tryz.underlying23 Tryz.sizeOf117 (fun w => ⟨_, Tryz.zeroValue117 w, rfl⟩) rfl rfl rfl rfl rfl rfl rfl ?_; intro b23 w23 hb23 H
    refine o_append1 1 H (sz := 3) (bytes := 40) Tryz.underlying23 Tryz.typeInfo117 ⟨_, rfl, rfl⟩ rfl rfl rfl rfl rfl rfl rfl rfl rfl rfl (by omega) rfl ?_; intro v24 w24 H
    have hchk24 := hchk11_0.snoc (show heldE _ z14 _ from ⟨_, _, _, rfl, ⟨by first | omega | (dsimp only; omega), by first | omega | (dsimp only; omega)⟩, hr22, ⟨by first | omega | (dsimp only; omega), by first | omega | (dsimp only; omega)⟩⟩) rfl
    obtain ⟨av24, cv24, rfl⟩ := H.accShape (k := 1) rfl
    refine o_assign rfl rfl ?_
    refine R_nil ?_
    refine N_B ?_
    refine N_K ?_
    refine W_region ?_
    refine o_move rfl rfl ?_
    refine o_add rfl rfl rfl ⟨by omega, by omega⟩ ?_
    refine o_assign rfl rfl ?_
    refine R_nil ?_
    refine N_LP (hJ := ⟨_, _, _, (xs ++ [z14]), d, k + 1, _, rfl, hle11, H, ?inv, rfl⟩) (hM := ?hM) (hf := ?hf) (hm := ?hm)
    case hM => (repeat (first | exact Sub.nil | refine Sub.cons rfl ?_))
    case hf => (repeat (first | exact Sub.nil | refine Sub.cons rfl ?_))
    case hm => omega
    case inv => exact ⟨hchk24, (by first | assumption | (simp; omega) | omega), (by first | exact ⟨by omega, by simp; omega, fun h => ⟨by rw [(hd0 h).1, Sp.take_succ' hz14], Sp.all_take (hd0 h).2 hz14 (by simp [Sp.idF]; omega)⟩, fun h => Sp.ins_old (hd1 h) hz14⟩ | exact ⟨by omega, by simp; omega, fun h => absurd h (by simp [*]), fun h => Sp.ins_old (hd1 h) hz14⟩)⟩
   intro hc13'
   try simp only [nrm] at hc13'
   refine R_pass rfl (yl_ne rfl rfl rfl) ?_
   refine R_pass rfl (yl_ne rfl rfl rfl) ?_
   refine R_pass rfl (yl_ne rfl rfl rfl) ?_
   refine R_pass rfl (yl_ne rfl rfl rfl) ?_
   refine R_pass rfl (yl_ne rfl rfl rfl) ?_
   refine R_pass rfl (yl_ne rfl rfl rfl) ?_
   refine R_pass rfl (yl_ne rfl rfl rfl) ?_
   refine o_pick_f rfl rfl rfl ?_
   refine q3 ?_
   refine W_false rfl ?_
   refine W_skip ?_
   refine N_K ?_
   refine W_region ?_
   refine o_move rfl rfl ?_
   refine o_move rfl rfl ?_
   refine o_move rfl rfl ?_
   refine o_index_P _ hsr9 Tryz.underlying23 Tryz.sizeOf117 rfl rfl rfl rfl (by omega) ?_; intro b26 o26 z26 q26 hz26 hE26 hrow26
   obtain ⟨a26, m26, c26, rfl, hi26, hr26, hj26⟩ := hE26; have hn_hr26 := hr26.len; have hx_hr26 : _ ≤ 1099511627776 := hr26.lim
   refine o_loadagg_P H Tryz.isAgg117 Tryz.sizeOf117 rfl rfl hrow26 rfl ?_
   refine o_buildSlice H Tryz.underlying23 Tryz.sizeOf117 (fun w => ⟨_, Tryz.zeroValue117 w, rfl⟩) rfl rfl rfl rfl rfl rfl rfl ?_; intro b27 w27 hb27 H
   refine o_append1 1 H (sz := 3) (bytes := 40) Tryz.underlying23 Tryz.typeInfo117 ⟨_, rfl, rfl⟩ rfl rfl rfl rfl rfl rfl rfl rfl rfl rfl (by omega) rfl ?_; intro v28 w28 H
   have hchk28 := hchk11_0.snoc (show heldE _ z26 _ from ⟨_, _, _, rfl, ⟨by first | omega | (dsimp only; omega), by first | omega | (dsimp only; omega)⟩, hr26, ⟨by first | omega | (dsimp only; omega), by first | omega | (dsimp only; omega)⟩⟩) rfl
   obtain ⟨av28, cv28, rfl⟩ := H.accShape (k := 1) rfl
   refine o_assign rfl rfl ?_
   refine R_nil ?_
   refine N_B ?_
   refine N_K ?_
   refine W_region ?_
   refine o_move rfl rfl ?_
   refine o_add rfl rfl rfl ⟨by omega, by omega⟩ ?_
   refine o_assign rfl rfl ?_
   refine R_nil ?_
   refine N_LP (hJ := ⟨_, _, _, (xs ++ [z26]), d, k + 1, _, rfl, hle11, H, ?inv, rfl⟩) (hM := ?hM) (hf := ?hf) (hm := ?hm)
   case hM => (repeat (first | exact Sub.nil | refine Sub.cons rfl ?_))
   case hf => (repeat (first | exact Sub.nil | refine Sub.cons rfl ?_))
   case hm => omega
   case inv => exact ⟨hchk28, (by first | assumption | (simp; omega) | omega), (by first | exact ⟨by omega, by simp; omega, fun h => ⟨by rw [(hd0 h).1, Sp.take_succ' hz26], Sp.all_take (hd0 h).2 hz26 (by simp [Sp.idF]; omega)⟩, fun h => Sp.ins_old (hd1 h) hz26⟩ | exact ⟨by omega, by simp; omega, fun h => absurd h (by simp [*]), fun h => Sp.ins_old (hd1 h) hz26⟩)⟩
  intro hc12'
  try simp only [nrm] at hc12'
  refine W_exit ?_
  refine N_K_exit ?_
  refine N_LP_exit ?_
  refine N_B_same ?_
  refine N_K ?_
  refine W_seq ?_
  refine q2 ?_
  refine o_move rfl rfl ?_
  refine o_not rfl rfl ?_
  refine q3 ?_
  refine W_cond rfl ?_ ?_
  ·intro hc30
   try simp only [nrm] at hc30
   refine W_region ?_
   refine o_move rfl rfl ?_
   refine o_loadagg_B 0 H Tryz.isAgg117 Tryz.sizeOf117 rfl rfl rfl rfl rfl ?_
   refine o_buildSlice H Tryz.underlying23 Tryz.sizeOf117 (fun w => ⟨_, Tryz.zeroValue117 w, rfl⟩) rfl rfl rfl rfl rfl rfl rfl ?_; intro b31 w31 hb31 H
   refine o_append1 1 H (sz := 3) (bytes := 40) Tryz.underlying23 Tryz.typeInfo117 ⟨_, rfl, rfl⟩ rfl rfl rfl rfl rfl rfl rfl rfl rfl rfl (by omega) rfl ?_; intro v32 w32 H
   have hchk32 := hchk11_0.snoc (show heldE _ ⟨(Sp.freeId list : Int), bytes, 1⟩ _ from ⟨_, _, _, rfl, ⟨by first | omega | (dsimp only; omega), by first | omega | (dsimp only; omega)⟩, hsr8, ⟨by first | omega | (dsimp only; omega), by first | omega | (dsimp only; omega)⟩⟩) rfl
   obtain ⟨av32, cv32, rfl⟩ := H.accShape (k := 1) rfl
   refine o_assign rfl rfl ?_
   refine q1 ?_
   refine o_move rfl rfl ?_
   refine o_assign rfl rfl ?_
   refine q3 ?_
   refine W_ret ?_
   refine ret_gen (rs := [.tmp 4]) (vs := [_]) Tryz.results168 ⟨rfl, trivial⟩ ?_
   have hx := hd0 (by assumption)
   rw [List.take_of_length_le (by omega)] at hx
   obtain ⟨rfl, hx2⟩ := hx
   exact H.retO (k := 1) rfl (by rw [Sp.l3With_eq, ← Sp.ins_end _ hx2]; exact AccOf.mk (by first | rfl | assumption | (simp; done) | (simp; omega) | omega) hchk32) (acc_nd _ _ _ _ _)
  intro hc30'
  try simp only [nrm] at hc30'
  refine W_skip ?_
  refine N_K ?_
  refine q2 ?_
  refine o_move rfl rfl ?_
  refine o_assign rfl rfl ?_
  refine q3 ?_
  refine W_ret ?_
  refine ret_gen (rs := [.tmp 4]) (vs := [_]) Tryz.results168 ⟨rfl, trivial⟩ ?_
  have hx := hd1 (by assumption)
  rw [List.drop_of_length_le (by omega), List.append_nil] at hx
  subst hx
  exact H.retO (k := 1) rfl (by skip; exact AccOf.mk (by first | rfl | assumption | (simp; done) | (simp; omega) | omega) hchk11_0) (acc_nd _ _ _ _ _)
end Go.Proofs.Tst

namespace Go.Proofs.Tst
open Go Fw
theorem StorePut_c (w0 : World) (G0 : PH) (hG : PSub G0 w0) (vlist : Value) (list : List (BHeld)) (hlist : RdH G0 vlist list) (vbytes : Value) (bytes : List (Int)) (hbytes : RdI G0 vbytes bytes) (hS : list.length ≤ 1000000) :
  Calls Tryz.prog 143 #[vlist, vbytes] w0 (RetO w0 G0 (fun G v r => ∃ u, v = .tuple #[u, .int .i64 (((Sp.StorePut list bytes).map (·.2)).getD 0), .bool (Sp.StorePut list bytes).isSome] ∧ AccOf heldE 3 117 (((Sp.StorePut list bytes).map (·.1)).getD []) G u r ∧ inI (((Sp.StorePut list bytes).map (·.2)).getD 0))) := by
 obtain ⟨alist, klist, rfl⟩ := hlist.shape
 have hlimlist : list.length ≤ 1099511627776 := hlist.lim
 obtain ⟨abytes, kbytes, rfl⟩ := hbytes.shape
 have hlimbytes : bytes.length ≤ 1099511627776 := hbytes.lim
 have H := Hp.init hG
 refine calls_of_W (l := [.slice alist list.length klist, .slice abytes bytes.length kbytes]) Tryz.func143 rfl Tryz.ntmps143 rfl ?_
 refine q2 ?_
 refine o_assign rfl rfl ?_
 refine o_assign rfl rfl ?_
 refine o_assign rfl rfl ?_
 refine q3 ?_
 refine W_seq ?_
 refine q2 ?_
 refine o_move rfl rfl ?_
 refine o_call Tryz.call83 rfl rfl (StoreValid_c _ _ H.sub _ _ hlist ) ?_
 rintro _ w1 ⟨rfl, ew1⟩; have H := H.step ew1; refine ⟨_, rfl, ?_⟩
 refine o_not rfl rfl ?_
 refine o_move rfl rfl ?_
 refine R_case (t := 13) rfl ?_ ?_
 ·intro hc2
  try simp only [nrm] at hc2
  refine R_pass rfl (yl_ne rfl rfl rfl) ?_
  refine R_pass rfl (yl_ne rfl rfl rfl) ?_
  refine R_pass rfl (yl_ne rfl rfl rfl) ?_
  refine o_pick_t rfl rfl rfl ?_
  refine q3 ?_
  refine W_true rfl ?_
  refine q2 ?_
  refine o_buildSlice H Tryz.underlying23 Tryz.sizeOf117 (fun w => ⟨_, Tryz.zeroValue117 w, rfl⟩) rfl rfl rfl rfl rfl rfl rfl ?_; intro b3 w3 hb3 H
  have H := H.blkAcc 3 (k := 0) (n := 0) rfl rfl (by decide)
  refine o_assign rfl rfl ?_
  refine o_assign rfl rfl ?_
  refine o_assign rfl rfl ?_
  refine q3 ?_
  refine W_ret ?_
  refine N_K_ret ?_
  refine ret_gen (rs := [.tmp 4, .tmp 5, .tmp 6]) (vs := [_, _, _]) Tryz.results143 ⟨rfl, rfl, rfl, trivial⟩ ?_
  have hN : Sp.StorePut list bytes = none := by simp [Sp.StorePut, hc2]
  exact H.retO (k := 0) rfl (by rw [hN]; exact ⟨_, rfl, AccOf.mk (by first | rfl | assumption | (simp; done) | (simp; omega) | omega) (Chk.nil (E := heldE) (sz := 3) (G := G0)), (by simp [inI])⟩) (acc_nd _ _ _ _ _)
 intro hc2'
 try simp only [nrm] at hc2'
 refine R_guard (yl rfl rfl) ?_
 refine o_move rfl rfl ?_
 refine R_guard (yl rfl rfl) ?_
 refine o_call Tryz.call138 rfl rfl (BlockValid_c _ _ H.sub _ _ hbytes ) ?_
 rintro _ w4 ⟨rfl, ew4⟩; have H := H.step ew4; refine ⟨_, rfl, ?_⟩
 refine R_guard (yl rfl rfl) ?_
 refine o_not rfl rfl ?_
 refine o_pick_f rfl rfl rfl ?_
 refine q3 ?_
 refine W_cond rfl ?_ ?_
 ·intro hc5
  try simp only [nrm] at hc5
  refine q2 ?_
  refine o_buildSlice H Tryz.underlying23 Tryz.sizeOf117 (fun w => ⟨_, Tryz.zeroValue117 w, rfl⟩) rfl rfl rfl rfl rfl rfl rfl ?_; intro b6 w6 hb6 H
  have H := H.blkAcc 3 (k := 0) (n := 0) rfl rfl (by decide)
  refine o_assign rfl rfl ?_
  refine o_assign rfl rfl ?_
  refine o_assign rfl rfl ?_
  refine q3 ?_
  refine W_ret ?_
  refine N_K_ret ?_
  refine ret_gen (rs := [.tmp 4, .tmp 5, .tmp 6]) (vs := [_, _, _]) Tryz.results143 ⟨rfl, rfl, rfl, trivial⟩ ?_
  have hN : Sp.StorePut list bytes = none := by simp [Sp.StorePut, hc5]
  exact H.retO (k := 0) rfl (by rw [hN]; exact ⟨_, rfl, AccOf.mk (by first | rfl | assumption | (simp; done) | (simp; omega) | omega) (Chk.nil (E := heldE) (sz := 3) (G := G0)), (by simp [inI])⟩) (acc_nd _ _ _ _ _)
 intro hc5'
 try simp only [nrm] at hc5'
 refine W_skip ?_
 refine N_K ?_
 refine q2 ?_
 refine o_move rfl rfl ?_
 refine o_call Tryz.call48 rfl rfl (l3Copy_c _ _ H.sub _ _ hlist ) ?_
 rintro _ w7 ⟨G7, v7, _, g7, rfl, ⟨cs7, rfl, hchk7⟩, hp7, hq7, hs7⟩
 have H := H.growO g7 hp7 hq7 hs7; obtain ⟨av7, cv7, rfl⟩ := H.accShape (k := 0) rfl
 have hlist := hlist.up g7.le
 have hbytes := hbytes.up g7.le
 refine ⟨_, rfl, ?_⟩
 refine o_assign rfl rfl ?_
 refine q1 ?_
 refine o_move rfl rfl ?_
 refine o_move rfl rfl ?_
 refine o_call Tryz.call166 rfl rfl (l3Like_c _ _ H.sub _ _ hlist _ _ hbytes ) ?_
 rintro _ w8 ⟨rfl, ew8⟩; have H := H.step ew8; refine ⟨_, rfl, ?_⟩
 refine o_assign rfl rfl ?_
 refine q1 ?_
 refine o_move rfl rfl ?_
 refine o_call Tryz.call167 rfl rfl (l3Free_c _ _ H.sub _ _ hlist ) ?_
 rintro _ w9 ⟨rfl, ew9⟩; have H := H.step ew9; refine ⟨_, rfl, ?_⟩
 refine o_assign rfl rfl ?_
 refine q3 ?_
 refine W_seq ?_
 refine q2 ?_
 refine o_move rfl rfl ?_
 refine o_geq rfl rfl rfl ?_
 refine q3 ?_
 refine W_cond rfl ?_ ?_
 ·intro hc10
  try simp only [nrm] at hc10
  obtain ⟨i, x, hi1, hi2, hi3, hi4, hi5⟩ := Sp.at_nat hc10
  refine q2 ?_
  refine o_move rfl rfl ?_
  refine o_move rfl rfl ?_
  refine o_move rfl rfl ?_
  refine o_move rfl rfl ?_
  refine o_index_A 0 H i rfl hchk7 Tryz.underlying23 Tryz.sizeOf117 rfl rfl rfl hi2 (by first | omega | (simp; omega) | (simp; done)) (by first | rfl | assumption | (simp; done) | (simp; omega) | omega) ?_; intro ba11 z11 q11 hba11 hz11 hE11 hg11; cases hba11
  obtain ⟨a11, m11, c11, rfl, hi11, hr11, hj11⟩ := hE11; have hn_hr11 := hr11.len; have hx_hr11 : _ ≤ 1099511627776 := hr11.lim
  have hsv := Sp.valid_at hc2' hz11
  refine o_fieldAddr 2 Tryz.runUnderlying117 rfl Tryz.sizeOf3 rfl rfl rfl ?_
  refine o_load_A 0 H Tryz.isAgg3 rfl rfl rfl (hg11 2 _ rfl) ?_
  refine o_add rfl rfl rfl ⟨by omega, by omega⟩ ?_
  refine o_index_A 0 H i rfl hchk7 Tryz.underlying23 Tryz.sizeOf117 rfl rfl rfl hi2 (by first | omega | (simp; omega) | (simp; done)) (by first | rfl | assumption | (simp; done) | (simp; omega) | omega) ?_; intro ba13 z13 q13 hba13 hz13 hE13 hg13; cases hba13
  obtain ⟨a13, m13, c13, rfl, hi13, hr13, hj13⟩ := hE13; have hn_hr13 := hr13.len; have hx_hr13 : _ ≤ 1099511627776 := hr13.lim
  have hzz13 : z11 = z13 := Option.some.inj (hz11.symm.trans hz13)
  subst hzz13
  refine o_fieldAddr 2 Tryz.runUnderlying117 rfl Tryz.sizeOf3 rfl rfl rfl ?_
  have hcl14 := hchk7.length
  refine o_store_A 0 H Tryz.sizeOf3 rfl rfl rfl rfl rfl (by simp only [vc, List.length_cons, List.length_nil]; omega) ?_; intro w14 H
  have hchk14 := hchk7.put (x' := ⟨z11.id, z11.bytes, z11.uses + 1⟩) (off := 2) (vs := [_]) hz13 (fun cs hl hE => by obtain ⟨_, _, _, rfl, h1, h2, h3⟩ := hE; exact ⟨_, _, _, rfl, h1, h2, ⟨by first | omega | (dsimp only; omega), by first | omega | (dsimp only; omega)⟩⟩) (by simp only [vc, List.length_cons, List.length_nil]; omega)
  refine q3 ?_
  refine W_region ?_
  refine o_move rfl rfl ?_
  refine o_move rfl rfl ?_
  refine o_index_A 0 H i rfl hchk14 Tryz.underlying23 Tryz.sizeOf117 rfl rfl rfl hi2 (by first | omega | (simp; omega) | (simp; done)) (by first | rfl | assumption | (simp; done) | (simp; omega) | omega) ?_; intro ba15 z15 q15 hba15 hz15 hE15 hg15; cases hba15
  obtain ⟨a15, m15, c15, rfl, hi15, hr15, hj15⟩ := hE15; have hn_hr15 := hr15.len; have hx_hr15 : _ ≤ 1099511627776 := hr15.lim
  rw [List.getElem?_set_self (by omega)] at hz15
  simp only [Option.some.injEq] at hz15
  subst hz15
  refine o_fieldAddr 0 Tryz.runUnderlying117 rfl Tryz.sizeOf3 rfl rfl rfl ?_
  refine o_load_A 0 H Tryz.isAgg3 rfl rfl rfl (hg15 0 _ rfl) ?_
  refine o_assign rfl rfl ?_
  refine q3 ?_
  refine W_seq ?_
  refine q2 ?_
  refine o_move rfl rfl ?_
  refine o_call Tryz.call83 rfl rfl (StoreValid_c _ _ (H.lendSub (k := 0) rfl) _ _ (H.lendRd (k := 0) rfl hchk14 (by first | assumption | rfl | (simp; done) | (simp; omega) | omega) (by first | assumption | (simp; done) | (simp; omega) | omega)) ) ?_
  rintro _ w16 ⟨rfl, ew16⟩; have H := H.step ew16; refine ⟨_, rfl, ?_⟩
  refine o_not rfl rfl ?_
  refine q3 ?_
  refine W_cond rfl ?_ ?_
  ·intro hc17
   try simp only [nrm] at hc17
   refine q2 ?_
   refine o_buildSlice H Tryz.underlying23 Tryz.sizeOf117 (fun w => ⟨_, Tryz.zeroValue117 w, rfl⟩) rfl rfl rfl rfl rfl rfl rfl ?_; intro b18 w18 hb18 H
   have H := H.blkAcc 3 (k := 0) (n := 0) rfl rfl (by decide)
   refine o_assign rfl rfl ?_
   refine o_assign rfl rfl ?_
   refine o_assign rfl rfl ?_
   refine q3 ?_
   refine W_ret ?_
   refine N_K_ret ?_
   refine ret_gen (rs := [.tmp 4, .tmp 5, .tmp 6]) (vs := [_, _, _]) Tryz.results143 ⟨rfl, rfl, rfl, trivial⟩ ?_
   have hN : Sp.StorePut list bytes = none := by (have hl : Sp.like list bytes = some i := hi1); simp [Sp.StorePut, hl, Sp.bump_at hz11, hc17]
   exact H.retO (k := 0) rfl (by rw [hN]; exact ⟨_, rfl, AccOf.mk (by first | rfl | assumption | (simp; done) | (simp; omega) | omega) (Chk.nil (E := heldE) (sz := 3) (G := G7)), (by simp [inI])⟩) (acc_nd _ _ _ _ _)
  intro hc17'
  try simp only [nrm] at hc17'
  refine W_skip ?_
  refine N_K ?_
  refine q2 ?_
  refine o_move rfl rfl ?_
  refine o_move rfl rfl ?_
  refine o_assign rfl rfl ?_
  refine o_assign rfl rfl ?_
  refine o_assign rfl rfl ?_
  refine q3 ?_
  refine W_ret ?_
  refine ret_gen (rs := [.tmp 4, .tmp 5, .tmp 6]) (vs := [_, _, _]) Tryz.results143 ⟨rfl, rfl, rfl, trivial⟩ ?_
  have hY : Sp.StorePut list bytes = some (list.set i ⟨z11.id, z11.bytes, z11.uses + 1⟩, z11.id) := by (have hl : Sp.like list bytes = some i := hi1); simp [Sp.StorePut, hc2', hc5', hl, Sp.bump_at hz11, hc17', hz11]
  exact H.retO (k := 0) rfl (by rw [hY]; exact ⟨_, rfl, AccOf.mk (by first | rfl | assumption | (simp; done) | (simp; omega) | omega) hchk14, ⟨by dsimp only [Option.map, Option.getD]; omega, by dsimp only [Option.map, Option.getD]; omega⟩⟩) (acc_nd _ _ _ _ _)
 intro hc10'
 try simp only [nrm] at hc10'
 refine W_region ?_
 refine o_move rfl rfl ?_
 refine o_move rfl rfl ?_
 refine o_call Tryz.call168 rfl rfl (l3With_c _ _ H.sub _ _ hlist _ _ hbytes (by omega)) ?_
 rintro _ w19 ⟨G19, v19, _, g19, rfl, ⟨cs19, rfl, hchk19⟩, hp19, hq19, hs19⟩
 have H := H.growO g19 hp19 hq19 hs19; obtain ⟨av19, cv19, rfl⟩ := H.accShape (k := 0) rfl
 have hlist := hlist.up g19.le
 have hbytes := hbytes.up g19.le
 have hchk7 := hchk7.up g19.le
 refine ⟨_, rfl, ?_⟩
 have hwl := Sp.l3With_len list bytes
 have hfr := Sp.free_lt list
 refine o_assign rfl rfl ?_
 refine q3 ?_
 refine W_seq ?_
 refine q2 ?_
 refine o_move rfl rfl ?_
 refine o_call Tryz.call83 rfl rfl (StoreValid_c _ _ (H.lendSub (k := 0) rfl) _ _ (H.lendRd (k := 0) rfl hchk19 (by first | assumption | rfl | (simp; done) | (simp; omega) | omega) (by first | assumption | (simp; done) | (simp; omega) | omega)) ) ?_
 rintro _ w20 ⟨rfl, ew20⟩; have H := H.step ew20; refine ⟨_, rfl, ?_⟩
 refine o_not rfl rfl ?_
 refine q3 ?_
 refine W_cond rfl ?_ ?_
 ·intro hc21
  try simp only [nrm] at hc21
  refine q2 ?_
  refine o_buildSlice H Tryz.underlying23 Tryz.sizeOf117 (fun w => ⟨_, Tryz.zeroValue117 w, rfl⟩) rfl rfl rfl rfl rfl rfl rfl ?_; intro b22 w22 hb22 H
  have H := H.blkAcc 3 (k := 0) (n := 0) rfl rfl (by decide)
  refine o_assign rfl rfl ?_
  refine o_assign rfl rfl ?_
  refine o_assign rfl rfl ?_
  refine q3 ?_
  refine W_ret ?_
  refine N_K_ret ?_
  refine ret_gen (rs := [.tmp 4, .tmp 5, .tmp 6]) (vs := [_, _, _]) Tryz.results143 ⟨rfl, rfl, rfl, trivial⟩ ?_
  have hN : Sp.StorePut list bytes = none := by (have hl : Sp.like list bytes = none := Sp.at_none hc10'); simp [Sp.StorePut, hl, hc21]
  exact H.retO (k := 0) rfl (by rw [hN]; exact ⟨_, rfl, AccOf.mk (by first | rfl | assumption | (simp; done) | (simp; omega) | omega) (Chk.nil (E := heldE) (sz := 3) (G := G19)), (by simp [inI])⟩) (acc_nd _ _ _ _ _)
 intro hc21'
 try simp only [nrm] at hc21'
 refine W_skip ?_
 refine N_K ?_
 refine q2 ?_
 refine o_move rfl rfl ?_
 refine o_move rfl rfl ?_
 refine o_assign rfl rfl ?_
 refine o_assign rfl rfl ?_
 refine o_assign rfl rfl ?_
 refine q3 ?_
 refine W_ret ?_
 refine ret_gen (rs := [.tmp 4, .tmp 5, .tmp 6]) (vs := [_, _, _]) Tryz.results143 ⟨rfl, rfl, rfl, trivial⟩ ?_
 have hY : Sp.StorePut list bytes = some (Sp.l3With list bytes, (Sp.freeId list : Int)) := by (have hl : Sp.like list bytes = none := Sp.at_none hc10'); simp [Sp.StorePut, hc2', hc5', hl, hc21']
 exact H.retO (k := 0) rfl (by rw [hY]; exact ⟨_, rfl, AccOf.mk (by first | rfl | assumption | (simp; done) | (simp; omega) | omega) hchk19, ⟨by dsimp only [Option.map, Option.getD]; omega, by dsimp only [Option.map, Option.getD]; omega⟩⟩) (acc_nd _ _ _ _ _)
end Go.Proofs.Tst

namespace Go.Proofs.Tst
open Go Fw
theorem StoreDrop_c (w0 : World) (G0 : PH) (hG : PSub G0 w0) (vlist : Value) (list : List (BHeld)) (hlist : RdH G0 vlist list) (id : Int)  :
  Calls Tryz.prog 144 #[vlist, .int .i64 id] w0 (RetO w0 G0 (fun G v r => ∃ u, v = .tuple #[u, .bool (Sp.StoreDrop list id).isSome] ∧ AccOf heldE 3 117 ((Sp.StoreDrop list id).getD []) G u r)) := by
 obtain ⟨alist, klist, rfl⟩ := hlist.shape
 have hlimlist : list.length ≤ 1099511627776 := hlist.lim
 have H := Hp.init hG
 refine calls_of_W (l := [.slice alist list.length klist, .int .i64 id]) Tryz.func144 rfl Tryz.ntmps144 rfl ?_
 refine q2 ?_
 refine o_assign rfl rfl ?_
 refine o_assign rfl rfl ?_
 refine q1 ?_
 refine o_move rfl rfl ?_
 refine o_move rfl rfl ?_
 refine o_call Tryz.call151 rfl rfl (l3At_c _ _ H.sub _ _ hlist _ ) ?_
 rintro _ w1 ⟨rfl, ew1⟩; have H := H.step ew1; refine ⟨_, rfl, ?_⟩
 refine o_assign rfl rfl ?_
 refine q3 ?_
 refine W_seq ?_
 refine q2 ?_
 refine o_move rfl rfl ?_
 refine o_call Tryz.call83 rfl rfl (StoreValid_c _ _ H.sub _ _ hlist ) ?_
 rintro _ w2 ⟨rfl, ew2⟩; have H := H.step ew2; refine ⟨_, rfl, ?_⟩
 refine o_not rfl rfl ?_
 refine o_move rfl rfl ?_
 refine R_case (t := 14) rfl ?_ ?_
 ·intro hc3
  try simp only [nrm] at hc3
  refine R_pass rfl (yl_ne rfl rfl rfl) ?_
  refine R_pass rfl (yl_ne rfl rfl rfl) ?_
  refine o_pick_t rfl rfl rfl ?_
  refine q3 ?_
  refine W_true rfl ?_
  refine q2 ?_
  refine o_buildSlice H Tryz.underlying23 Tryz.sizeOf117 (fun w => ⟨_, Tryz.zeroValue117 w, rfl⟩) rfl rfl rfl rfl rfl rfl rfl ?_; intro b4 w4 hb4 H
  have H := H.blkAcc 3 (k := 0) (n := 0) rfl rfl (by decide)
  refine o_assign rfl rfl ?_
  refine o_assign rfl rfl ?_
  refine q3 ?_
  refine W_ret ?_
  refine N_K_ret ?_
  refine ret_gen (rs := [.tmp 4, .tmp 5]) (vs := [_, _]) Tryz.results144 ⟨rfl, rfl, trivial⟩ ?_
  have hN : Sp.StoreDrop list id = none := by simp [Sp.StoreDrop, hc3]
  exact H.retO (k := 0) rfl (by rw [hN]; exact ⟨_, rfl, AccOf.mk (by first | rfl | assumption | (simp; done) | (simp; omega) | omega) (Chk.nil (E := heldE) (sz := 3) (G := G0))⟩) (acc_nd _ _ _ _ _)
 intro hc3'
 try simp only [nrm] at hc3'
 refine R_guard (yl rfl rfl) ?_
 refine o_move rfl rfl ?_
 refine R_guard (yl rfl rfl) ?_
 refine o_lss rfl rfl rfl ?_
 refine o_pick_f rfl rfl rfl ?_
 refine q3 ?_
 refine W_cond rfl ?_ ?_
 ·intro hc5
  try simp only [nrm] at hc5
  refine q2 ?_
  refine o_buildSlice H Tryz.underlying23 Tryz.sizeOf117 (fun w => ⟨_, Tryz.zeroValue117 w, rfl⟩) rfl rfl rfl rfl rfl rfl rfl ?_; intro b6 w6 hb6 H
  have H := H.blkAcc 3 (k := 0) (n := 0) rfl rfl (by decide)
  refine o_assign rfl rfl ?_
  refine o_assign rfl rfl ?_
  refine q3 ?_
  refine W_ret ?_
  refine N_K_ret ?_
  refine ret_gen (rs := [.tmp 4, .tmp 5]) (vs := [_, _]) Tryz.results144 ⟨rfl, rfl, trivial⟩ ?_
  have hN : Sp.StoreDrop list id = none := by simp [Sp.StoreDrop, Sp.atH, Sp.at_none hc5]
  exact H.retO (k := 0) rfl (by rw [hN]; exact ⟨_, rfl, AccOf.mk (by first | rfl | assumption | (simp; done) | (simp; omega) | omega) (Chk.nil (E := heldE) (sz := 3) (G := G0))⟩) (acc_nd _ _ _ _ _)
 intro hc5'
 try simp only [nrm] at hc5'
 obtain ⟨i, x, hi1, hi2, hi3, hi4, hi5⟩ := Sp.at_nat hc5'
 have hi2 : Sp.l3At list id = (i : Int) := hi2
 have hl : Sp.atH list id = some i := hi1
 refine W_skip ?_
 refine N_K ?_
 refine q2 ?_
 refine o_move rfl rfl ?_
 refine o_call Tryz.call48 rfl rfl (l3Copy_c _ _ H.sub _ _ hlist ) ?_
 rintro _ w7 ⟨G7, v7, _, g7, rfl, ⟨cs7, rfl, hchk7⟩, hp7, hq7, hs7⟩
 have H := H.growO g7 hp7 hq7 hs7; obtain ⟨av7, cv7, rfl⟩ := H.accShape (k := 0) rfl
 have hlist := hlist.up g7.le
 refine ⟨_, rfl, ?_⟩
 refine o_assign rfl rfl ?_
 refine q3 ?_
 refine W_seq ?_
 refine q2 ?_
 refine o_move rfl rfl ?_
 refine o_move rfl rfl ?_
 refine o_index_A 0 H i rfl hchk7 Tryz.underlying23 Tryz.sizeOf117 rfl rfl rfl hi2 (by first | omega | (simp; omega) | (simp; done)) (by first | rfl | assumption | (simp; done) | (simp; omega) | omega) ?_; intro ba8 z8 q8 hba8 hz8 hE8 hg8; cases hba8
 obtain ⟨a8, m8, c8, rfl, hi8, hr8, hj8⟩ := hE8; have hn_hr8 := hr8.len; have hx_hr8 : _ ≤ 1099511627776 := hr8.lim
 have hsv := Sp.valid_at hc3' hz8
 refine o_fieldAddr 2 Tryz.runUnderlying117 rfl Tryz.sizeOf3 rfl rfl rfl ?_
 refine o_load_A 0 H Tryz.isAgg3 rfl rfl rfl (hg8 2 _ rfl) ?_
 refine o_eql rfl rfl rfl ?_
 refine q3 ?_
 refine W_cond rfl ?_ ?_
 ·intro hc9
  try simp only [nrm] at hc9
  refine W_seq ?_
  refine W_drawK [] 10 H (by kernel_rfl) rfl ?_; intro w10 H; have hd10 := PLe.refl G7
  refine RD_t 0 rfl (by kernel_rfl) rfl (fun _ hK => v_move rfl) ?_
  refine RD_t 1 rfl (by kernel_rfl) rfl (fun _ hK => v_move rfl) ?_
  have hac11 := H.accCap (k := 0) rfl
  refine RD_t 2 rfl (by kernel_rfl) rfl (fun _ hK => v_slice_to (j := i) Tryz.underlying23 Tryz.sizeOf117 rfl rfl hi2 (by omega)) ?_
  refine RD_t 3 rfl (by kernel_rfl) rfl (fun _ hK => v_move rfl) ?_
  refine RD_t 4 rfl (by kernel_rfl) rfl (fun _ hK => v_move rfl) ?_
  refine RD_t 5 rfl (by kernel_rfl) rfl (fun _ hK => v_add rfl rfl ⟨by omega, by omega⟩) ?_
  have hac13 := H.accCap (k := 0) rfl
  refine RD_t 6 rfl (by kernel_rfl) rfl (fun _ hK => v_slice_from (i := (i + 1)) Tryz.underlying23 Tryz.sizeOf117 rfl rfl (by omega) (by omega)) ?_
  refine RD_run [7] (by kernel_rfl) rfl (RDs.cons rfl ?_ RDs.nil)
  refine o_append_del 0 H i rfl hchk7 (by intro z cs hz u hu; obtain ⟨_, _, _, rfl, _⟩ := hz; simp at hu; rcases hu with rfl | rfl | rfl <;> rfl) Tryz.underlying23 Tryz.typeInfo117 rfl rfl rfl rfl (by omega) (by first | rfl | assumption | (simp; done) | (simp; omega) | omega) ?_; intro b14 w14 hb14 H hchk14; cases hb14
  refine R_nil ?_
  refine N_DK (Kn.of' H hd10 SubL.nil) ?_
  refine RD_t 8 rfl (by kernel_rfl) rfl (fun _ hK => v_assign rfl) ?_
  refine RD_t 9 rfl (by kernel_rfl) rfl (fun _ hK => v_assign rfl) ?_
  refine RD_done (by kernel_rfl) ?_
  refine N_K ?_
  refine W_ret ?_
  refine N_K_ret ?_
  refine ret_gen (rs := [.tmp 4, .tmp 5]) (vs := [_, _]) Tryz.results144 ⟨rfl, rfl, trivial⟩ ?_
  have hY : Sp.StoreDrop list id = some (list.take i ++ list.drop (i + 1)) := by simp [Sp.StoreDrop, hc3', hl, hz8, hc9]
  exact H.retO (k := 0) rfl (by rw [hY]; exact ⟨_, rfl, AccOf.mk (by first | rfl | assumption | (simp; done) | (simp; omega) | omega) hchk14⟩) (acc_nd _ _ _ _ _)
 intro hc9'
 try simp only [nrm] at hc9'
 refine W_skip ?_
 refine N_K ?_
 refine q2 ?_
 refine o_move rfl rfl ?_
 refine o_move rfl rfl ?_
 refine o_move rfl rfl ?_
 refine o_move rfl rfl ?_
 refine o_index_A 0 H i rfl hchk7 Tryz.underlying23 Tryz.sizeOf117 rfl rfl rfl hi2 (by first | omega | (simp; omega) | (simp; done)) (by first | rfl | assumption | (simp; done) | (simp; omega) | omega) ?_; intro ba15 z15 q15 hba15 hz15 hE15 hg15; cases hba15
 obtain ⟨a15, m15, c15, rfl, hi15, hr15, hj15⟩ := hE15; have hn_hr15 := hr15.len; have hx_hr15 : _ ≤ 1099511627776 := hr15.lim
 have hzz15 : z8 = z15 := Option.some.inj (hz8.symm.trans hz15)
 subst hzz15
 refine o_fieldAddr 2 Tryz.runUnderlying117 rfl Tryz.sizeOf3 rfl rfl rfl ?_
 refine o_load_A 0 H Tryz.isAgg3 rfl rfl rfl (hg15 2 _ rfl) ?_
 refine o_sub rfl rfl rfl ⟨by omega, by omega⟩ ?_
 refine o_index_A 0 H i rfl hchk7 Tryz.underlying23 Tryz.sizeOf117 rfl rfl rfl hi2 (by first | omega | (simp; omega) | (simp; done)) (by first | rfl | assumption | (simp; done) | (simp; omega) | omega) ?_; intro ba17 z17 q17 hba17 hz17 hE17 hg17; cases hba17
 obtain ⟨a17, m17, c17, rfl, hi17, hr17, hj17⟩ := hE17; have hn_hr17 := hr17.len; have hx_hr17 : _ ≤ 1099511627776 := hr17.lim
 have hzz17 : z8 = z17 := Option.some.inj (hz8.symm.trans hz17)
 subst hzz17
 refine o_fieldAddr 2 Tryz.runUnderlying117 rfl Tryz.sizeOf3 rfl rfl rfl ?_
 have hcl18 := hchk7.length
 refine o_store_A 0 H Tryz.sizeOf3 rfl rfl rfl rfl rfl (by simp only [vc, List.length_cons, List.length_nil]; omega) ?_; intro w18 H
 have hchk18 := hchk7.put (x' := ⟨z8.id, z8.bytes, z8.uses + (-1)⟩) (off := 2) (vs := [_]) hz17 (fun cs hl hE => by obtain ⟨_, _, _, rfl, h1, h2, h3⟩ := hE; exact ⟨_, _, _, rfl, h1, h2, ⟨by first | omega | (dsimp only; omega), by first | omega | (dsimp only; omega)⟩⟩) (by simp only [vc, List.length_cons, List.length_nil]; omega)
 refine q1 ?_
 refine o_move rfl rfl ?_
 refine o_assign rfl rfl ?_
 refine o_assign rfl rfl ?_
 refine q3 ?_
 refine W_ret ?_
 refine ret_gen (rs := [.tmp 4, .tmp 5]) (vs := [_, _]) Tryz.results144 ⟨rfl, rfl, trivial⟩ ?_
 have hY : Sp.StoreDrop list id = some (list.set i ⟨z8.id, z8.bytes, z8.uses + (-1)⟩) := by simp [Sp.StoreDrop, hc3', hl, hz8, hc9', Sp.bump_at hz8]
 exact H.retO (k := 0) rfl (by rw [hY]; exact ⟨_, rfl, AccOf.mk (by first | rfl | assumption | (simp; done) | (simp; omega) | omega) hchk18⟩) (acc_nd _ _ _ _ _)
end Go.Proofs.Tst

namespace Go.Proofs.Tst
open Go Fw
theorem l4Cut_c (w0 : World) (G0 : PH) (hG : PSub G0 w0) (vbytes : Value) (bytes : List (Int)) (hbytes : RdI G0 vbytes bytes) (hS : bytes.length ≤ 1000000) :
  Calls Tryz.prog 142 #[vbytes] w0 (RetP w0 G0 (fun G v => RdS LIM intsE 1 G v (Sp.l4Cut bytes))) := by
 obtain ⟨abytes, kbytes, rfl⟩ := hbytes.shape
 have hlimbytes : bytes.length ≤ 1099511627776 := hbytes.lim
 have H := Hp.init hG
 refine calls_of_W (l := [.slice abytes bytes.length kbytes]) Tryz.func142 rfl Tryz.ntmps142 rfl ?_
 refine q2 ?_
 refine o_assign rfl rfl ?_
 refine q1 ?_
 refine o_buildSlice H Tryz.underlying193 Tryz.sizeOf27 (fun w => ⟨_, Tryz.zeroValue27 w, rfl⟩) rfl rfl rfl rfl rfl rfl rfl ?_; intro b1 w1 hb1 H
 have H := H.blkAcc 1 (k := 0) (n := 0) rfl rfl (by decide)
 refine o_assign rfl rfl ?_
 refine q3 ?_
 refine W_seq ?_
 refine q2 ?_
 refine o_assign rfl rfl ?_
 refine q3 ?_
 refine W_block ?_
 refine W_loop (hf := (Sub.cons (t := 0) rfl (Sub.cons (t := 2) rfl Sub.nil))) (J := fun M w m => ∃ (v : Value) (n : Nat) (cs : List Value) (xs : List (List Int)) (k : Nat) (G : PH), M = [(4, .int .i64 (8 * (k : Int))), (3, v)] ∧ PLe G0 G ∧ Hp w0 G0 [] w G [acc 27 1 v n cs] ∧ (Chk intsE 1 G cs xs ∧ n = xs.length ∧ k ≤ (bytes.length + 7) / 8 ∧ xs.length = k ∧ xs = (List.range k).map (Sp.chunk bytes)) ∧ m = (bytes.length + 8 - 8 * k)) (h0 := ⟨_, _, _, [], 0, _, rfl, PLe.refl _, H, ?inv, rfl⟩) (hM := ?hM) (round := ?round)
 case hM => (repeat (first | exact Sub.nil | refine Sub.cons rfl ?_))
 case inv => exact ⟨(Chk.nil (E := intsE) (sz := 1) (G := G0)),  by first | rfl | simp | (simp; omega) | omega, (by simp)⟩
 case round =>
  rintro _ w2 _ ⟨v, n, cs, xs, k, G2, rfl, hle2, H, hinv2, rfl⟩
  have hbytes := hbytes.up hle2
  obtain ⟨hchk2_0, hn2_0, hinv2⟩ := hinv2
  obtain ⟨av2_0, cv2_0, rfl⟩ := H.accShape (k := 0) rfl
  obtain ⟨hk, hxl, hxs⟩ := hinv2
  refine W_seq ?_
  refine q2 ?_
  refine o_move rfl rfl ?_
  refine o_move rfl rfl ?_
  refine o_len_slice Tryz.underlying27 rfl rfl ?_
  refine o_lss rfl rfl rfl ?_
  refine q3 ?_
  refine W_cond rfl ?_ ?_
  ·intro hc3
   try simp only [nrm] at hc3
   refine W_skip ?_
   refine N_K ?_
   refine W_seq ?_
   refine W_block ?_
   refine W_region ?_
   refine o_move rfl rfl ?_
   refine o_buildSlice H Tryz.underlying27 Tryz.sizeOf3 (fun w => ⟨_, Tryz.zeroValue3 w, rfl⟩) rfl rfl rfl rfl rfl rfl rfl ?_; intro b4 w4 hb4 H
   have H := H.blkAcc 1 (k := 0) (n := 0) rfl rfl (by decide)
   refine o_move rfl rfl ?_
   refine o_move rfl rfl ?_
   refine o_move rfl rfl ?_
   refine o_add rfl rfl rfl ⟨by omega, by omega⟩ ?_
   refine o_move rfl rfl ?_
   refine o_len_slice Tryz.underlying27 rfl rfl ?_
   refine o_min rfl rfl rfl ?_
   have hcap6 := hbytes.cap
   refine o_slice (i := (8 * k)) (j := (min (8 * k + 8) bytes.length)) Tryz.underlying27 Tryz.sizeOf3 rfl rfl rfl rfl (by omega) (by omega) (by omega) (by omega) ?_
   have hsl6 := hbytes.part (i := (8 * k)) (j := (min (8 * k + 8) bytes.length)) (by omega) (by omega)
   refine o_append_P 0 H hsl6 (by intro z cs hz u hu; obtain ⟨rfl, _⟩ := hz; simp at hu; subst hu; rfl) (sz := 1) (bytes := 8) Tryz.underlying27 Tryz.typeInfo3 ⟨_, rfl, rfl⟩ rfl rfl rfl rfl rfl rfl rfl (by omega) rfl ?_; intro v7 w7 css7 hcl7 hcs7 H
   have hchk7 : Chk intE 1 G2 ([] ++ css7.flatten) _ := ⟨css7, rfl, hcl7, hcs7⟩
   obtain ⟨av7, cv7, rfl⟩ := H.accShape (k := 0) rfl
   refine o_buildSlice H Tryz.underlying193 Tryz.sizeOf27 (fun w => ⟨_, Tryz.zeroValue27 w, rfl⟩) rfl rfl rfl rfl rfl rfl rfl ?_; intro b8 w8 hb8 H
   refine o_append1 1 H (sz := 1) (bytes := 24) Tryz.underlying193 Tryz.typeInfo27 ⟨_, rfl, rfl⟩ rfl rfl rfl rfl rfl rfl rfl rfl rfl rfl (by omega) rfl ?_; intro v9 w9 H
   obtain ⟨G10, H, hsg10, hsr10⟩ := H.shut' (k := 0) rfl hchk7 (by first | assumption | (simp; done) | (simp; omega) | omega) (by first | assumption | (simp; done) | (simp; omega) | omega)
   have hbytes := hbytes.up hsg10
   have hchk2_0 := hchk2_0.up hsg10
   have hsl6 := hsl6.up hsg10
   have hchk7 := hchk7.up hsg10
   have hle2 := hle2.trans hsg10
   have hchk9 := hchk2_0.snoc (show intsE _ (Sp.chunk bytes k) _ from ⟨_, _, _, rfl, hsr10⟩) rfl
   obtain ⟨av9, cv9, rfl⟩ := H.accShape (k := 0) rfl
   refine o_assign rfl rfl ?_
   refine R_nil ?_
   refine N_B ?_
   refine N_K ?_
   refine W_region ?_
   refine o_move rfl rfl ?_
   refine o_add rfl rfl rfl ⟨by omega, by omega⟩ ?_
   refine o_assign rfl rfl ?_
   refine R_nil ?_
   refine N_LP (hJ := ⟨_, _, _, (xs ++ [(Sp.chunk bytes k)]), k + 1, _, rfl, hle2, H, ?inv, rfl⟩) (hM := ?hM) (hf := ?hf) (hm := ?hm)
   case hM => (repeat (first | exact Sub.nil | refine Sub.cons rfl ?_))
   case hf => (repeat (first | exact Sub.nil | refine Sub.cons rfl ?_))
   case hm => omega
   case inv => exact ⟨hchk9, (by first | assumption | (simp; omega) | omega), (by exact ⟨by omega, by simp [hxl], by rw [hxs, List.range_succ, List.map_append]; rfl⟩)⟩
  intro hc3'
  try simp only [nrm] at hc3'
  refine W_exit ?_
  refine N_K_exit ?_
  refine N_LP_exit ?_
  refine N_B_same ?_
  refine N_K ?_
  refine q2 ?_
  refine o_move rfl rfl ?_
  refine o_assign rfl rfl ?_
  refine q3 ?_
  refine W_ret ?_
  refine ret_gen (rs := [.tmp 2]) (vs := [_]) Tryz.results142 ⟨rfl, trivial⟩ ?_
  obtain ⟨G12, H, hsg12, hsr12⟩ := H.shut' (k := 0) rfl hchk2_0 (by first | assumption | (simp; done) | (simp; omega) | omega) (by first | assumption | (simp; done) | (simp; omega) | omega)
  have hbytes := hbytes.up hsg12
  have hchk2_0 := hchk2_0.up hsg12
  have hle2 := hle2.trans hsg12
  obtain rfl : k = (bytes.length + 7) / 8 := by omega
  exact H.retP (by rw [Sp.l4Cut, ← hxs]; exact hsr12)
end Go.Proofs.Tst

namespace Go.Proofs.Tst
open Go Fw
theorem l4Ids_c (w0 : World) (G0 : PH) (hG : PSub G0 w0) (vlist : Value) (list : List (BHeld)) (hlist : RdH G0 vlist list) (vids : Value) (ids : List (Int)) (hids : RdI G0 vids ids)  :
  Calls Tryz.prog 141 #[vlist, vids] w0 (Rets w0 (.bool (Sp.l4Ids list ids))) := by
 obtain ⟨alist, klist, rfl⟩ := hlist.shape
 have hlimlist : list.length ≤ 1099511627776 := hlist.lim
 obtain ⟨aids, kids, rfl⟩ := hids.shape
 have hlimids : ids.length ≤ 1099511627776 := hids.lim
 have H := Hp.init hG
 refine calls_of_W (l := [.slice alist list.length klist, .slice aids ids.length kids]) Tryz.func141 rfl Tryz.ntmps141 rfl ?_
 refine q2 ?_
 refine o_assign rfl rfl ?_
 refine q3 ?_
 refine W_seq ?_
 refine q2 ?_
 refine o_assign rfl rfl ?_
 refine q3 ?_
 refine W_block ?_
 refine W_loop (hf := (Sub.cons (t := 0) rfl (Sub.cons (t := 1) rfl Sub.nil))) (J := fun M w m => ∃ (k : Nat) (G : PH), M = [(5, .int .i64 (k : Int))] ∧ PLe G0 G ∧ Hp w0 G0 [] w G [] ∧ (k ≤ ids.length ∧ ∀ j, j < k → Sp.idsOk list ids j = true) ∧ m = (ids.length - k)) (h0 := ⟨0, _, rfl, PLe.refl _, H, ?inv, rfl⟩) (hM := ?hM) (round := ?round)
 case hM => (repeat (first | exact Sub.nil | refine Sub.cons rfl ?_))
 case inv => exact ⟨by omega, fun j hj => by omega⟩
 case round =>
  rintro _ w1 _ ⟨k, G1, rfl, hle1, H, hinv1, rfl⟩
  have hlist := hlist.up hle1
  have hids := hids.up hle1
  obtain ⟨hk, hall⟩ := hinv1
  refine W_seq ?_
  refine q2 ?_
  refine o_move rfl rfl ?_
  refine o_move rfl rfl ?_
  refine o_len_slice Tryz.underlying27 rfl rfl ?_
  refine o_lss rfl rfl rfl ?_
  refine q3 ?_
  refine W_cond rfl ?_ ?_
  ·intro hc2
   try simp only [nrm] at hc2
   refine W_skip ?_
   refine N_K ?_
   refine W_seq ?_
   refine W_block ?_
   refine q2 ?_
   refine o_move rfl rfl ?_
   refine o_move rfl rfl ?_
   refine o_move rfl rfl ?_
   refine o_index_P _ hids Tryz.underlying27 Tryz.sizeOf3 rfl rfl rfl rfl (by omega) ?_; intro b3 o3 z3 q3 hz3 hE3 hrow3
   obtain ⟨rfl, hi3⟩ := hE3
   refine o_load_P H Tryz.isAgg3 rfl rfl (hrow3 0 _ rfl) ?_
   refine o_call Tryz.call151 rfl rfl (l3At_c _ _ H.sub _ _ hlist _ ) ?_
   rintro _ w4 ⟨rfl, ew4⟩; have H := H.step ew4; refine ⟨_, rfl, ?_⟩
   refine o_assign rfl rfl ?_
   refine q1 ?_
   refine o_move rfl rfl ?_
   refine o_lss rfl rfl rfl ?_
   refine o_move rfl rfl ?_
   refine R_case (t := 21) rfl ?_ ?_
   ·intro hc5
    try simp only [nrm] at hc5
    refine R_pass rfl (yl_ne rfl rfl rfl) ?_
    refine R_pass rfl (yl_ne rfl rfl rfl) ?_
    refine R_pass rfl (yl_ne rfl rfl rfl) ?_
    refine R_pass rfl (yl_ne rfl rfl rfl) ?_
    refine R_pass rfl (yl_ne rfl rfl rfl) ?_
    refine R_pass rfl (yl_ne rfl rfl rfl) ?_
    refine R_pass rfl (yl_un rfl rfl) ?_
    refine R_pass rfl (yl_un rfl rfl) ?_
    refine R_pass rfl (yl_un rfl rfl) ?_
    refine R_pass rfl (yl_un rfl rfl) ?_
    refine R_pass rfl (yl_un rfl rfl) ?_
    refine R_pass rfl (yl_un rfl rfl) ?_
    refine R_pass rfl (yl_un rfl rfl) ?_
    refine R_pass rfl (yl_ne rfl rfl rfl) ?_
    refine o_pick_t rfl rfl rfl ?_
    refine q3 ?_
    refine W_true rfl ?_
    refine q2 ?_
    refine o_assign rfl rfl ?_
    refine q3 ?_
    refine W_ret ?_
    refine N_B_ret ?_
    refine N_K_ret ?_
    refine N_LP_ret ?_
    refine N_B_ret ?_
    refine N_K_ret ?_
    refine ret_gen (rs := [.tmp 4]) (vs := [_]) Tryz.results141 ⟨rfl, trivial⟩ ?_
    exact H.rets (congrArg Value.bool (by rw [Sp.l4Ids, Sp.not_all_range (k := k) (by omega) (by simp [Sp.idsOk, hz3, Sp.atH, Sp.at_none hc5])]; rfl))
   intro hc5'
   try simp only [nrm] at hc5'
   obtain ⟨i, x, hi1, hi2, hi3, hi4, hi5⟩ := Sp.at_nat hc5'
   have hl : Sp.atH list z3 = some i := hi1
   refine R_guard (yl rfl rfl) ?_
   refine o_move rfl rfl ?_
   refine R_guard (yl rfl rfl) ?_
   refine o_add rfl rfl rfl ⟨by omega, by omega⟩ ?_
   refine R_guard (yl rfl rfl) ?_
   refine o_move rfl rfl ?_
   refine R_guard (yl rfl rfl) ?_
   refine o_len_slice Tryz.underlying27 rfl rfl ?_
   refine R_guard (yl rfl rfl) ?_
   refine o_lss rfl rfl rfl ?_
   refine R_guard (yl rfl rfl) ?_
   refine o_move rfl rfl ?_
   refine R_case (t := 27) rfl ?_ ?_
   ·intro hc7
    try simp only [nrm] at hc7
    refine R_guard (yl rfl rfl) ?_
    refine o_move rfl rfl ?_
    refine R_guard (yl rfl rfl) ?_
    refine o_move rfl rfl ?_
    refine R_guard (yl rfl rfl) ?_
    refine o_index_P i hlist Tryz.underlying23 Tryz.sizeOf117 rfl rfl rfl hi2 (by omega) ?_; intro b8 o8 z8 q8 hz8 hE8 hrow8
    obtain ⟨a8, m8, c8, rfl, hi8, hr8, hj8⟩ := hE8; have hn_hr8 := hr8.len; have hx_hr8 : _ ≤ 1099511627776 := hr8.lim
    have hzz : x = z8 := Option.some.inj (hi4.symm.trans hz8)
    subst hzz
    refine R_guard (yl rfl rfl) ?_
    refine o_fieldAddr 1 Tryz.runUnderlying117 rfl Tryz.sizeOf27 rfl rfl rfl ?_
    refine R_guard (yl rfl rfl) ?_
    refine o_load_P H Tryz.isAgg27 rfl rfl (hrow8 1 _ rfl) ?_
    refine R_guard (yl rfl rfl) ?_
    refine o_len_slice Tryz.underlying27 rfl rfl ?_
    refine R_guard (yl rfl rfl) ?_
    refine o_lss rfl rfl rfl ?_
    refine R_guard (yl rfl rfl) ?_
    refine o_pick_t rfl rfl rfl ?_
    refine o_pick_f rfl rfl rfl ?_
    refine q3 ?_
    refine W_cond rfl ?_ ?_
    ·intro hc9
     try simp only [nrm] at hc9
     refine q2 ?_
     refine o_assign rfl rfl ?_
     refine q3 ?_
     refine W_ret ?_
     refine N_B_ret ?_
     refine N_K_ret ?_
     refine N_LP_ret ?_
     refine N_B_ret ?_
     refine N_K_ret ?_
     refine ret_gen (rs := [.tmp 4]) (vs := [_]) Tryz.results141 ⟨rfl, trivial⟩ ?_
     exact H.rets (congrArg Value.bool (by rw [Sp.l4Ids, Sp.not_all_range (k := k) (by omega) (by simp [Sp.idsOk, hz3, hl, hi4]; omega)]; rfl))
    intro hc9'
    try simp only [nrm] at hc9'
    refine W_skip ?_
    refine N_B ?_
    refine N_K ?_
    refine W_region ?_
    refine o_move rfl rfl ?_
    refine o_add rfl rfl rfl ⟨by omega, by omega⟩ ?_
    refine o_assign rfl rfl ?_
    refine R_nil ?_
    refine N_LP (hJ := ⟨k + 1, _, rfl, hle1, H, ?inv, rfl⟩) (hM := ?hM) (hf := ?hf) (hm := ?hm)
    case hM => (repeat (first | exact Sub.nil | refine Sub.cons rfl ?_))
    case hf => (repeat (first | exact Sub.nil | refine Sub.cons rfl ?_))
    case hm => omega
    case inv => exact ⟨by omega, Sp.upto_succ hall (by simp [Sp.idsOk, hz3, hl, hi4]; omega)⟩
   intro hc7'
   try simp only [nrm] at hc7'
   refine R_pass rfl (yl_ne rfl rfl rfl) ?_
   refine R_pass rfl (yl_ne rfl rfl rfl) ?_
   refine R_pass rfl (yl_ne rfl rfl rfl) ?_
   refine R_pass rfl (yl_ne rfl rfl rfl) ?_
   refine R_pass rfl (yl_ne rfl rfl rfl) ?_
   refine R_pass rfl (yl_ne rfl rfl rfl) ?_
   refine R_pass rfl (yl_ne rfl rfl rfl) ?_
   refine R_guard (yl rfl rfl) ?_
   refine o_pick_f rfl rfl rfl ?_
   refine o_pick_f rfl rfl rfl ?_
   refine q3 ?_
   refine W_false rfl ?_
   refine W_skip ?_
   refine N_B ?_
   refine N_K ?_
   refine W_region ?_
   refine o_move rfl rfl ?_
   refine o_add rfl rfl rfl ⟨by omega, by omega⟩ ?_
   refine o_assign rfl rfl ?_
   refine R_nil ?_
   refine N_LP (hJ := ⟨k + 1, _, rfl, hle1, H, ?inv, rfl⟩) (hM := ?hM) (hf := ?hf) (hm := ?hm)
   case hM => (repeat (first | exact Sub.nil | refine Sub.cons rfl ?_))
   case hf => (repeat (first | exact Sub.nil | refine Sub.cons rfl ?_))
   case hm => omega
   case inv => exact ⟨by omega, Sp.upto_succ hall (by simp [Sp.idsOk, hz3, hl, hi4]; omega)⟩
  intro hc2'
  try simp only [nrm] at hc2'
  refine W_exit ?_
  refine N_K_exit ?_
  refine N_LP_exit ?_
  refine N_B_same ?_
  refine N_K ?_
  refine q2 ?_
  refine o_move rfl rfl ?_
  refine o_len_slice Tryz.underlying27 rfl rfl ?_
  refine o_leq rfl rfl rfl ?_
  refine o_assign rfl rfl ?_
  refine q3 ?_
  refine W_ret ?_
  refine ret_gen (rs := [.tmp 4]) (vs := [_]) Tryz.results141 ⟨rfl, trivial⟩ ?_
  exact H.rets (congrArg Value.bool (by rw [Sp.l4Ids, Sp.all_range (fun j hj => hall j (by omega)), Bool.true_and]; rw [Bool.eq_iff_iff]; simp; omega))
end Go.Proofs.Tst

namespace Go.Proofs.Tst
open Go Fw
theorem FileStore_c (w0 : World) (G0 : PH) (hG : PSub G0 w0) (vlist : Value) (list : List (BHeld)) (hlist : RdH G0 vlist list) (vbytes : Value) (bytes : List (Int)) (hbytes : RdI G0 vbytes bytes) (hS : bytes.length ≤ 1000000) :
  Calls Tryz.prog 88 #[vlist, vbytes] w0 (RetO w0 G0 (fun G v r => ∃ u u1, v = .tuple #[u, u1, .bool (Sp.FileStore list bytes).isSome] ∧ AccOf heldE 3 117 (((Sp.FileStore list bytes).map (·.1)).getD []) G u r ∧ RdI G u1 (((Sp.FileStore list bytes).map (·.2)).getD []))) := by
 obtain ⟨alist, klist, rfl⟩ := hlist.shape
 have hlimlist : list.length ≤ 1099511627776 := hlist.lim
 obtain ⟨abytes, kbytes, rfl⟩ := hbytes.shape
 have hlimbytes : bytes.length ≤ 1099511627776 := hbytes.lim
 have H := Hp.init hG
 refine calls_of_W (l := [.slice alist list.length klist, .slice abytes bytes.length kbytes]) Tryz.func88 rfl Tryz.ntmps88 rfl ?_
 refine q2 ?_
 refine o_assign rfl rfl ?_
 refine o_assign rfl rfl ?_
 refine o_assign rfl rfl ?_
 refine q3 ?_
 refine W_seq ?_
 refine q2 ?_
 refine o_move rfl rfl ?_
 refine o_call Tryz.call83 rfl rfl (StoreValid_c _ _ H.sub _ _ hlist ) ?_
 rintro _ w1 ⟨rfl, ew1⟩; have H := H.step ew1; refine ⟨_, rfl, ?_⟩
 refine o_not rfl rfl ?_
 refine o_move rfl rfl ?_
 refine R_case (t := 17) rfl ?_ ?_
 ·intro hc2
  try simp only [nrm] at hc2
  refine R_pass rfl (yl_ne rfl rfl rfl) ?_
  refine R_pass rfl (yl_ne rfl rfl rfl) ?_
  refine R_pass rfl (yl_ne rfl rfl rfl) ?_
  refine o_pick_t rfl rfl rfl ?_
  refine q3 ?_
  refine W_true rfl ?_
  refine q2 ?_
  refine o_buildSlice H Tryz.underlying23 Tryz.sizeOf117 (fun w => ⟨_, Tryz.zeroValue117 w, rfl⟩) rfl rfl rfl rfl rfl rfl rfl ?_; intro b3 w3 hb3 H
  have H := H.blkAcc 3 (k := 0) (n := 0) rfl rfl (by decide)
  refine o_buildSlice H Tryz.underlying27 Tryz.sizeOf3 (fun w => ⟨_, Tryz.zeroValue3 w, rfl⟩) rfl rfl rfl rfl rfl rfl rfl ?_; intro b4 w4 hb4 H
  have H := H.blkAcc 1 (k := 0) (n := 0) rfl rfl (by decide)
  refine o_assign rfl rfl ?_
  refine o_assign rfl rfl ?_
  refine o_assign rfl rfl ?_
  refine q3 ?_
  refine W_ret ?_
  refine N_K_ret ?_
  refine ret_gen (rs := [.tmp 4, .tmp 5, .tmp 6]) (vs := [_, _, _]) Tryz.results88 ⟨rfl, rfl, rfl, trivial⟩ ?_
  obtain ⟨G505, H, hsg505, hsr505⟩ := H.shut' (k := 0) rfl (Chk.nil (E := intE) (sz := 1) (G := G0)) (by first | assumption | (simp; done) | (simp; omega) | omega) (by first | assumption | (simp; done) | (simp; omega) | omega)
  have hlist := hlist.up hsg505
  have hbytes := hbytes.up hsg505
  have hY : Sp.FileStore list bytes = none := by simp [Sp.FileStore, hc2]
  exact H.retO (k := 0) rfl (by rw [hY]; exact ⟨_, _, rfl, AccOf.mk (by first | rfl | assumption | (simp; done) | (simp; omega) | omega) (Chk.nil (E := heldE) (sz := 3) (G := G505)), hsr505⟩) (acc_nd _ _ _ _ _)
 intro hc2'
 try simp only [nrm] at hc2'
 refine R_guard (yl rfl rfl) ?_
 refine o_move rfl rfl ?_
 refine R_guard (yl rfl rfl) ?_
 refine o_call Tryz.call35 rfl rfl (FileValid_c _ _ H.sub _ _ hbytes ) ?_
 rintro _ w5 ⟨rfl, ew5⟩; have H := H.step ew5; refine ⟨_, rfl, ?_⟩
 refine R_guard (yl rfl rfl) ?_
 refine o_not rfl rfl ?_
 refine o_pick_f rfl rfl rfl ?_
 refine q3 ?_
 refine W_cond rfl ?_ ?_
 ·intro hc6
  try simp only [nrm] at hc6
  refine q2 ?_
  refine o_buildSlice H Tryz.underlying23 Tryz.sizeOf117 (fun w => ⟨_, Tryz.zeroValue117 w, rfl⟩) rfl rfl rfl rfl rfl rfl rfl ?_; intro b7 w7 hb7 H
  have H := H.blkAcc 3 (k := 0) (n := 0) rfl rfl (by decide)
  refine o_buildSlice H Tryz.underlying27 Tryz.sizeOf3 (fun w => ⟨_, Tryz.zeroValue3 w, rfl⟩) rfl rfl rfl rfl rfl rfl rfl ?_; intro b8 w8 hb8 H
  have H := H.blkAcc 1 (k := 0) (n := 0) rfl rfl (by decide)
  refine o_assign rfl rfl ?_
  refine o_assign rfl rfl ?_
  refine o_assign rfl rfl ?_
  refine q3 ?_
  refine W_ret ?_
  refine N_K_ret ?_
  refine ret_gen (rs := [.tmp 4, .tmp 5, .tmp 6]) (vs := [_, _, _]) Tryz.results88 ⟨rfl, rfl, rfl, trivial⟩ ?_
  obtain ⟨G509, H, hsg509, hsr509⟩ := H.shut' (k := 0) rfl (Chk.nil (E := intE) (sz := 1) (G := G0)) (by first | assumption | (simp; done) | (simp; omega) | omega) (by first | assumption | (simp; done) | (simp; omega) | omega)
  have hlist := hlist.up hsg509
  have hbytes := hbytes.up hsg509
  have hY : Sp.FileStore list bytes = none := by simp [Sp.FileStore, hc6]
  exact H.retO (k := 0) rfl (by rw [hY]; exact ⟨_, _, rfl, AccOf.mk (by first | rfl | assumption | (simp; done) | (simp; omega) | omega) (Chk.nil (E := heldE) (sz := 3) (G := G509)), hsr509⟩) (acc_nd _ _ _ _ _)
 intro hc6'
 try simp only [nrm] at hc6'
 refine W_skip ?_
 refine N_K ?_
 refine q2 ?_
 refine o_move rfl rfl ?_
 refine o_call Tryz.call48 rfl rfl (l3Copy_c _ _ H.sub _ _ hlist ) ?_
 rintro _ w9 ⟨G9, v9, _, g9, rfl, ⟨cs9, rfl, hchk9⟩, hp9, hq9, hs9⟩
 have H := H.growO g9 hp9 hq9 hs9; obtain ⟨av9, cv9, rfl⟩ := H.accShape (k := 0) rfl
 have hlist := hlist.up g9.le
 have hbytes := hbytes.up g9.le
 refine ⟨_, rfl, ?_⟩
 refine o_assign rfl rfl ?_
 refine q1 ?_
 refine o_buildSlice H Tryz.underlying27 Tryz.sizeOf3 (fun w => ⟨_, Tryz.zeroValue3 w, rfl⟩) rfl rfl rfl rfl rfl rfl rfl ?_; intro b10 w10 hb10 H
 have H := H.blkAcc 1 (k := 0) (n := 0) rfl rfl (by decide)
 refine o_assign rfl rfl ?_
 refine q1 ?_
 refine o_move rfl rfl ?_
 refine o_call Tryz.call142 rfl rfl (l4Cut_c _ _ H.sub _ _ hbytes (by omega)) ?_
 rintro _ w11 ⟨G11, u11_0, g11, rfl, hr11_0⟩
 have H := H.grow g11
 have hlist := hlist.up g11.le
 have hbytes := hbytes.up g11.le
 have hchk9 := hchk9.up g11.le
 obtain ⟨a11_0, k11_0, rfl⟩ := hr11_0.shape; have hx_hr11_0 : _ ≤ 1099511627776 := hr11_0.lim
 refine ⟨_, rfl, ?_⟩
 refine o_assign rfl rfl ?_
 refine q3 ?_
 refine W_seq ?_
 refine q2 ?_
 refine o_assign rfl rfl ?_
 refine q3 ?_
 refine W_block ?_
 refine W_loop (hf := (Sub.cons (t := 9) rfl Sub.nil)) (J := fun M w m => ∃ (v : Value) (n : Nat) (cs : List Value) (xs : List (BHeld)) (v1 : Value) (n1 : Nat) (cs1 : List Value) (xs1 : List (Int)) (k : Nat) (G : PH), M = [(10, .int .i64 (k : Int)), (7, v), (8, v1)] ∧ PLe G11 G ∧ Hp w0 G0 [] w G [acc 3 1 v1 n1 cs1, acc 117 3 v n cs] ∧ (Chk heldE 3 G cs xs ∧ n = xs.length ∧ Chk intE 1 G cs1 xs1 ∧ n1 = xs1.length ∧ k ≤ (Sp.l4Cut bytes).length ∧ xs.length ≤ 1000 ∧ xs1.length ≤ k ∧ Sp.foldB Sp.put1 ((Sp.l4Cut bytes).take k) (some (list, [])) = some (xs, xs1)) ∧ m = ((Sp.l4Cut bytes).length - k)) (h0 := ⟨_, _, _, list, _, _, _, [], 0, _, rfl, PLe.refl _, H, ?inv, rfl⟩) (hM := ?hM) (round := ?round)
 case hM => (repeat (first | exact Sub.nil | refine Sub.cons rfl ?_))
 case inv => exact ⟨hchk9, (by first | rfl | simp | (simp; omega) | omega), (Chk.nil (E := intE) (sz := 1) (G := G11)),  by first | rfl | simp | (simp; omega) | omega, (by exact ⟨by omega, by have := Sp.valid_len hc2'; omega, by simp, by simp [Sp.foldB]⟩)⟩
 case round =>
  rintro _ w12 _ ⟨v, n, cs, xs, v1, n1, cs1, xs1, k, G12, rfl, hle12, H, hinv12, rfl⟩
  have hlist := hlist.up hle12
  have hbytes := hbytes.up hle12
  have hchk9 := hchk9.up hle12
  have hr11_0 := hr11_0.up hle12
  obtain ⟨hchk12_0, hn12_0, hinv12⟩ := hinv12
  obtain ⟨av12_0, cv12_0, rfl⟩ := H.accShape (k := 1) rfl
  obtain ⟨hchk12_1, hn12_1, hinv12⟩ := hinv12
  obtain ⟨av12_1, cv12_1, rfl⟩ := H.accShape (k := 0) rfl
  obtain ⟨hk, hxl, hil, hf⟩ := hinv12
  refine W_seq ?_
  refine q2 ?_
  refine o_move rfl rfl ?_
  refine o_move rfl rfl ?_
  refine o_len_slice Tryz.underlying193 rfl rfl ?_
  refine o_lss rfl rfl rfl ?_
  refine q3 ?_
  refine W_cond rfl ?_ ?_
  ·intro hc13
   try simp only [nrm] at hc13
   refine W_skip ?_
   refine N_K ?_
   refine W_seq ?_
   refine W_block ?_
   refine q2 ?_
   refine o_move rfl rfl ?_
   refine o_move rfl rfl ?_
   refine o_move rfl rfl ?_
   refine o_index_P _ hr11_0 Tryz.underlying193 Tryz.sizeOf27 rfl rfl rfl rfl (by omega) ?_; intro b14 o14 z14 q14 hz14 hE14 hrow14
   obtain ⟨a14, m14, c14, rfl, hr14⟩ := hE14; have hn_hr14 := hr14.len; have hx_hr14 : _ ≤ 1099511627776 := hr14.lim
   refine o_load_P H Tryz.isAgg27 rfl rfl (hrow14 0 _ rfl) ?_
   obtain ⟨G16, H, hsg16, hsr16⟩ := H.shut' (k := 1) rfl hchk12_0 (by first | assumption | (simp; done) | (simp; omega) | omega) (by first | assumption | (simp; done) | (simp; omega) | omega)
   have hlist := hlist.up hsg16
   have hbytes := hbytes.up hsg16
   have hchk9 := hchk9.up hsg16
   have hr11_0 := hr11_0.up hsg16
   have hchk12_0 := hchk12_0.up hsg16
   have hchk12_1 := hchk12_1.up hsg16
   have hr14 := hr14.up hsg16
   have hrow14 := hrow14.up hsg16
   have hle12 := hle12.trans hsg16
   refine o_call Tryz.call143 rfl rfl (StorePut_c _ _ H.sub _ _ hsr16 _ _ hr14 (by omega)) ?_
   rintro _ w15 ⟨G15, _, _, g15, rfl, ⟨u15_0, rfl, ⟨cs15, rfl, hchk15⟩, ⟨hfa15, hfb15⟩⟩, hp15, hq15, hs15⟩
   have H := H.growO g15 hp15 hq15 hs15; obtain ⟨av15, cv15, rfl⟩ := H.accShape (k := 0) rfl
   have hlist := hlist.up g15.le
   have hbytes := hbytes.up g15.le
   have hchk9 := hchk9.up g15.le
   have hr11_0 := hr11_0.up g15.le
   have hchk12_0 := hchk12_0.up g15.le
   have hchk12_1 := hchk12_1.up g15.le
   have hr14 := hr14.up g15.le
   have hrow14 := hrow14.up g15.le
   have hsr16 := hsr16.up g15.le
   have hle12 := hle12.trans g15.le
   refine ⟨_, rfl, ?_⟩
   refine o_move rfl rfl ?_
   refine o_extract rfl rfl rfl ?_
   refine o_extract rfl rfl rfl ?_
   refine o_extract rfl rfl rfl ?_
   refine o_assign rfl rfl ?_
   refine o_assign rfl rfl ?_
   refine o_assign rfl rfl ?_
   refine q3 ?_
   refine W_seq ?_
   refine q2 ?_
   refine o_move rfl rfl ?_
   refine o_not rfl rfl ?_
   refine q3 ?_
   refine W_cond rfl ?_ ?_
   ·intro hc17
    try simp only [nrm] at hc17
    refine q2 ?_
    refine o_buildSlice H Tryz.underlying23 Tryz.sizeOf117 (fun w => ⟨_, Tryz.zeroValue117 w, rfl⟩) rfl rfl rfl rfl rfl rfl rfl ?_; intro b18 w18 hb18 H
    have H := H.blkAcc 3 (k := 0) (n := 0) rfl rfl (by decide)
    refine o_buildSlice H Tryz.underlying27 Tryz.sizeOf3 (fun w => ⟨_, Tryz.zeroValue3 w, rfl⟩) rfl rfl rfl rfl rfl rfl rfl ?_; intro b19 w19 hb19 H
    have H := H.blkAcc 1 (k := 0) (n := 0) rfl rfl (by decide)
    refine o_assign rfl rfl ?_
    refine o_assign rfl rfl ?_
    refine o_assign rfl rfl ?_
    refine q3 ?_
    refine W_ret ?_
    refine N_K_ret ?_
    refine N_B_ret ?_
    refine N_K_ret ?_
    refine N_LP_ret ?_
    refine N_B_ret ?_
    refine N_K_ret ?_
    refine ret_gen (rs := [.tmp 4, .tmp 5, .tmp 6]) (vs := [_, _, _]) Tryz.results88 ⟨rfl, rfl, rfl, trivial⟩ ?_
    obtain ⟨G520, H, hsg520, hsr520⟩ := H.shut' (k := 0) rfl (Chk.nil (E := intE) (sz := 1) (G := G15)) (by first | assumption | (simp; done) | (simp; omega) | omega) (by first | assumption | (simp; done) | (simp; omega) | omega)
    have hlist := hlist.up hsg520
    have hbytes := hbytes.up hsg520
    have hchk9 := hchk9.up hsg520
    have hr11_0 := hr11_0.up hsg520
    have hchk12_0 := hchk12_0.up hsg520
    have hchk12_1 := hchk12_1.up hsg520
    have hr14 := hr14.up hsg520
    have hrow14 := hrow14.up hsg520
    have hsr16 := hsr16.up hsg520
    have hchk15 := hchk15.up hsg520
    have hle12 := hle12.trans hsg520
    have hY : Sp.FileStore list bytes = none := by (have hno : Sp.StorePut xs z14 = none := by simpa using hc17); simp only [Sp.FileStore, hc2', hc6', Bool.and_self, if_true]; exact Sp.foldB_stop hf hz14 (by simp [Sp.put1, hno])
    exact H.retO (k := 0) rfl (by rw [hY]; exact ⟨_, _, rfl, AccOf.mk (by first | rfl | assumption | (simp; done) | (simp; omega) | omega) (Chk.nil (E := heldE) (sz := 3) (G := G520)), hsr520⟩) (acc_nd _ _ _ _ _)
   intro hc17'
   try simp only [nrm] at hc17'
   obtain ⟨p, hsp⟩ := Option.isSome_iff_exists.1 hc17'
   rw [hsp] at H hchk15 hfa15 hfb15 ⊢
   dsimp only [Option.map, Option.getD] at H hchk15 hfa15 hfb15
   refine W_skip ?_
   refine N_K ?_
   refine q2 ?_
   refine o_move rfl rfl ?_
   refine o_assign rfl rfl ?_
   refine q3 ?_
   refine W_region ?_
   refine o_move rfl rfl ?_
   refine o_move rfl rfl ?_
   refine o_buildSlice H Tryz.underlying27 Tryz.sizeOf3 (fun w => ⟨_, Tryz.zeroValue3 w, rfl⟩) rfl rfl rfl rfl rfl rfl rfl ?_; intro b20 w20 hb20 H
   refine o_append1 1 H (sz := 1) (bytes := 8) Tryz.underlying27 Tryz.typeInfo3 ⟨_, rfl, rfl⟩ rfl rfl rfl rfl rfl rfl rfl rfl rfl rfl (by omega) rfl ?_; intro v21 w21 H
   have hchk21 := hchk12_1.snoc (show intE _ p.2 _ from ⟨rfl, ⟨by omega, by omega⟩⟩) rfl
   obtain ⟨av21, cv21, rfl⟩ := H.accShape (k := 1) rfl
   refine o_assign rfl rfl ?_
   refine R_nil ?_
   refine N_B ?_
   refine N_K ?_
   refine W_region ?_
   refine o_move rfl rfl ?_
   refine o_add rfl rfl rfl ⟨by omega, by omega⟩ ?_
   refine o_assign rfl rfl ?_
   refine R_nil ?_
   have H := H.toFront (k := 1) rfl
   refine N_LP (hJ := ⟨_, _, _, p.1, _, _, _, (xs1 ++ [p.2]), k + 1, _, rfl, hle12, H, ?inv, rfl⟩) (hM := ?hM) (hf := ?hf) (hm := ?hm)
   case hM => (repeat (first | exact Sub.nil | refine Sub.cons rfl ?_))
   case hf => (repeat (first | exact Sub.nil | refine Sub.cons rfl ?_))
   case hm => omega
   case inv => exact ⟨hchk15, (by first | assumption | (simp; omega) | omega), hchk21, (by first | assumption | (simp; omega) | omega), (by exact ⟨by omega, by have := Sp.put_len hsp; omega, by simp; omega, Sp.foldB_succ hf hz14 (by simp [Sp.put1, hsp])⟩)⟩
  intro hc13'
  try simp only [nrm] at hc13'
  refine W_exit ?_
  refine N_K_exit ?_
  refine N_LP_exit ?_
  refine N_B_same ?_
  refine N_K ?_
  refine q2 ?_
  refine o_move rfl rfl ?_
  refine o_move rfl rfl ?_
  refine o_assign rfl rfl ?_
  refine o_assign rfl rfl ?_
  refine o_assign rfl rfl ?_
  refine q3 ?_
  refine W_ret ?_
  refine ret_gen (rs := [.tmp 4, .tmp 5, .tmp 6]) (vs := [_, _, _]) Tryz.results88 ⟨rfl, rfl, rfl, trivial⟩ ?_
  obtain ⟨G523, H, hsg523, hsr523⟩ := H.shut' (k := 0) rfl hchk12_1 (by first | assumption | (simp; done) | (simp; omega) | omega) (by first | assumption | (simp; done) | (simp; omega) | omega)
  have hlist := hlist.up hsg523
  have hbytes := hbytes.up hsg523
  have hchk9 := hchk9.up hsg523
  have hr11_0 := hr11_0.up hsg523
  have hchk12_0 := hchk12_0.up hsg523
  have hchk12_1 := hchk12_1.up hsg523
  have hle12 := hle12.trans hsg523
  have hY : Sp.FileStore list bytes = some (xs, xs1) := by simp only [Sp.FileStore, hc2', hc6', Bool.and_self, if_true]; exact Sp.foldB_all hf (by omega)
  exact H.retO (k := 0) rfl (by rw [hY]; exact ⟨_, _, rfl, AccOf.mk (by first | rfl | assumption | (simp; done) | (simp; omega) | omega) hchk12_0, hsr523⟩) (acc_nd _ _ _ _ _)
end Go.Proofs.Tst

namespace Go.Proofs.Tst
open Go Fw
theorem FileFree_c (w0 : World) (G0 : PH) (hG : PSub G0 w0) (vlist : Value) (list : List (BHeld)) (hlist : RdH G0 vlist list) (vids : Value) (ids : List (Int)) (hids : RdI G0 vids ids)  :
  Calls Tryz.prog 90 #[vlist, vids] w0 (RetO w0 G0 (fun G v r => ∃ u, v = .tuple #[u, .bool (Sp.FileFree list ids).isSome] ∧ AccOf heldE 3 117 ((Sp.FileFree list ids).getD []) G u r)) := by
 obtain ⟨alist, klist, rfl⟩ := hlist.shape
 have hlimlist : list.length ≤ 1099511627776 := hlist.lim
 obtain ⟨aids, kids, rfl⟩ := hids.shape
 have hlimids : ids.length ≤ 1099511627776 := hids.lim
 have H := Hp.init hG
 refine calls_of_W (l := [.slice alist list.length klist, .slice aids ids.length kids]) Tryz.func90 rfl Tryz.ntmps90 rfl ?_
 refine q2 ?_
 refine o_assign rfl rfl ?_
 refine o_assign rfl rfl ?_
 refine q3 ?_
 refine W_seq ?_
 refine q2 ?_
 refine o_move rfl rfl ?_
 refine o_call Tryz.call83 rfl rfl (StoreValid_c _ _ H.sub _ _ hlist ) ?_
 rintro _ w1 ⟨rfl, ew1⟩; have H := H.step ew1; refine ⟨_, rfl, ?_⟩
 refine o_not rfl rfl ?_
 refine o_move rfl rfl ?_
 refine R_case (t := 13) rfl ?_ ?_
 ·intro hc2
  try simp only [nrm] at hc2
  refine R_pass rfl (yl_ne rfl rfl rfl) ?_
  refine R_pass rfl (yl_ne rfl rfl rfl) ?_
  refine R_pass rfl (yl_ne rfl rfl rfl) ?_
  refine R_pass rfl (yl_ne rfl rfl rfl) ?_
  refine o_pick_t rfl rfl rfl ?_
  refine q3 ?_
  refine W_true rfl ?_
  refine q2 ?_
  refine o_buildSlice H Tryz.underlying23 Tryz.sizeOf117 (fun w => ⟨_, Tryz.zeroValue117 w, rfl⟩) rfl rfl rfl rfl rfl rfl rfl ?_; intro b3 w3 hb3 H
  have H := H.blkAcc 3 (k := 0) (n := 0) rfl rfl (by decide)
  refine o_assign rfl rfl ?_
  refine o_assign rfl rfl ?_
  refine q3 ?_
  refine W_ret ?_
  refine N_K_ret ?_
  refine ret_gen (rs := [.tmp 4, .tmp 5]) (vs := [_, _]) Tryz.results90 ⟨rfl, rfl, trivial⟩ ?_
  have hN : Sp.FileFree list ids = none := by simp [Sp.FileFree, hc2]
  exact H.retO (k := 0) rfl (by rw [hN]; exact ⟨_, rfl, AccOf.mk (by first | rfl | assumption | (simp; done) | (simp; omega) | omega) (Chk.nil (E := heldE) (sz := 3) (G := G0))⟩) (acc_nd _ _ _ _ _)
 intro hc2'
 try simp only [nrm] at hc2'
 refine R_guard (yl rfl rfl) ?_
 refine o_move rfl rfl ?_
 refine R_guard (yl rfl rfl) ?_
 refine o_move rfl rfl ?_
 refine R_guard (yl rfl rfl) ?_
 refine o_call Tryz.call141 rfl rfl (l4Ids_c _ _ H.sub _ _ hlist _ _ hids ) ?_
 rintro _ w4 ⟨rfl, ew4⟩; have H := H.step ew4; refine ⟨_, rfl, ?_⟩
 refine R_guard (yl rfl rfl) ?_
 refine o_not rfl rfl ?_
 refine o_pick_f rfl rfl rfl ?_
 refine q3 ?_
 refine W_cond rfl ?_ ?_
 ·intro hc5
  try simp only [nrm] at hc5
  refine q2 ?_
  refine o_buildSlice H Tryz.underlying23 Tryz.sizeOf117 (fun w => ⟨_, Tryz.zeroValue117 w, rfl⟩) rfl rfl rfl rfl rfl rfl rfl ?_; intro b6 w6 hb6 H
  have H := H.blkAcc 3 (k := 0) (n := 0) rfl rfl (by decide)
  refine o_assign rfl rfl ?_
  refine o_assign rfl rfl ?_
  refine q3 ?_
  refine W_ret ?_
  refine N_K_ret ?_
  refine ret_gen (rs := [.tmp 4, .tmp 5]) (vs := [_, _]) Tryz.results90 ⟨rfl, rfl, trivial⟩ ?_
  have hN : Sp.FileFree list ids = none := by simp [Sp.FileFree, hc5]
  exact H.retO (k := 0) rfl (by rw [hN]; exact ⟨_, rfl, AccOf.mk (by first | rfl | assumption | (simp; done) | (simp; omega) | omega) (Chk.nil (E := heldE) (sz := 3) (G := G0))⟩) (acc_nd _ _ _ _ _)
 intro hc5'
 try simp only [nrm] at hc5'
 refine W_skip ?_
 refine N_K ?_
 refine q2 ?_
 refine o_move rfl rfl ?_
 refine o_call Tryz.call48 rfl rfl (l3Copy_c _ _ H.sub _ _ hlist ) ?_
 rintro _ w7 ⟨G7, v7, _, g7, rfl, ⟨cs7, rfl, hchk7⟩, hp7, hq7, hs7⟩
 have H := H.growO g7 hp7 hq7 hs7; obtain ⟨av7, cv7, rfl⟩ := H.accShape (k := 0) rfl
 have hlist := hlist.up g7.le
 have hids := hids.up g7.le
 refine ⟨_, rfl, ?_⟩
 refine o_assign rfl rfl ?_
 refine q3 ?_
 refine W_seq ?_
 refine q2 ?_
 refine o_assign rfl rfl ?_
 refine q3 ?_
 refine W_block ?_
 refine W_loop (hf := (Sub.cons (t := 1) rfl Sub.nil)) (J := fun M w m => ∃ (v : Value) (n : Nat) (cs : List Value) (xs : List (BHeld)) (k : Nat) (G : PH), M = [(7, .int .i64 (k : Int)), (6, v)] ∧ PLe G7 G ∧ Hp w0 G0 [] w G [acc 117 3 v n cs] ∧ (Chk heldE 3 G cs xs ∧ n = xs.length ∧ k ≤ ids.length ∧ xs.length ≤ 1000 ∧ Sp.foldB Sp.StoreDrop (ids.take k) (some list) = some xs) ∧ m = (ids.length - k)) (h0 := ⟨_, _, _, list, 0, _, rfl, PLe.refl _, H, ?inv, rfl⟩) (hM := ?hM) (round := ?round)
 case hM => (repeat (first | exact Sub.nil | refine Sub.cons rfl ?_))
 case inv => exact ⟨hchk7,  by first | rfl | simp | (simp; omega) | omega, (by exact ⟨by omega, by have := Sp.valid_len hc2'; omega, by simp [Sp.foldB]⟩)⟩
 case round =>
  rintro _ w8 _ ⟨v, n, cs, xs, k, G8, rfl, hle8, H, hinv8, rfl⟩
  have hlist := hlist.up hle8
  have hids := hids.up hle8
  have hchk7 := hchk7.up hle8
  obtain ⟨hchk8_0, hn8_0, hinv8⟩ := hinv8
  obtain ⟨av8_0, cv8_0, rfl⟩ := H.accShape (k := 0) rfl
  obtain ⟨hk, hxl, hf⟩ := hinv8
  refine W_seq ?_
  refine q2 ?_
  refine o_move rfl rfl ?_
  refine o_move rfl rfl ?_
  refine o_len_slice Tryz.underlying27 rfl rfl ?_
  refine o_lss rfl rfl rfl ?_
  refine q3 ?_
  refine W_cond rfl ?_ ?_
  ·intro hc9
   try simp only [nrm] at hc9
   refine W_skip ?_
   refine N_K ?_
   refine W_seq ?_
   refine W_block ?_
   refine q2 ?_
   refine o_move rfl rfl ?_
   refine o_move rfl rfl ?_
   refine o_move rfl rfl ?_
   refine o_index_P _ hids Tryz.underlying27 Tryz.sizeOf3 rfl rfl rfl rfl (by omega) ?_; intro b10 o10 z10 q10 hz10 hE10 hrow10
   obtain ⟨rfl, hi10⟩ := hE10
   refine o_load_P H Tryz.isAgg3 rfl rfl (hrow10 0 _ rfl) ?_
   obtain ⟨G12, H, hsg12, hsr12⟩ := H.shut' (k := 0) rfl hchk8_0 (by first | assumption | (simp; done) | (simp; omega) | omega) (by first | assumption | (simp; done) | (simp; omega) | omega)
   have hlist := hlist.up hsg12
   have hids := hids.up hsg12
   have hchk7 := hchk7.up hsg12
   have hchk8_0 := hchk8_0.up hsg12
   have hrow10 := hrow10.up hsg12
   have hle8 := hle8.trans hsg12
   refine o_call Tryz.call144 rfl rfl (StoreDrop_c _ _ H.sub _ _ hsr12 _ ) ?_
   rintro _ w11 ⟨G11, _, _, g11, rfl, ⟨u11_0, rfl, ⟨cs11, rfl, hchk11⟩⟩, hp11, hq11, hs11⟩
   have H := H.growO g11 hp11 hq11 hs11; obtain ⟨av11, cv11, rfl⟩ := H.accShape (k := 0) rfl
   have hlist := hlist.up g11.le
   have hids := hids.up g11.le
   have hchk7 := hchk7.up g11.le
   have hchk8_0 := hchk8_0.up g11.le
   have hrow10 := hrow10.up g11.le
   have hsr12 := hsr12.up g11.le
   have hle8 := hle8.trans g11.le
   refine ⟨_, rfl, ?_⟩
   refine o_move rfl rfl ?_
   refine o_extract rfl rfl rfl ?_
   refine o_extract rfl rfl rfl ?_
   refine o_assign rfl rfl ?_
   refine o_assign rfl rfl ?_
   refine q3 ?_
   refine W_seq ?_
   refine q2 ?_
   refine o_move rfl rfl ?_
   refine o_not rfl rfl ?_
   refine q3 ?_
   refine W_cond rfl ?_ ?_
   ·intro hc13
    try simp only [nrm] at hc13
    refine q2 ?_
    refine o_buildSlice H Tryz.underlying23 Tryz.sizeOf117 (fun w => ⟨_, Tryz.zeroValue117 w, rfl⟩) rfl rfl rfl rfl rfl rfl rfl ?_; intro b14 w14 hb14 H
    have H := H.blkAcc 3 (k := 0) (n := 0) rfl rfl (by decide)
    refine o_assign rfl rfl ?_
    refine o_assign rfl rfl ?_
    refine q3 ?_
    refine W_ret ?_
    refine N_K_ret ?_
    refine N_B_ret ?_
    refine N_K_ret ?_
    refine N_LP_ret ?_
    refine N_B_ret ?_
    refine N_K_ret ?_
    refine ret_gen (rs := [.tmp 4, .tmp 5]) (vs := [_, _]) Tryz.results90 ⟨rfl, rfl, trivial⟩ ?_
    have hN : Sp.FileFree list ids = none := by (have hno : Sp.StoreDrop xs z10 = none := by simpa using hc13); simp only [Sp.FileFree, hc2', hc5', Bool.and_self, if_true]; exact Sp.foldB_stop hf hz10 hno
    exact H.retO (k := 0) rfl (by rw [hN]; exact ⟨_, rfl, AccOf.mk (by first | rfl | assumption | (simp; done) | (simp; omega) | omega) (Chk.nil (E := heldE) (sz := 3) (G := G11))⟩) (acc_nd _ _ _ _ _)
   intro hc13'
   try simp only [nrm] at hc13'
   obtain ⟨p, hsp⟩ := Option.isSome_iff_exists.1 hc13'
   rw [hsp] at H hchk11 ⊢
   dsimp only [Option.map, Option.getD] at H hchk11
   refine W_skip ?_
   refine N_K ?_
   refine W_region ?_
   refine o_move rfl rfl ?_
   refine o_assign rfl rfl ?_
   refine R_nil ?_
   refine N_B ?_
   refine N_K ?_
   refine W_region ?_
   refine o_move rfl rfl ?_
   refine o_add rfl rfl rfl ⟨by omega, by omega⟩ ?_
   refine o_assign rfl rfl ?_
   refine R_nil ?_
   refine N_LP (hJ := ⟨_, _, _, p, k + 1, _, rfl, hle8, H, ?inv, rfl⟩) (hM := ?hM) (hf := ?hf) (hm := ?hm)
   case hM => (repeat (first | exact Sub.nil | refine Sub.cons rfl ?_))
   case hf => (repeat (first | exact Sub.nil | refine Sub.cons rfl ?_))
   case hm => omega
   case inv => exact ⟨hchk11, (by first | assumption | (simp; omega) | omega), (by exact ⟨by omega, by have := Sp.drop_len hsp; omega, Sp.foldB_succ hf hz10 hsp⟩)⟩
  intro hc9'
  try simp only [nrm] at hc9'
  refine W_exit ?_
  refine N_K_exit ?_
  refine N_LP_exit ?_
  refine N_B_same ?_
  refine N_K ?_
  refine q2 ?_
  refine o_move rfl rfl ?_
  refine o_assign rfl rfl ?_
  refine o_assign rfl rfl ?_
  refine q3 ?_
  refine W_ret ?_
  refine ret_gen (rs := [.tmp 4, .tmp 5]) (vs := [_, _]) Tryz.results90 ⟨rfl, rfl, trivial⟩ ?_
  have hY : Sp.FileFree list ids = some xs := by simp only [Sp.FileFree, hc2', hc5', Bool.and_self, if_true]; exact Sp.foldB_all hf (by omega)
  exact H.retO (k := 0) rfl (by rw [hY]; exact ⟨_, rfl, AccOf.mk (by first | rfl | assumption | (simp; done) | (simp; omega) | omega) hchk8_0⟩) (acc_nd _ _ _ _ _)
end Go.Proofs.Tst

namespace Go.Proofs.Tst
open Go Fw
theorem l5Copy_c (w0 : World) (G0 : PH) (hG : PSub G0 w0) (cx : List Value) (x : BItem) (hx : itemE G0 x cx)  :
  Calls Tryz.prog 108 #[.agg cx.toArray] w0 (RetP w0 G0 (fun G v => ∃ cs, v = .agg cs.toArray ∧ itemE G x cs)) := by
 obtain ⟨a1, m1, c1, rfl, hi1, hr1⟩ := hx; have hy_hi1 : _ ≤ 16777216 := hi1; have hn_hr1 := hr1.len; have hx_hr1 : _ ≤ 1099511627776 := hr1.lim
 have H := Hp.init hG
 refine calls_of_W (l := [_]) Tryz.func108 rfl Tryz.ntmps108 rfl ?_
 refine q2 ?_
 refine o_box H rfl rfl rfl ?_; intro b2 w2 hb2 H
 refine o_alloc H Tryz.zeroValue39 rfl rfl ?_; intro b3 w3 hb3 H
 refine q1 ?_
 refine o_buildSlice H Tryz.underlying27 Tryz.sizeOf3 (fun w => ⟨_, Tryz.zeroValue3 w, rfl⟩) rfl rfl rfl rfl rfl rfl rfl ?_; intro b4 w4 hb4 H
 have H := H.blkAcc 1 (k := 0) (n := 0) rfl rfl (by decide)
 refine o_fieldAddr 2 Tryz.runUnderlying39 rfl Tryz.sizeOf27 rfl rfl rfl ?_
 refine o_load_B 2 H Tryz.isAgg27 rfl rfl rfl rfl ?_
 refine o_append_P 0 H hr1 (by intro z cs hz u hu; obtain ⟨rfl, _⟩ := hz; simp at hu; subst hu; rfl) (sz := 1) (bytes := 8) Tryz.underlying27 Tryz.typeInfo3 ⟨_, rfl, rfl⟩ rfl rfl rfl rfl rfl rfl rfl (by omega) rfl ?_; intro v5 w5 css5 hcl5 hcs5 H
 have hchk5 : Chk intE 1 G0 ([] ++ css5.flatten) _ := ⟨css5, rfl, hcl5, hcs5⟩
 obtain ⟨av5, cv5, rfl⟩ := H.accShape (k := 0) rfl
 refine o_fieldAddr 2 Tryz.runUnderlying39 rfl Tryz.sizeOf27 rfl rfl rfl ?_
 refine o_store_B 2 H Tryz.sizeOf27 rfl rfl rfl rfl rfl rfl rfl rfl ?_; intro w6 H
 refine q1 ?_
 refine o_loadagg_B 2 H Tryz.isAgg39 Tryz.sizeOf39 rfl rfl rfl rfl rfl ?_
 refine o_store_B 1 H Tryz.sizeOf39 rfl rfl rfl rfl rfl rfl rfl rfl ?_; intro w7 H
 refine q3 ?_
 refine W_ret ?_
 refine ret_gen (rs := [.cell 2 39]) (vs := [_]) Tryz.results108 ⟨⟨_, rfl, load_blk 1 H Tryz.isAgg39 Tryz.sizeOf39 rfl rfl rfl⟩, trivial⟩ ?_
 obtain ⟨G508, H, hsg508, hsr508⟩ := H.shut' (k := 0) rfl hchk5 (by first | assumption | (simp; done) | (simp; omega) | omega) (by first | assumption | (simp; done) | (simp; omega) | omega)
 have hr1 := hr1.up hsg508
 have hchk5 := hchk5.up hsg508
 exact H.retP ⟨_, rfl, ⟨_, _, _, rfl, hi1, hsr508⟩⟩
end Go.Proofs.Tst

namespace Go.Proofs.Tst
open Go Fw
theorem l5All_c (w0 : World) (G0 : PH) (hG : PSub G0 w0) (vlist : Value) (list : List (BItem)) (hlist : RdItems G0 vlist list)  :
  Calls Tryz.prog 57 #[vlist] w0 (RetO w0 G0 (AccOf itemE 3 39 list)) := by
 obtain ⟨alist, klist, rfl⟩ := hlist.shape
 have hlimlist : list.length ≤ 1099511627776 := hlist.lim
 have H := Hp.init hG
 refine calls_of_W (l := [.slice alist list.length klist]) Tryz.func57 rfl Tryz.ntmps57 rfl ?_
 refine q2 ?_
 refine o_assign rfl rfl ?_
 refine q1 ?_
 refine o_buildSlice H Tryz.underlying24 Tryz.sizeOf39 (fun w => ⟨_, Tryz.zeroValue39 w, rfl⟩) rfl rfl rfl rfl rfl rfl rfl ?_; intro b1 w1 hb1 H
 have H := H.blkAcc 3 (k := 0) (n := 0) rfl rfl (by decide)
 refine o_assign rfl rfl ?_
 refine q3 ?_
 refine W_seq ?_
 refine q2 ?_
 refine o_assign rfl rfl ?_
 refine q3 ?_
 refine W_block ?_
 refine W_loop (hf := (Sub.cons (t := 0) rfl (Sub.cons (t := 2) rfl Sub.nil))) (J := fun M w m => ∃ (v : Value) (n : Nat) (cs : List Value) (xs : List (BItem)) (k : Nat) (G : PH), M = [(4, .int .i64 (k : Int)), (3, v)] ∧ PLe G0 G ∧ Hp w0 G0 [] w G [acc 39 3 v n cs] ∧ (Chk itemE 3 G cs xs ∧ n = xs.length ∧ k ≤ list.length ∧ xs.length = k ∧ xs = list.take k) ∧ m = (list.length - k)) (h0 := ⟨_, _, _, [], 0, _, rfl, PLe.refl _, H, ?inv, rfl⟩) (hM := ?hM) (round := ?round)
 case hM => (repeat (first | exact Sub.nil | refine Sub.cons rfl ?_))
 case inv => exact ⟨(Chk.nil (E := itemE) (sz := 3) (G := G0)),  by first | rfl | simp | (simp; omega) | omega, (by simp)⟩
 case round =>
  rintro _ w2 _ ⟨v, n, cs, xs, k, G2, rfl, hle2, H, hinv2, rfl⟩
  have hlist := hlist.up hle2
  obtain ⟨hchk2_0, hn2_0, hinv2⟩ := hinv2
  obtain ⟨av2_0, cv2_0, rfl⟩ := H.accShape (k := 0) rfl
  obtain ⟨hk, hxl, hxs⟩ := hinv2
  refine W_seq ?_
  refine q2 ?_
  refine o_move rfl rfl ?_
  refine o_move rfl rfl ?_
  refine o_len_slice Tryz.underlying24 rfl rfl ?_
  refine o_lss rfl rfl rfl ?_
  refine q3 ?_
  refine W_cond rfl ?_ ?_
  ·intro hc3
   try simp only [nrm] at hc3
   refine W_skip ?_
   refine N_K ?_
   refine W_seq ?_
   refine W_block ?_
   refine W_region ?_
   refine o_move rfl rfl ?_
   refine o_move rfl rfl ?_
   refine o_move rfl rfl ?_
   refine o_index_P _ hlist Tryz.underlying24 Tryz.sizeOf39 rfl rfl rfl rfl (by omega) ?_; intro b4 o4 z4 q4 hz4 hE4 hrow4
   obtain ⟨a4, m4, c4, rfl, hi4, hr4⟩ := hE4; have hy_hi4 : _ ≤ 16777216 := hi4; have hn_hr4 := hr4.len; have hx_hr4 : _ ≤ 1099511627776 := hr4.lim
   refine o_loadagg_P H Tryz.isAgg39 Tryz.sizeOf39 rfl rfl hrow4 rfl ?_
   refine o_call Tryz.call108 rfl rfl (l5Copy_c _ _ H.sub _ _ ⟨_, _, _, rfl, hi4, hr4⟩ ) ?_
   rintro _ w5 ⟨G5, _, g5, rfl, u5_0, rfl, hr5_0⟩
   have H := H.grow g5
   have hlist := hlist.up g5.le
   have hchk2_0 := hchk2_0.up g5.le
   have hr4 := hr4.up g5.le
   have hrow4 := hrow4.up g5.le
   have hle2 := hle2.trans g5.le
   obtain ⟨a6, m6, c6, rfl, hi6, hr6⟩ := hr5_0; have hy_hi6 : _ ≤ 16777216 := hi6; have hn_hr6 := hr6.len; have hx_hr6 : _ ≤ 1099511627776 := hr6.lim
   refine ⟨_, rfl, ?_⟩
   refine o_buildSlice H Tryz.underlying24 Tryz.sizeOf39 (fun w => ⟨_, Tryz.zeroValue39 w, rfl⟩) rfl rfl rfl rfl rfl rfl rfl ?_; intro b7 w7 hb7 H
   refine o_append1 0 H (sz := 3) (bytes := 48) Tryz.underlying24 Tryz.typeInfo39 ⟨_, rfl, rfl⟩ rfl rfl rfl rfl rfl rfl rfl rfl rfl rfl (by omega) rfl ?_; intro v8 w8 H
   have hchk8 := hchk2_0.snoc (show itemE _ z4 _ from ⟨_, _, _, rfl, hi6, hr6⟩) rfl
   obtain ⟨av8, cv8, rfl⟩ := H.accShape (k := 0) rfl
   refine o_assign rfl rfl ?_
   refine R_nil ?_
   refine N_B ?_
   refine N_K ?_
   refine W_region ?_
   refine o_move rfl rfl ?_
   refine o_add rfl rfl rfl ⟨by omega, by omega⟩ ?_
   refine o_assign rfl rfl ?_
   refine R_nil ?_
   refine N_LP (hJ := ⟨_, _, _, (xs ++ [z4]), k + 1, _, rfl, hle2, H, ?inv, rfl⟩) (hM := ?hM) (hf := ?hf) (hm := ?hm)
   case hM => (repeat (first | exact Sub.nil | refine Sub.cons rfl ?_))
   case hf => (repeat (first | exact Sub.nil | refine Sub.cons rfl ?_))
   case hm => omega
   case inv => exact ⟨hchk8, (by first | assumption | (simp; omega) | omega), (by exact ⟨by omega, by simp [hxl], by rw [Sp.take_succ' hz4, hxs]⟩)⟩
  intro hc3'
  try simp only [nrm] at hc3'
  refine W_exit ?_
  refine N_K_exit ?_
  refine N_LP_exit ?_
  refine N_B_same ?_
  refine N_K ?_
  refine q2 ?_
  refine o_move rfl rfl ?_
  refine o_assign rfl rfl ?_
  refine q3 ?_
  refine W_ret ?_
  refine ret_gen (rs := [.tmp 2]) (vs := [_]) Tryz.results57 ⟨rfl, trivial⟩ ?_
  obtain rfl : k = list.length := by omega
  rw [List.take_length] at hxs
  subst hxs
  exact H.retO (k := 0) rfl (AccOf.mk (by assumption) hchk2_0) (acc_nd _ _ _ _ _)
end Go.Proofs.Tst

