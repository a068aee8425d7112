/- Part 2 of the proof: the program logic and plain functions. Conditions: none. -/
import Derived.Shelf.SlGeneric
import Derived.Shelf.Strings.Search1
import Derived.Shelf.Strings.Search2
import Derived.Shelf.Strings.Count
import Derived.Shelf.SlIterI.Nil
import Derived.Shelf.SortM.Plain
import Derived.Shelf.SortM.SortNone
import Derived.Ground.GgzProg
import Derived.Ground.SlgmProg
import Derived.Test.YtndbaapcenjhdaaGreatDoorProg
import Derived.Test.YtndbaapcenjhdaaGreatDoorG00
import Derived.Test.YtndbaapcenjhdaaGreatDoorG01
set_option linter.all false
set_option maxRecDepth 100000
set_option maxHeartbeats 1000000
namespace Go.Proofs
open Go.Shelf
def Tryz.keysA_ren : Go.Shelf.Ren := ⟨fun | 7 => 136 | 10 => 164 | n => n, fun | 23 => 66 | 26 => 3 | 3 => 117 | 28 => 188 | 0 => 0 | 27 => 187 | 33 => 185 | 4 => 4 | n => n, fun | n => n⟩
theorem Tryz.keysA : Go.Proofs.SlLaysZI.n7 Tryz.prog Tryz.keysA_ren := {
  mixed := by kernel_rfl
  f7 := ⟨Tryz.f136.name, by decide, Tryz.func136.trans (congrArg some (by kernel_rfl))⟩
  f10 := ⟨Tryz.f164.name, by decide, Tryz.func164.trans (congrArg some (by kernel_rfl))⟩
  t0 := Tryz.underlying0
  a0 := Tryz.isAgg0
  z0 := Tryz.sizeOf0
  v0 := Tryz.zeroValue0
  t4 := Tryz.underlying4
  a4 := Tryz.isAgg4
  z4 := Tryz.sizeOf4
  v4 := Tryz.zeroValue4
  t23 := Tryz.underlying66
  a23 := Tryz.isAgg66
  z23 := Tryz.sizeOf66
  v23 := Tryz.zeroValue66
  t26 := Tryz.underlying3
  a26 := Tryz.isAgg3
  z26 := Tryz.sizeOf3
  v26 := Tryz.zeroValue3
  t27 := Tryz.underlying187
  a27 := Tryz.isAgg187
  z27 := Tryz.sizeOf187
  v27 := Tryz.zeroValue187
  t28 := Tryz.underlying188
  a28 := Tryz.isAgg188
  z28 := Tryz.sizeOf188
  v28 := Tryz.zeroValue188
  t33 := Tryz.underlying185
  a33 := Tryz.isAgg185
  z33 := Tryz.sizeOf185
  v33 := Tryz.zeroValue185 }
def Tryz.sortedA_ren : Go.Shelf.Ren := ⟨fun | 6 => 135 | 8 => 162 | 9 => 163 | 11 => 186 | 13 => 188 | 12 => 187 | 23 => 209 | 24 => 210 | 14 => 200 | 15 => 201 | 16 => 202 | 17 => 203 | 18 => 204 | 19 => 205 | 20 => 206 | 21 => 207 | 22 => 208 | 25 => 215 | 26 => 216 | 27 => 217 | 28 => 218 | 29 => 219 | 30 => 220 | 31 => 225 | n => n, fun | 26 => 3 | 28 => 188 | 24 => 27 | 0 => 0 | 3 => 3 | 37 => 227 | 48 => 156 | 50 => 243 | 4 => 4 | 40 => 235 | 39 => 234 | 45 => 181 | 5 => 5 | 9 => 9 | 51 => 246 | 55 => 250 | 57 => 255 | 58 => 256 | 33 => 185 | n => n, fun | n => n⟩
theorem Tryz.sortedA : Go.Proofs.SlLaysZI.n6 Tryz.prog Tryz.sortedA_ren := {
  mixed := by kernel_rfl
  f6 := ⟨Tryz.f135.name, by decide, Tryz.func135.trans (congrArg some (by kernel_rfl))⟩
  f8 := ⟨Tryz.f162.name, by decide, Tryz.func162.trans (congrArg some (by kernel_rfl))⟩
  f11 := ⟨Tryz.f186.name, by decide, Tryz.func186.trans (congrArg some (by kernel_rfl))⟩
  t0 := Tryz.underlying0
  a0 := Tryz.isAgg0
  z0 := Tryz.sizeOf0
  v0 := Tryz.zeroValue0
  t24 := Tryz.underlying27
  a24 := Tryz.isAgg27
  z24 := Tryz.sizeOf27
  v24 := Tryz.zeroValue27
  t26 := Tryz.underlying3
  a26 := Tryz.isAgg3
  z26 := Tryz.sizeOf3
  v26 := Tryz.zeroValue3
  t28 := Tryz.underlying188
  a28 := Tryz.isAgg188
  z28 := Tryz.sizeOf188
  v28 := Tryz.zeroValue188
  i26 := by kernel_rfl }
def Tryz.sortA_ren : Go.Shelf.Ren := ⟨fun | 5 => 163 | 8 => 188 | 7 => 187 | 19 => 209 | 20 => 210 | 10 => 200 | 11 => 201 | 12 => 202 | 13 => 203 | 14 => 204 | 15 => 205 | 16 => 206 | 17 => 207 | 18 => 208 | 30 => 215 | 31 => 216 | 32 => 217 | 33 => 218 | 34 => 219 | 35 => 220 | 40 => 225 | n => n, fun | 23 => 27 | 25 => 3 | 3 => 3 | 32 => 227 | 22 => 27 | 0 => 0 | 44 => 156 | 46 => 243 | 4 => 4 | 36 => 235 | 35 => 234 | 41 => 181 | 5 => 5 | 9 => 9 | 53 => 246 | 57 => 250 | 63 => 255 | 64 => 256 | n => n, fun | n => n⟩
theorem Tryz.sortA : Go.Proofs.SlLaysM.n5 Tryz.prog Tryz.sortA_ren := {
  mixed := by kernel_rfl
  f5 := ⟨Tryz.f163.name, by decide, Tryz.func163.trans (congrArg some (by kernel_rfl))⟩
  f7 := ⟨Tryz.f187.name, by decide, Tryz.func187.trans (congrArg some (by kernel_rfl))⟩
  f8 := Tryz.func188.trans (congrArg some (by kernel_rfl))
  f10 := ⟨Tryz.f200.name, by decide, Tryz.func200.trans (congrArg some (by kernel_rfl))⟩
  f11 := ⟨Tryz.f201.name, by decide, Tryz.func201.trans (congrArg some (by kernel_rfl))⟩
  f12 := ⟨Tryz.f202.name, by decide, Tryz.func202.trans (congrArg some (by kernel_rfl))⟩
  f13 := ⟨Tryz.f203.name, by decide, Tryz.func203.trans (congrArg some (by kernel_rfl))⟩
  f14 := ⟨Tryz.f204.name, by decide, Tryz.func204.trans (congrArg some (by kernel_rfl))⟩
  f15 := ⟨Tryz.f205.name, by decide, Tryz.func205.trans (congrArg some (by kernel_rfl))⟩
  f16 := ⟨Tryz.f206.name, by decide, Tryz.func206.trans (congrArg some (by kernel_rfl))⟩
  f17 := ⟨Tryz.f207.name, by decide, Tryz.func207.trans (congrArg some (by kernel_rfl))⟩
  f18 := ⟨Tryz.f208.name, by decide, Tryz.func208.trans (congrArg some (by kernel_rfl))⟩
  f19 := Tryz.func209.trans (congrArg some (by kernel_rfl))
  f20 := Tryz.func210.trans (congrArg some (by kernel_rfl))
  f30 := ⟨Tryz.f215.name, by decide, Tryz.func215.trans (congrArg some (by kernel_rfl))⟩
  f31 := Tryz.func216.trans (congrArg some (by kernel_rfl))
  f32 := Tryz.func217.trans (congrArg some (by kernel_rfl))
  f33 := ⟨Tryz.f218.name, by decide, Tryz.func218.trans (congrArg some (by kernel_rfl))⟩
  f34 := ⟨Tryz.f219.name, by decide, Tryz.func219.trans (congrArg some (by kernel_rfl))⟩
  f35 := ⟨Tryz.f220.name, by decide, Tryz.func220.trans (congrArg some (by kernel_rfl))⟩
  f40 := ⟨Tryz.f225.name, by decide, Tryz.func225.trans (congrArg some (by kernel_rfl))⟩
  t0 := Tryz.underlying0
  a0 := Tryz.isAgg0
  z0 := Tryz.sizeOf0
  v0 := Tryz.zeroValue0
  t3 := Tryz.underlying3
  a3 := Tryz.isAgg3
  z3 := Tryz.sizeOf3
  v3 := Tryz.zeroValue3
  t4 := Tryz.underlying4
  a4 := Tryz.isAgg4
  z4 := Tryz.sizeOf4
  v4 := Tryz.zeroValue4
  t5 := Tryz.underlying5
  a5 := Tryz.isAgg5
  z5 := Tryz.sizeOf5
  v5 := Tryz.zeroValue5
  t9 := Tryz.underlying9
  a9 := Tryz.isAgg9
  z9 := Tryz.sizeOf9
  v9 := Tryz.zeroValue9
  t22 := Tryz.underlying27
  a22 := Tryz.isAgg27
  z22 := Tryz.sizeOf27
  v22 := Tryz.zeroValue27
  t23 := Tryz.underlying27
  a23 := Tryz.isAgg27
  z23 := Tryz.sizeOf27
  v23 := Tryz.zeroValue27
  t25 := Tryz.underlying3
  a25 := Tryz.isAgg3
  z25 := Tryz.sizeOf3
  v25 := Tryz.zeroValue3
  t32 := Tryz.underlying227
  a32 := Tryz.isAgg227
  z32 := Tryz.sizeOf227
  v32 := Tryz.zeroValue227
  t35 := Tryz.underlying234
  a35 := Tryz.isAgg234
  z35 := Tryz.sizeOf234
  v35 := Tryz.zeroValue234
  t36 := Tryz.underlying235
  a36 := Tryz.isAgg235
  z36 := Tryz.sizeOf235
  v36 := Tryz.zeroValue235
  t41 := Tryz.underlying181
  a41 := Tryz.isAgg181
  z41 := Tryz.sizeOf181
  v41 := Tryz.zeroValue181
  t44 := Tryz.underlying156
  a44 := Tryz.isAgg156
  z44 := Tryz.sizeOf156
  v44 := Tryz.zeroValue156
  t46 := Tryz.underlying243
  a46 := Tryz.isAgg243
  z46 := Tryz.sizeOf243
  v46 := Tryz.zeroValue243
  t53 := Tryz.underlying246
  a53 := Tryz.isAgg246
  z53 := Tryz.sizeOf246
  v53 := Tryz.zeroValue246
  t57 := Tryz.underlying250
  a57 := Tryz.isAgg250
  z57 := Tryz.sizeOf250
  v57 := Tryz.zeroValue250
  t63 := Tryz.underlying255
  a63 := Tryz.isAgg255
  z63 := Tryz.sizeOf255
  v63 := Tryz.zeroValue255
  t64 := Tryz.underlying256
  a64 := Tryz.isAgg256
  z64 := Tryz.sizeOf256
  v64 := Tryz.zeroValue256 }
def Tryz.lays143_ren : Go.Shelf.Ren := ⟨fun | 143 => 214 | 219 => 224 | 217 => 227 | 225 => 228 | 224 => 229 | 267 => 230 | 266 => 231 | 314 => 232 | n => n, fun | 9 => 9 | 3 => 3 | 4 => 4 | 5 => 5 | 46 => 227 | 146 => 262 | 51 => 156 | n => n, fun | 1 => 0 | n => n⟩
theorem Tryz.lays143 : Go.Proofs.Lays.n143 Tryz.prog Tryz.lays143_ren := {
  mixed := by kernel_rfl
  f143 := Tryz.func214.trans (congrArg some (by kernel_rfl))
  f217 := Tryz.func227.trans (congrArg some (by kernel_rfl))
  f219 := Tryz.func224.trans (congrArg some (by kernel_rfl))
  f224 := Tryz.func229.trans (congrArg some (by kernel_rfl))
  f225 := Tryz.func228.trans (congrArg some (by kernel_rfl))
  f266 := Tryz.func231.trans (congrArg some (by kernel_rfl))
  f267 := Tryz.func230.trans (congrArg some (by kernel_rfl))
  f314 := Tryz.func232.trans (congrArg some (by kernel_rfl))
  t3 := Tryz.underlying3
  a3 := Tryz.isAgg3
  z3 := Tryz.sizeOf3
  v3 := Tryz.zeroValue3
  t4 := Tryz.underlying4
  a4 := Tryz.isAgg4
  z4 := Tryz.sizeOf4
  v4 := Tryz.zeroValue4
  t5 := Tryz.underlying5
  a5 := Tryz.isAgg5
  z5 := Tryz.sizeOf5
  v5 := Tryz.zeroValue5
  t9 := Tryz.underlying9
  a9 := Tryz.isAgg9
  z9 := Tryz.sizeOf9
  v9 := Tryz.zeroValue9
  t46 := Tryz.underlying227
  a46 := Tryz.isAgg227
  z46 := Tryz.sizeOf227
  v46 := Tryz.zeroValue227
  t51 := Tryz.underlying156
  a51 := Tryz.isAgg156
  z51 := Tryz.sizeOf156
  v51 := Tryz.zeroValue156
  t146 := Tryz.underlying262
  a146 := Tryz.isAgg262
  z146 := Tryz.sizeOf262
  v146 := Tryz.zeroValue262
  g1 := by kernel_rfl }
def Tryz.lays138_ren : Go.Shelf.Ren := ⟨fun | 138 => 213 | 195 => 221 | 218 => 223 | 143 => 214 | 219 => 224 | 217 => 227 | 225 => 228 | 224 => 229 | 267 => 230 | 266 => 231 | 314 => 232 | n => n, fun | 9 => 9 | 3 => 3 | 4 => 4 | 5 => 5 | 0 => 0 | 46 => 227 | 146 => 262 | 51 => 156 | n => n, fun | 1 => 0 | n => n⟩
theorem Tryz.lays138 : Go.Proofs.Lays.n138 Tryz.prog Tryz.lays138_ren := {
  mixed := by kernel_rfl
  f138 := Tryz.func213.trans (congrArg some (by kernel_rfl))
  f143 := Tryz.func214.trans (congrArg some (by kernel_rfl))
  f195 := Tryz.func221.trans (congrArg some (by kernel_rfl))
  f217 := Tryz.func227.trans (congrArg some (by kernel_rfl))
  f218 := Tryz.func223.trans (congrArg some (by kernel_rfl))
  f219 := Tryz.func224.trans (congrArg some (by kernel_rfl))
  f224 := Tryz.func229.trans (congrArg some (by kernel_rfl))
  f225 := Tryz.func228.trans (congrArg some (by kernel_rfl))
  f266 := Tryz.func231.trans (congrArg some (by kernel_rfl))
  f267 := Tryz.func230.trans (congrArg some (by kernel_rfl))
  f314 := Tryz.func232.trans (congrArg some (by kernel_rfl))
  t0 := Tryz.underlying0
  a0 := Tryz.isAgg0
  z0 := Tryz.sizeOf0
  v0 := Tryz.zeroValue0
  t3 := Tryz.underlying3
  a3 := Tryz.isAgg3
  z3 := Tryz.sizeOf3
  v3 := Tryz.zeroValue3
  t4 := Tryz.underlying4
  a4 := Tryz.isAgg4
  z4 := Tryz.sizeOf4
  v4 := Tryz.zeroValue4
  t5 := Tryz.underlying5
  a5 := Tryz.isAgg5
  z5 := Tryz.sizeOf5
  v5 := Tryz.zeroValue5
  t9 := Tryz.underlying9
  a9 := Tryz.isAgg9
  z9 := Tryz.sizeOf9
  v9 := Tryz.zeroValue9
  t46 := Tryz.underlying227
  a46 := Tryz.isAgg227
  z46 := Tryz.sizeOf227
  v46 := Tryz.zeroValue227
  t51 := Tryz.underlying156
  a51 := Tryz.isAgg156
  z51 := Tryz.sizeOf156
  v51 := Tryz.zeroValue156
  t146 := Tryz.underlying262
  a146 := Tryz.isAgg262
  z146 := Tryz.sizeOf262
  v146 := Tryz.zeroValue262
  g1 := by kernel_rfl }
end Go.Proofs
namespace Fw
open Go Go.RowKit Go.Maps Go.Sort Go.Shelf Go.Proofs
open Go.WideElems (Fit rg)
def unitR : Value → Option (DataW Unit × List MemPlace) := fun _ => some (.agg [], [])
theorem owns_of {P : Program} {k : TypeId} {w : World} {b : Nat} {es : Array MapEntry} {clock : Nat} {xs : List (Int × Value)} (hk : P.underlying k = some (.int .i64)) (hb : w.heap[b]? = some (.map es clock)) (hm : MapIs (Value.int .i64) es clock xs) (hw : ∀ x, x ∈ xs → inI x.1) (hl : xs.length ≤ 1000000) :
    ∃ D : DataW Unit, w.ownsMap P k unitR b xs.length D ∧ (intKeys D).Perm (xs.map (·.1)) ∧ Maps.size D = xs.length := by
  have hsz : es.size = xs.length := by have := congrArg List.length hm.kv; simpa using this
  have hkey : ∀ x, x ∈ es.toList → ∃ y, y ∈ xs ∧ x.key = .int .i64 y.1 := by
    intro x hx
    have : (x.key, x.val) ∈ xs.map (fun y => (Value.int .i64 y.1, y.2)) := by rw [← hm.kv]; exact List.mem_map.2 ⟨x, hx, rfl⟩
    obtain ⟨y, h1, h2⟩ := List.mem_map.1 this
    simp only [Prod.mk.injEq] at h2
    exact ⟨y, h1, h2.1.symm⟩
  have hwf : ∀ a : Int, inI a → (Lit.int .i64 a).wf = true := by
    intro a ha
    unfold inI at ha
    have h1 : IntKind.i64.min = -9223372036854775808 := by decide
    have h2 : IntKind.i64.max = 9223372036854775807 := by decide
    simp only [Lit.wf, h1, h2]
    simp
    omega
  have hrd : ∀ x, x ∈ es.toList → ∃ y, y ∈ xs ∧ x.key = .int .i64 y.1 ∧ Go.WideElems.rd P k unitR x = some (.int .i64 y.1, .agg []) := by
    intro x hx
    obtain ⟨y, h1, h2⟩ := hkey x hx
    refine ⟨y, h1, h2, ?_⟩
    simp only [Go.WideElems.rd, h2, keyOf_int_mk hk (hwf _ (hw y h1)), unitR]
    rfl
  refine ⟨.map ((es.toList.map (rg P k unitR)).foldr DataW.insert []), ⟨es, clock, hb, ⟨?_, ⟨hm.lt, hm.born, ?_⟩, ?_⟩, by omega, rfl⟩, ?_, ?_⟩
  · simp only [maxLen]; omega
  · have h1 : es.toList.map (·.key) = xs.map (fun x => Value.int .i64 x.1) := by
      have := congrArg (List.map (·.1)) hm.kv
      rw [List.map_map, List.map_map] at this
      exact this
    rw [h1]
    have : (xs.map (fun x => Value.int .i64 x.1)) = (xs.map (·.1)).map (Value.int .i64) := by simp [List.map_map]
    rw [this, List.nodup_iff_pairwise_ne, List.pairwise_map]
    exact (List.nodup_iff_pairwise_ne.1 hm.nd).imp (fun h e => h (by simpa using e))
  · intro x hx
    obtain ⟨y, _, _, h3⟩ := hrd x hx
    exact ⟨_, h3⟩
  · have hp := (WideShapes.sorted_perm (es.toList.map (rg P k unitR))).map (fun p : Lit × DataW Unit => intOf p.1)
    show List.Perm (List.map (fun p : Lit × DataW Unit => intOf p.1) _) _
    refine hp.trans ?_
    rw [List.map_map]
    have key : ∀ (l : List MapEntry) (ys : List (Int × Value)), (∀ x, x ∈ l → ∃ y, y ∈ xs ∧ x.key = .int .i64 y.1 ∧ Go.WideElems.rd P k unitR x = some (.int .i64 y.1, .agg [])) → l.map (fun e => (e.key, e.val)) = ys.map (fun x => (Value.int .i64 x.1, x.2)) → l.map ((fun p : Lit × DataW Unit => intOf p.1) ∘ rg P k unitR) = ys.map (·.1) := by
      intro l
      induction l with
      | nil => intro ys _ h; cases ys <;> simp at h ⊢
      | cons x r ih =>
        intro ys h1 h2
        cases ys with
        | nil => simp at h2
        | cons y t =>
          simp only [List.map_cons, List.cons.injEq, Prod.mk.injEq] at h2 ⊢
          obtain ⟨z, _, h3, h4⟩ := h1 x (by simp)
          rw [h2.1.1] at h3
          simp only [Value.int.injEq, true_and] at h3
          refine ⟨?_, ih t (fun q hq => h1 q (by simp [hq])) h2.2⟩
          simp only [Function.comp, rg, h4, Option.getD_some, Go.intOf]
          exact h3.symm
    rw [key es.toList xs hrd hm.kv]
  · simp only [Maps.size]
    rw [length_sorted]
    simp [hsz]
theorem sorts_of {G : PH} {xs : List (Int × Value)} {L : List BHeld} (hS : StR G xs L) (hL : Sp.VH L) {ss : List Int} (hp : ss.Perm (xs.map (·.1))) : ss.mergeSort (fun x y => decide (x ≤ y)) = L.map (·.id) := by
  have h1 : (ss.mergeSort (fun x y => decide (x ≤ y))).Perm (L.map (·.id)) := (List.mergeSort_perm _ _).trans (hp.trans hS.keys)
  have h2 : (ss.mergeSort (fun x y => decide (x ≤ y))).Pairwise (fun x y => decide (x ≤ y) = true) := List.pairwise_mergeSort (le := fun x y : Int => decide (x ≤ y)) (fun a b c h1 h2 => by simp at *; omega) (fun a b => by simp; omega) ss
  have h3 : (L.map (·.id)).Pairwise (fun x y => decide (x ≤ y) = true) := by
    rw [List.pairwise_map]
    exact hL.asc.imp (fun h => decide_eq_true (by omega))
  exact h1.eq_of_pairwise (fun a b _ _ h1 h2 => by have := of_decide_eq_true h1; have := of_decide_eq_true h2; omega) h2 h3
theorem owns_acc {w w' : World} {e : TypeId} {v : Value} {n : Nat} {cells : List Value} (h : w'.ownsRow w.heap.size e 1 v n cells) : (acc e 1 v n cells).pred (fun b => w'.heap[b]?) ∧ (∀ b, b ∈ (acc e 1 v n cells).fp → w.heap.size ≤ b) := by
  obtain ⟨h1, h2⟩ := h
  refine ⟨⟨h1, ?_⟩, ?_⟩
  · rcases h2 with h2 | ⟨g, cap, cur, rfl, _, h3, h4, h5, h6, h7⟩
    · exact .inl h2
    · exact .inr ⟨g, cap, cur, rfl, h3, h4, h5, h6, h7⟩
  · rcases h2 with ⟨rfl, _⟩ | ⟨g, cap, cur, rfl, h3, _⟩
    · intro b hb; rw [acc_fp_nil] at hb; cases hb
    · intro b hb; rw [acc_fp, List.mem_singleton] at hb; rw [hb]; exact h3
end Fw
namespace Go.Proofs.Tst
open Go Fw Go.Proofs Go.Sort Go.Maps Go.Shelf Go.RowKit
theorem sorts (m : Nat) : AnyZI.SortsIn Tryz.prog Tryz.sortedA_ren Fence.wide m :=
  ⟨fun blk off cap ss W hH hblk hsz => callsIn_wide.2 (AnyM.slices_Sort_int Tryz.sortA blk off cap ss W hH hblk hsz),
   fun p cap W => callsIn_wide.2 (AnyM.slices_Sort_int_none Tryz.sortA p cap W)⟩
theorem keys_c (w0 : World) (G0 : PH) (hG : PSub G0 w0) (b : Nat) : Calls Tryz.prog 136 #[.map (some b)] w0 (fun e w' => ∃ kb, e = .returned (.func (.func 164) #[] #[.pointer (some ⟨kb, 0, none⟩)]) ∧ w0.heap.size ≤ kb ∧ Ext w0 w' ∧ w'.heap[kb]? = some (cl [.map (some b)] 66)) :=
  (callsIn_wide.1 (AnyZI.keys_in Tryz.keysA Fence.wide 5 trivial rfl (some b) w0)).mono fun e w' ⟨h1, h2⟩ => by
    subst h2
    exact ⟨w0.heap.size, h1, Nat.le_refl _, Ext.alloc _ _, alloc_new _ _⟩
set_option maxHeartbeats 1000000 in
theorem sorted_c (w0 : World) (Bm b : Nat) {es : Array MapEntry} {clock : Nat} {xs : List (Int × Value)} {L : List BHeld} {G : PH} (hB : w0.heap[Bm]? = some (cl [.map (some b)] 66)) (hb : w0.heap[b]? = some (.map es clock)) (hm : MapIs (Value.int .i64) es clock xs) (hS : StR G xs L) (hL : Sp.VH L) :
    Calls Tryz.prog 135 #[.func (.func 164) #[] #[.pointer (some ⟨Bm, 0, none⟩)]] w0 (fun e w' => ∃ v, e = .returned v ∧ Ext w0 w' ∧ (acc 3 1 v L.length (L.map (fun h => Value.int .i64 h.id))).pred (fun b => w'.heap[b]?) ∧ (∀ b, b ∈ (acc 3 1 v L.length (L.map (fun h => Value.int .i64 h.id))).fp → w0.heap.size ≤ b)) := by
  have hlen := hS.len
  have hw : ∀ x, x ∈ xs → inI x.1 := by
    intro x hx
    have := hS.keys.mem_iff.1 (List.mem_map.2 ⟨x, hx, rfl⟩)
    obtain ⟨h, hh, e⟩ := List.mem_map.1 this
    have := (hL.ok h hh).1
    rw [← e]
    unfold inI
    omega
  have hl16 := hL.len
  obtain ⟨D, hown, hp, hsz⟩ := owns_of (P := Tryz.prog) (k := 3) (by exact Tryz.underlying3) hb hm hw (by omega)
  have hBl := (Array.getElem?_eq_some_iff.1 hB).1
  have hseq : SeqGives Fence.wide 2 Tryz.prog 164 #[.pointer (some ⟨Bm, 0, none⟩)] encZ (fun ss => ss.Perm (intKeys D)) (Maps.size D) w0 :=
    AnyZI.keys_gives (ρ := Tryz.keysA_ren) { Tryz.keysA with } Fence.wide _ trivial rfl (by omega) Bm b xs.length D w0 hBl (by simp [World.cell?, hB]) hown
  refine (callsIn_wide.1 (AnyZI.sorted_in Tryz.sortedA Fence.wide 5 trivial trivial trivial trivial rfl (by omega) (sorts _) (enters_of Tryz.func163 (by kernel_rfl) rfl) 164 #[.pointer (some ⟨Bm, 0, none⟩)] trivial (enters_of Tryz.func164 (by kernel_rfl) rfl) _ _ (by simp only [maxLen]; omega) (by omega) _ hseq)).mono ?_
  rintro e w' ⟨v, ss, rfl, hS1, hrow, hnil, hbel⟩
  have hs := sorts_of hS hL (hS1.trans hp)
  have hn : ss.length = L.length := by have := (hS1.trans (hp.trans hS.keys)).length_eq; simpa using this
  rw [hs, hn] at hrow
  have he : (L.map (·.id)).map encZ = L.map (fun h => Value.int .i64 h.id) := by rw [List.map_map]; rfl
  rw [he] at hrow
  obtain ⟨h1, h2⟩ := owns_acc hrow
  exact ⟨v, rfl, Ext.of_below hbel, h1, h2⟩
end Go.Proofs.Tst
namespace Go.Proofs.Tst
open Go Fw Go.Proofs
theorem l_Index_c (w0 : World) (s : Bs) (hs : s.length ≤ 16777216) (c : UInt8) : Calls Tryz.prog 214 #[str s, str [c]] w0 (Rets w0 (.int .i64 (Sp.optI (s.findIdx? (Sp.isC c))))) :=
  (Any.strings_Index_one Tryz.lays143 ⟨s.toArray⟩ c w0).mono fun e w' ⟨h1, h2⟩ => ⟨by rw [h1]; simp [Sp.indexByte_eq], by rw [h2]; exact Ext.refl _⟩
theorem l_Count_c (w0 : World) (s : Bs) (hs : s.length ≤ 16777216) (c : UInt8) : Calls Tryz.prog 213 #[str s, str [c]] w0 (Rets w0 (.int .i64 (s.count c : Int))) :=
  (Any.strings_Count_one Tryz.lays138 ⟨s.toArray⟩ c w0).mono fun e w' ⟨h1, h2⟩ => ⟨by rw [h1]; simp [Lib.countByte], by rw [h2]; exact Ext.refl _⟩
end Go.Proofs.Tst
namespace Go.Proofs.Tst
open Go Fw Go.Proofs
theorem chkIds (G : PH) {L : List BHeld} (h : Sp.VH L) : Chk intE 1 G (L.map (fun h => Value.int .i64 h.id)) (L.map (·.id)) := by
  refine ⟨L.map (fun h => [Value.int .i64 h.id]), ?_, by simp, fun i x hx => ?_⟩
  · clear h
    induction L with
    | nil => rfl
    | cons a r ih => simp only [List.map_cons, List.flatten_cons, ← ih]; rfl
  rw [List.getElem?_map] at hx ⊢
  cases e : L[i]? with
  | none => simp [e] at hx
  | some y =>
    simp only [e, Option.map_some, Option.some.injEq] at hx ⊢
    subst hx
    have := (h.at e).1
    exact ⟨_, rfl, rfl, rfl, by unfold inI; omega⟩
end Go.Proofs.Tst

namespace Go.Proofs.Tst
open Go Fw
theorem l_genSplit_c (w0 : World) (G0 : PH) (hG : PSub G0 w0) (s : Bs) (hs : s.length ≤ 16777216) (c : UInt8)    :
  Calls Tryz.prog 199 #[str s, str [c], .int .i64 0, .int .i64 (-1)] w0 (RetP w0 G0 (fun G v => RdT G v (Sp.cutAt c s))) := by
 have hcnt := Sp.cnt_le c s
 have H := Hp.init hG
 refine calls_of_W (l := [str s, str [c], .int .i64 0, .int .i64 (-1)]) Tryz.func199 rfl Tryz.ntmps199 rfl ?_
 refine q2 ?_
 refine o_assign rfl rfl ?_
 refine q3 ?_
 refine W_seq ?_
 refine q2 ?_
 refine o_move rfl rfl ?_
 refine o_eql rfl rfl rfl ?_
 refine q3 ?_
 refine W_cond rfl ?_ ?_
 ·intro hc1
  try simp only [nrm] at hc1
  exact absurd hc1 (by decide)
 intro hc1'
 try simp only [nrm] at hc1'
 refine W_skip ?_
 refine N_K ?_
 refine W_seq ?_
 refine q2 ?_
 refine o_move rfl rfl ?_
 refine o_seql rfl rfl rfl ?_
 refine q3 ?_
 refine W_cond rfl ?_ ?_
 ·intro hc2
  try simp only [nrm] at hc2
  exact absurd hc2 (by simp)
 intro hc2'
 try simp only [nrm] at hc2'
 refine W_skip ?_
 refine N_K ?_
 refine W_seq ?_
 refine q2 ?_
 refine o_move rfl rfl ?_
 refine o_lss rfl rfl rfl ?_
 refine q3 ?_
 refine W_cond rfl ?_ ?_
 ·intro hc3
  try simp only [nrm] at hc3
  refine W_region ?_
  refine o_move rfl rfl ?_
  refine o_move rfl rfl ?_
  refine o_call Tryz.call213 rfl rfl (l_Count_c _ _ hs _ ) ?_
  rintro _ w4 ⟨rfl, ew4⟩; have H := H.step ew4; refine ⟨_, rfl, ?_⟩
  refine o_add rfl rfl rfl ⟨by omega, by omega⟩ ?_
  refine o_assign rfl rfl ?_
  refine q1 ?_
  refine o_move rfl rfl ?_
  refine o_move rfl rfl ?_
  refine o_len_str Tryz.underlying9 rfl rfl ?_
  refine o_add rfl rfl rfl ⟨by omega, by omega⟩ ?_
  refine o_min rfl rfl rfl ?_
  refine o_assign rfl rfl ?_
  refine q1 ?_
  refine o_move rfl rfl ?_
  refine o_makeN (c := (s.count c + 1)) (sz := 1) (bytes := 16) H Tryz.underlying87 Tryz.typeInfo9 ⟨_, rfl, rfl⟩ rfl rfl rfl rfl rfl rfl rfl (by omega) (by omega) (by omega) rfl ?_; intro b7 w7 H
  have hchk7 := Chk.rep (E := strE) (sz := 1) (G := G0) (x0 := []) (⟨rfl, by decide⟩) rfl ((s.count c + 1))
  refine o_assign rfl rfl ?_
  refine q1 ?_
  refine o_move rfl rfl ?_
  refine o_sub rfl rfl rfl ⟨by omega, by omega⟩ ?_
  refine o_assign rfl rfl ?_
  refine q1 ?_
  refine o_assign rfl rfl ?_
  refine q3 ?_
  refine W_seq ?_
  refine W_block ?_
  refine W_loop (hf := (Sub.cons (t := 1) rfl (Sub.cons (t := 2) rfl (Sub.cons (t := 3) rfl (Sub.cons (t := 8) rfl Sub.nil))))) (J := fun M w m => ∃ (v : Value) (n : Nat) (cs : List Value) (xs : List (Bs)) (r : Bs) (i : Nat) (G : PH), M = [(0, str r), (10, .int .i64 (i : Int)), (9, v)] ∧ PLe G0 G ∧ Hp w0 G0 [] w G [acc 9 1 v n cs] ∧ (Chk strE 1 G cs xs ∧ n = xs.length ∧ i ≤ s.count c ∧ xs.length = s.count c + 1 ∧ r.length ≤ 16777216 ∧ xs.take i ++ Sp.cutAt c r = Sp.cutAt c s ∧ r.count c = s.count c - i) ∧ m = (s.count c + 1 - i)) (h0 := ⟨_, _, _, (List.replicate (s.count c + 1) []), s, 0, _, rfl, PLe.refl _, H, ?inv, rfl⟩) (hM := ?hM) (round := ?round)
  case hM => (repeat (first | exact Sub.nil | refine Sub.cons rfl ?_))
  case inv => exact ⟨hchk7,  by first | rfl | simp | (simp; omega) | omega, (by simp [hs])⟩
  case round =>
   rintro _ w9 _ ⟨v, n, cs, xs, r, i, G9, rfl, hle9, H, hinv9, rfl⟩
   have hchk7 := hchk7.up hle9
   obtain ⟨hchk9_0, hn9_0, hinv9⟩ := hinv9
   obtain ⟨av9_0, cv9_0, rfl⟩ := H.accShape (k := 0) rfl
   obtain ⟨hi, hxl, hrl, hcut, hrc⟩ := hinv9
   refine W_seq ?_
   refine q2 ?_
   refine o_move rfl rfl ?_
   refine o_move rfl rfl ?_
   refine o_lss rfl rfl rfl ?_
   refine q3 ?_
   refine W_cond rfl ?_ ?_
   ·intro hc10
    try simp only [nrm] at hc10
    refine W_skip ?_
    refine N_K ?_
    refine W_block ?_
    refine q2 ?_
    refine o_move rfl rfl ?_
    refine o_move rfl rfl ?_
    refine o_call Tryz.call214 rfl rfl (l_Index_c _ _ hrl _ ) ?_
    rintro _ w11 ⟨rfl, ew11⟩; have H := H.step ew11; refine ⟨_, rfl, ?_⟩
    refine o_assign rfl rfl ?_
    refine q3 ?_
    refine W_seq ?_
    refine q2 ?_
    refine o_move rfl rfl ?_
    refine o_lss rfl rfl rfl ?_
    refine q3 ?_
    refine W_cond rfl ?_ ?_
    ·intro hc12
     try simp only [nrm] at hc12
     have hx := Sp.count_none c (Sp.at_none hc12)
     omega
    intro hc12'
    try simp only [nrm] at hc12'
    obtain ⟨m, x, hm1, hm2, hm3, hm4, hm5⟩ := Sp.at_nat hc12'
    have hm6 := Sp.count_some c hm1
    refine W_skip ?_
    refine N_K ?_
    refine q2 ?_
    refine o_move rfl rfl ?_
    refine o_move rfl rfl ?_
    refine o_move rfl rfl ?_
    refine o_move rfl rfl ?_
    refine o_move rfl rfl ?_
    refine o_add rfl rfl rfl ⟨by omega, by omega⟩ ?_
    refine o_slice_str_to Tryz.underlying9 rfl rfl rfl (by omega) (by omega) ?_
    refine o_index_A 0 H i rfl hchk9_0 Tryz.underlying87 Tryz.sizeOf9 rfl rfl rfl rfl (by first | omega | (simp; omega) | (simp; done)) (by first | rfl | assumption | (simp; done) | (simp; omega) | omega) ?_; intro ba15 z15 q15 hba15 hz15 hE15 hg15; cases hba15
    obtain ⟨rfl, hi15⟩ := hE15; have hy_hi15 : _ ≤ 16777216 := hi15
    have hcl16 := hchk9_0.length
    refine o_store_A 0 H Tryz.sizeOf9 rfl rfl rfl rfl rfl (by simp only [vc, List.length_cons, List.length_nil]; omega) ?_; intro w16 H
    have hchk16 := hchk9_0.put (x' := (r.take m)) (off := 0) (vs := [_]) hz15 (fun cs hl hE => by obtain ⟨rfl, _⟩ := hE; exact ⟨congrArg (fun j => [str (List.take j r)]) (show (Sp.optI (List.findIdx? (Sp.isC c) r) + 0).toNat = m by omega), by simp; omega⟩) (by simp only [vc, List.length_cons, List.length_nil]; omega)
    refine q1 ?_
    refine o_move rfl rfl ?_
    refine o_move rfl rfl ?_
    refine o_move rfl rfl ?_
    refine o_len_str Tryz.underlying9 rfl rfl ?_
    have hll1 : ([c] : Fw.Bs).length = 1 := rfl
    refine o_add rfl rfl rfl ⟨by omega, by omega⟩ ?_
    refine o_slice_str_from Tryz.underlying9 rfl rfl rfl (by omega) (by omega) ?_
    refine o_assign rfl rfl ?_
    refine q3 ?_
    refine W_region ?_
    refine o_move rfl rfl ?_
    refine o_add rfl rfl rfl ⟨by omega, by omega⟩ ?_
    refine o_assign rfl rfl ?_
    refine R_nil ?_
    refine N_B ?_
    refine N_LP (hJ := ⟨_, _, _, (xs.set i (r.take m)), (r.drop (Sp.optI (List.findIdx? (Sp.isC c) r) + (([c] : Fw.Bs).length : Int)).toNat), i + 1, _, rfl, hle9, H, ?inv, rfl⟩) (hM := ?hM) (hf := ?hf) (hm := ?hm)
    case hM => (repeat (first | exact Sub.nil | refine Sub.cons rfl ?_))
    case hf => (repeat (first | exact Sub.nil | refine Sub.cons rfl ?_))
    case hm => omega
    case inv => exact ⟨hchk16, (by first | assumption | (simp; omega) | omega), (by refine ⟨by omega, by simp [hxl], by simp; omega, ?_, ?_⟩; (· rw [show (Sp.optI (List.findIdx? (Sp.isC c) r) + (([c] : Fw.Bs).length : Int)).toNat = m + 1 by omega]; exact Sp.cut_round hcut hm1 (by omega) rfl); (· rw [show (Sp.optI (List.findIdx? (Sp.isC c) r) + (([c] : Fw.Bs).length : Int)).toNat = m + 1 by omega]; omega))⟩
   intro hc10'
   try simp only [nrm] at hc10'
   refine W_exit ?_
   refine N_K_exit ?_
   refine N_LP_exit ?_
   refine N_B_same ?_
   refine N_K ?_
   refine q2 ?_
   refine o_move rfl rfl ?_
   refine o_move rfl rfl ?_
   refine o_move rfl rfl ?_
   refine o_index_A 0 H i rfl hchk9_0 Tryz.underlying87 Tryz.sizeOf9 rfl rfl rfl rfl (by first | omega | (simp; omega) | (simp; done)) (by first | rfl | assumption | (simp; done) | (simp; omega) | omega) ?_; intro ba20 z20 q20 hba20 hz20 hE20 hg20; cases hba20
   obtain ⟨rfl, hi20⟩ := hE20; have hy_hi20 : _ ≤ 16777216 := hi20
   have hcl21 := hchk9_0.length
   refine o_store_A 0 H Tryz.sizeOf9 rfl rfl rfl rfl rfl (by simp only [vc, List.length_cons, List.length_nil]; omega) ?_; intro w21 H
   have hchk21 := hchk9_0.put (x' := r) (off := 0) (vs := [_]) hz20 (fun cs hl hE => by obtain ⟨rfl, _⟩ := hE; exact ⟨rfl, hrl⟩) (by simp only [vc, List.length_cons, List.length_nil]; omega)
   refine q1 ?_
   obtain ⟨G22, H, hsg22, hsr22⟩ := H.shut' (k := 0) rfl hchk21 (by first | assumption | (simp; done) | (simp; omega) | omega) (by first | assumption | (simp; done) | (simp; omega) | omega)
   have hchk7 := hchk7.up hsg22
   have hchk9_0 := hchk9_0.up hsg22
   have hchk21 := hchk21.up hsg22
   have hle9 := hle9.trans hsg22
   refine o_move rfl rfl ?_
   refine o_move rfl rfl ?_
   refine o_add rfl rfl rfl ⟨by omega, by omega⟩ ?_
   have hcap24 := hsr22.cap; try simp only [List.length_set, List.length_append, List.length_take, List.length_drop, List.length_replicate] at hcap24
   refine o_slice_to (j := (i + 1)) Tryz.underlying87 Tryz.sizeOf9 rfl rfl rfl (by omega) (by omega) ?_
   have hsl24 := hsr22.take (j := (i + 1)) (by first | omega | (simp; omega))
   refine o_assign rfl rfl ?_
   refine q3 ?_
   refine W_ret ?_
   refine ret_gen (rs := [.tmp 8]) (vs := [_]) Tryz.results199 ⟨rfl, trivial⟩ ?_
   obtain rfl : i = s.count c := by omega
   have hcl := Sp.cut_last hcut (by omega) (by omega)
   exact H.retP (by rw [← hcl]; exact hsl24)
 intro hc3'
 try simp only [nrm] at hc3'
 exact absurd hc3' (by decide)
theorem l_Split_c (w0 : World) (G0 : PH) (hG : PSub G0 w0) (s : Bs) (hs : s.length ≤ 16777216) (c : UInt8)  :
  Calls Tryz.prog 185 #[str s, str [c]] w0 (RetP w0 G0 (fun G v => RdT G v (Sp.cutAt c s))) := by
 have H := Hp.init hG
 refine calls_of_W (l := [str s, str [c]]) Tryz.func185 rfl Tryz.ntmps185 rfl ?_
 refine q2 ?_
 refine o_assign rfl rfl ?_
 refine q1 ?_
 refine o_move rfl rfl ?_
 refine o_move rfl rfl ?_
 refine o_call Tryz.call199 rfl rfl (l_genSplit_c _ _ H.sub _ hs _   ) ?_
 rintro _ w1 ⟨G1, u1_0, g1, rfl, hr1_0⟩
 have H := H.grow g1
 obtain ⟨a1_0, k1_0, rfl⟩ := hr1_0.shape; have hx_hr1_0 : _ ≤ 1099511627776 := hr1_0.lim
 refine ⟨_, rfl, ?_⟩
 refine o_assign rfl rfl ?_
 refine q3 ?_
 refine W_ret ?_
 refine ret_gen (rs := [.tmp 4]) (vs := [_]) Tryz.results185 ⟨rfl, trivial⟩ ?_
 exact H.retP hr1_0
theorem i_parts_c (w0 : World) (G0 : PH) (hG : PSub G0 w0) (p : Bs) (hp : p.length ≤ 16777216)  :
  Calls Tryz.prog 159 #[str p] w0 (RetP w0 G0 (fun G v => RdT G v (Sp.parts p))) := by
 have H := Hp.init hG
 refine calls_of_W (l := [str p]) Tryz.func159 rfl Tryz.ntmps159 rfl ?_
 refine q2 ?_
 refine o_assign rfl rfl ?_
 refine q3 ?_
 refine W_seq ?_
 refine q2 ?_
 refine o_move rfl rfl ?_
 refine o_len_str Tryz.underlying175 rfl rfl ?_
 refine o_gtr rfl rfl rfl ?_
 refine q3 ?_
 refine W_cond rfl ?_ ?_
 ·intro hc1
  try simp only [nrm] at hc1
  refine q2 ?_
  refine o_assign rfl rfl ?_
  refine q3 ?_
  refine W_ret ?_
  refine N_K_ret ?_
  refine ret_gen (rs := [.tmp 2]) (vs := [_]) Tryz.results159 ⟨rfl, trivial⟩ ?_
  exact H.retP (by rw [show Sp.parts p = _ from by exact Sp.parts_long (by omega)]; exact (RdS.nil _ _ _))
 intro hc1'
 try simp only [nrm] at hc1'
 refine W_skip ?_
 refine N_K ?_
 refine q2 ?_
 refine o_move rfl rfl ?_
 refine o_call Tryz.call185 rfl rfl (l_Split_c _ _ H.sub _ hp _ ) ?_
 rintro _ w2 ⟨G2, u2_0, g2, rfl, hr2_0⟩
 have H := H.grow g2
 obtain ⟨a2_0, k2_0, rfl⟩ := hr2_0.shape; have hx_hr2_0 : _ ≤ 1099511627776 := hr2_0.lim
 refine ⟨_, rfl, ?_⟩
 refine o_assign rfl rfl ?_
 refine q3 ?_
 refine W_seq ?_
 refine q2 ?_
 refine o_move rfl rfl ?_
 refine o_len_slice Tryz.underlying87 rfl rfl ?_
 refine o_gtr rfl rfl rfl ?_
 refine q3 ?_
 refine W_cond rfl ?_ ?_
 ·intro hc3
  try simp only [nrm] at hc3
  refine q2 ?_
  refine o_assign rfl rfl ?_
  refine q3 ?_
  refine W_ret ?_
  refine N_K_ret ?_
  refine ret_gen (rs := [.tmp 2]) (vs := [_]) Tryz.results159 ⟨rfl, trivial⟩ ?_
  exact H.retP (by rw [show Sp.parts p = _ from by exact Sp.parts_many (by rw [← Sp.cutAt_47]; omega)]; exact (RdS.nil _ _ _))
 intro hc3'
 try simp only [nrm] at hc3'
 refine W_skip ?_
 refine N_K ?_
 refine W_seq ?_
 refine q2 ?_
 refine o_move rfl rfl ?_
 refine o_len_slice Tryz.underlying87 rfl rfl ?_
 refine o_move rfl rfl ?_
 refine q3 ?_
 refine W_block ?_
 refine W_loop (hf := (Sub.cons (t := 3) rfl (Sub.cons (t := 14) rfl (Sub.cons (t := 15) rfl Sub.nil)))) (J := fun M w m => ∃ (k : Nat) (G : PH), M = [(16, .int .i64 (k : Int))] ∧ PLe G2 G ∧ Hp w0 G0 [] w G [] ∧ (k ≤ (Sp.cutAt 47 p).length ∧ ((Sp.cutAt 47 p).take k).all Sp.l1Word = true) ∧ m = ((Sp.cutAt 47 p).length - k)) (h0 := ⟨0, _, rfl, PLe.refl _, H, ?inv, rfl⟩) (hM := ?hM) (round := ?round)
 case hM => (repeat (first | exact Sub.nil | refine Sub.cons rfl ?_))
 case inv => exact ⟨by omega, by simp⟩
 case round =>
  rintro _ w4 _ ⟨k, G4, rfl, hle4, H, hinv4, rfl⟩
  have hr2_0 := hr2_0.up hle4
  obtain ⟨hk, hall⟩ := hinv4
  refine q2 ?_
  refine o_lss rfl rfl rfl ?_
  refine q3 ?_
  refine W_seq ?_
  refine W_cond rfl ?_ ?_
  ·intro hc5
   try simp only [nrm] at hc5
   refine W_skip ?_
   refine N_K ?_
   refine W_seq ?_
   refine W_block ?_
   refine q2 ?_
   refine o_index_P k hr2_0 Tryz.underlying87 Tryz.sizeOf9 rfl rfl rfl rfl (by omega) ?_; intro b6 o6 z6 q6 hz6 hE6 hrow6
   obtain ⟨rfl, hi6⟩ := hE6; have hy_hi6 : _ ≤ 16777216 := hi6
   refine o_load_P H Tryz.isAgg9 rfl rfl (hrow6 0 _ rfl) ?_
   refine o_assign rfl rfl ?_
   refine q1 ?_
   refine o_move rfl rfl ?_
   refine o_call Tryz.call116 rfl rfl (i_partValid_c _ _ hi6 ) ?_
   rintro _ w7 ⟨rfl, ew7⟩; have H := H.step ew7; refine ⟨_, rfl, ?_⟩
   refine o_not rfl rfl ?_
   refine q3 ?_
   refine W_cond rfl ?_ ?_
   ·intro hc8
    try simp only [nrm] at hc8
    refine q2 ?_
    refine o_assign rfl rfl ?_
    refine q3 ?_
    refine W_ret ?_
    refine N_B_ret ?_
    refine N_K_ret ?_
    refine N_LP_ret ?_
    refine N_B_ret ?_
    refine N_K_ret ?_
    refine ret_gen (rs := [.tmp 2]) (vs := [_]) Tryz.results159 ⟨rfl, trivial⟩ ?_
    exact H.retP (by rw [show Sp.parts p = _ from by exact Sp.parts_bad (by rw [← Sp.cutAt_47]; exact hz6) hc8]; exact (RdS.nil _ _ _))
   intro hc8'
   try simp only [nrm] at hc8'
   refine W_skip ?_
   refine N_B ?_
   refine N_K ?_
   refine W_region ?_
   refine o_add rfl rfl rfl ⟨by omega, by omega⟩ ?_
   refine o_move rfl rfl ?_
   refine R_nil ?_
   refine N_LP (hJ := ⟨k + 1, _, rfl, hle4, H, ?inv, rfl⟩) (hM := ?hM) (hf := ?hf) (hm := ?hm)
   case hM => (repeat (first | exact Sub.nil | refine Sub.cons rfl ?_))
   case hf => (repeat (first | exact Sub.nil | refine Sub.cons rfl ?_))
   case hm => omega
   case inv => exact ⟨by omega, Sp.all_take hall hz6 (by assumption)⟩
  intro hc5'
  try simp only [nrm] at hc5'
  refine W_exit ?_
  refine N_K_exit ?_
  refine N_LP_exit ?_
  refine N_B_same ?_
  refine N_K ?_
  refine q2 ?_
  refine o_move rfl rfl ?_
  refine o_assign rfl rfl ?_
  refine q3 ?_
  refine W_ret ?_
  refine ret_gen (rs := [.tmp 2]) (vs := [_]) Tryz.results159 ⟨rfl, trivial⟩ ?_
  obtain rfl : k = (Sp.cutAt 47 p).length := by omega
  rw [List.take_length] at hall
  have hpo : Sp.parts p = Sp.cutAt 47 p := (Sp.parts_ok (by rw [← Sp.cutAt_47]; exact hall) (by rw [← Sp.cutAt_47]; omega)).trans (Sp.cutAt_47 p).symm
  exact H.retP (by rw [hpo]; exact hr2_0)
theorem i_PathParts_c (w0 : World) (G0 : PH) (hG : PSub G0 w0) (p : Bs) (hp : p.length ≤ 16777216)  :
  Calls Tryz.prog 147 #[str p] w0 (RetP w0 G0 (fun G v => RdT G v (Sp.parts p))) := by
 have H := Hp.init hG
 refine calls_of_W (l := [str p]) Tryz.func147 rfl Tryz.ntmps147 rfl ?_
 refine q2 ?_
 refine o_assign rfl rfl ?_
 refine q1 ?_
 refine o_move rfl rfl ?_
 refine o_call Tryz.call159 rfl rfl (i_parts_c _ _ H.sub _ hp ) ?_
 rintro _ w1 ⟨G1, u1_0, g1, rfl, hr1_0⟩
 have H := H.grow g1
 obtain ⟨a1_0, k1_0, rfl⟩ := hr1_0.shape; have hx_hr1_0 : _ ≤ 1099511627776 := hr1_0.lim
 refine ⟨_, rfl, ?_⟩
 refine o_assign rfl rfl ?_
 refine q3 ?_
 refine W_ret ?_
 refine ret_gen (rs := [.tmp 2]) (vs := [_]) Tryz.results147 ⟨rfl, trivial⟩ ?_
 exact H.retP hr1_0
theorem i_valid_c (w0 : World) (G0 : PH) (hG : PSub G0 w0) (p : Bs) (hp : p.length ≤ 16777216)  :
  Calls Tryz.prog 129 #[str p] w0 (Rets w0 (.bool (Sp.PathValid p))) := by
 have H := Hp.init hG
 refine calls_of_W (l := [str p]) Tryz.func129 rfl Tryz.ntmps129 rfl ?_
 refine q2 ?_
 refine o_assign rfl rfl ?_
 refine q1 ?_
 refine o_move rfl rfl ?_
 refine o_call Tryz.call159 rfl rfl (i_parts_c _ _ H.sub _ hp ) ?_
 rintro _ w1 ⟨G1, u1_0, g1, rfl, hr1_0⟩
 have H := H.grow g1
 obtain ⟨a1_0, k1_0, rfl⟩ := hr1_0.shape; have hx_hr1_0 : _ ≤ 1099511627776 := hr1_0.lim
 refine ⟨_, rfl, ?_⟩
 refine o_len_slice Tryz.underlying87 rfl rfl ?_
 refine o_gtr rfl rfl rfl ?_
 refine o_assign rfl rfl ?_
 refine q3 ?_
 refine W_ret ?_
 refine ret_gen (rs := [.tmp 2]) (vs := [_]) Tryz.results129 ⟨rfl, trivial⟩ ?_
 exact H.rets (congrArg Value.bool (by rw [← Sp.parts_pos, Bool.eq_iff_iff]; simp))
theorem i_PathValid_c (w0 : World) (G0 : PH) (hG : PSub G0 w0) (p : Bs) (hp : p.length ≤ 16777216)  :
  Calls Tryz.prog 77 #[str p] w0 (Rets w0 (.bool (Sp.PathValid p))) := by
 have H := Hp.init hG
 refine calls_of_W (l := [str p]) Tryz.func77 rfl Tryz.ntmps77 rfl ?_
 refine q2 ?_
 refine o_assign rfl rfl ?_
 refine q1 ?_
 refine o_move rfl rfl ?_
 refine o_call Tryz.call129 rfl rfl (i_valid_c _ _ H.sub _ hp ) ?_
 rintro _ w1 ⟨rfl, ew1⟩; have H := H.step ew1; refine ⟨_, rfl, ?_⟩
 refine o_assign rfl rfl ?_
 refine q3 ?_
 refine W_ret ?_
 refine ret_gen (rs := [.tmp 2]) (vs := [_]) Tryz.results77 ⟨rfl, trivial⟩ ?_
 exact H.rets (congrArg Value.bool (by rfl))
theorem i_itemValid_c (w0 : World) (G0 : PH) (hG : PSub G0 w0) (cx : List Value) (x : BItem) (hx : itemE G0 x cx)  :
  Calls Tryz.prog 94 #[.agg cx.toArray] w0 (Rets w0 (.bool (Sp.l5Item x))) := by
 obtain ⟨a1, m1, c1, rfl, hi1, hr1⟩ := hx; have hy_hi1 : _ ≤ 16777216 := hi1; have hn_hr1 := hr1.len; have hx_hr1 : _ ≤ 1099511627776 := hr1.lim
 have H := Hp.init hG
 refine calls_of_W (l := [_]) Tryz.func94 rfl Tryz.ntmps94 rfl ?_
 refine q2 ?_
 refine o_box H rfl rfl rfl ?_; intro b2 w2 hb2 H
 refine o_assign rfl rfl ?_
 refine q3 ?_
 refine W_seq ?_
 refine q2 ?_
 refine o_fieldAddr 0 Tryz.runUnderlying39 rfl Tryz.sizeOf9 rfl rfl rfl ?_
 refine o_load_B 0 H Tryz.isAgg9 rfl rfl rfl rfl ?_
 refine o_call Tryz.call77 rfl rfl (i_PathValid_c _ _ H.sub _ hi1 ) ?_
 rintro _ w3 ⟨rfl, ew3⟩; have H := H.step ew3; refine ⟨_, rfl, ?_⟩
 refine o_not rfl rfl ?_
 refine o_move rfl rfl ?_
 refine R_case (t := 9) rfl ?_ ?_
 ·intro hc4
  try simp only [nrm] at hc4
  refine R_pass rfl (yl_ne rfl rfl rfl) ?_
  refine R_pass rfl (yl_ne rfl rfl rfl) ?_
  refine R_pass rfl (yl_ne rfl rfl rfl) ?_
  refine R_pass rfl (yl_ne rfl rfl rfl) ?_
  refine o_pick_t rfl rfl rfl ?_
  refine o_move rfl rfl ?_
  refine R_pass rfl (yl_ne rfl rfl rfl) ?_
  refine R_pass rfl (yl_ne rfl rfl rfl) ?_
  refine R_pass rfl (yl_ne rfl rfl rfl) ?_
  refine R_pass rfl (yl_un rfl rfl) ?_
  refine R_pass rfl (yl_un rfl rfl) ?_
  refine R_pass rfl (yl_un rfl rfl) ?_
  refine R_pass rfl (yl_un rfl rfl) ?_
  refine R_pass rfl (yl_ne rfl rfl rfl) ?_
  refine o_pick_t rfl rfl rfl ?_
  refine q3 ?_
  refine W_true rfl ?_
  refine q2 ?_
  refine o_assign rfl rfl ?_
  refine q3 ?_
  refine W_ret ?_
  refine N_K_ret ?_
  refine ret_gen (rs := [.tmp 2]) (vs := [_]) Tryz.results94 ⟨rfl, trivial⟩ ?_
  exact H.rets (congrArg Value.bool (by simp [Sp.l5Item, hc4]))
 intro hc4'
 try simp only [nrm] at hc4'
 refine R_guard (yl rfl rfl) ?_
 refine o_fieldAddr 2 Tryz.runUnderlying39 rfl Tryz.sizeOf27 rfl rfl rfl ?_
 refine R_guard (yl rfl rfl) ?_
 refine o_load_B 0 H Tryz.isAgg27 rfl rfl rfl rfl ?_
 refine R_guard (yl rfl rfl) ?_
 refine o_len_slice Tryz.underlying27 rfl rfl ?_
 refine R_guard (yl rfl rfl) ?_
 refine o_gtr rfl rfl rfl ?_
 refine o_pick_f rfl rfl rfl ?_
 refine o_move rfl rfl ?_
 refine R_case (t := 15) rfl ?_ ?_
 ·intro hc5
  try simp only [nrm] at hc5
  refine R_pass rfl (yl_ne rfl rfl rfl) ?_
  refine R_pass rfl (yl_ne rfl rfl rfl) ?_
  refine R_pass rfl (yl_ne rfl rfl rfl) ?_
  refine R_pass rfl (yl_un rfl rfl) ?_
  refine R_pass rfl (yl_un rfl rfl) ?_
  refine R_pass rfl (yl_un rfl rfl) ?_
  refine R_pass rfl (yl_un rfl rfl) ?_
  refine R_pass rfl (yl_ne rfl rfl rfl) ?_
  refine o_pick_t rfl rfl rfl ?_
  refine q3 ?_
  refine W_true rfl ?_
  refine q2 ?_
  refine o_assign rfl rfl ?_
  refine q3 ?_
  refine W_ret ?_
  refine N_K_ret ?_
  refine ret_gen (rs := [.tmp 2]) (vs := [_]) Tryz.results94 ⟨rfl, trivial⟩ ?_
  exact H.rets (congrArg Value.bool (by rw [Sp.l5Item, Bool.eq_iff_iff]; simp; intros; omega))
 intro hc5'
 try simp only [nrm] at hc5'
 refine R_guard (yl rfl rfl) ?_
 refine o_fieldAddr 1 Tryz.runUnderlying39 rfl Tryz.sizeOf4 rfl rfl rfl ?_
 refine R_guard (yl rfl rfl) ?_
 refine o_load_B 0 H Tryz.isAgg4 rfl rfl rfl rfl ?_
 refine R_guard (yl rfl rfl) ?_
 refine o_move rfl rfl ?_
 refine R_case (t := 18) rfl ?_ ?_
 ·intro hc6
  try simp only [nrm] at hc6
  refine R_guard (yl rfl rfl) ?_
  refine o_fieldAddr 2 Tryz.runUnderlying39 rfl Tryz.sizeOf27 rfl rfl rfl ?_
  refine R_guard (yl rfl rfl) ?_
  refine o_load_B 0 H Tryz.isAgg27 rfl rfl rfl rfl ?_
  refine R_guard (yl rfl rfl) ?_
  refine o_len_slice Tryz.underlying27 rfl rfl ?_
  refine R_guard (yl rfl rfl) ?_
  refine o_gtr rfl rfl rfl ?_
  refine R_guard (yl rfl rfl) ?_
  refine o_pick_t rfl rfl rfl ?_
  refine o_pick_f rfl rfl rfl ?_
  refine q3 ?_
  refine W_cond rfl ?_ ?_
  ·intro hc7
   try simp only [nrm] at hc7
   refine q2 ?_
   refine o_assign rfl rfl ?_
   refine q3 ?_
   refine W_ret ?_
   refine N_K_ret ?_
   refine ret_gen (rs := [.tmp 2]) (vs := [_]) Tryz.results94 ⟨rfl, trivial⟩ ?_
   exact H.rets (congrArg Value.bool (by rw [Sp.l5Item, Sp.all_false (c := x.ids[0]) (k := 0) (List.getElem?_eq_getElem (by omega)) (by simp [Sp.idOk, hc6])]; rfl))
  intro hc7'
  try simp only [nrm] at hc7'
  refine W_skip ?_
  refine N_K ?_
  refine W_seq ?_
  refine q2 ?_
  refine o_fieldAddr 2 Tryz.runUnderlying39 rfl Tryz.sizeOf27 rfl rfl rfl ?_
  refine o_load_B 0 H Tryz.isAgg27 rfl rfl rfl rfl ?_
  refine o_len_slice Tryz.underlying27 rfl rfl ?_
  refine o_move rfl rfl ?_
  refine q3 ?_
  refine W_block ?_
  obtain ⟨ln8, hln8, H⟩ := H.name (k := 0) rfl
  refine W_loop (hf := (Sub.cons (t := 26) rfl (Sub.cons (t := 27) rfl Sub.nil))) (J := fun M w m => ∃ (k : Nat) (G : PH), M = [(28, .int .i64 (k : Int))] ∧ PLe G0 G ∧ Hp w0 G0 [] w G [blk b2 (cl ln8 39)] ∧ (k ≤ x.ids.length ∧ (x.ids.take k).all (Sp.idOk x.dir) = true) ∧ m = (x.ids.length - k)) (h0 := ⟨0, _, rfl, PLe.refl _, H, ?inv, rfl⟩) (hM := ?hM) (round := ?round)
  case hM => (repeat (first | exact Sub.nil | refine Sub.cons rfl ?_))
  case inv => exact ⟨by omega, by simp⟩
  case round =>
   rintro _ w9 _ ⟨k, G9, rfl, hle9, H, hinv9, rfl⟩
   subst hln8
   have hr1 := hr1.up hle9
   obtain ⟨hk, hall⟩ := hinv9
   refine q2 ?_
   refine o_lss rfl rfl rfl ?_
   refine q3 ?_
   refine W_seq ?_
   refine W_cond rfl ?_ ?_
   ·intro hc10
    try simp only [nrm] at hc10
    refine W_skip ?_
    refine N_K ?_
    refine W_seq ?_
    refine W_block ?_
    refine q2 ?_
    refine o_index_P k hr1 Tryz.underlying27 Tryz.sizeOf3 rfl rfl rfl rfl (by omega) ?_; intro b11 o11 z11 q11 hz11 hE11 hrow11
    obtain ⟨rfl, hi11⟩ := hE11
    refine o_load_P H Tryz.isAgg3 rfl rfl (hrow11 0 _ rfl) ?_
    refine o_assign rfl rfl ?_
    refine q1 ?_
    refine o_move rfl rfl ?_
    refine o_lss rfl rfl rfl ?_
    refine o_move rfl rfl ?_
    refine R_case (t := 34) rfl ?_ ?_
    ·intro hc12
     try simp only [nrm] at hc12
     refine R_pass rfl (yl_ne rfl rfl rfl) ?_
     refine R_pass rfl (yl_ne rfl rfl rfl) ?_
     refine o_pick_t rfl rfl rfl ?_
     refine q3 ?_
     refine W_true rfl ?_
     refine q2 ?_
     refine o_assign rfl rfl ?_
     refine q3 ?_
     refine W_ret ?_
     refine N_B_ret ?_
     refine N_K_ret ?_
     refine N_LP_ret ?_
     refine N_B_ret ?_
     refine N_K_ret ?_
     refine ret_gen (rs := [.tmp 2]) (vs := [_]) Tryz.results94 ⟨rfl, trivial⟩ ?_
     exact H.rets (congrArg Value.bool (by rw [Sp.l5Item, Sp.all_false hz11 (by first | (exfalso; omega) | (simp [Sp.idOk, Sp.l6In, *]; done) | (simp [Sp.idOk, Sp.l6In, *]; omega))]; rfl))
    intro hc12'
    try simp only [nrm] at hc12'
    refine R_guard (yl rfl rfl) ?_
    refine o_move rfl rfl ?_
    refine R_guard (yl rfl rfl) ?_
    refine o_gtr rfl rfl rfl ?_
    refine o_pick_f rfl rfl rfl ?_
    refine q3 ?_
    refine W_cond rfl ?_ ?_
    ·intro hc13
     try simp only [nrm] at hc13
     refine q2 ?_
     refine o_assign rfl rfl ?_
     refine q3 ?_
     refine W_ret ?_
     refine N_B_ret ?_
     refine N_K_ret ?_
     refine N_LP_ret ?_
     refine N_B_ret ?_
     refine N_K_ret ?_
     refine ret_gen (rs := [.tmp 2]) (vs := [_]) Tryz.results94 ⟨rfl, trivial⟩ ?_
     exact H.rets (congrArg Value.bool (by rw [Sp.l5Item, Sp.all_false hz11 (by first | (exfalso; omega) | (simp [Sp.idOk, Sp.l6In, *]; done) | (simp [Sp.idOk, Sp.l6In, *]; omega))]; rfl))
    intro hc13'
    try simp only [nrm] at hc13'
    refine W_skip ?_
    refine N_B ?_
    refine N_K ?_
    refine W_region ?_
    refine o_add rfl rfl rfl ⟨by omega, by omega⟩ ?_
    refine o_move rfl rfl ?_
    refine R_nil ?_
    refine N_LP (hJ := ⟨k + 1, _, rfl, hle9, H, ?inv, rfl⟩) (hM := ?hM) (hf := ?hf) (hm := ?hm)
    case hM => (repeat (first | exact Sub.nil | refine Sub.cons rfl ?_))
    case hf => (repeat (first | exact Sub.nil | refine Sub.cons rfl ?_))
    case hm => omega
    case inv => exact ⟨by omega, Sp.all_take hall hz11 (by first | (exfalso; omega) | (simp [Sp.idOk, Sp.l6In, *]; done) | (simp [Sp.idOk, Sp.l6In, *]; omega))⟩
   intro hc10'
   try simp only [nrm] at hc10'
   refine W_exit ?_
   refine N_K_exit ?_
   refine N_LP_exit ?_
   refine N_B_same ?_
   refine N_K ?_
   refine q2 ?_
   refine o_assign rfl rfl ?_
   refine q3 ?_
   refine W_ret ?_
   refine ret_gen (rs := [.tmp 2]) (vs := [_]) Tryz.results94 ⟨rfl, trivial⟩ ?_
   obtain rfl : k = x.ids.length := by omega
   rw [List.take_length] at hall
   exact H.rets (congrArg Value.bool (by rw [Sp.l5Item, hall, Bool.eq_iff_iff]; simp [hc4']; omega))
 intro hc6'
 try simp only [nrm] at hc6'
 refine R_pass rfl (yl_ne rfl rfl rfl) ?_
 refine R_pass rfl (yl_ne rfl rfl rfl) ?_
 refine R_pass rfl (yl_ne rfl rfl rfl) ?_
 refine R_pass rfl (yl_ne rfl rfl rfl) ?_
 refine R_guard (yl rfl rfl) ?_
 refine o_pick_f rfl rfl rfl ?_
 refine o_pick_f rfl rfl rfl ?_
 refine q3 ?_
 refine W_false rfl ?_
 refine W_skip ?_
 refine N_K ?_
 refine W_seq ?_
 refine q2 ?_
 refine o_fieldAddr 2 Tryz.runUnderlying39 rfl Tryz.sizeOf27 rfl rfl rfl ?_
 refine o_load_B 0 H Tryz.isAgg27 rfl rfl rfl rfl ?_
 refine o_len_slice Tryz.underlying27 rfl rfl ?_
 refine o_move rfl rfl ?_
 refine q3 ?_
 refine W_block ?_
 obtain ⟨ln15, hln15, H⟩ := H.name (k := 0) rfl
 refine W_loop (hf := (Sub.cons (t := 26) rfl (Sub.cons (t := 27) rfl Sub.nil))) (J := fun M w m => ∃ (k : Nat) (G : PH), M = [(28, .int .i64 (k : Int))] ∧ PLe G0 G ∧ Hp w0 G0 [] w G [blk b2 (cl ln15 39)] ∧ (k ≤ x.ids.length ∧ (x.ids.take k).all (Sp.idOk x.dir) = true) ∧ m = (x.ids.length - k)) (h0 := ⟨0, _, rfl, PLe.refl _, H, ?inv, rfl⟩) (hM := ?hM) (round := ?round)
 case hM => (repeat (first | exact Sub.nil | refine Sub.cons rfl ?_))
 case inv => exact ⟨by omega, by simp⟩
 case round =>
  rintro _ w16 _ ⟨k, G16, rfl, hle16, H, hinv16, rfl⟩
  subst hln15
  have hr1 := hr1.up hle16
  obtain ⟨hk, hall⟩ := hinv16
  refine q2 ?_
  refine o_lss rfl rfl rfl ?_
  refine q3 ?_
  refine W_seq ?_
  refine W_cond rfl ?_ ?_
  ·intro hc17
   try simp only [nrm] at hc17
   refine W_skip ?_
   refine N_K ?_
   refine W_seq ?_
   refine W_block ?_
   refine q2 ?_
   refine o_index_P k hr1 Tryz.underlying27 Tryz.sizeOf3 rfl rfl rfl rfl (by omega) ?_; intro b18 o18 z18 q18 hz18 hE18 hrow18
   obtain ⟨rfl, hi18⟩ := hE18
   refine o_load_P H Tryz.isAgg3 rfl rfl (hrow18 0 _ rfl) ?_
   refine o_assign rfl rfl ?_
   refine q1 ?_
   refine o_move rfl rfl ?_
   refine o_lss rfl rfl rfl ?_
   refine o_move rfl rfl ?_
   refine R_case (t := 34) rfl ?_ ?_
   ·intro hc19
    try simp only [nrm] at hc19
    refine R_pass rfl (yl_ne rfl rfl rfl) ?_
    refine R_pass rfl (yl_ne rfl rfl rfl) ?_
    refine o_pick_t rfl rfl rfl ?_
    refine q3 ?_
    refine W_true rfl ?_
    refine q2 ?_
    refine o_assign rfl rfl ?_
    refine q3 ?_
    refine W_ret ?_
    refine N_B_ret ?_
    refine N_K_ret ?_
    refine N_LP_ret ?_
    refine N_B_ret ?_
    refine N_K_ret ?_
    refine ret_gen (rs := [.tmp 2]) (vs := [_]) Tryz.results94 ⟨rfl, trivial⟩ ?_
    exact H.rets (congrArg Value.bool (by rw [Sp.l5Item, Sp.all_false hz18 (by first | (exfalso; omega) | (simp [Sp.idOk, Sp.l6In, *]; done) | (simp [Sp.idOk, Sp.l6In, *]; omega))]; rfl))
   intro hc19'
   try simp only [nrm] at hc19'
   refine R_guard (yl rfl rfl) ?_
   refine o_move rfl rfl ?_
   refine R_guard (yl rfl rfl) ?_
   refine o_gtr rfl rfl rfl ?_
   refine o_pick_f rfl rfl rfl ?_
   refine q3 ?_
   refine W_cond rfl ?_ ?_
   ·intro hc20
    try simp only [nrm] at hc20
    refine q2 ?_
    refine o_assign rfl rfl ?_
    refine q3 ?_
    refine W_ret ?_
    refine N_B_ret ?_
    refine N_K_ret ?_
    refine N_LP_ret ?_
    refine N_B_ret ?_
    refine N_K_ret ?_
    refine ret_gen (rs := [.tmp 2]) (vs := [_]) Tryz.results94 ⟨rfl, trivial⟩ ?_
    exact H.rets (congrArg Value.bool (by rw [Sp.l5Item, Sp.all_false hz18 (by first | (exfalso; omega) | (simp [Sp.idOk, Sp.l6In, *]; done) | (simp [Sp.idOk, Sp.l6In, *]; omega))]; rfl))
   intro hc20'
   try simp only [nrm] at hc20'
   refine W_skip ?_
   refine N_B ?_
   refine N_K ?_
   refine W_region ?_
   refine o_add rfl rfl rfl ⟨by omega, by omega⟩ ?_
   refine o_move rfl rfl ?_
   refine R_nil ?_
   refine N_LP (hJ := ⟨k + 1, _, rfl, hle16, H, ?inv, rfl⟩) (hM := ?hM) (hf := ?hf) (hm := ?hm)
   case hM => (repeat (first | exact Sub.nil | refine Sub.cons rfl ?_))
   case hf => (repeat (first | exact Sub.nil | refine Sub.cons rfl ?_))
   case hm => omega
   case inv => exact ⟨by omega, Sp.all_take hall hz18 (by first | (exfalso; omega) | (simp [Sp.idOk, Sp.l6In, *]; done) | (simp [Sp.idOk, Sp.l6In, *]; omega))⟩
  intro hc17'
  try simp only [nrm] at hc17'
  refine W_exit ?_
  refine N_K_exit ?_
  refine N_LP_exit ?_
  refine N_B_same ?_
  refine N_K ?_
  refine q2 ?_
  refine o_assign rfl rfl ?_
  refine q3 ?_
  refine W_ret ?_
  refine ret_gen (rs := [.tmp 2]) (vs := [_]) Tryz.results94 ⟨rfl, trivial⟩ ?_
  obtain rfl : k = x.ids.length := by omega
  rw [List.take_length] at hall
  exact H.rets (congrArg Value.bool (by rw [Sp.l5Item, hall, Bool.eq_iff_iff]; simp [hc4']; omega))
end Go.Proofs.Tst

namespace Go.Proofs.Tst
open Go Fw
theorem l_isNaN_c (w0 : World) (x : Bs) (hx : x.length ≤ 16777216)  :
  Calls Tryz.prog 190 #[str x] w0 (Rets w0 (.bool false)) := by
 have H := Hp.init0 w0
 refine calls_of_W (l := [str x]) Tryz.func190 rfl Tryz.ntmps190 rfl ?_
 refine q2 ?_
 refine o_assign rfl rfl ?_
 refine q1 ?_
 refine o_move rfl rfl ?_
 refine o_move rfl rfl ?_
 refine o_sneq rfl rfl rfl ?_
 refine o_assign rfl rfl ?_
 refine q3 ?_
 refine W_ret ?_
 refine ret_gen (rs := [.tmp 2]) (vs := [_]) Tryz.results190 ⟨rfl, trivial⟩ ?_
 exact H.rets (congrArg Value.bool (by simp))
theorem l_Compare_c (w0 : World) (x : Bs) (hx : x.length ≤ 16777216) (y : Bs) (hy : y.length ≤ 16777216)  :
  Calls Tryz.prog 171 #[str x, str y] w0 (Rets w0 (.int .i64 (Sp.cmpB x y))) := by
 have H := Hp.init0 w0
 refine calls_of_W (l := [str x, str y]) Tryz.func171 rfl Tryz.ntmps171 rfl ?_
 refine q2 ?_
 refine o_assign rfl rfl ?_
 refine q1 ?_
 refine o_move rfl rfl ?_
 refine o_call Tryz.call190 rfl rfl (l_isNaN_c _ _ hx ) ?_
 rintro _ w1 ⟨rfl, ew1⟩; have H := H.step ew1; refine ⟨_, rfl, ?_⟩
 refine o_assign rfl rfl ?_
 refine q1 ?_
 refine o_move rfl rfl ?_
 refine o_call Tryz.call190 rfl rfl (l_isNaN_c _ _ hy ) ?_
 rintro _ w2 ⟨rfl, ew2⟩; have H := H.step ew2; refine ⟨_, rfl, ?_⟩
 refine o_assign rfl rfl ?_
 refine q3 ?_
 refine W_seq ?_
 refine q2 ?_
 refine o_move rfl rfl ?_
 refine q3 ?_
 refine W_false rfl ?_
 refine W_skip ?_
 refine N_K ?_
 refine W_seq ?_
 refine q2 ?_
 refine o_move rfl rfl ?_
 refine q3 ?_
 refine W_false rfl ?_
 refine W_skip ?_
 refine N_K ?_
 refine W_seq ?_
 refine q2 ?_
 refine o_move rfl rfl ?_
 refine o_move rfl rfl ?_
 refine o_slss rfl rfl rfl ?_
 refine q3 ?_
 refine W_cond rfl ?_ ?_
 ·intro hc3
  try simp only [nrm] at hc3
  refine q2 ?_
  refine o_assign rfl rfl ?_
  refine q3 ?_
  refine W_ret ?_
  refine N_K_ret ?_
  refine ret_gen (rs := [.tmp 4]) (vs := [_]) Tryz.results171 ⟨rfl, trivial⟩ ?_
  exact H.rets (congrArg (Value.int .i64) (by unfold Sp.cmpB; simp_all))
 intro hc3'
 try simp only [nrm] at hc3'
 refine W_skip ?_
 refine N_K ?_
 refine W_seq ?_
 refine q2 ?_
 refine o_move rfl rfl ?_
 refine o_move rfl rfl ?_
 refine o_sgtr rfl rfl rfl ?_
 refine q3 ?_
 refine W_cond rfl ?_ ?_
 ·intro hc4
  try simp only [nrm] at hc4
  refine q2 ?_
  refine o_assign rfl rfl ?_
  refine q3 ?_
  refine W_ret ?_
  refine N_K_ret ?_
  refine ret_gen (rs := [.tmp 4]) (vs := [_]) Tryz.results171 ⟨rfl, trivial⟩ ?_
  exact H.rets (congrArg (Value.int .i64) (by unfold Sp.cmpB; simp_all))
 intro hc4'
 try simp only [nrm] at hc4'
 refine W_skip ?_
 refine N_K ?_
 refine q2 ?_
 refine o_assign rfl rfl ?_
 refine q3 ?_
 refine W_ret ?_
 refine ret_gen (rs := [.tmp 4]) (vs := [_]) Tryz.results171 ⟨rfl, trivial⟩ ?_
 exact H.rets (congrArg (Value.int .i64) (by unfold Sp.cmpB; simp_all))
theorem i_place1_c (w0 : World) (G0 : PH) (hG : PSub G0 w0) (t : Nd) (hndt : RdN G0 t) (nm : Bs) (hnm : nm.length ≤ 16777216)  :
  Calls Tryz.prog 170 #[.pointer (some ⟨t.b, 0, none⟩), str nm] w0 (Rets w0 (.int .i64 (Sp.cmpB t.name nm))) := by
 obtain ⟨hnlt, nat, nmt, nct, nAt, nMt, nCt, hprt, hrit, hrkt⟩ := hndt.open
 have hn_hrit := hrit.len; have hx_hrit : _ ≤ 1099511627776 := hrit.lim
 have hn_hrkt := hrkt.len; have hx_hrkt : _ ≤ 1099511627776 := hrkt.lim
 have H := Hp.init hG
 refine calls_of_W (l := [.pointer (some ⟨t.b, 0, none⟩), str nm]) Tryz.func170 rfl Tryz.ntmps170 rfl ?_
 refine q2 ?_
 refine o_assign rfl rfl ?_
 refine q1 ?_
 refine o_move rfl rfl ?_
 refine o_nilCheck rfl rfl ?_
 refine o_fieldAddr 0 Tryz.runUnderlying83 rfl Tryz.sizeOf9 rfl rfl rfl ?_
 refine o_load_P H Tryz.isAgg9 rfl rfl (hprt 0 _ rfl) ?_
 refine o_move rfl rfl ?_
 refine o_call Tryz.call171 rfl rfl (l_Compare_c _ _ hnlt _ hnm ) ?_
 rintro _ w1 ⟨rfl, ew1⟩; have H := H.step ew1; refine ⟨_, rfl, ?_⟩
 refine o_assign rfl rfl ?_
 refine q3 ?_
 refine W_ret ?_
 refine ret_gen (rs := [.tmp 4]) (vs := [_]) Tryz.results170 ⟨rfl, trivial⟩ ?_
 exact H.rets (congrArg (Value.int .i64) (by rfl))
theorem l_Search_c (w0 : World) (G0 : PH) (hG : PSub G0 w0) (vkids : Value) (kids : List (Nd)) (hkids : RdNd G0 vkids kids) (nm : Bs) (hnm : nm.length ≤ 16777216) (hsk : Sp.srt kids)  :
  Calls Tryz.prog 169 #[vkids, str nm, .func (.func 170) #[] #[]] w0 (Rets w0 (.tuple #[.int .i64 (Sp.pl kids nm : Nat), .bool (Sp.fd kids nm).isSome])) := by
 obtain ⟨akids, kkids, rfl⟩ := hkids.shape
 have hlimkids : kids.length ≤ 1099511627776 := hkids.lim
 have H := Hp.init hG
 refine calls_of_W (l := [.slice akids kids.length kkids, str nm, .func (.func 170) #[] #[]]) Tryz.func169 rfl Tryz.ntmps169 rfl ?_
 refine q2 ?_
 refine o_assign rfl rfl ?_
 refine o_assign rfl rfl ?_
 refine q1 ?_
 refine o_move rfl rfl ?_
 refine o_len_slice Tryz.underlying81 rfl rfl ?_
 refine o_assign rfl rfl ?_
 refine q1 ?_
 refine o_move rfl rfl ?_
 refine o_assign rfl rfl ?_
 refine o_assign rfl rfl ?_
 refine q3 ?_
 refine W_seq ?_
 refine W_block ?_
 refine W_loop (hf := (Sub.cons (t := 0) rfl (Sub.cons (t := 1) rfl (Sub.cons (t := 2) rfl (Sub.cons (t := 6) rfl (Sub.cons (t := 7) rfl (Sub.cons (t := 8) rfl Sub.nil))))))) (J := fun M w m => ∃ (i j : Nat) (G : PH), M = [(9, .int .i64 (i : Int)), (10, .int .i64 (j : Int))] ∧ PLe G0 G ∧ Hp w0 G0 [] w G [] ∧ (i ≤ j ∧ j ≤ kids.length ∧ (∀ (k : Nat) (x : Nd), k < i → kids[k]? = some x → Sp.lt x.name nm = true) ∧ (∀ (k : Nat) (x : Nd), j ≤ k → kids[k]? = some x → Sp.lt x.name nm = false)) ∧ m = (j - i)) (h0 := ⟨0, kids.length, _, rfl, PLe.refl _, H, ?inv, rfl⟩) (hM := ?hM) (round := ?round)
 case hM => (repeat (first | exact Sub.nil | refine Sub.cons rfl ?_))
 case inv => exact ⟨by omega, by omega, fun k x hk => by omega, fun k x hk hx => by have := (List.getElem?_eq_some_iff.1 hx).1; omega⟩
 case round =>
  rintro _ w1 _ ⟨i, j, G1, rfl, hle1, H, hinv1, rfl⟩
  have hkids := hkids.up hle1
  obtain ⟨hij, hjl, hlo, hhi⟩ := hinv1
  refine W_seq ?_
  refine q2 ?_
  refine o_move rfl rfl ?_
  refine o_move rfl rfl ?_
  refine o_lss rfl rfl rfl ?_
  refine q3 ?_
  refine W_cond rfl ?_ ?_
  ·intro hc2
   try simp only [nrm] at hc2
   refine W_skip ?_
   refine N_K ?_
   refine W_block ?_
   refine q2 ?_
   refine o_move rfl rfl ?_
   refine o_move rfl rfl ?_
   refine o_add rfl rfl rfl ⟨by omega, by omega⟩ ?_
   refine o_conv (by simp [Tryz.underlying3]) Tryz.underlying227 rfl rfl (wrap_u64 ⟨by omega, by omega⟩) ?_
   refine o_shr1 rfl rfl rfl (by decide) ?_
   refine o_conv (by simp [Tryz.underlying227]) Tryz.underlying3 rfl rfl (wrap_i64 ⟨by omega, by omega⟩) ?_
   refine o_assign rfl rfl ?_
   refine q1 ?_
   refine o_move rfl rfl ?_
   refine o_move rfl rfl ?_
   refine o_move rfl rfl ?_
   refine o_index_P ((i + j) / 2) hkids Tryz.underlying81 Tryz.sizeOf67 rfl rfl rfl (by omega) (by first | omega | (simp; omega)) ?_; intro b4 o4 z4 q4 hz4 hE4 hrow4
   obtain ⟨rfl, hnd4⟩ := hE4; obtain ⟨hnl4, na4, nm4, nc4, nA4, nM4, nC4, hpr4, hri4, hrk4⟩ := hnd4.open; have hn_hri4 := hri4.len; have hx_hri4 : _ ≤ 1099511627776 := hri4.lim; have hn_hrk4 := hrk4.len; have hx_hrk4 : _ ≤ 1099511627776 := hrk4.lim
   refine o_load_P H Tryz.isAgg67 rfl rfl (hrow4 0 _ rfl) ?_
   refine o_move rfl rfl ?_
   refine o_callv Tryz.call170 rfl rfl rfl (i_place1_c _ _ H.sub _ hnd4 _ hnm ) ?_
   rintro _ w5 ⟨rfl, ew5⟩; have H := H.step ew5; refine ⟨_, rfl, ?_⟩
   refine o_lss rfl rfl rfl ?_
   refine q3 ?_
   refine W_cond rfl ?_ ?_
   ·intro hc6
    try simp only [nrm] at hc6
    refine W_region ?_
    refine o_move rfl rfl ?_
    refine o_add rfl rfl rfl ⟨by omega, by omega⟩ ?_
    refine o_assign rfl rfl ?_
    refine R_nil ?_
    refine N_B ?_
    refine N_LP (hJ := ⟨((i + j) / 2 + 1), j, _, rfl, hle1, H, ?inv, rfl⟩) (hM := ?hM) (hf := ?hf) (hm := ?hm)
    case hM => (repeat (first | exact Sub.nil | refine Sub.cons rfl ?_))
    case hf => (repeat (first | exact Sub.nil | refine Sub.cons rfl ?_))
    case hm => omega
    case inv => exact ⟨by omega, by omega, Sp.pw_lt hsk hz4 ((Sp.cmpB_lt _ _).1 hc6), hhi⟩
   intro hc6'
   try simp only [nrm] at hc6'
   refine W_region ?_
   refine o_move rfl rfl ?_
   refine o_assign rfl rfl ?_
   refine R_nil ?_
   refine N_B ?_
   refine N_LP (hJ := ⟨i, ((i + j) / 2), _, rfl, hle1, H, ?inv, rfl⟩) (hM := ?hM) (hf := ?hf) (hm := ?hm)
   case hM => (repeat (first | exact Sub.nil | refine Sub.cons rfl ?_))
   case hf => (repeat (first | exact Sub.nil | refine Sub.cons rfl ?_))
   case hm => omega
   case inv => exact ⟨by omega, by omega, hlo, Sp.pw_ge hsk hz4 (by cases hlt : Sp.lt z4.name nm with | false => rfl | true => exact absurd ((Sp.cmpB_lt _ _).2 hlt) (by omega))⟩
  intro hc2'
  try simp only [nrm] at hc2'
  refine W_exit ?_
  refine N_K_exit ?_
  refine N_LP_exit ?_
  refine N_B_same ?_
  refine N_K ?_
  refine q2 ?_
  refine o_move rfl rfl ?_
  refine o_move rfl rfl ?_
  refine o_move rfl rfl ?_
  refine o_lss rfl rfl rfl ?_
  refine o_move rfl rfl ?_
  refine R_case (t := 39) rfl ?_ ?_
  ·intro hc8
   try simp only [nrm] at hc8
   refine R_guard (yl rfl rfl) ?_
   refine o_move rfl rfl ?_
   refine R_guard (yl rfl rfl) ?_
   refine o_move rfl rfl ?_
   refine R_guard (yl rfl rfl) ?_
   refine o_move rfl rfl ?_
   refine R_guard (yl rfl rfl) ?_
   refine o_index_P i hkids Tryz.underlying81 Tryz.sizeOf67 rfl rfl rfl rfl (by first | omega | (simp; omega)) ?_; intro b9 o9 z9 q9 hz9 hE9 hrow9
   obtain ⟨rfl, hnd9⟩ := hE9; obtain ⟨hnl9, na9, nm9, nc9, nA9, nM9, nC9, hpr9, hri9, hrk9⟩ := hnd9.open; have hn_hri9 := hri9.len; have hx_hri9 : _ ≤ 1099511627776 := hri9.lim; have hn_hrk9 := hrk9.len; have hx_hrk9 : _ ≤ 1099511627776 := hrk9.lim
   refine R_guard (yl rfl rfl) ?_
   refine o_load_P H Tryz.isAgg67 rfl rfl (hrow9 0 _ rfl) ?_
   refine R_guard (yl rfl rfl) ?_
   refine o_move rfl rfl ?_
   refine R_guard (yl rfl rfl) ?_
   refine o_callv Tryz.call170 rfl rfl rfl (i_place1_c _ _ H.sub _ hnd9 _ hnm ) ?_
   rintro _ w10 ⟨rfl, ew10⟩; have H := H.step ew10; refine ⟨_, rfl, ?_⟩
   refine R_guard (yl rfl rfl) ?_
   refine o_eql rfl rfl rfl ?_
   refine o_pick_t rfl rfl rfl ?_
   refine o_assign rfl rfl ?_
   refine o_assign rfl rfl ?_
   refine q3 ?_
   refine W_ret ?_
   refine ret_gen (rs := [.tmp 6, .tmp 7]) (vs := [_, _]) Tryz.results169 ⟨rfl, rfl, trivial⟩ ?_
   obtain rfl : i = j := by omega
   have hpl := Sp.pl_of (by omega) hlo hhi
   obtain ⟨hfd, _⟩ := Sp.fd_at hsk hz9 hlo hhi
   exact H.rets (by rw [hpl, hfd]; simp only [Sp.cmpB_eq]; rfl)
  intro hc8'
  try simp only [nrm] at hc8'
  refine R_pass rfl (yl_ne rfl rfl rfl) ?_
  refine R_pass rfl (yl_ne rfl rfl rfl) ?_
  refine R_pass rfl (yl_ne rfl rfl rfl) ?_
  refine R_pass rfl (yl_ne rfl rfl rfl) ?_
  refine R_pass rfl (yl_ne rfl rfl rfl) ?_
  refine R_pass rfl (yl_ne rfl rfl rfl) ?_
  refine R_pass rfl (yl_ne rfl rfl rfl) ?_
  refine R_pass rfl (yl_ne rfl rfl rfl) ?_
  refine o_pick_f rfl rfl rfl ?_
  refine o_assign rfl rfl ?_
  refine o_assign rfl rfl ?_
  refine q3 ?_
  refine W_ret ?_
  refine ret_gen (rs := [.tmp 6, .tmp 7]) (vs := [_, _]) Tryz.results169 ⟨rfl, rfl, trivial⟩ ?_
  obtain rfl : i = j := by omega
  have hpl := Sp.pl_of (by omega) hlo hhi
  have hfd := Sp.fd_end (nm := nm) (ks := kids) (fun k x hk hx => hlo k x (by omega) hx)
  exact H.rets (by rw [hpl, hfd]; rfl)
theorem i_place_c (w0 : World) (G0 : PH) (hG : PSub G0 w0) (t : Nd) (hndt : RdN G0 t) (nm : Bs) (hnm : nm.length ≤ 16777216) (hwt : t.wf) :
  Calls Tryz.prog 145 #[.pointer (some ⟨t.b, 0, none⟩), str nm] w0 (Rets w0 (.tuple #[.int .i64 (Sp.pl t.kids nm : Nat), .bool (Sp.fd t.kids nm).isSome])) := by
 obtain ⟨hnlt, nat, nmt, nct, nAt, nMt, nCt, hprt, hrit, hrkt⟩ := hndt.open
 have hn_hrit := hrit.len; have hx_hrit : _ ≤ 1099511627776 := hrit.lim
 have hn_hrkt := hrkt.len; have hx_hrkt : _ ≤ 1099511627776 := hrkt.lim
 have H := Hp.init hG
 refine calls_of_W (l := [.pointer (some ⟨t.b, 0, none⟩), str nm]) Tryz.func145 rfl Tryz.ntmps145 rfl ?_
 refine q2 ?_
 refine o_assign rfl rfl ?_
 refine o_assign rfl rfl ?_
 refine q1 ?_
 refine o_move rfl rfl ?_
 refine o_nilCheck rfl rfl ?_
 refine o_fieldAddr 3 Tryz.runUnderlying83 rfl Tryz.sizeOf81 rfl rfl rfl ?_
 refine o_load_P H Tryz.isAgg81 rfl rfl (hprt 3 _ rfl) ?_
 refine o_move rfl rfl ?_
 refine o_call Tryz.call169 rfl rfl (l_Search_c _ _ H.sub _ _ hrkt _ hnm ((Nd.wf_iff _).1 hwt).1 ) ?_
 rintro _ w1 ⟨rfl, ew1⟩; have H := H.step ew1; refine ⟨_, rfl, ?_⟩
 refine o_extract rfl rfl rfl ?_
 refine o_extract rfl rfl rfl ?_
 refine o_assign rfl rfl ?_
 refine o_assign rfl rfl ?_
 refine q3 ?_
 refine W_ret ?_
 refine ret_gen (rs := [.tmp 4, .tmp 5]) (vs := [_, _]) Tryz.results145 ⟨rfl, rfl, trivial⟩ ?_
 exact H.rets rfl
theorem i_at_c (w0 : World) (G0 : PH) (hG : PSub G0 w0) (t : Nd) (hndt : RdN G0 t) (vps : Value) (ps : List (Bs)) (hps : RdT G0 vps ps) (hwt : t.wf) :
  Calls Tryz.prog 97 #[.pointer (some ⟨t.b, 0, none⟩), vps] w0 (RetV w0 (fun v => (t.at_ ps = none ∧ v = .pointer none) ∨ (∃ d, t.at_ ps = some d ∧ v = .pointer (some ⟨d.b, 0, none⟩)))) := by
 obtain ⟨hnlt, nat, nmt, nct, nAt, nMt, nCt, hprt, hrit, hrkt⟩ := hndt.open
 have hn_hrit := hrit.len; have hx_hrit : _ ≤ 1099511627776 := hrit.lim
 have hn_hrkt := hrkt.len; have hx_hrkt : _ ≤ 1099511627776 := hrkt.lim
 obtain ⟨aps, kps, rfl⟩ := hps.shape
 have hlimps : ps.length ≤ 1099511627776 := hps.lim
 have H := Hp.init hG
 refine calls_of_W (l := [.pointer (some ⟨t.b, 0, none⟩), .slice aps ps.length kps]) Tryz.func97 rfl Tryz.ntmps97 rfl ?_
 refine q2 ?_
 refine o_assign rfl rfl ?_
 refine q3 ?_
 refine W_seq ?_
 refine q2 ?_
 refine o_move rfl rfl ?_
 refine o_len_slice Tryz.underlying87 rfl rfl ?_
 refine o_move rfl rfl ?_
 refine q3 ?_
 refine W_block ?_
 refine W_loop (hf := (Sub.cons (t := 9) rfl (Sub.cons (t := 10) rfl Sub.nil))) (J := fun M w m => ∃ (k : Nat) (d : Nd) (G : PH), M = [(11, .int .i64 (k : Int)), (0, .pointer (some ⟨d.b, 0, none⟩))] ∧ PLe G0 G ∧ Hp w0 G0 [] w G [] ∧ (k ≤ ps.length ∧ RdN G d ∧ d.wf ∧ t.at_ (ps.take k) = some d) ∧ m = (ps.length - k)) (h0 := ⟨0, t, _, rfl, PLe.refl _, H, ?inv, rfl⟩) (hM := ?hM) (round := ?round)
 case hM => (repeat (first | exact Sub.nil | refine Sub.cons rfl ?_))
 case inv => exact ⟨by omega, hndt, hwt, rfl⟩
 case round =>
  rintro _ w1 _ ⟨k, d, G1, rfl, hle1, H, hinv1, rfl⟩
  have hndt := hndt.up hle1
  have hprt := hprt.up hle1
  have hrit := hrit.up hle1
  have hrkt := hrkt.up hle1
  have hps := hps.up hle1
  obtain ⟨hk, hnd0, hwd, hat⟩ := hinv1; obtain ⟨hnl0, na0, nm0, nc0, nA0, nM0, nC0, hpr0, hri0, hrk0⟩ := hnd0.open; have hn_hrk0 := hrk0.len
  refine q2 ?_
  refine o_lss rfl rfl rfl ?_
  refine q3 ?_
  refine W_seq ?_
  refine W_cond rfl ?_ ?_
  ·intro hc2
   try simp only [nrm] at hc2
   refine W_skip ?_
   refine N_K ?_
   refine W_seq ?_
   refine W_block ?_
   refine q2 ?_
   refine o_index_P k hps Tryz.underlying87 Tryz.sizeOf9 rfl rfl rfl rfl (by first | omega | (simp; omega)) ?_; intro b3 o3 z3 q3 hz3 hE3 hrow3
   obtain ⟨rfl, hi3⟩ := hE3; have hy_hi3 : _ ≤ 16777216 := hi3
   refine o_load_P H Tryz.isAgg9 rfl rfl (hrow3 0 _ rfl) ?_
   refine o_assign rfl rfl ?_
   refine q1 ?_
   refine o_move rfl rfl ?_
   refine o_move rfl rfl ?_
   refine o_call Tryz.call145 rfl rfl (i_place_c _ _ H.sub _ hnd0 _ hi3 hwd) ?_
   rintro _ w4 ⟨rfl, ew4⟩; have H := H.step ew4; refine ⟨_, rfl, ?_⟩
   refine o_move rfl rfl ?_
   refine o_extract rfl rfl rfl ?_
   refine o_extract rfl rfl rfl ?_
   refine o_assign rfl rfl ?_
   refine o_assign rfl rfl ?_
   refine q3 ?_
   refine W_seq ?_
   refine q2 ?_
   refine o_move rfl rfl ?_
   refine o_not rfl rfl ?_
   refine q3 ?_
   refine W_cond rfl ?_ ?_
   ·intro hc5
    try simp only [nrm] at hc5
    refine q2 ?_
    refine o_assign rfl rfl ?_
    refine q3 ?_
    refine W_ret ?_
    refine N_K_ret ?_
    refine N_B_ret ?_
    refine N_K_ret ?_
    refine N_LP_ret ?_
    refine N_B_ret ?_
    refine N_K_ret ?_
    refine ret_gen (rs := [.tmp 4]) (vs := [_]) Tryz.results97 ⟨rfl, trivial⟩ ?_
    exact H.retV (.inl ⟨Nd.at_stop hz3 hat (by simpa [Sp.fd, Nd.kid] using hc5), rfl⟩)
   intro hc5'
   try simp only [nrm] at hc5'
   obtain ⟨q, hq⟩ := Option.isSome_iff_exists.1 hc5'
   have hpl : d.kids[Sp.pl d.kids z3]? = some q := Nd.place_some hwd hq
   have hlt : Sp.pl d.kids z3 < d.kids.length := (List.getElem?_eq_some_iff.1 hpl).1
   refine W_skip ?_
   refine N_K ?_
   refine W_region ?_
   refine o_move rfl rfl ?_
   refine o_nilCheck rfl rfl ?_
   refine o_fieldAddr 3 Tryz.runUnderlying83 rfl Tryz.sizeOf81 rfl rfl rfl ?_
   refine o_load_P H Tryz.isAgg81 rfl rfl (hpr0 3 _ rfl) ?_
   refine o_move rfl rfl ?_
   refine o_index_P (Sp.pl d.kids z3) hrk0 Tryz.underlying81 Tryz.sizeOf67 rfl rfl rfl rfl (by first | omega | (simp; omega)) ?_; intro b6 o6 z6 q6 hz6 hE6 hrow6
   obtain ⟨rfl, hnd6⟩ := hE6; obtain ⟨hnl6, na6, nm6, nc6, nA6, nM6, nC6, hpr6, hri6, hrk6⟩ := hnd6.open; have hn_hri6 := hri6.len; have hx_hri6 : _ ≤ 1099511627776 := hri6.lim; have hn_hrk6 := hrk6.len; have hx_hrk6 : _ ≤ 1099511627776 := hrk6.lim
   have hkid : Nd.kid d z3 = some z6 := by (show Sp.fd _ _ = _); rw [hq]; exact hpl.symm.trans hz6
   refine o_load_P H Tryz.isAgg67 rfl rfl (hrow6 0 _ rfl) ?_
   refine o_assign rfl rfl ?_
   refine R_nil ?_
   refine N_B ?_
   refine N_K ?_
   refine W_region ?_
   refine o_add rfl rfl rfl ⟨by omega, by omega⟩ ?_
   refine o_move rfl rfl ?_
   refine R_nil ?_
   refine N_LP (hJ := ⟨k + 1, z6, _, rfl, hle1, H, ?inv, rfl⟩) (hM := ?hM) (hf := ?hf) (hm := ?hm)
   case hM => (repeat (first | exact Sub.nil | refine Sub.cons rfl ?_))
   case hf => (repeat (first | exact Sub.nil | refine Sub.cons rfl ?_))
   case hm => omega
   case inv => exact ⟨by omega, hnd6, (((Nd.wf_iff _).1 hwd).2 _ (List.mem_of_getElem? hz6)).2, by rw [Nd.at_step hz3 hat]; exact hkid⟩
  intro hc2'
  try simp only [nrm] at hc2'
  refine W_exit ?_
  refine N_K_exit ?_
  refine N_LP_exit ?_
  refine N_B_same ?_
  refine N_K ?_
  refine q2 ?_
  refine o_move rfl rfl ?_
  refine o_assign rfl rfl ?_
  refine q3 ?_
  refine W_ret ?_
  refine ret_gen (rs := [.tmp 4]) (vs := [_]) Tryz.results97 ⟨rfl, trivial⟩ ?_
  exact H.retV (.inr ⟨d, by rw [← hat, List.take_of_length_le (by omega)], rfl⟩)
theorem i_dirOf_c (w0 : World) (G0 : PH) (hG : PSub G0 w0) (t : Nd) (hndt : RdN G0 t) (path : Bs) (hpath : path.length ≤ 16777216) (hwt : t.wf) :
  Calls Tryz.prog 96 #[.pointer (some ⟨t.b, 0, none⟩), str path] w0 (RetV w0 (fun v => (t.dirOf path = none ∧ v = .tuple #[.pointer none, str []]) ∨ (∃ d nm, t.dirOf path = some (d, nm) ∧ v = .tuple #[.pointer (some ⟨d.b, 0, none⟩), str nm]))) := by
 obtain ⟨hnlt, nat, nmt, nct, nAt, nMt, nCt, hprt, hrit, hrkt⟩ := hndt.open
 have hn_hrit := hrit.len; have hx_hrit : _ ≤ 1099511627776 := hrit.lim
 have hn_hrkt := hrkt.len; have hx_hrkt : _ ≤ 1099511627776 := hrkt.lim
 have H := Hp.init hG
 refine calls_of_W (l := [.pointer (some ⟨t.b, 0, none⟩), str path]) Tryz.func96 rfl Tryz.ntmps96 rfl ?_
 refine q2 ?_
 refine o_assign rfl rfl ?_
 refine o_assign rfl rfl ?_
 refine q1 ?_
 refine o_move rfl rfl ?_
 refine o_call Tryz.call147 rfl rfl (i_PathParts_c _ _ H.sub _ hpath ) ?_
 rintro _ w1 ⟨G1, u1_0, g1, rfl, hr1_0⟩
 have H := H.grow g1
 have hndt := hndt.up g1.le
 have hprt := hprt.up g1.le
 have hrit := hrit.up g1.le
 have hrkt := hrkt.up g1.le
 obtain ⟨a1_0, k1_0, rfl⟩ := hr1_0.shape; have hx_hr1_0 : _ ≤ 1099511627776 := hr1_0.lim
 refine ⟨_, rfl, ?_⟩
 refine o_assign rfl rfl ?_
 refine q3 ?_
 refine W_seq ?_
 refine q2 ?_
 refine o_move rfl rfl ?_
 refine o_len_slice Tryz.underlying87 rfl rfl ?_
 refine o_eql rfl rfl rfl ?_
 refine q3 ?_
 refine W_cond rfl ?_ ?_
 ·intro hc2
  try simp only [nrm] at hc2
  refine q2 ?_
  refine o_assign rfl rfl ?_
  refine o_assign rfl rfl ?_
  refine q3 ?_
  refine W_ret ?_
  refine N_K_ret ?_
  refine ret_gen (rs := [.tmp 4, .tmp 5]) (vs := [_, _]) Tryz.results96 ⟨rfl, rfl, trivial⟩ ?_
  exact H.retV (.inl ⟨Nd.dirOf_nil (by omega), rfl⟩)
 intro hc2'
 try simp only [nrm] at hc2'
 refine W_skip ?_
 refine N_K ?_
 refine q2 ?_
 refine o_move rfl rfl ?_
 refine o_len_slice Tryz.underlying87 rfl rfl ?_
 refine o_sub rfl rfl rfl ⟨by omega, by omega⟩ ?_
 refine o_assign rfl rfl ?_
 refine q1 ?_
 refine o_move rfl rfl ?_
 refine o_move rfl rfl ?_
 refine o_move rfl rfl ?_
 have hcap4 := hr1_0.cap; try simp only [List.length_set, List.length_append, List.length_take, List.length_drop, List.length_replicate] at hcap4
 refine o_slice_to (j := ((Sp.parts path).length - 1)) Tryz.underlying87 Tryz.sizeOf9 rfl rfl rfl (by omega) (by omega) ?_
 have hsl4 := hr1_0.take (j := ((Sp.parts path).length - 1)) (by first | omega | (simp; omega))
 have hsn1 := hsl4.len
 refine o_call Tryz.call97 rfl rfl (i_at_c _ _ H.sub _ hndt _ _ hsl4 hwt) ?_
 rintro _ w5 ⟨_, rfl, ew5, ⟨hat5, rfl⟩ | ⟨d5, hat5, rfl⟩⟩
 ·skip
  have H := H.step ew5; refine ⟨_, rfl, ?_⟩
  refine o_assign rfl rfl ?_
  refine q3 ?_
  refine W_seq ?_
  refine q2 ?_
  refine o_move rfl rfl ?_
  refine o_eqnil_ptr Tryz.underlying67 rfl rfl rfl ?_
  refine o_move rfl rfl ?_
  refine R_pass rfl (yl_ne rfl rfl rfl) ?_
  refine R_pass rfl (yl_ne rfl rfl rfl) ?_
  refine R_pass rfl (yl_ne rfl rfl rfl) ?_
  refine R_pass rfl (yl_ne rfl rfl rfl) ?_
  refine R_pass rfl (yl_ne rfl rfl rfl) ?_
  refine o_pick_t rfl rfl rfl ?_
  refine q3 ?_
  refine W_true rfl ?_
  refine q2 ?_
  refine o_assign rfl rfl ?_
  refine o_assign rfl rfl ?_
  refine q3 ?_
  refine W_ret ?_
  refine N_K_ret ?_
  refine ret_gen (rs := [.tmp 4, .tmp 5]) (vs := [_, _]) Tryz.results96 ⟨rfl, rfl, trivial⟩ ?_
  exact H.retV (.inl ⟨Nd.dirOf_no (by omega) hat5, rfl⟩)
 skip
 have H := H.step ew5; refine ⟨_, rfl, ?_⟩
 have hnd5 := hndt.at hat5; obtain ⟨hnl5, na5, nm5, nc5, nA5, nM5, nC5, hpr5, hri5, hrk5⟩ := hnd5.open
 have hn_hri5 := hri5.len; have hx_hri5 : _ ≤ 1099511627776 := hri5.lim
 have hn_hrk5 := hrk5.len; have hx_hrk5 : _ ≤ 1099511627776 := hrk5.lim
 refine o_assign rfl rfl ?_
 refine q3 ?_
 refine W_seq ?_
 refine q2 ?_
 refine o_move rfl rfl ?_
 refine o_eqnil_ptr Tryz.underlying67 rfl rfl rfl ?_
 refine o_move rfl rfl ?_
 refine R_guard (yl rfl rfl) ?_
 refine o_move rfl rfl ?_
 refine R_guard (yl rfl rfl) ?_
 refine o_nilCheck rfl rfl ?_
 refine R_guard (yl rfl rfl) ?_
 refine o_fieldAddr 1 Tryz.runUnderlying83 rfl Tryz.sizeOf4 rfl rfl rfl ?_
 refine R_guard (yl rfl rfl) ?_
 refine o_load_P H Tryz.isAgg4 rfl rfl (hpr5 1 _ rfl) ?_
 refine R_guard (yl rfl rfl) ?_
 refine o_not rfl rfl ?_
 refine o_pick_f rfl rfl rfl ?_
 refine q3 ?_
 refine W_cond rfl ?_ ?_
 ·intro hc6
  try simp only [nrm] at hc6
  refine q2 ?_
  refine o_assign rfl rfl ?_
  refine o_assign rfl rfl ?_
  refine q3 ?_
  refine W_ret ?_
  refine N_K_ret ?_
  refine ret_gen (rs := [.tmp 4, .tmp 5]) (vs := [_, _]) Tryz.results96 ⟨rfl, rfl, trivial⟩ ?_
  exact H.retV (.inl ⟨Nd.dirOf_nodir (by omega) hat5 (by simpa using hc6), rfl⟩)
 intro hc6'
 try simp only [nrm] at hc6'
 refine W_skip ?_
 refine N_K ?_
 refine W_seq ?_
 refine W_drawK [] 7 H (by kernel_rfl) rfl ?_; intro w7 H; have hd7 := PLe.refl G1
 refine RD_t 0 rfl (by kernel_rfl) rfl (fun _ hK => v_move rfl) ?_
 refine RD_t 1 rfl (by kernel_rfl) rfl (fun _ hK => v_move rfl) ?_
 refine RD_t 2 rfl (by kernel_rfl) rfl (fun _ hK => v_move rfl) ?_
 have hl8 := hr1_0.len
 obtain ⟨b8, o8, z8, q8, ha8, hz8, hq8, hE8, hrow8, _⟩ := hr1_0.at (i := ((Sp.parts path).length - 1)) (by omega)
 clear hq8
 obtain ⟨rfl, hi8⟩ := hE8; have hy_hi8 : _ ≤ 16777216 := hi8
 refine RD_t 3 rfl (by kernel_rfl) rfl (fun _ hK => v_index_P (i := ((Sp.parts path).length - 1)) ha8 Tryz.underlying87 Tryz.sizeOf9 rfl rfl (by omega) (by omega)) ?_
 refine RD_t 4 rfl (by kernel_rfl) rfl (fun _ hK => v_load_P hK Tryz.isAgg9 rfl (hrow8 0 _ rfl)) ?_
 refine RD_t 5 rfl (by kernel_rfl) rfl (fun _ hK => v_assign rfl) ?_
 refine RD_t 6 rfl (by kernel_rfl) rfl (fun _ hK => v_assign rfl) ?_
 refine RD_done (by kernel_rfl) ?_
 refine N_K ?_
 refine W_ret ?_
 refine ret_gen (rs := [.tmp 4, .tmp 5]) (vs := [_, _]) Tryz.results96 ⟨rfl, rfl, trivial⟩ ?_
 exact H.retV (.inr ⟨_, _, Nd.dirOf_yes (by omega) hz8 hat5 (by simpa using hc6'), rfl⟩)
end Go.Proofs.Tst

namespace Go.Proofs.Tst
open Go Fw
theorem l_Insert_c (w0 : World) (G0 : PH) (hG : PSub G0 w0) (vkids : Value) (kids : List Nd) (i : Nat) (hi : i ≤ kids.length) (hkl : kids.length ≤ 1099511627776) (vbk : Nat) (k : Nd) (hLent : Lent w0 G0 [acc 67 1 vkids kids.length (ptrs kids), blk vbk (cl [ptr k.b] 67)])  :
  Calls Tryz.prog 146 #[vkids, .int .i64 (i : Int), .slice (some ⟨vbk, 0, none⟩) 1 1] w0 (RetM w0 G0 (fps [acc 67 1 vkids kids.length (ptrs kids), blk vbk (cl [ptr k.b] 67)]) (fun G' v Bs => ∃ (c : List Value), Bs = [acc 67 1 v (kids.length + 1) c] ∧ c = ptrs (kids.take i ++ k :: kids.drop i))) := by
 have H : Hp w0 G0 (fps [acc 67 1 vkids kids.length (ptrs kids), blk vbk (cl [ptr k.b] 67)]) w0 G0 [acc 67 1 vkids kids.length (ptrs kids), blk vbk (cl [ptr k.b] 67)] := hLent.hp
 obtain ⟨akids, ckids, rfl⟩ := H.accShape (k := 0) rfl
 refine calls_of_W (l := [.slice akids kids.length ckids, .int .i64 (i : Int), .slice (some ⟨vbk, 0, none⟩) 1 1]) Tryz.func146 rfl Tryz.ntmps146 rfl ?_
 refine q2 ?_
 refine o_assign rfl rfl ?_
 refine q1 ?_
 refine o_move rfl rfl ?_
 refine o_move rfl rfl ?_
 have hac1 := H.accCap (k := 0) rfl
 refine o_slice_from (i := i) Tryz.underlying81 Tryz.sizeOf67 rfl rfl rfl rfl (by omega) ?_
 refine q1 ?_
 refine o_move rfl rfl ?_
 refine o_len_slice Tryz.underlying81 rfl rfl ?_
 refine o_assign rfl rfl ?_
 refine q3 ?_
 refine W_seq ?_
 refine q2 ?_
 refine o_move rfl rfl ?_
 refine o_eql rfl rfl rfl ?_
 refine q3 ?_
 refine W_cond rfl ?_ ?_
 ·intro hc2
  try simp only [nrm] at hc2
  exact absurd hc2 (by decide)
 intro hc2'
 try simp only [nrm] at hc2'
 refine W_skip ?_
 refine N_K ?_
 refine q2 ?_
 refine o_move rfl rfl ?_
 refine o_len_slice Tryz.underlying81 rfl rfl ?_
 refine o_assign rfl rfl ?_
 refine q3 ?_
 refine W_seq ?_
 refine q2 ?_
 refine o_move rfl rfl ?_
 refine o_move rfl rfl ?_
 refine o_eql rfl rfl rfl ?_
 refine q3 ?_
 refine W_cond rfl ?_ ?_
 ·intro hc3
  try simp only [nrm] at hc3
  refine q2 ?_
  refine o_move rfl rfl ?_
  refine o_move rfl rfl ?_
  refine o_append 0 H Tryz.underlying81 Tryz.typeInfo67 ⟨_, rfl, rfl⟩ rfl rfl rfl rfl rfl rfl rfl (news := [ptr k.b]) rfl (fun j u hu => by (rw [Nat.zero_add]); exact blk_cell (k := 1) H rfl (by simpa using hu)) (by simp [ptr, Value.oneCell']) (by omega) (by decide) ?_; intro nv w4 H
  refine o_assign rfl rfl ?_
  refine q3 ?_
  refine W_ret ?_
  refine N_K_ret ?_
  refine ret_gen (rs := [.tmp 6]) (vs := [_]) Tryz.results146 ⟨rfl, trivial⟩ ?_
  have H := H.del (k := 1) rfl
  exact H.retM ⟨_, rfl, by (obtain rfl : i = kids.length := by omega); (rw [List.take_length, List.drop_length]); simp [ptrs]⟩
 intro hc3'
 try simp only [nrm] at hc3'
 obtain ⟨b0, c0, C0, hv0, _⟩ := H.accBlk (k := 0) (i := i) rfl (by omega); cases hv0
 have hvk : vbk ≠ b0 := fun e => by subst e; have := H.nd; simp [fps, acc_fp, blk] at this
 have hcc := H.accCap (k := 0) rfl
 have hcm := H.accMax (k := 0) rfl
 refine W_skip ?_
 refine N_K ?_
 refine W_seq ?_
 refine q2 ?_
 refine o_move rfl rfl ?_
 refine o_move rfl rfl ?_
 refine o_add rfl rfl rfl ⟨by omega, by omega⟩ ?_
 refine o_move rfl rfl ?_
 refine o_cap Tryz.underlying81 rfl rfl ?_
 refine o_gtr rfl rfl rfl ?_
 refine q3 ?_
 refine W_cond rfl ?_ ?_
 ·intro hc6
  try simp only [nrm] at hc6
  refine q2 ?_
  refine o_move rfl rfl ?_
  refine o_move rfl rfl ?_
  have hac7 := H.accCap (k := 0) rfl
  refine o_slice_to (j := i) Tryz.underlying81 Tryz.sizeOf67 rfl rfl rfl rfl (by omega) ?_
  refine o_move rfl rfl ?_
  refine o_move rfl rfl ?_
  refine o_add rfl rfl rfl ⟨by omega, by omega⟩ ?_
  refine o_move rfl rfl ?_
  refine o_sub rfl rfl rfl ⟨by omega, by omega⟩ ?_
  refine o_appmk 0 H (kids.length + 1 - i) Tryz.underlying81 Tryz.underlying3 Tryz.typeInfo67 rfl rfl rfl rfl rfl rfl rfl rfl (by omega) rfl (by omega) (by omega) (by omega) (by omega) ?_; intro nb nc w10 H hnb hnc
  refine o_assign rfl rfl ?_
  refine q1 ?_
  refine o_move rfl rfl ?_
  refine o_move rfl rfl ?_
  refine o_slice_from1 (i := i) Tryz.underlying81 Tryz.sizeOf67 rfl rfl rfl (by omega) (by omega) (by omega) ?_
  refine o_move rfl rfl ?_
  refine o_copy 0 H ([ptr k.b]) Tryz.underlying81 Tryz.typeInfo67 rfl rfl rfl rfl rfl (by simp [Nat.min_def] <;> (try split) <;> omega) (fun j v hj => by (rw [Addr.add_lit, Nat.zero_add]); exact blk_cell (k := 2) H rfl (by simpa using hj)) (by intro v hv; first | exact ptrs_one v (List.mem_of_mem_drop hv) | (simp at hv; subst hv; rfl)) (by simp; try omega) ?_; intro w11 H
  refine q3 ?_
  refine W_seq ?_
  refine W_drawK [2] 9 H (by kernel_rfl) rfl ?_; intro w12 H; have hd12 := PLe.refl G0
  refine RD_t 0 rfl (by kernel_rfl) rfl (fun _ hK => v_move rfl) ?_
  refine RD_t 1 rfl (by kernel_rfl) rfl (fun _ hK => v_move rfl) ?_
  refine RD_t 2 rfl (by kernel_rfl) rfl (fun _ hK => v_move rfl) ?_
  refine RD_t 3 rfl (by kernel_rfl) rfl (fun _ hK => v_add rfl rfl ⟨by omega, by omega⟩) ?_
  refine RD_t 4 rfl (by kernel_rfl) rfl (fun _ hK => v_slice_from1 (i := (i + 1)) Tryz.underlying81 Tryz.sizeOf67 rfl rfl (by omega) (by omega) (by omega)) ?_
  refine RD_t 5 rfl (by kernel_rfl) rfl (fun _ hK => v_move rfl) ?_
  refine RD_t 6 rfl (by kernel_rfl) rfl (fun _ hK => v_move rfl) ?_
  refine RD_t 7 rfl (by kernel_rfl) rfl (fun _ hK => v_slice_from1 (i := i) Tryz.underlying81 Tryz.sizeOf67 rfl rfl (by omega) (by omega) (by omega)) ?_
  refine RD_run [8] (by kernel_rfl) rfl (RDs.cons rfl ?_ RDs.nil)
  refine o_copy 0 H ((ptrs kids).drop i) Tryz.underlying81 Tryz.typeInfo67 rfl rfl rfl rfl rfl (by simp [Nat.min_def] <;> (try split) <;> omega) (fun j v hj => by (rw [Addr.add_lit]); (rw [List.getElem?_drop] at hj); exact acc_cell (k := 1) H rfl (by first | exact hj | (rw [List.getElem?_append_left (List.getElem?_eq_some_iff.1 hj).1]; exact hj))) (by intro v hv; first | exact ptrs_one v (List.mem_of_mem_drop hv) | (simp at hv; subst hv; rfl)) (by simp; try omega) ?_; intro w14 H
  refine R_nil ?_
  refine N_DK (Kn.of' H hd12 (SubL.cons 2 rfl SubL.nil)) ?_
  refine RD_done (by kernel_rfl) ?_
  refine N_K ?_
  refine q2 ?_
  refine o_move rfl rfl ?_
  refine o_assign rfl rfl ?_
  refine q3 ?_
  refine W_ret ?_
  refine N_K_ret ?_
  refine ret_gen (rs := [.tmp 6]) (vs := [_]) Tryz.results146 ⟨rfl, trivial⟩ ?_
  have H := H.del (k := 1) rfl
  have H := H.del (k := 1) rfl
  have hcx := (insC2 (x := ptr k.b) (z := .pointer none) (i := i) (r := kids.length + 1 - i) (c := ptrs kids) (by simp; omega) (by simp; omega)).trans (ptrs_ins kids k i)
  exact H.retM ⟨_, acc_1 (by omega), hcx⟩
 intro hc6'
 try simp only [nrm] at hc6'
 refine W_skip ?_
 refine N_K ?_
 refine q2 ?_
 refine o_move rfl rfl ?_
 refine o_move rfl rfl ?_
 refine o_move rfl rfl ?_
 refine o_add rfl rfl rfl ⟨by omega, by omega⟩ ?_
 refine o_slice_to (j := kids.length + 1) Tryz.underlying81 Tryz.sizeOf67 rfl rfl rfl (by omega) (by omega) ?_
 obtain ⟨zz, H⟩ := H.accMore (k := 0) rfl (by omega)
 refine o_assign rfl rfl ?_
 refine q3 ?_
 refine W_seq ?_
 refine q2 ?_
 refine o_move rfl rfl ?_
 refine o_move rfl rfl ?_
 refine o_move rfl rfl ?_
 refine o_move rfl rfl ?_
 refine o_add rfl rfl rfl ⟨by omega, by omega⟩ ?_
 refine o_slice_from1 (i := (i + 1)) Tryz.underlying81 Tryz.sizeOf67 rfl rfl rfl (by omega) (by omega) (by omega) ?_
 refine o_overlaps 0 1 H (fun args w => run_callFunc_extern Tryz.func172 (by kernel_rfl) (by kernel_rfl) (by kernel_rfl) (e := Extern.SlicesOverlaps.overlaps #[81, 81] #[4]) (by kernel_rfl) args w) Tryz.underlying81 Tryz.sizeOf67 rfl rfl rfl rfl hvk (by omega) ?_
 refine o_not rfl rfl ?_
 refine q3 ?_
 refine W_true rfl ?_
 refine W_seq ?_
 refine W_drawK [1] 9 H (by kernel_rfl) rfl ?_; intro w17 H; have hd17 := PLe.refl G0
 refine RD_t 0 rfl (by kernel_rfl) rfl (fun _ hK => v_move rfl) ?_
 refine RD_t 1 rfl (by kernel_rfl) rfl (fun _ hK => v_move rfl) ?_
 refine RD_t 2 rfl (by kernel_rfl) rfl (fun _ hK => v_move rfl) ?_
 refine RD_t 3 rfl (by kernel_rfl) rfl (fun _ hK => v_add rfl rfl ⟨by omega, by omega⟩) ?_
 refine RD_t 4 rfl (by kernel_rfl) rfl (fun _ hK => v_slice_from1 (i := (i + 1)) Tryz.underlying81 Tryz.sizeOf67 rfl rfl (by omega) (by omega) (by omega)) ?_
 refine RD_t 5 rfl (by kernel_rfl) rfl (fun _ hK => v_move rfl) ?_
 refine RD_t 6 rfl (by kernel_rfl) rfl (fun _ hK => v_move rfl) ?_
 refine RD_t 7 rfl (by kernel_rfl) rfl (fun _ hK => v_slice_from1 (i := i) Tryz.underlying81 Tryz.sizeOf67 rfl rfl (by omega) (by omega) (by omega)) ?_
 refine RD_run [8] (by kernel_rfl) rfl (RDs.cons rfl ?_ RDs.nil)
 refine o_copy 0 H ((ptrs kids).drop i) Tryz.underlying81 Tryz.typeInfo67 rfl rfl rfl rfl rfl (by simp [Nat.min_def] <;> (try split) <;> omega) (fun j v hj => by (rw [Addr.add_lit]); (rw [List.getElem?_drop] at hj); exact acc_cell (k := 0) H rfl (by first | exact hj | (rw [List.getElem?_append_left (List.getElem?_eq_some_iff.1 hj).1]; exact hj))) (by intro v hv; first | exact ptrs_one v (List.mem_of_mem_drop hv) | (simp at hv; subst hv; rfl)) (by simp; try omega) ?_; intro w19 H
 refine R_nil ?_
 refine N_DK (Kn.of' H hd17 (SubL.cons 1 rfl SubL.nil)) ?_
 refine RD_done (by kernel_rfl) ?_
 refine N_K ?_
 refine q2 ?_
 refine o_move rfl rfl ?_
 refine o_move rfl rfl ?_
 refine o_slice_from1 (i := i) Tryz.underlying81 Tryz.sizeOf67 rfl rfl rfl (by omega) (by omega) (by omega) ?_
 refine o_move rfl rfl ?_
 refine o_copy 0 H ([ptr k.b]) Tryz.underlying81 Tryz.typeInfo67 rfl rfl rfl rfl rfl (by simp [Nat.min_def] <;> (try split) <;> omega) (fun j v hj => by (rw [Addr.add_lit, Nat.zero_add]); exact blk_cell (k := 1) H rfl (by simpa using hj)) (by intro v hv; first | exact ptrs_one v (List.mem_of_mem_drop hv) | (simp at hv; subst hv; rfl)) (by simp; try omega) ?_; intro w20 H
 refine q1 ?_
 refine o_move rfl rfl ?_
 refine o_assign rfl rfl ?_
 refine q3 ?_
 refine W_ret ?_
 refine N_K_ret ?_
 refine ret_gen (rs := [.tmp 6]) (vs := [_]) Tryz.results146 ⟨rfl, trivial⟩ ?_
 have H := H.del (k := 1) rfl
 exact H.retM ⟨_, rfl, (insC (by simp; omega)).trans (ptrs_ins kids k i)⟩
end Go.Proofs.Tst

namespace Go.Proofs.Tst
open Go Fw
theorem i_insert_c (w0 : World) (G0 : PH) (hG : PSub G0 w0) (Ft : Fr) (t : Nd) (hNt : NdO 83 67 G0 t Ft) (cx : List Value) (x : BItem) (hx : itemE G0 x cx) (hLent : Lent w0 G0 [frag Ft]) (hwt : t.wf) (hct : t.cnt ≤ 1000) :
  Calls Tryz.prog 95 #[.pointer (some ⟨t.b, 0, none⟩), .agg cx.toArray] w0 (RetM w0 G0 (fps [frag Ft]) (fun G' v Bs => ∃ (nb : Nat) (F' : Fr) (t' : Nd), v = .bool (t.ins x nb).isSome ∧ Bs = [frag F'] ∧ NdO 83 67 G' t' F' ∧ t'.b = t.b ∧ (t.ins x nb).getD t = t')) := by
 obtain ⟨a1, m1, c1, rfl, hi1, hr1⟩ := hx; have hy_hi1 : _ ≤ 16777216 := hi1; have hn_hr1 := hr1.len; have hx_hr1 : _ ≤ 1099511627776 := hr1.lim
 have H : Hp w0 G0 (fps [frag Ft]) w0 G0 [frag Ft] := hLent.hp
 refine calls_of_W (l := [.pointer (some ⟨t.b, 0, none⟩), _]) Tryz.func95 rfl Tryz.ntmps95 rfl ?_
 refine q2 ?_
 refine o_box H rfl rfl rfl ?_; intro b2 w2 hb2 H
 refine o_assign rfl rfl ?_
 refine q1 ?_
 refine o_move rfl rfl ?_
 refine o_fieldAddr 0 Tryz.runUnderlying39 rfl Tryz.sizeOf9 rfl rfl rfl ?_
 refine o_load_B 0 H Tryz.isAgg9 rfl rfl rfl rfl ?_
 refine o_call Tryz.call96 rfl rfl (i_dirOf_c _ _ (H.lendSubL [1]) _ ((H.lendN (k := 1) (ks := [1]) rfl rfl hNt).at (show Nd.at_ t [] = some t from rfl)) _ hi1 hwt) ?_
 rintro _ w3 ⟨_, rfl, ew3, ⟨hdf3, rfl⟩ | ⟨d3, nm3, hdf3, rfl⟩⟩
 ·skip
  have H := H.step ew3; refine ⟨_, rfl, ?_⟩
  refine o_move rfl rfl ?_
  refine o_extract rfl rfl rfl ?_
  refine o_extract rfl rfl rfl ?_
  refine o_assign rfl rfl ?_
  refine o_assign rfl rfl ?_
  refine q3 ?_
  refine W_seq ?_
  refine q2 ?_
  refine o_move rfl rfl ?_
  refine o_eqnil_ptr Tryz.underlying67 rfl rfl rfl ?_
  refine q3 ?_
  refine W_true rfl ?_
  refine q2 ?_
  refine o_assign rfl rfl ?_
  refine q3 ?_
  refine W_ret ?_
  refine N_K_ret ?_
  refine ret_gen (rs := [.tmp 4]) (vs := [_]) Tryz.results95 ⟨rfl, trivial⟩ ?_
  have H := H.del (k := 0) rfl
  exact H.retM ⟨0, _, _, by (rw [(Nd.ins_no1 hdf3)]; rfl), rfl, hNt, rfl, by (rw [(Nd.ins_no1 hdf3)]; rfl)⟩
 skip
 have H := H.step ew3; refine ⟨_, rfl, ?_⟩
 have hnml3 := Nd.dir_len hdf3
 refine o_move rfl rfl ?_
 refine o_extract rfl rfl rfl ?_
 refine o_extract rfl rfl rfl ?_
 refine o_assign rfl rfl ?_
 refine o_assign rfl rfl ?_
 refine q3 ?_
 refine W_seq ?_
 refine q2 ?_
 refine o_move rfl rfl ?_
 refine o_eqnil_ptr Tryz.underlying67 rfl rfl rfl ?_
 refine q3 ?_
 refine W_false rfl ?_
 refine W_skip ?_
 refine N_K ?_
 refine q2 ?_
 refine o_move rfl rfl ?_
 refine o_move rfl rfl ?_
 refine o_call Tryz.call145 rfl rfl (i_place_c _ _ (H.lendSubL [1]) _ ((H.lendN (k := 1) (ks := [1]) rfl rfl hNt).at (Nd.dirOf_some hdf3).2.2.1) _ hnml3 (Nd.dir_wf hwt hdf3)) ?_
 rintro _ w4 ⟨rfl, ew4⟩; have H := H.step ew4; refine ⟨_, rfl, ?_⟩
 refine o_move rfl rfl ?_
 refine o_extract rfl rfl rfl ?_
 refine o_extract rfl rfl rfl ?_
 refine o_assign rfl rfl ?_
 refine o_assign rfl rfl ?_
 refine q3 ?_
 refine W_seq ?_
 refine q2 ?_
 refine o_move rfl rfl ?_
 refine q3 ?_
 refine W_cond rfl ?_ ?_
 ·intro hc5
  try simp only [nrm] at hc5
  refine q2 ?_
  refine o_assign rfl rfl ?_
  refine q3 ?_
  refine W_ret ?_
  refine N_K_ret ?_
  refine ret_gen (rs := [.tmp 4]) (vs := [_]) Tryz.results95 ⟨rfl, trivial⟩ ?_
  have H := H.del (k := 0) rfl
  exact H.retM ⟨0, _, _, by (rw [(Nd.ins_no2 hdf3 (by simpa using hc5))]; rfl), rfl, hNt, rfl, by (rw [(Nd.ins_no2 hdf3 (by simpa using hc5))]; rfl)⟩
 intro hc5'
 try simp only [nrm] at hc5'
 have H := H.toFront (k := 1) rfl
 obtain ⟨oa, om, oc, okv, oFs, oR, H, ohri, ohNs, ohnl, ohkl, hcov, hclose⟩ := Hp.openNode H hNt (Nd.dirOf_some hdf3).2.2.1
 obtain ⟨oak, ock, rfl⟩ := H.accShape (k := 1) rfl; have hdo := PLe.refl G0; have hn_ohri := ohri.len
 refine W_skip ?_
 refine N_K ?_
 refine W_seq ?_
 refine W_drawK [3] 19 H (by kernel_rfl) rfl ?_; intro w6 H; have hd6 := PLe.refl G0
 refine RD_t 0 rfl (by kernel_rfl) rfl (fun _ hK => v_move rfl) ?_
 refine RD_t 1 rfl (by kernel_rfl) rfl (fun _ hK => v_move rfl) ?_
 refine RD_t 2 rfl (by kernel_rfl) rfl (fun _ hK => v_nilCheck rfl) ?_
 refine RD_t 3 rfl (by kernel_rfl) rfl (fun _ hK => v_fieldAddr 3 Tryz.runUnderlying83 rfl Tryz.sizeOf81 rfl rfl) ?_
 refine RD_t 5 rfl (by kernel_rfl) rfl (fun _ hK => v_move rfl) ?_
 refine RD_t 6 rfl (by kernel_rfl) rfl (fun _ hK => v_move rfl) ?_
 refine RD_t 7 rfl (by kernel_rfl) rfl (fun _ hK => v_fieldAddr 1 Tryz.runUnderlying39 rfl Tryz.sizeOf4 rfl rfl) ?_
 refine RD_t 8 rfl (by kernel_rfl) rfl (fun _ hK => v_load_B 0 hK Tryz.isAgg4 rfl rfl rfl) ?_
 refine RD_t 9 rfl (by kernel_rfl) rfl (fun _ hK => v_fieldAddr 2 Tryz.runUnderlying39 rfl Tryz.sizeOf27 rfl rfl) ?_
 refine RD_t 10 rfl (by kernel_rfl) rfl (fun _ hK => v_load_B 0 hK Tryz.isAgg27 rfl rfl rfl) ?_
 refine RD_run [4, 11] (by kernel_rfl) rfl (RDs.cons rfl ?_ (RDs.cons rfl ?_ RDs.nil))
 ·skip
  refine o_load_B 0 H Tryz.isAgg81 rfl rfl rfl rfl ?_
  refine R_nil ?_
  refine N_DK (Kn.of' H hd6 (SubL.cons 3 rfl SubL.nil)) ?_
  refine RD_run [11] (by kernel_rfl) rfl (RDs.cons rfl ?_ RDs.nil)
  refine o_call Tryz.call133 rfl rfl (l_Clone_c _ _ H.sub _ _ hr1 ) ?_
  rintro _ w7 ⟨G7, v7, _, g7, rfl, ⟨cs7, rfl, hchk7⟩, hp7, hq7, hs7⟩
  have H := H.growO g7 hp7 hq7 hs7; obtain ⟨av7, cv7, rfl⟩ := H.accShape (k := 0) rfl
  have hNt := hNt.up g7.le
  have hr1 := hr1.up g7.le
  have ohri := ohri.up g7.le
  have ohNs := ohNs.up g7.le
  have hdo := hdo.trans g7.le
  have hd6 := hd6.trans g7.le
  refine ⟨_, rfl, ?_⟩
  obtain ⟨G8, H, hsg8, hsr8⟩ := H.shutL (k := 0) rfl (H.apart (k := 0) (ks := [1, 2, 3]) rfl rfl (by intro b hb; rcases hcov b hb with h | h | h; (· exact fpsAt_mem (k := 1) rfl rfl b (by simp [blk, h])); (· exact fpsAt_mem (k := 2) rfl rfl b h); (· exact fpsAt_mem (k := 3) rfl rfl b h))) hchk7 (by first | assumption | (simp; done) | (simp; omega) | omega) (by first | assumption | (simp; done) | (simp; omega) | omega)
  have hNt := hNt.up hsg8
  have hr1 := hr1.up hsg8
  have ohri := ohri.up hsg8
  have ohNs := ohNs.up hsg8
  have hchk7 := hchk7.up hsg8
  have hdo := hdo.trans hsg8
  have hd6 := hd6.trans hsg8
  refine R_nil ?_
  refine N_DK (Kn.of' H hd6 (SubL.cons 3 rfl SubL.nil)) ?_
  refine RD_t 12 rfl (by kernel_rfl) rfl (fun _ hK => v_build bf83 rfl rfl) ?_
  refine RD_run [13] (by kernel_rfl) rfl (RDs.cons rfl ?_ RDs.nil)
  refine o_box H rfl rfl rfl ?_; intro b9 w9 hb9 H
  refine R_nil ?_
  refine N_DK (Kn.of' H hd6 (SubL.cons 4 rfl SubL.nil)) ?_
  refine RD_run [14] (by kernel_rfl) rfl (RDs.cons rfl ?_ RDs.nil)
  refine o_buildSlice H Tryz.underlying81 Tryz.sizeOf67 (fun w => ⟨_, Tryz.zeroValue67 w, rfl⟩) rfl rfl rfl rfl rfl rfl rfl ?_; intro b10 w10 hb10 H
  refine R_nil ?_
  refine N_DK (Kn.of' H hd6 (SubL.cons 5 rfl SubL.nil)) ?_
  refine RD_run [15] (by kernel_rfl) rfl (RDs.cons rfl ?_ RDs.nil)
  have H := H.toFront (k := 3) rfl
  refine o_call Tryz.call146 rfl rfl (l_Insert_c _ _ H.sub _ _ _ (Sp.pl_le d3.kids nm3) (by omega) _ (Nd.mk b9 nm3 x.dir x.ids []) H.lent2 ) ?_
  rintro _ w11 ⟨G11, _, _, rfl, H11', ⟨c11, rfl, rfl⟩⟩
  have hNt := hNt.up H11'.le
  have hr1 := hr1.up H11'.le
  have ohri := ohri.up H11'.le
  have ohNs := ohNs.up H11'.le
  have hchk7 := hchk7.up H11'.le
  have hsr8 := hsr8.up H11'.le
  have hdo := hdo.trans H11'.le
  have hd6 := hd6.trans H11'.le
  have H := H.borrow2 H11'
  obtain ⟨avAk, cvAk, rfl⟩ := H.accShape (k := 0) rfl
  refine ⟨_, rfl, ?_⟩
  refine R_nil ?_
  refine N_DK (Kn.of' H hd6 (SubL.cons 4 rfl SubL.nil)) ?_
  refine RD_t 16 rfl (by kernel_rfl) rfl (fun _ hK => v_nilCheck rfl) ?_
  refine RD_t 17 rfl (by kernel_rfl) rfl (fun _ hK => v_fieldAddr 3 Tryz.runUnderlying83 rfl Tryz.sizeOf81 rfl rfl) ?_
  refine RD_run [18] (by kernel_rfl) rfl (RDs.cons rfl ?_ RDs.nil)
  refine o_store_B 2 H Tryz.sizeOf81 rfl rfl rfl rfl rfl rfl rfl rfl ?_; intro w12 H
  refine R_nil ?_
  refine N_DK (Kn.of' H hd6 (SubL.cons 4 rfl SubL.nil)) ?_
  refine RD_done (by kernel_rfl) ?_
  refine N_K ?_
  refine q2 ?_
  refine o_assign rfl rfl ?_
  refine q3 ?_
  refine W_ret ?_
  refine ret_gen (rs := [.tmp 4]) (vs := [_]) Tryz.results95 ⟨rfl, trivial⟩ ?_
  have H := H.del (k := 4) rfl
  have H := H.toFront (k := 2) rfl
  have H := H.toFront (k := 3) rfl
  have H := H.toFront (k := 3) rfl
  have H := H.inF
  have H := H.toFront (k := 2) rfl
  have H := H.toFront (k := 2) rfl
  obtain ⟨Fs2, hp2, hN2⟩ := NdsO.ins (k := Nd.mk b9 nm3 x.dir x.ids []) (Sp.pl d3.kids nm3) ohNs (NdO.new hnml3 hsr8)
  have hcd := Nd.at_cnt (Nd.dirOf_some hdf3).2.2.1; have hcl := Nd.kids_le d3; have hpl := Sp.pl_le d3.kids nm3
  have hkl : (d3.kids.take (Sp.pl d3.kids nm3) ++ Nd.mk b9 nm3 x.dir x.ids [] :: d3.kids.drop (Sp.pl d3.kids nm3)).length = d3.kids.length + 1 := by (simp; omega)
  obtain ⟨F2, H, hN3, hb3⟩ := hclose (kids' := (d3.kids.take (Sp.pl d3.kids nm3) ++ Nd.mk b9 nm3 x.dir x.ids [] :: d3.kids.drop (Sp.pl d3.kids nm3))) (Fs' := Fs2) (by (rw [hkl]); exact H) (by (refine List.Perm.trans ?_ (List.Perm.append_right oR hp2.symm)); simp) hdo ohri hN2 (by omega)
  have hins := Nd.ins_yes (nb := b9) hdf3 (by simpa using hc5')
  exact H.retM ⟨b9, _, _, by (rw [hins]; rfl), rfl, hN3, hb3, by (rw [hins]; rfl)⟩
 skip
 refine o_call Tryz.call133 rfl rfl (l_Clone_c _ _ H.sub _ _ hr1 ) ?_
 rintro _ w13 ⟨G13, v13, _, g13, rfl, ⟨cs13, rfl, hchk13⟩, hp13, hq13, hs13⟩
 have H := H.growO g13 hp13 hq13 hs13; obtain ⟨av13, cv13, rfl⟩ := H.accShape (k := 0) rfl
 have hNt := hNt.up g13.le
 have hr1 := hr1.up g13.le
 have ohri := ohri.up g13.le
 have ohNs := ohNs.up g13.le
 have hdo := hdo.trans g13.le
 have hd6 := hd6.trans g13.le
 refine ⟨_, rfl, ?_⟩
 obtain ⟨G14, H, hsg14, hsr14⟩ := H.shutL (k := 0) rfl (H.apart (k := 0) (ks := [1, 2, 3]) rfl rfl (by intro b hb; rcases hcov b hb with h | h | h; (· exact fpsAt_mem (k := 1) rfl rfl b (by simp [blk, h])); (· exact fpsAt_mem (k := 2) rfl rfl b h); (· exact fpsAt_mem (k := 3) rfl rfl b h))) hchk13 (by first | assumption | (simp; done) | (simp; omega) | omega) (by first | assumption | (simp; done) | (simp; omega) | omega)
 have hNt := hNt.up hsg14
 have hr1 := hr1.up hsg14
 have ohri := ohri.up hsg14
 have ohNs := ohNs.up hsg14
 have hchk13 := hchk13.up hsg14
 have hdo := hdo.trans hsg14
 have hd6 := hd6.trans hsg14
 refine R_nil ?_
 refine N_DK (Kn.of' H hd6 (SubL.cons 3 rfl SubL.nil)) ?_
 refine RD_t 12 rfl (by kernel_rfl) rfl (fun _ hK => v_build bf83 rfl rfl) ?_
 refine RD_run [4, 13] (by kernel_rfl) rfl (RDs.cons rfl ?_ (RDs.cons rfl ?_ RDs.nil))
 ·skip
  refine o_load_B 0 H Tryz.isAgg81 rfl rfl rfl rfl ?_
  refine R_nil ?_
  refine N_DK (Kn.of' H hd6 (SubL.cons 3 rfl SubL.nil)) ?_
  refine RD_run [13] (by kernel_rfl) rfl (RDs.cons rfl ?_ RDs.nil)
  refine o_box H rfl rfl rfl ?_; intro b15 w15 hb15 H
  refine R_nil ?_
  refine N_DK (Kn.of' H hd6 (SubL.cons 4 rfl SubL.nil)) ?_
  refine RD_run [14] (by kernel_rfl) rfl (RDs.cons rfl ?_ RDs.nil)
  refine o_buildSlice H Tryz.underlying81 Tryz.sizeOf67 (fun w => ⟨_, Tryz.zeroValue67 w, rfl⟩) rfl rfl rfl rfl rfl rfl rfl ?_; intro b16 w16 hb16 H
  refine R_nil ?_
  refine N_DK (Kn.of' H hd6 (SubL.cons 5 rfl SubL.nil)) ?_
  refine RD_run [15] (by kernel_rfl) rfl (RDs.cons rfl ?_ RDs.nil)
  have H := H.toFront (k := 3) rfl
  refine o_call Tryz.call146 rfl rfl (l_Insert_c _ _ H.sub _ _ _ (Sp.pl_le d3.kids nm3) (by omega) _ (Nd.mk b15 nm3 x.dir x.ids []) H.lent2 ) ?_
  rintro _ w17 ⟨G17, _, _, rfl, H17', ⟨c17, rfl, rfl⟩⟩
  have hNt := hNt.up H17'.le
  have hr1 := hr1.up H17'.le
  have ohri := ohri.up H17'.le
  have ohNs := ohNs.up H17'.le
  have hchk13 := hchk13.up H17'.le
  have hsr14 := hsr14.up H17'.le
  have hdo := hdo.trans H17'.le
  have hd6 := hd6.trans H17'.le
  have H := H.borrow2 H17'
  obtain ⟨avAk, cvAk, rfl⟩ := H.accShape (k := 0) rfl
  refine ⟨_, rfl, ?_⟩
  refine R_nil ?_
  refine N_DK (Kn.of' H hd6 (SubL.cons 4 rfl SubL.nil)) ?_
  refine RD_t 16 rfl (by kernel_rfl) rfl (fun _ hK => v_nilCheck rfl) ?_
  refine RD_t 17 rfl (by kernel_rfl) rfl (fun _ hK => v_fieldAddr 3 Tryz.runUnderlying83 rfl Tryz.sizeOf81 rfl rfl) ?_
  refine RD_run [18] (by kernel_rfl) rfl (RDs.cons rfl ?_ RDs.nil)
  refine o_store_B 2 H Tryz.sizeOf81 rfl rfl rfl rfl rfl rfl rfl rfl ?_; intro w18 H
  refine R_nil ?_
  refine N_DK (Kn.of' H hd6 (SubL.cons 4 rfl SubL.nil)) ?_
  refine RD_done (by kernel_rfl) ?_
  refine N_K ?_
  refine q2 ?_
  refine o_assign rfl rfl ?_
  refine q3 ?_
  refine W_ret ?_
  refine ret_gen (rs := [.tmp 4]) (vs := [_]) Tryz.results95 ⟨rfl, trivial⟩ ?_
  have H := H.del (k := 4) rfl
  have H := H.toFront (k := 2) rfl
  have H := H.toFront (k := 3) rfl
  have H := H.toFront (k := 3) rfl
  have H := H.inF
  have H := H.toFront (k := 2) rfl
  have H := H.toFront (k := 2) rfl
  obtain ⟨Fs2, hp2, hN2⟩ := NdsO.ins (k := Nd.mk b15 nm3 x.dir x.ids []) (Sp.pl d3.kids nm3) ohNs (NdO.new hnml3 hsr14)
  have hcd := Nd.at_cnt (Nd.dirOf_some hdf3).2.2.1; have hcl := Nd.kids_le d3; have hpl := Sp.pl_le d3.kids nm3
  have hkl : (d3.kids.take (Sp.pl d3.kids nm3) ++ Nd.mk b15 nm3 x.dir x.ids [] :: d3.kids.drop (Sp.pl d3.kids nm3)).length = d3.kids.length + 1 := by (simp; omega)
  obtain ⟨F2, H, hN3, hb3⟩ := hclose (kids' := (d3.kids.take (Sp.pl d3.kids nm3) ++ Nd.mk b15 nm3 x.dir x.ids [] :: d3.kids.drop (Sp.pl d3.kids nm3))) (Fs' := Fs2) (by (rw [hkl]); exact H) (by (refine List.Perm.trans ?_ (List.Perm.append_right oR hp2.symm)); simp) hdo ohri hN2 (by omega)
  have hins := Nd.ins_yes (nb := b15) hdf3 (by simpa using hc5')
  exact H.retM ⟨b15, _, _, by (rw [hins]; rfl), rfl, hN3, hb3, by (rw [hins]; rfl)⟩
 skip
 refine o_box H rfl rfl rfl ?_; intro b19 w19 hb19 H
 refine R_nil ?_
 refine N_DK (Kn.of' H hd6 (SubL.cons 4 rfl SubL.nil)) ?_
 refine RD_run [4, 14] (by kernel_rfl) rfl (RDs.cons rfl ?_ (RDs.cons rfl ?_ RDs.nil))
 ·skip
  refine o_load_B 1 H Tryz.isAgg81 rfl rfl rfl rfl ?_
  refine R_nil ?_
  refine N_DK (Kn.of' H hd6 (SubL.cons 4 rfl SubL.nil)) ?_
  refine RD_run [14] (by kernel_rfl) rfl (RDs.cons rfl ?_ RDs.nil)
  refine o_buildSlice H Tryz.underlying81 Tryz.sizeOf67 (fun w => ⟨_, Tryz.zeroValue67 w, rfl⟩) rfl rfl rfl rfl rfl rfl rfl ?_; intro b20 w20 hb20 H
  refine R_nil ?_
  refine N_DK (Kn.of' H hd6 (SubL.cons 5 rfl SubL.nil)) ?_
  refine RD_run [15] (by kernel_rfl) rfl (RDs.cons rfl ?_ RDs.nil)
  have H := H.toFront (k := 3) rfl
  refine o_call Tryz.call146 rfl rfl (l_Insert_c _ _ H.sub _ _ _ (Sp.pl_le d3.kids nm3) (by omega) _ (Nd.mk b19 nm3 x.dir x.ids []) H.lent2 ) ?_
  rintro _ w21 ⟨G21, _, _, rfl, H21', ⟨c21, rfl, rfl⟩⟩
  have hNt := hNt.up H21'.le
  have hr1 := hr1.up H21'.le
  have ohri := ohri.up H21'.le
  have ohNs := ohNs.up H21'.le
  have hchk13 := hchk13.up H21'.le
  have hsr14 := hsr14.up H21'.le
  have hdo := hdo.trans H21'.le
  have hd6 := hd6.trans H21'.le
  have H := H.borrow2 H21'
  obtain ⟨avAk, cvAk, rfl⟩ := H.accShape (k := 0) rfl
  refine ⟨_, rfl, ?_⟩
  refine R_nil ?_
  refine N_DK (Kn.of' H hd6 (SubL.cons 4 rfl SubL.nil)) ?_
  refine RD_t 16 rfl (by kernel_rfl) rfl (fun _ hK => v_nilCheck rfl) ?_
  refine RD_t 17 rfl (by kernel_rfl) rfl (fun _ hK => v_fieldAddr 3 Tryz.runUnderlying83 rfl Tryz.sizeOf81 rfl rfl) ?_
  refine RD_run [18] (by kernel_rfl) rfl (RDs.cons rfl ?_ RDs.nil)
  refine o_store_B 2 H Tryz.sizeOf81 rfl rfl rfl rfl rfl rfl rfl rfl ?_; intro w22 H
  refine R_nil ?_
  refine N_DK (Kn.of' H hd6 (SubL.cons 4 rfl SubL.nil)) ?_
  refine RD_done (by kernel_rfl) ?_
  refine N_K ?_
  refine q2 ?_
  refine o_assign rfl rfl ?_
  refine q3 ?_
  refine W_ret ?_
  refine ret_gen (rs := [.tmp 4]) (vs := [_]) Tryz.results95 ⟨rfl, trivial⟩ ?_
  have H := H.del (k := 4) rfl
  have H := H.toFront (k := 2) rfl
  have H := H.toFront (k := 3) rfl
  have H := H.toFront (k := 3) rfl
  have H := H.inF
  have H := H.toFront (k := 2) rfl
  have H := H.toFront (k := 2) rfl
  obtain ⟨Fs2, hp2, hN2⟩ := NdsO.ins (k := Nd.mk b19 nm3 x.dir x.ids []) (Sp.pl d3.kids nm3) ohNs (NdO.new hnml3 hsr14)
  have hcd := Nd.at_cnt (Nd.dirOf_some hdf3).2.2.1; have hcl := Nd.kids_le d3; have hpl := Sp.pl_le d3.kids nm3
  have hkl : (d3.kids.take (Sp.pl d3.kids nm3) ++ Nd.mk b19 nm3 x.dir x.ids [] :: d3.kids.drop (Sp.pl d3.kids nm3)).length = d3.kids.length + 1 := by (simp; omega)
  obtain ⟨F2, H, hN3, hb3⟩ := hclose (kids' := (d3.kids.take (Sp.pl d3.kids nm3) ++ Nd.mk b19 nm3 x.dir x.ids [] :: d3.kids.drop (Sp.pl d3.kids nm3))) (Fs' := Fs2) (by (rw [hkl]); exact H) (by (refine List.Perm.trans ?_ (List.Perm.append_right oR hp2.symm)); simp) hdo ohri hN2 (by omega)
  have hins := Nd.ins_yes (nb := b19) hdf3 (by simpa using hc5')
  exact H.retM ⟨b19, _, _, by (rw [hins]; rfl), rfl, hN3, hb3, by (rw [hins]; rfl)⟩
 skip
 refine o_buildSlice H Tryz.underlying81 Tryz.sizeOf67 (fun w => ⟨_, Tryz.zeroValue67 w, rfl⟩) rfl rfl rfl rfl rfl rfl rfl ?_; intro b23 w23 hb23 H
 refine R_nil ?_
 refine N_DK (Kn.of' H hd6 (SubL.cons 5 rfl SubL.nil)) ?_
 refine RD_run [4] (by kernel_rfl) rfl (RDs.cons rfl ?_ RDs.nil)
 refine o_load_B 2 H Tryz.isAgg81 rfl rfl rfl rfl ?_
 refine R_nil ?_
 refine N_DK (Kn.of' H hd6 (SubL.cons 5 rfl SubL.nil)) ?_
 refine RD_run [15] (by kernel_rfl) rfl (RDs.cons rfl ?_ RDs.nil)
 have H := H.toFront (k := 3) rfl
 refine o_call Tryz.call146 rfl rfl (l_Insert_c _ _ H.sub _ _ _ (Sp.pl_le d3.kids nm3) (by omega) _ (Nd.mk b19 nm3 x.dir x.ids []) H.lent2 ) ?_
 rintro _ w24 ⟨G24, _, _, rfl, H24', ⟨c24, rfl, rfl⟩⟩
 have hNt := hNt.up H24'.le
 have hr1 := hr1.up H24'.le
 have ohri := ohri.up H24'.le
 have ohNs := ohNs.up H24'.le
 have hchk13 := hchk13.up H24'.le
 have hsr14 := hsr14.up H24'.le
 have hdo := hdo.trans H24'.le
 have hd6 := hd6.trans H24'.le
 have H := H.borrow2 H24'
 obtain ⟨avAk, cvAk, rfl⟩ := H.accShape (k := 0) rfl
 refine ⟨_, rfl, ?_⟩
 refine R_nil ?_
 refine N_DK (Kn.of' H hd6 (SubL.cons 4 rfl SubL.nil)) ?_
 refine RD_t 16 rfl (by kernel_rfl) rfl (fun _ hK => v_nilCheck rfl) ?_
 refine RD_t 17 rfl (by kernel_rfl) rfl (fun _ hK => v_fieldAddr 3 Tryz.runUnderlying83 rfl Tryz.sizeOf81 rfl rfl) ?_
 refine RD_run [18] (by kernel_rfl) rfl (RDs.cons rfl ?_ RDs.nil)
 refine o_store_B 2 H Tryz.sizeOf81 rfl rfl rfl rfl rfl rfl rfl rfl ?_; intro w25 H
 refine R_nil ?_
 refine N_DK (Kn.of' H hd6 (SubL.cons 4 rfl SubL.nil)) ?_
 refine RD_done (by kernel_rfl) ?_
 refine N_K ?_
 refine q2 ?_
 refine o_assign rfl rfl ?_
 refine q3 ?_
 refine W_ret ?_
 refine ret_gen (rs := [.tmp 4]) (vs := [_]) Tryz.results95 ⟨rfl, trivial⟩ ?_
 have H := H.del (k := 4) rfl
 have H := H.toFront (k := 2) rfl
 have H := H.toFront (k := 3) rfl
 have H := H.toFront (k := 3) rfl
 have H := H.inF
 have H := H.toFront (k := 2) rfl
 have H := H.toFront (k := 2) rfl
 obtain ⟨Fs2, hp2, hN2⟩ := NdsO.ins (k := Nd.mk b19 nm3 x.dir x.ids []) (Sp.pl d3.kids nm3) ohNs (NdO.new hnml3 hsr14)
 have hcd := Nd.at_cnt (Nd.dirOf_some hdf3).2.2.1; have hcl := Nd.kids_le d3; have hpl := Sp.pl_le d3.kids nm3
 have hkl : (d3.kids.take (Sp.pl d3.kids nm3) ++ Nd.mk b19 nm3 x.dir x.ids [] :: d3.kids.drop (Sp.pl d3.kids nm3)).length = d3.kids.length + 1 := by (simp; omega)
 obtain ⟨F2, H, hN3, hb3⟩ := hclose (kids' := (d3.kids.take (Sp.pl d3.kids nm3) ++ Nd.mk b19 nm3 x.dir x.ids [] :: d3.kids.drop (Sp.pl d3.kids nm3))) (Fs' := Fs2) (by (rw [hkl]); exact H) (by (refine List.Perm.trans ?_ (List.Perm.append_right oR hp2.symm)); simp) hdo ohri hN2 (by omega)
 have hins := Nd.ins_yes (nb := b19) hdf3 (by simpa using hc5')
 exact H.retM ⟨b19, _, _, by (rw [hins]; rfl), rfl, hN3, hb3, by (rw [hins]; rfl)⟩
end Go.Proofs.Tst

namespace Go.Proofs.Tst
open Go Fw
theorem i_openTree_c (w0 : World) (G0 : PH) (hG : PSub G0 w0) (vlist : Value) (list : List (BItem)) (hlist : RdItems G0 vlist list) (hLent : Lent w0 G0 [])  :
  Calls Tryz.prog 40 #[vlist] w0 (RetM w0 G0 [] (fun G' v Bs => (v = .tuple #[.pointer none, .bool false] ∧ Bs = [] ∧ Sp.TreeValid list = false) ∨ (∃ (T : Nd) (F : Fr), v = .tuple #[.pointer (some ⟨T.b, 0, none⟩), .bool true] ∧ Bs = [frag F] ∧ NdO 83 67 G' T F ∧ Nd.TOK T list ∧ Sp.TreeValid list = true))) := by
 obtain ⟨alist, klist, rfl⟩ := hlist.shape
 have hlimlist : list.length ≤ 1099511627776 := hlist.lim
 have H : Hp w0 G0 [] w0 G0 [] := hLent.hp
 refine calls_of_W (l := [.slice alist list.length klist]) Tryz.func40 rfl Tryz.ntmps40 rfl ?_
 refine q2 ?_
 refine o_assign rfl rfl ?_
 refine o_assign rfl rfl ?_
 refine q3 ?_
 refine W_seq ?_
 refine q2 ?_
 refine o_move rfl rfl ?_
 refine o_len_slice Tryz.underlying24 rfl rfl ?_
 refine o_gtr rfl rfl rfl ?_
 refine q3 ?_
 refine W_cond rfl ?_ ?_
 ·intro hc1
  try simp only [nrm] at hc1
  refine q2 ?_
  refine o_assign rfl rfl ?_
  refine o_assign rfl rfl ?_
  refine q3 ?_
  refine W_ret ?_
  refine N_K_ret ?_
  refine ret_gen (rs := [.tmp 2, .tmp 3]) (vs := [_, _]) Tryz.results40 ⟨rfl, rfl, trivial⟩ ?_
  exact H.retM (.inl ⟨rfl, rfl, Nd.tv_long (by omega)⟩)
 intro hc1'
 try simp only [nrm] at hc1'
 refine W_skip ?_
 refine N_K ?_
 refine q2 ?_
 refine o_build bf83 rfl rfl rfl ?_
 refine o_box H rfl rfl rfl ?_; intro b2 w2 hb2 H
 refine o_assign rfl rfl ?_
 refine q1 ?_
 refine o_assign rfl rfl ?_
 refine q3 ?_
 refine W_seq ?_
 refine q2 ?_
 refine o_move rfl rfl ?_
 refine o_len_slice Tryz.underlying24 rfl rfl ?_
 refine o_move rfl rfl ?_
 refine q3 ?_
 refine W_block ?_
 have H := H.addF
 have H := H.toFront (k := 1) rfl
 have H := H.inF
 have hN0 : NdO 83 67 G0 (Nd.mk b2 [] true [] []) _ := NdO.new (by simp) (RdS.nil _ _ _)
 refine W_loop (hf := (Sub.cons (t := 13) rfl (Sub.cons (t := 14) rfl Sub.nil))) (J := fun M w m => ∃ (k : Nat) (la : Bs) (T : Nd) (FT : Fr) (G : PH), M = [(15, .int .i64 (k : Int)), (5, str la), (4, .pointer (some ⟨T.b, 0, none⟩))] ∧ PLe G0 G ∧ Hp w0 G0 [] w G [frag FT] ∧ (k ≤ list.length ∧ la = Nd.lastPath list k ∧ la.length ≤ 16777216 ∧ NdO 83 67 G T FT ∧ Nd.TOK T (list.take k)) ∧ m = (list.length - k)) (h0 := ⟨0, [], (Nd.mk b2 [] true [] []), _, _, rfl, PLe.refl _, H, ?inv, rfl⟩) (hM := ?hM) (round := ?round)
 case hM => (repeat (first | exact Sub.nil | refine Sub.cons rfl ?_))
 case inv => exact ⟨by omega, rfl, by simp, hN0, Nd.tok_root _⟩
 case round =>
  rintro _ w3 _ ⟨k, la, T, FT, G3, rfl, hle3, H, hinv3, rfl⟩
  have hlist := hlist.up hle3
  obtain ⟨hk, hla, hlp, hNT, hTok⟩ := hinv3
  refine q2 ?_
  refine o_lss rfl rfl rfl ?_
  refine q3 ?_
  refine W_seq ?_
  refine W_cond rfl ?_ ?_
  ·intro hc4
   try simp only [nrm] at hc4
   refine W_skip ?_
   refine N_K ?_
   refine W_seq ?_
   refine W_block ?_
   refine q2 ?_
   refine o_index_P k hlist Tryz.underlying24 Tryz.sizeOf39 rfl rfl rfl rfl (by first | omega | (simp; omega)) ?_; intro b5 o5 z5 q5 hz5 hE5 hrow5
   obtain ⟨a5, m5, c5, rfl, hi5, hr5⟩ := hE5; have hy_hi5 : _ ≤ 16777216 := hi5; have hn_hr5 := hr5.len; have hx_hr5 : _ ≤ 1099511627776 := hr5.lim
   refine o_loadagg_P H Tryz.isAgg39 Tryz.sizeOf39 rfl rfl hrow5 rfl ?_
   refine o_alloc H Tryz.zeroValue39 rfl rfl ?_; intro b6 w6 hb6 H
   refine o_store_B 0 H Tryz.sizeOf39 rfl rfl rfl rfl rfl rfl rfl rfl ?_; intro w7 H
   refine q3 ?_
   refine W_seq ?_
   refine q2 ?_
   refine o_fieldAddr 0 Tryz.runUnderlying39 rfl Tryz.sizeOf9 rfl rfl rfl ?_
   refine o_load_B 0 H Tryz.isAgg9 rfl rfl rfl rfl ?_
   refine o_move rfl rfl ?_
   refine o_sleq rfl rfl rfl ?_
   refine o_move rfl rfl ?_
   refine R_case (t := 23) rfl ?_ ?_
   ·intro hc8
    try simp only [nrm] at hc8
    refine R_pass rfl (yl_ne rfl rfl rfl) ?_
    refine R_pass rfl (yl_ne rfl rfl rfl) ?_
    refine R_pass rfl (yl_ne rfl rfl rfl) ?_
    refine o_pick_t rfl rfl rfl ?_
    refine o_move rfl rfl ?_
    refine R_pass rfl (yl_ne rfl rfl rfl) ?_
    refine R_pass rfl (yl_ne rfl rfl rfl) ?_
    refine R_pass rfl (yl_ne rfl rfl rfl) ?_
    refine R_pass rfl (yl_ne rfl rfl rfl) ?_
    refine o_pick_t rfl rfl rfl ?_
    refine q3 ?_
    refine W_true rfl ?_
    refine q2 ?_
    refine o_assign rfl rfl ?_
    refine o_assign rfl rfl ?_
    refine q3 ?_
    refine W_ret ?_
    refine N_K_ret ?_
    refine N_B_ret ?_
    refine N_K_ret ?_
    refine N_LP_ret ?_
    refine N_B_ret ?_
    refine N_K_ret ?_
    refine ret_gen (rs := [.tmp 2, .tmp 3]) (vs := [_, _]) Tryz.results40 ⟨rfl, rfl, trivial⟩ ?_
    have H := H.del (k := 0) rfl
    have H := H.del (k := 0) rfl
    exact H.retM (.inl ⟨rfl, rfl, Nd.tv_false 0 hTok hz5 (.inl (by (rw [← hla]); exact Nd.leq_no (by first | simpa using hc8 | (simp at hc8; exact hc8.symm))))⟩)
   intro hc8'
   try simp only [nrm] at hc8'
   refine R_guard (yl rfl rfl) ?_
   refine o_loadagg_B 0 H Tryz.isAgg39 Tryz.sizeOf39 rfl rfl rfl rfl rfl ?_
   refine R_guard (yl rfl rfl) ?_
   refine o_call Tryz.call94 rfl rfl (i_itemValid_c _ _ H.sub _ _ ⟨_, _, _, rfl, hi5, hr5⟩ ) ?_
   rintro _ w9 ⟨rfl, ew9⟩; have H := H.step ew9; refine ⟨_, rfl, ?_⟩
   refine R_guard (yl rfl rfl) ?_
   refine o_not rfl rfl ?_
   refine o_pick_f rfl rfl rfl ?_
   refine o_move rfl rfl ?_
   refine R_case (t := 28) rfl ?_ ?_
   ·intro hc10
    try simp only [nrm] at hc10
    refine R_pass rfl (yl_ne rfl rfl rfl) ?_
    refine R_pass rfl (yl_ne rfl rfl rfl) ?_
    refine R_pass rfl (yl_ne rfl rfl rfl) ?_
    refine R_pass rfl (yl_ne rfl rfl rfl) ?_
    refine o_pick_t rfl rfl rfl ?_
    refine q3 ?_
    refine W_true rfl ?_
    refine q2 ?_
    refine o_assign rfl rfl ?_
    refine o_assign rfl rfl ?_
    refine q3 ?_
    refine W_ret ?_
    refine N_K_ret ?_
    refine N_B_ret ?_
    refine N_K_ret ?_
    refine N_LP_ret ?_
    refine N_B_ret ?_
    refine N_K_ret ?_
    refine ret_gen (rs := [.tmp 2, .tmp 3]) (vs := [_, _]) Tryz.results40 ⟨rfl, rfl, trivial⟩ ?_
    have H := H.del (k := 0) rfl
    have H := H.del (k := 0) rfl
    exact H.retM (.inl ⟨rfl, rfl, Nd.tv_false 0 hTok hz5 (.inr (.inl (by simpa using hc10)))⟩)
   intro hc10'
   try simp only [nrm] at hc10'
   refine R_guard (yl rfl rfl) ?_
   refine o_move rfl rfl ?_
   refine R_guard (yl rfl rfl) ?_
   refine o_loadagg_B 0 H Tryz.isAgg39 Tryz.sizeOf39 rfl rfl rfl rfl rfl ?_
   refine R_guard (yl rfl rfl) ?_
   have H := H.toFront (k := 1) rfl
   refine o_call Tryz.call95 rfl rfl (i_insert_c _ _ H.sub _ _ hNT _ _ ⟨_, _, _, rfl, hi5, hr5⟩ H.lent1 hTok.wf (by have := hTok.cnt; simp at this; omega)) ?_
   rintro _ w11 ⟨G11, _, _, rfl, H11', ⟨nb11, F11, t11, rfl, rfl, hN11, hb11, ht11⟩⟩
   have hlist := hlist.up H11'.le
   have hNT := hNT.up H11'.le
   have hr5 := hr5.up H11'.le
   have hrow5 := hrow5.up H11'.le
   have hle3 := hle3.trans H11'.le
   have H := H.borrow1 H11'
   try rw [← hb11]
   refine ⟨_, rfl, ?_⟩
   refine R_guard (yl rfl rfl) ?_
   refine o_not rfl rfl ?_
   refine o_pick_f rfl rfl rfl ?_
   refine q3 ?_
   refine W_cond rfl ?_ ?_
   ·intro hc12
    try simp only [nrm] at hc12
    refine q2 ?_
    refine o_assign rfl rfl ?_
    refine o_assign rfl rfl ?_
    refine q3 ?_
    refine W_ret ?_
    refine N_K_ret ?_
    refine N_B_ret ?_
    refine N_K_ret ?_
    refine N_LP_ret ?_
    refine N_B_ret ?_
    refine N_K_ret ?_
    refine ret_gen (rs := [.tmp 2, .tmp 3]) (vs := [_, _]) Tryz.results40 ⟨rfl, rfl, trivial⟩ ?_
    have H := H.del (k := 0) rfl
    have H := H.del (k := 0) rfl
    exact H.retM (.inl ⟨rfl, rfl, Nd.tv_false nb11 hTok hz5 (.inr (.inr (by simpa using hc12)))⟩)
   intro hc12'
   try simp only [nrm] at hc12'
   refine W_skip ?_
   refine N_K ?_
   refine W_region ?_
   refine o_fieldAddr 0 Tryz.runUnderlying39 rfl Tryz.sizeOf9 rfl rfl rfl ?_
   refine o_load_B 1 H Tryz.isAgg9 rfl rfl rfl rfl ?_
   refine o_assign rfl rfl ?_
   refine R_nil ?_
   refine N_B ?_
   refine N_K ?_
   refine W_region ?_
   refine o_add rfl rfl rfl ⟨by omega, by omega⟩ ?_
   refine o_move rfl rfl ?_
   refine R_nil ?_
   have H := H.del (k := 1) rfl
   refine N_LP (hJ := ⟨k + 1, z5.path, t11, F11, _, rfl, hle3, H, ?inv, rfl⟩) (hM := ?hM) (hf := ?hf) (hm := ?hm)
   case hM => (repeat (first | exact Sub.nil | refine Sub.cons rfl ?_))
   case hf => (repeat (first | exact Sub.nil | refine Sub.cons rfl ?_))
   case hm => omega
   case inv => exact ⟨by omega, (Nd.lastPath_succ hz5).symm, by assumption, hN11, Nd.open_step hTok hz5 (by omega) (by (rw [← hla]); exact Nd.leq_yes hc8'.1 hc8'.2) (by simpa using hc10') (Nd.getD_some ht11 (by simpa using hc12'))⟩
  intro hc4'
  try simp only [nrm] at hc4'
  refine W_exit ?_
  refine N_K_exit ?_
  refine N_LP_exit ?_
  refine N_B_same ?_
  refine N_K ?_
  refine q2 ?_
  refine o_move rfl rfl ?_
  refine o_assign rfl rfl ?_
  refine o_assign rfl rfl ?_
  refine q3 ?_
  refine W_ret ?_
  refine ret_gen (rs := [.tmp 2, .tmp 3]) (vs := [_, _]) Tryz.results40 ⟨rfl, rfl, trivial⟩ ?_
  have hTl : Nd.TOK T list := by (have h9 := hTok; rw [List.take_of_length_le (by omega)] at h9; exact h9)
  exact H.retM (.inr ⟨T, _, rfl, rfl, hNT, hTl, hTl.valid⟩)
end Go.Proofs.Tst

namespace Go.Proofs.Tst
open Go Fw
theorem i_keep_c (w0 : World) (G0 : PH) (hG : PSub G0 w0) (mbs : Nat) (ess : Array MapEntry) (cks : Nat) (xss : List (Int × Value)) (Ls : List BHeld) (hms : MapIs (Value.int .i64) ess cks xss) (hSs : StR G0 xss Ls) (hVs : Sp.VH Ls) (id : Int) (hLent : Lent w0 G0 [blk mbs (.map ess cks)])  :
  Calls Tryz.prog 161 #[.map (some mbs), .int .i64 id] w0 (RetM w0 G0 [mbs] (fun G' v Bs => ∃ (es' : Array MapEntry) (ck' : Nat) (xs' : List (Int × Value)) (L' : List BHeld), v = .bool (Sp.StoreKeep Ls id).isSome ∧ Bs = [blk mbs (.map es' ck')] ∧ MapIs (Value.int .i64) es' ck' xs' ∧ StR G' xs' L' ∧ Sp.VH L' ∧ L' = (Sp.StoreKeep Ls id).getD Ls)) := by
 have H : Hp w0 G0 [mbs] w0 G0 [blk mbs (.map ess cks)] := hLent.hp
 refine calls_of_W (l := [.map (some mbs), .int .i64 id]) Tryz.func161 rfl Tryz.ntmps161 rfl ?_
 refine q2 ?_
 refine o_assign rfl rfl ?_
 refine q1 ?_
 refine o_move rfl rfl ?_
 refine o_move rfl rfl ?_
 refine o_lookS2 (H.at (k := 0) rfl) hms hSs Tryz.underlying66 Tryz.underlying3 Tryz.zeroValue117 rfl rfl rfl ?_; intro q1 hE1
 obtain ⟨a1, m1, c1, rfl, hi1, hr1, hj1⟩ := hE1; have hn_hr1 := hr1.len; have hx_hr1 : _ ≤ 1099511627776 := hr1.lim
 have hfnd : True := trivial
 refine o_move rfl rfl ?_
 refine o_extract rfl rfl rfl ?_
 refine o_extract rfl rfl rfl ?_
 refine o_alloc H Tryz.zeroValue117 rfl rfl ?_; intro b2 w2 hb2 H
 refine o_store_B 0 H Tryz.sizeOf117 rfl rfl rfl rfl rfl rfl rfl rfl ?_; intro w3 H
 refine o_assign rfl rfl ?_
 refine q3 ?_
 refine W_seq ?_
 refine q2 ?_
 refine o_move rfl rfl ?_
 refine o_not rfl rfl ?_
 refine o_move rfl rfl ?_
 refine R_case (t := 15) rfl ?_ ?_
 ·intro hc4
  try simp only [nrm] at hc4
  refine R_pass rfl (yl_ne rfl rfl rfl) ?_
  refine R_pass rfl (yl_ne rfl rfl rfl) ?_
  refine R_pass rfl (yl_ne rfl rfl rfl) ?_
  refine o_pick_t rfl rfl rfl ?_
  refine q3 ?_
  refine W_true rfl ?_
  refine q2 ?_
  refine o_assign rfl rfl ?_
  refine q3 ?_
  refine W_ret ?_
  refine N_K_ret ?_
  refine ret_gen (rs := [.tmp 4]) (vs := [_]) Tryz.results161 ⟨rfl, trivial⟩ ?_
  have H := H.del (k := 0) rfl
  exact H.retM ⟨_, _, _, _, congrArg Value.bool (by rw [Sp.keep_no hVs (.inl (by simpa using hc4))]; rfl), rfl, hms, hSs, hVs, by rw [Sp.keep_no hVs (.inl (by simpa using hc4))]; rfl⟩
 intro hc4'
 try simp only [nrm] at hc4'
 have hfd : (Sp.atH Ls id).isSome = true := by simpa using hc4'
 have hgo := Sp.get_ok hVs hfd
 refine R_guard (yl rfl rfl) ?_
 refine o_fieldAddr 2 Tryz.runUnderlying117 rfl Tryz.sizeOf3 rfl rfl rfl ?_
 refine R_guard (yl rfl rfl) ?_
 refine o_load_B 0 H Tryz.isAgg3 rfl rfl rfl rfl ?_
 refine R_guard (yl rfl rfl) ?_
 refine o_geq rfl rfl rfl ?_
 refine o_pick_f rfl rfl rfl ?_
 refine q3 ?_
 refine W_cond rfl ?_ ?_
 ·intro hc5
  try simp only [nrm] at hc5
  refine q2 ?_
  refine o_assign rfl rfl ?_
  refine q3 ?_
  refine W_ret ?_
  refine N_K_ret ?_
  refine ret_gen (rs := [.tmp 4]) (vs := [_]) Tryz.results161 ⟨rfl, trivial⟩ ?_
  have H := H.del (k := 0) rfl
  exact H.retM ⟨_, _, _, _, congrArg Value.bool (by rw [Sp.keep_no hVs (.inr (by omega))]; rfl), rfl, hms, hSs, hVs, by rw [Sp.keep_no hVs (.inr (by omega))]; rfl⟩
 intro hc5'
 try simp only [nrm] at hc5'
 have hkg := Sp.keep_get hVs hfd (by omega)
 refine W_skip ?_
 refine N_K ?_
 refine q2 ?_
 refine o_fieldAddr 2 Tryz.runUnderlying117 rfl Tryz.sizeOf3 rfl rfl rfl ?_
 refine o_load_B 0 H Tryz.isAgg3 rfl rfl rfl rfl ?_
 refine o_add rfl rfl rfl ⟨by omega, by omega⟩ ?_
 refine o_fieldAddr 2 Tryz.runUnderlying117 rfl Tryz.sizeOf3 rfl rfl rfl ?_
 refine o_store_B 0 H Tryz.sizeOf3 rfl rfl rfl rfl rfl rfl rfl rfl ?_; intro w7 H
 refine q1 ?_
 refine o_move rfl rfl ?_
 refine o_move rfl rfl ?_
 refine o_loadagg_B 0 H Tryz.isAgg117 Tryz.sizeOf117 rfl rfl rfl rfl rfl ?_
 refine o_updS 1 H ⟨(getH Ls id).id, (getH Ls id).bytes, (getH Ls id).uses + 1⟩ rfl hms hSs Tryz.underlying66 Tryz.underlying3 rfl rfl rfl (show heldE G0 ⟨(getH Ls id).id, (getH Ls id).bytes, (getH Ls id).uses + 1⟩ _ from ⟨_, _, _, rfl, ⟨by first | omega | (dsimp only; omega), by first | omega | (dsimp only; omega)⟩, hr1, ⟨by first | omega | (dsimp only; omega), by first | omega | (dsimp only; omega)⟩⟩) (by exact Sp.get_id hfd) ?_; intro es8 ck8 xs8 w8 H hm8 hS8
 refine q1 ?_
 refine o_assign rfl rfl ?_
 refine q3 ?_
 refine W_ret ?_
 refine ret_gen (rs := [.tmp 4]) (vs := [_]) Tryz.results161 ⟨rfl, trivial⟩ ?_
 have H := H.del (k := 0) rfl
 exact H.retM ⟨_, _, _, _, congrArg Value.bool (by rw [hkg.1]; rfl), rfl, hm8, hS8, hkg.2, by rw [hkg.1]; rfl⟩
end Go.Proofs.Tst

namespace Go.Proofs.Tst
open Go Fw
theorem i_fileIds_c (w0 : World) (G0 : PH) (hG : PSub G0 w0) (mbs : Nat) (ess : Array MapEntry) (cks : Nat) (xss : List (Int × Value)) (Ls : List BHeld) (hbs : MapAt G0 mbs ess cks) (hms : MapIs (Value.int .i64) ess cks xss) (hSs : StR G0 xss Ls) (hVs : Sp.VH Ls) (vids : Value) (ids : List (Int)) (hids : RdI G0 vids ids)  :
  Calls Tryz.prog 128 #[.map (some mbs), vids] w0 (Rets w0 (.bool (Sp.l4Ids Ls ids))) := by
 obtain ⟨aids, kids, rfl⟩ := hids.shape
 have hlimids : ids.length ≤ 1099511627776 := hids.lim
 have H := Hp.init hG
 refine calls_of_W (l := [.map (some mbs), .slice aids ids.length kids]) Tryz.func128 rfl Tryz.ntmps128 rfl ?_
 refine q2 ?_
 refine o_assign rfl rfl ?_
 refine q3 ?_
 refine W_seq ?_
 refine q2 ?_
 refine o_move rfl rfl ?_
 refine o_len_slice Tryz.underlying27 rfl rfl ?_
 refine o_gtr rfl rfl rfl ?_
 refine q3 ?_
 refine W_cond rfl ?_ ?_
 ·intro hc1
  try simp only [nrm] at hc1
  refine q2 ?_
  refine o_assign rfl rfl ?_
  refine q3 ?_
  refine W_ret ?_
  refine N_K_ret ?_
  refine ret_gen (rs := [.tmp 4]) (vs := [_]) Tryz.results128 ⟨rfl, trivial⟩ ?_
  exact H.rets (congrArg Value.bool (by rw [Sp.ids_long (by omega)]))
 intro hc1'
 try simp only [nrm] at hc1'
 refine W_skip ?_
 refine N_K ?_
 refine W_seq ?_
 refine q2 ?_
 refine o_move rfl rfl ?_
 refine o_len_slice Tryz.underlying27 rfl rfl ?_
 refine o_move rfl rfl ?_
 refine q3 ?_
 refine W_block ?_
 refine W_loop (hf := (Sub.cons (t := 0) rfl (Sub.cons (t := 1) rfl (Sub.cons (t := 12) rfl (Sub.cons (t := 13) rfl Sub.nil))))) (J := fun M w m => ∃ (k : Nat) (G : PH), M = [(14, .int .i64 (k : Int))] ∧ PLe G0 G ∧ Hp w0 G0 [] w G [] ∧ (k ≤ ids.length ∧ ∀ j, j < k → Sp.idsOk Ls ids j = true) ∧ m = (ids.length - k)) (h0 := ⟨0, _, rfl, PLe.refl _, H, ?inv, rfl⟩) (hM := ?hM) (round := ?round)
 case hM => (repeat (first | exact Sub.nil | refine Sub.cons rfl ?_))
 case inv => exact ⟨by omega, fun j hj => by omega⟩
 case round =>
  rintro _ w2 _ ⟨k, G2, rfl, hle2, H, hinv2, rfl⟩
  have hSs := hSs.up hle2
  have hbs := hbs.up hle2
  have hids := hids.up hle2
  obtain ⟨hk, hall⟩ := hinv2
  refine q2 ?_
  refine o_lss rfl rfl rfl ?_
  refine q3 ?_
  refine W_seq ?_
  refine W_cond rfl ?_ ?_
  ·intro hc3
   try simp only [nrm] at hc3
   refine W_skip ?_
   refine N_K ?_
   refine W_seq ?_
   refine W_block ?_
   refine q2 ?_
   refine o_move rfl rfl ?_
   refine o_index_P k hids Tryz.underlying27 Tryz.sizeOf3 rfl rfl rfl rfl (by omega) ?_; intro b4 o4 z4 q4 hz4 hE4 hrow4
   obtain ⟨rfl, hi4⟩ := hE4
   refine o_load_P H Tryz.isAgg3 rfl rfl (hrow4 0 _ rfl) ?_
   refine o_assign rfl rfl ?_
   refine o_assign rfl rfl ?_
   refine q1 ?_
   refine o_move rfl rfl ?_
   refine o_move rfl rfl ?_
   refine o_lookS2 (hbs.at H.sub) hms hSs Tryz.underlying66 Tryz.underlying3 Tryz.zeroValue117 rfl rfl rfl ?_; intro q5 hE5
   obtain ⟨a5, m5, c5, rfl, hi5, hr5, hj5⟩ := hE5; have hn_hr5 := hr5.len; have hx_hr5 : _ ≤ 1099511627776 := hr5.lim
   refine o_move rfl rfl ?_
   refine o_extract rfl rfl rfl ?_
   refine o_extract rfl rfl rfl ?_
   refine o_alloc H Tryz.zeroValue117 rfl rfl ?_; intro b6 w6 hb6 H
   refine o_store_B 0 H Tryz.sizeOf117 rfl rfl rfl rfl rfl rfl rfl rfl ?_; intro w7 H
   refine o_assign rfl rfl ?_
   refine q1 ?_
   refine o_move rfl rfl ?_
   refine o_not rfl rfl ?_
   refine o_move rfl rfl ?_
   refine R_case (t := 27) rfl ?_ ?_
   ·intro hc8
    try simp only [nrm] at hc8
    refine R_pass rfl (yl_ne rfl rfl rfl) ?_
    refine R_pass rfl (yl_ne rfl rfl rfl) ?_
    refine R_pass rfl (yl_ne rfl rfl rfl) ?_
    refine R_pass rfl (yl_ne rfl rfl rfl) ?_
    refine R_pass rfl (yl_ne rfl rfl rfl) ?_
    refine R_pass rfl (yl_ne rfl rfl rfl) ?_
    refine R_pass rfl (yl_un rfl rfl) ?_
    refine R_pass rfl (yl_un rfl rfl) ?_
    refine R_pass rfl (yl_un rfl rfl) ?_
    refine R_pass rfl (yl_un rfl rfl) ?_
    refine R_pass rfl (yl_ne rfl rfl rfl) ?_
    refine o_pick_t rfl rfl rfl ?_
    refine q3 ?_
    refine W_true rfl ?_
    refine q2 ?_
    refine o_assign rfl rfl ?_
    refine q3 ?_
    refine W_ret ?_
    refine N_B_ret ?_
    refine N_K_ret ?_
    refine N_LP_ret ?_
    refine N_B_ret ?_
    refine N_K_ret ?_
    refine ret_gen (rs := [.tmp 4]) (vs := [_]) Tryz.results128 ⟨rfl, trivial⟩ ?_
    exact H.rets (congrArg Value.bool (by rw [Sp.ids_false (k := k) (by omega) (by exact Sp.idsOk_no hz4 (by simpa using hc8))]))
   intro hc8'
   try simp only [nrm] at hc8'
   have hfd : (Sp.atH Ls z4).isSome = true := by simpa using hc8'
   have hbl := Sp.bv_len (Sp.get_ok hVs hfd).2.1
   have hio := Sp.idsOk_get hz4 hfd
   refine R_guard (yl rfl rfl) ?_
   refine o_move rfl rfl ?_
   refine R_guard (yl rfl rfl) ?_
   refine o_move rfl rfl ?_
   refine R_guard (yl rfl rfl) ?_
   refine o_len_slice Tryz.underlying27 rfl rfl ?_
   refine R_guard (yl rfl rfl) ?_
   refine o_sub rfl rfl rfl ⟨by omega, by omega⟩ ?_
   refine R_guard (yl rfl rfl) ?_
   refine o_lss rfl rfl rfl ?_
   refine R_guard (yl rfl rfl) ?_
   refine o_move rfl rfl ?_
   refine R_case (t := 33) rfl ?_ ?_
   ·intro hc10
    try simp only [nrm] at hc10
    refine R_guard (yl rfl rfl) ?_
    refine o_fieldAddr 1 Tryz.runUnderlying117 rfl Tryz.sizeOf27 rfl rfl rfl ?_
    refine R_guard (yl rfl rfl) ?_
    refine o_load_B 0 H Tryz.isAgg27 rfl rfl rfl rfl ?_
    refine R_guard (yl rfl rfl) ?_
    refine o_len_slice Tryz.underlying27 rfl rfl ?_
    refine R_guard (yl rfl rfl) ?_
    refine o_neq rfl rfl rfl ?_
    refine R_guard (yl rfl rfl) ?_
    refine o_pick_t rfl rfl rfl ?_
    refine o_pick_f rfl rfl rfl ?_
    refine q3 ?_
    refine W_cond rfl ?_ ?_
    ·intro hc11
     try simp only [nrm] at hc11
     refine q2 ?_
     refine o_assign rfl rfl ?_
     refine q3 ?_
     refine W_ret ?_
     refine N_B_ret ?_
     refine N_K_ret ?_
     refine N_LP_ret ?_
     refine N_B_ret ?_
     refine N_K_ret ?_
     refine ret_gen (rs := [.tmp 4]) (vs := [_]) Tryz.results128 ⟨rfl, trivial⟩ ?_
     exact H.rets (congrArg Value.bool (by rw [Sp.ids_false (k := k) (by omega) (by rw [hio]; simp; omega)]))
    intro hc11'
    try simp only [nrm] at hc11'
    refine W_skip ?_
    refine N_B ?_
    refine N_K ?_
    refine W_region ?_
    refine o_add rfl rfl rfl ⟨by omega, by omega⟩ ?_
    refine o_move rfl rfl ?_
    refine R_nil ?_
    have H := H.del (k := 0) rfl
    refine N_LP (hJ := ⟨k + 1, _, rfl, hle2, H, ?inv, rfl⟩) (hM := ?hM) (hf := ?hf) (hm := ?hm)
    case hM => (repeat (first | exact Sub.nil | refine Sub.cons rfl ?_))
    case hf => (repeat (first | exact Sub.nil | refine Sub.cons rfl ?_))
    case hm => omega
    case inv => exact ⟨by omega, Sp.upto_succ hall (by rw [hio]; simp; omega)⟩
   intro hc10'
   try simp only [nrm] at hc10'
   refine R_pass rfl (yl_ne rfl rfl rfl) ?_
   refine R_pass rfl (yl_ne rfl rfl rfl) ?_
   refine R_pass rfl (yl_ne rfl rfl rfl) ?_
   refine R_pass rfl (yl_ne rfl rfl rfl) ?_
   refine R_guard (yl rfl rfl) ?_
   refine o_pick_f rfl rfl rfl ?_
   refine o_pick_f rfl rfl rfl ?_
   refine q3 ?_
   refine W_false rfl ?_
   refine W_skip ?_
   refine N_B ?_
   refine N_K ?_
   refine W_region ?_
   refine o_add rfl rfl rfl ⟨by omega, by omega⟩ ?_
   refine o_move rfl rfl ?_
   refine R_nil ?_
   have H := H.del (k := 0) rfl
   refine N_LP (hJ := ⟨k + 1, _, rfl, hle2, H, ?inv, rfl⟩) (hM := ?hM) (hf := ?hf) (hm := ?hm)
   case hM => (repeat (first | exact Sub.nil | refine Sub.cons rfl ?_))
   case hf => (repeat (first | exact Sub.nil | refine Sub.cons rfl ?_))
   case hm => omega
   case inv => exact ⟨by omega, Sp.upto_succ hall (by rw [hio]; simp; omega)⟩
  intro hc3'
  try simp only [nrm] at hc3'
  refine W_exit ?_
  refine N_K_exit ?_
  refine N_LP_exit ?_
  refine N_B_same ?_
  refine N_K ?_
  refine q2 ?_
  refine o_assign rfl rfl ?_
  refine q3 ?_
  refine W_ret ?_
  refine ret_gen (rs := [.tmp 4]) (vs := [_]) Tryz.results128 ⟨rfl, trivial⟩ ?_
  exact H.rets (congrArg Value.bool (by rw [Sp.ids_true (fun j hj => hall j (by omega)) (by omega)]))
theorem i_keepFile_c (w0 : World) (G0 : PH) (hG : PSub G0 w0) (mbs : Nat) (ess : Array MapEntry) (cks : Nat) (xss : List (Int × Value)) (Ls : List BHeld) (hms : MapIs (Value.int .i64) ess cks xss) (hSs : StR G0 xss Ls) (hVs : Sp.VH Ls) (vids : Value) (ids : List (Int)) (hids : RdI G0 vids ids) (hLent : Lent w0 G0 [blk mbs (.map ess cks)])  :
  Calls Tryz.prog 155 #[.map (some mbs), vids] w0 (RetM w0 G0 [mbs] (fun G' v Bs => ∃ (es' : Array MapEntry) (ck' : Nat) (xs' : List (Int × Value)) (L' : List BHeld), v = .bool (Sp.foldB Sp.StoreKeep ids (some Ls)).isSome ∧ Bs = [blk mbs (.map es' ck')] ∧ MapIs (Value.int .i64) es' ck' xs' ∧ StR G' xs' L' ∧ Sp.VH L' ∧ ∀ l, Sp.foldB Sp.StoreKeep ids (some Ls) = some l → L' = l)) := by
 obtain ⟨aids, kids, rfl⟩ := hids.shape
 have hlimids : ids.length ≤ 1099511627776 := hids.lim
 have H : Hp w0 G0 [mbs] w0 G0 [blk mbs (.map ess cks)] := hLent.hp
 refine calls_of_W (l := [.map (some mbs), .slice aids ids.length kids]) Tryz.func155 rfl Tryz.ntmps155 rfl ?_
 refine q2 ?_
 refine o_assign rfl rfl ?_
 refine q3 ?_
 refine W_seq ?_
 refine q2 ?_
 refine o_move rfl rfl ?_
 refine o_len_slice Tryz.underlying27 rfl rfl ?_
 refine o_move rfl rfl ?_
 refine q3 ?_
 refine W_block ?_
 refine W_loop (hf := (Sub.cons (t := 0) rfl (Sub.cons (t := 7) rfl (Sub.cons (t := 8) rfl Sub.nil)))) (J := fun M w m => ∃ (esm0 : Array MapEntry) (ckm0 : Nat) (xsm0 : List (Int × Value)) (Lm0 : List BHeld) (k : Nat) (G : PH), M = [(9, .int .i64 (k : Int))] ∧ PLe G0 G ∧ Hp w0 G0 [mbs] w G [blk mbs (.map esm0 ckm0)] ∧ (MapIs (Value.int .i64) esm0 ckm0 xsm0 ∧ StR G xsm0 Lm0 ∧ Sp.VH Lm0 ∧ k ≤ ids.length ∧ Sp.foldB Sp.StoreKeep (ids.take k) (some Ls) = some Lm0) ∧ m = (ids.length - k)) (h0 := ⟨_, _, xss, Ls, 0, _, rfl, PLe.refl _, H, ?inv, rfl⟩) (hM := ?hM) (round := ?round)
 case hM => (repeat (first | exact Sub.nil | refine Sub.cons rfl ?_))
 case inv => exact ⟨hms, hSs, hVs, (by simp [Sp.foldB])⟩
 case round =>
  rintro _ w1 _ ⟨esm0, ckm0, xsm0, Lm0, k, G1, rfl, hle1, H, hinv1, rfl⟩
  have hSs := hSs.up hle1
  have hids := hids.up hle1
  obtain ⟨hm1_m0, hS1_m0, hV1_m0, hinv1⟩ := hinv1
  obtain ⟨hk, hf⟩ := hinv1
  refine q2 ?_
  refine o_lss rfl rfl rfl ?_
  refine q3 ?_
  refine W_seq ?_
  refine W_cond rfl ?_ ?_
  ·intro hc2
   try simp only [nrm] at hc2
   refine W_skip ?_
   refine N_K ?_
   refine W_seq ?_
   refine W_block ?_
   refine q2 ?_
   refine o_index_P k hids Tryz.underlying27 Tryz.sizeOf3 rfl rfl rfl rfl (by omega) ?_; intro b3 o3 z3 q3 hz3 hE3 hrow3
   obtain ⟨rfl, hi3⟩ := hE3
   refine o_load_P H Tryz.isAgg3 rfl rfl (hrow3 0 _ rfl) ?_
   refine o_assign rfl rfl ?_
   refine q1 ?_
   refine o_move rfl rfl ?_
   refine o_move rfl rfl ?_
   refine o_call Tryz.call161 rfl rfl (i_keep_c _ _ H.sub _ _ _ _ _ hm1_m0 hS1_m0 hV1_m0 _ H.lent1 ) ?_
   rintro _ w4 ⟨G4, _, _, rfl, H4', ⟨es4, ck4, xs4, L4, rfl, rfl, hm4, hS4, hV4, hL4⟩⟩
   have hSs := hSs.up H4'.le
   have hids := hids.up H4'.le
   have hS1_m0 := hS1_m0.up H4'.le
   have hrow3 := hrow3.up H4'.le
   have hle1 := hle1.trans H4'.le
   have H := H.borrow1 H4'
   refine ⟨_, rfl, ?_⟩
   refine o_not rfl rfl ?_
   refine q3 ?_
   refine W_cond rfl ?_ ?_
   ·intro hc5
    try simp only [nrm] at hc5
    refine q2 ?_
    refine o_assign rfl rfl ?_
    refine q3 ?_
    refine W_ret ?_
    refine N_B_ret ?_
    refine N_K_ret ?_
    refine N_LP_ret ?_
    refine N_B_ret ?_
    refine N_K_ret ?_
    refine ret_gen (rs := [.tmp 4]) (vs := [_]) Tryz.results155 ⟨rfl, trivial⟩ ?_
    have hno : Sp.foldB Sp.StoreKeep ids (some Ls) = none := by (have hno : Sp.StoreKeep Lm0 z3 = none := by simpa using hc5); exact Sp.foldB_stop hf hz3 hno
    exact H.retM ⟨_, _, _, _, congrArg Value.bool (by rw [hno]; rfl), rfl, hm4, hS4, hV4, fun l hl => by rw [hno] at hl; cases hl⟩
   intro hc5'
   try simp only [nrm] at hc5'
   obtain ⟨p, hsp⟩ := Option.isSome_iff_exists.1 hc5'
   have hLp : L4 = p := by rw [hL4, hsp]; rfl
   subst hLp
   refine W_skip ?_
   refine N_B ?_
   refine N_K ?_
   refine W_region ?_
   refine o_add rfl rfl rfl ⟨by omega, by omega⟩ ?_
   refine o_move rfl rfl ?_
   refine R_nil ?_
   refine N_LP (hJ := ⟨_, _, xs4, L4, k + 1, _, rfl, hle1, H, ?inv, rfl⟩) (hM := ?hM) (hf := ?hf) (hm := ?hm)
   case hM => (repeat (first | exact Sub.nil | refine Sub.cons rfl ?_))
   case hf => (repeat (first | exact Sub.nil | refine Sub.cons rfl ?_))
   case hm => omega
   case inv => exact ⟨hm4, hS4, hV4, (by exact ⟨by omega, Sp.foldB_succ hf hz3 hsp⟩)⟩
  intro hc2'
  try simp only [nrm] at hc2'
  refine W_exit ?_
  refine N_K_exit ?_
  refine N_LP_exit ?_
  refine N_B_same ?_
  refine N_K ?_
  refine q2 ?_
  refine o_assign rfl rfl ?_
  refine q3 ?_
  refine W_ret ?_
  refine ret_gen (rs := [.tmp 4]) (vs := [_]) Tryz.results155 ⟨rfl, trivial⟩ ?_
  have hyes : Sp.foldB Sp.StoreKeep ids (some Ls) = some Lm0 := Sp.foldB_all hf (by omega)
  exact H.retM ⟨_, _, _, _, congrArg Value.bool (by rw [hyes]; rfl), rfl, hm1_m0, hS1_m0, hV1_m0, fun l hl => by rw [hyes] at hl; cases hl; rfl⟩
end Go.Proofs.Tst

namespace Go.Proofs.Tst
open Go Fw
theorem i_listIn_r : ∀ (N : Nat) (w0 : World) (G0 : PH) (hG : PSub G0 w0) (t : Nd) (hndt : RdN G0 t) (s : Bs) (hs : s.length ≤ 16777216) (hwt : t.wf) (hsl : s.length + 6 * t.cnt ≤ 100000) (hsz : t.size ≤ N),
  Calls Tryz.prog 137 #[.pointer (some ⟨t.b, 0, none⟩), str s] w0 (RetN w0 G0 (fun v Bs => ∃ (F : Fr), Bs = [frag F] ∧ OIs F v (t.flat s))) := by
 intro N
 induction N with
 | zero => intro w0 G0 hG t hndt s hs hwt hsl hsz; exact absurd (Nd.size_pos t) (by omega)
 | succ N ih =>
 intro w0 G0 hG t hndt s hs hwt hsl hsz
 obtain ⟨hnlt, nat, nmt, nct, nAt, nMt, nCt, hprt, hrit, hrkt⟩ := hndt.open
 have hn_hrit := hrit.len; have hx_hrit : _ ≤ 1099511627776 := hrit.lim
 have hn_hrkt := hrkt.len; have hx_hrkt : _ ≤ 1099511627776 := hrkt.lim
 have H := Hp.init hG
 refine calls_of_W (l := [.pointer (some ⟨t.b, 0, none⟩), str s]) Tryz.func137 rfl Tryz.ntmps137 rfl ?_
 refine q2 ?_
 refine o_assign rfl rfl ?_
 refine q1 ?_
 refine o_assign rfl rfl ?_
 refine q3 ?_
 refine W_seq ?_
 refine q2 ?_
 refine o_move rfl rfl ?_
 refine o_nilCheck rfl rfl ?_
 refine o_fieldAddr 3 Tryz.runUnderlying83 rfl Tryz.sizeOf81 rfl rfl rfl ?_
 refine o_load_P H Tryz.isAgg81 rfl rfl (hprt 3 _ rfl) ?_
 refine o_len_slice Tryz.underlying81 rfl rfl ?_
 refine o_move rfl rfl ?_
 refine q3 ?_
 refine W_block ?_
 have H := H.addNil 39 3
 have H := H.addF
 refine W_loop (hf := (Sub.cons (t := 1) rfl (Sub.cons (t := 4) rfl (Sub.cons (t := 12) rfl (Sub.cons (t := 13) rfl Sub.nil))))) (J := fun M w m => ∃ (v : Value) (n : Nat) (cs : List Value) (xs : List (BItem)) (F : Fr) (k : Nat) (G : PH), M = [(14, .int .i64 (k : Int)), (5, v)] ∧ PLe G0 G ∧ Hp w0 G0 [] w G [frag F, acc 39 3 v n cs] ∧ (ChkF itemO 3 cs xs F ∧ n = xs.length ∧ k ≤ t.kids.length ∧ xs = Nd.flats s (t.kids.take k)) ∧ m = (t.kids.length - k)) (h0 := ⟨_, _, _, [], [], 0, _, rfl, PLe.refl _, H, ?inv, rfl⟩) (hM := ?hM) (round := ?round)
 case hM => (repeat (first | exact Sub.nil | refine Sub.cons rfl ?_))
 case inv => exact ⟨ChkF.nil,  by first | rfl | simp | (simp; omega) | omega, (by simp [Nd.flats])⟩
 case round =>
  rintro _ w2 _ ⟨v, n, cs, xs, F, k, G2, rfl, hle2, H, hinv2, rfl⟩
  have hndt := hndt.up hle2
  have hprt := hprt.up hle2
  have hrit := hrit.up hle2
  have hrkt := hrkt.up hle2
  obtain ⟨hchk2_0, hn2_0, hinv2⟩ := hinv2
  obtain ⟨av2_0, cv2_0, rfl⟩ := H.accShape (k := 1) rfl
  obtain ⟨hk, hxs⟩ := hinv2; have hxl : xs.length ≤ 100000 := by (have := Nd.flats_len s (t.kids.take k); have := Nd.cnts_take t.kids k; have := Nd.cnt_eq t; rw [hxs]; omega)
  refine q2 ?_
  refine o_lss rfl rfl rfl ?_
  refine q3 ?_
  refine W_seq ?_
  refine W_cond rfl ?_ ?_
  ·intro hc3
   try simp only [nrm] at hc3
   refine W_skip ?_
   refine N_K ?_
   refine W_seq ?_
   refine W_block ?_
   refine q2 ?_
   refine o_index_P k hrkt Tryz.underlying81 Tryz.sizeOf67 rfl rfl rfl rfl (by first | omega | (simp; omega)) ?_; intro b4 o4 z4 q4 hz4 hE4 hrow4
   obtain ⟨rfl, hnd4⟩ := hE4; obtain ⟨hnl4, na4, nm4, nc4, nA4, nM4, nC4, hpr4, hri4, hrk4⟩ := hnd4.open; have hn_hri4 := hri4.len; have hx_hri4 : _ ≤ 1099511627776 := hri4.lim; have hn_hrk4 := hrk4.len; have hx_hrk4 : _ ≤ 1099511627776 := hrk4.lim
   have hzm := List.mem_of_getElem? hz4; have hzc := Nd.kid_cnt hzm; have hzs := Nd.size_kid hzm; have hzw := ((Nd.wf_iff _).1 hwt).2 _ hzm; have hzn := Nd.word_le hzw.1; have hzf := Nd.flat_len (s ++ z4.name ++ [47]) z4
   refine o_load_P H Tryz.isAgg67 rfl rfl (hrow4 0 _ rfl) ?_
   refine o_assign rfl rfl ?_
   refine q1 ?_
   refine o_move rfl rfl ?_
   refine o_move rfl rfl ?_
   refine o_nilCheck rfl rfl ?_
   refine o_fieldAddr 0 Tryz.runUnderlying83 rfl Tryz.sizeOf9 rfl rfl rfl ?_
   refine o_load_P H Tryz.isAgg9 rfl rfl (hpr4 0 _ rfl) ?_
   refine o_sadd rfl rfl rfl (by simp only [LIM, List.length_append, List.length_cons, List.length_nil] at *; omega) ?_
   refine o_assign rfl rfl ?_
   refine q3 ?_
   refine W_seq ?_
   refine W_drawK [] 15 H (by kernel_rfl) rfl ?_; intro w5 H; have hd5 := PLe.refl G2
   refine RD_t 0 rfl (by kernel_rfl) rfl (fun _ hK => v_move rfl) ?_
   refine RD_t 1 rfl (by kernel_rfl) rfl (fun _ hK => v_move rfl) ?_
   refine RD_t 2 rfl (by kernel_rfl) rfl (fun _ hK => v_move rfl) ?_
   refine RD_t 3 rfl (by kernel_rfl) rfl (fun _ hK => v_nilCheck rfl) ?_
   refine RD_t 4 rfl (by kernel_rfl) rfl (fun _ hK => v_fieldAddr 1 Tryz.runUnderlying83 rfl Tryz.sizeOf4 rfl rfl) ?_
   refine RD_t 5 rfl (by kernel_rfl) rfl (fun _ hK => v_load_P hK Tryz.isAgg4 rfl (hpr4 1 _ rfl)) ?_
   refine RD_t 6 rfl (by kernel_rfl) rfl (fun _ hK => v_move rfl) ?_
   refine RD_t 7 rfl (by kernel_rfl) rfl (fun _ hK => v_nilCheck rfl) ?_
   refine RD_t 8 rfl (by kernel_rfl) rfl (fun _ hK => v_fieldAddr 2 Tryz.runUnderlying83 rfl Tryz.sizeOf27 rfl rfl) ?_
   refine RD_t 9 rfl (by kernel_rfl) rfl (fun _ hK => v_load_P hK Tryz.isAgg27 rfl (hpr4 2 _ rfl)) ?_
   refine RD_run [10] (by kernel_rfl) rfl (RDs.cons rfl ?_ RDs.nil)
   refine o_call Tryz.call133 rfl rfl (l_Clone_c _ _ H.sub _ _ hri4 ) ?_
   rintro _ w6 ⟨G6, v6, _, g6, rfl, ⟨cs6, rfl, hchk6⟩, hp6, hq6, hs6⟩
   have H := H.growO g6 hp6 hq6 hs6; obtain ⟨av6, cv6, rfl⟩ := H.accShape (k := 0) rfl
   have hndt := hndt.up g6.le
   have hprt := hprt.up g6.le
   have hrit := hrit.up g6.le
   have hrkt := hrkt.up g6.le
   have hnd4 := hnd4.up g6.le
   have hpr4 := hpr4.up g6.le
   have hri4 := hri4.up g6.le
   have hrk4 := hrk4.up g6.le
   have hrow4 := hrow4.up g6.le
   have hle2 := hle2.trans g6.le
   have hd5 := hd5.trans g6.le
   refine ⟨_, rfl, ?_⟩
   refine R_nil ?_
   refine N_DK (Kn.of' H hd5 SubL.nil) ?_
   refine RD_t 11 rfl (by kernel_rfl) rfl (fun _ hK => v_build bf39 rfl rfl) ?_
   refine RD_run [12] (by kernel_rfl) rfl (RDs.cons rfl ?_ RDs.nil)
   refine o_buildSlice H Tryz.underlying24 Tryz.sizeOf39 (fun w => ⟨_, Tryz.zeroValue39 w, rfl⟩) rfl rfl rfl rfl rfl rfl rfl ?_; intro b7 w7 hb7 H
   refine R_nil ?_
   refine N_DK (Kn.of' H hd5 SubL.nil) ?_
   refine RD_run [13] (by kernel_rfl) rfl (RDs.cons rfl ?_ RDs.nil)
   refine o_append1 2 H (sz := 3) (bytes := 48) Tryz.underlying24 Tryz.typeInfo39 ⟨_, rfl, rfl⟩ rfl rfl rfl rfl rfl rfl rfl rfl rfl rfl (by omega) rfl ?_; intro v8 w8 H
   obtain ⟨Fi2, H, hOI2⟩ := H.ownI (k := 0) rfl hchk6 (by first | assumption | rfl | (simp; done) | (simp; omega) | omega) (by first | assumption | (simp; done) | (simp; omega) | omega)
   have hchk8 := hchk2_0.snoc (show itemO Fi2 ⟨s ++ z4.name, z4.dir, z4.ids⟩ _ from ⟨_, _, _, rfl, (by (first | assumption | (refine Sp.l5Parent_lim ?_; assumption) | (simp; done) | (simp; omega) | omega)), hOI2⟩) rfl
   have H := H.toFront (k := 1) rfl
   have H := H.mergeF
   obtain ⟨av8, cv8, rfl⟩ := H.accShape (k := 1) rfl
   refine R_nil ?_
   refine N_DK (Kn.of' H hd5 SubL.nil) ?_
   refine RD_t 14 rfl (by kernel_rfl) rfl (fun _ hK => v_assign rfl) ?_
   refine RD_done (by kernel_rfl) ?_
   refine N_K ?_
   refine W_region ?_
   refine o_move rfl rfl ?_
   refine o_move rfl rfl ?_
   refine o_move rfl rfl ?_
   refine o_sadd rfl rfl rfl (by simp only [LIM, List.length_append, List.length_cons, List.length_nil] at *; omega) ?_
   refine o_call Tryz.call137 rfl rfl (ih _ _ H.sub _ hnd4 _ (by (first | assumption | (refine Sp.l5Parent_lim ?_; assumption) | (simp; done) | (simp; omega) | omega)) hzw.2 (by simp; omega) (by omega)) ?_
   rintro _ w9 ⟨_, _, rfl, H9', ⟨F9, rfl, hO9⟩⟩
   have H := H.readers (fp := []) (by simp) (PLe.refl _) H9'
   obtain ⟨e29, hP9⟩ := hO9
   obtain ⟨sa9, sc9, rfl⟩ := OwnS.shape hP9
   have hO9 := OIs.mk hP9
   refine ⟨_, rfl, ?_⟩
   refine o_append_F 1 H hP9 (by intro F x cs hx u hu; obtain ⟨_, _, _, rfl, _⟩ := hx; simp at hu; rcases hu with rfl | rfl | rfl <;> rfl) (sz := 3) (bytes := 48) Tryz.underlying24 Tryz.typeInfo39 ⟨_, rfl, rfl⟩ rfl rfl rfl rfl rfl rfl rfl (by omega) rfl ?_; intro v10 w10 cs10 F10_ H hck10 hmm10
   have hchk10 := hchk8.app hck10
   have H := H.toFront (k := 1) rfl
   have H := H.mergeF
   obtain ⟨av10, cv10, rfl⟩ := H.accShape (k := 1) rfl
   refine o_assign rfl rfl ?_
   refine R_nil ?_
   refine N_B ?_
   refine N_K ?_
   refine W_region ?_
   refine o_add rfl rfl rfl ⟨by omega, by omega⟩ ?_
   refine o_move rfl rfl ?_
   refine R_nil ?_
   refine N_LP (hJ := ⟨_, _, _, ((xs ++ [⟨s ++ z4.name, z4.dir, z4.ids⟩]) ++ (z4.flat (s ++ z4.name ++ [47]))), ((F ++ Fi2) ++ F10_), k + 1, _, rfl, hle2, H, ?inv, rfl⟩) (hM := ?hM) (hf := ?hf) (hm := ?hm)
   case hM => (repeat (first | exact Sub.nil | refine Sub.cons rfl ?_))
   case hf => (repeat (first | exact Sub.nil | refine Sub.cons rfl ?_))
   case hm => omega
   case inv => exact ⟨hchk10, (by first | assumption | (simp; omega) | omega), (by exact ⟨by omega, by (rw [Nd.flats_succ hz4, hxs]; simp)⟩)⟩
  intro hc3'
  try simp only [nrm] at hc3'
  refine W_exit ?_
  refine N_K_exit ?_
  refine N_LP_exit ?_
  refine N_B_same ?_
  refine N_K ?_
  refine q2 ?_
  refine o_move rfl rfl ?_
  refine o_assign rfl rfl ?_
  refine q3 ?_
  refine W_ret ?_
  refine ret_gen (rs := [.tmp 4]) (vs := [_]) Tryz.results137 ⟨rfl, trivial⟩ ?_
  have H := H.toFront (k := 1) rfl
  obtain ⟨Fo3, H, hOw3⟩ := H.ownF hchk2_0 (by first | assumption | rfl | (simp; done) | (simp; omega) | omega) (by first | assumption | (simp; done) | (simp; omega) | omega)
  have hX : xs = t.flat s := by rw [hxs, List.take_of_length_le (by omega), Nd.flat_eq]
  have H := H.forget hG (by simp)
  exact ⟨_, _, rfl, H, _, rfl, hX ▸ ⟨_, hOw3⟩⟩
theorem i_listIn_c (w0 : World) (G0 : PH) (hG : PSub G0 w0) (t : Nd) (hndt : RdN G0 t) (s : Bs) (hs : s.length ≤ 16777216) (hwt : t.wf) (hsl : s.length + 6 * t.cnt ≤ 100000) :
  Calls Tryz.prog 137 #[.pointer (some ⟨t.b, 0, none⟩), str s] w0 (RetN w0 G0 (fun v Bs => ∃ (F : Fr), Bs = [frag F] ∧ OIs F v (t.flat s))) := i_listIn_r _ w0 G0 hG t hndt s hs hwt hsl (Nat.le_refl _)
theorem i_tlist_c (w0 : World) (G0 : PH) (hG : PSub G0 w0) (t : Nd) (hndt : RdN G0 t) (hwt : t.wf) (hct : t.cnt ≤ 1000) :
  Calls Tryz.prog 82 #[.pointer (some ⟨t.b, 0, none⟩)] w0 (RetN w0 G0 (fun v Bs => ∃ (F : Fr), Bs = [frag F] ∧ OIs F v (t.flat []))) := by
 obtain ⟨hnlt, nat, nmt, nct, nAt, nMt, nCt, hprt, hrit, hrkt⟩ := hndt.open
 have hn_hrit := hrit.len; have hx_hrit : _ ≤ 1099511627776 := hrit.lim
 have hn_hrkt := hrkt.len; have hx_hrkt : _ ≤ 1099511627776 := hrkt.lim
 have H := Hp.init hG
 refine calls_of_W (l := [.pointer (some ⟨t.b, 0, none⟩)]) Tryz.func82 rfl Tryz.ntmps82 rfl ?_
 refine q2 ?_
 refine o_assign rfl rfl ?_
 refine q1 ?_
 refine o_move rfl rfl ?_
 refine o_call Tryz.call137 rfl rfl (i_listIn_c _ _ H.sub _ hndt _ (by (first | assumption | (refine Sp.l5Parent_lim ?_; assumption) | (simp; done) | (simp; omega) | omega)) hwt (by simp; omega)) ?_
 rintro _ w1 ⟨_, _, rfl, H1', ⟨F1, rfl, hO1⟩⟩
 have H := H.readers (fp := []) (by simp) (PLe.refl _) H1'
 obtain ⟨e21, hP1⟩ := hO1
 obtain ⟨sa1, sc1, rfl⟩ := OwnS.shape hP1
 have hO1 := OIs.mk hP1
 refine ⟨_, rfl, ?_⟩
 refine o_assign rfl rfl ?_
 refine q3 ?_
 refine W_ret ?_
 refine ret_gen (rs := [.tmp 2]) (vs := [_]) Tryz.results82 ⟨rfl, trivial⟩ ?_
 have H := H.forget hG (by simp)
 exact ⟨_, _, rfl, H, _, rfl, hO1⟩
end Go.Proofs.Tst

namespace Go.Proofs.Tst
open Go Fw
theorem i_usedBy_c (w0 : World) (G0 : PH) (hG : PSub G0 w0) (mbs : Nat) (ess : Array MapEntry) (cks : Nat) (xss : List (Int × Value)) (Ls : List BHeld) (hbs : MapAt G0 mbs ess cks) (hms : MapIs (Value.int .i64) ess cks xss) (hSs : StR G0 xss Ls) (hVs : Sp.VH Ls) (vtrees : Value) (trees : List (Nd)) (htrees : RdNd G0 vtrees trees) (htl : trees.length ≤ 7) (htw : ∀ t, t ∈ trees → t.wf ∧ t.cnt ≤ 12) :
  Calls Tryz.prog 75 #[.map (some mbs), vtrees] w0 (Rets w0 (.bool (trees.all (fun t => (t.flat []).all (fun x => Sp.l4Ids Ls x.ids)) && Ls.all (fun h => decide ((Sp.cntT trees h.id : Int) = h.uses))))) := by
 obtain ⟨atrees, ktrees, rfl⟩ := htrees.shape
 have hlimtrees : trees.length ≤ 1099511627776 := htrees.lim
 have H := Hp.init hG
 refine calls_of_W (l := [.map (some mbs), .slice atrees trees.length ktrees]) Tryz.func75 rfl Tryz.ntmps75 rfl ?_
 refine q2 ?_
 refine o_assign rfl rfl ?_
 refine q1 ?_
 refine o_makeMap H rfl ?_; intro b1 w1 hb1 H
 have hm1 := MapIs.empty (key := Value.int .i64) 0
 have hS1 := UsR.nil
 refine o_assign rfl rfl ?_
 refine q3 ?_
 refine W_seq ?_
 refine q2 ?_
 refine o_move rfl rfl ?_
 refine o_len_slice Tryz.underlying81 rfl rfl ?_
 refine o_move rfl rfl ?_
 refine q3 ?_
 refine W_block ?_
 refine W_loop (hf := (Sub.cons (t := 0) rfl (Sub.cons (t := 5) rfl (Sub.cons (t := 15) rfl (Sub.cons (t := 16) rfl Sub.nil))))) (J := fun M w m => ∃ (esm0 : Array MapEntry) (ckm0 : Nat) (xsm0 : List (Int × Value)) (fm0 : Int → Nat) (i : Nat) (G : PH), M = [(17, .int .i64 (i : Int))] ∧ PLe G0 G ∧ Hp w0 G0 [] w G [blk b1 (.map esm0 ckm0)] ∧ (MapIs (Value.int .i64) esm0 ckm0 xsm0 ∧ UsR xsm0 fm0 ∧ i ≤ trees.length ∧ (∀ a, fm0 a = Sp.cntT (trees.take i) a ∧ fm0 a ≤ 48 * i) ∧ (trees.take i).all (fun t => (t.flat []).all (fun x => Sp.l4Ids Ls x.ids)) = true) ∧ m = (trees.length - i)) (h0 := ⟨_, _, [], (fun _ => 0), 0, _, rfl, PLe.refl _, H, ?inv, rfl⟩) (hM := ?hM) (round := ?round)
 case hM => (repeat (first | exact Sub.nil | refine Sub.cons rfl ?_))
 case inv => exact ⟨hm1, hS1, (by simp [Sp.cntT])⟩
 case round =>
  rintro _ w2 _ ⟨esm0, ckm0, xsm0, fm0, i, G2, rfl, hle2, H, hinv2, rfl⟩
  have hSs := hSs.up hle2
  have hbs := hbs.up hle2
  have htrees := htrees.up hle2
  obtain ⟨hm2_m0, hS2_m0, hinv2⟩ := hinv2
  obtain ⟨hi, hf, hok⟩ := hinv2
  refine q2 ?_
  refine o_lss rfl rfl rfl ?_
  refine q3 ?_
  refine W_seq ?_
  refine W_cond rfl ?_ ?_
  ·intro hc3
   try simp only [nrm] at hc3
   refine W_skip ?_
   refine N_K ?_
   refine W_seq ?_
   refine W_block ?_
   refine q2 ?_
   refine o_index_P i htrees Tryz.underlying81 Tryz.sizeOf67 rfl rfl rfl rfl (by first | omega | (simp; omega)) ?_; intro b4 o4 z4 q4 hz4 hE4 hrow4
   obtain ⟨rfl, hnd4⟩ := hE4; obtain ⟨hnl4, na4, nm4, nc4, nA4, nM4, nC4, hpr4, hri4, hrk4⟩ := hnd4.open; have hn_hri4 := hri4.len; have hx_hri4 : _ ≤ 1099511627776 := hri4.lim; have hn_hrk4 := hrk4.len; have hx_hrk4 : _ ≤ 1099511627776 := hrk4.lim
   try (have hzw := htw z4 (List.mem_of_getElem? hz4); have hzf := Nd.flat_len [] z4)
   refine o_load_P H Tryz.isAgg67 rfl rfl (hrow4 0 _ rfl) ?_
   refine o_assign rfl rfl ?_
   refine q1 ?_
   refine o_move rfl rfl ?_
   refine o_call Tryz.call82 rfl rfl (i_tlist_c _ _ H.sub _ hnd4 hzw.1 (by omega)) ?_
   rintro _ w5 ⟨_, _, rfl, H5', ⟨F5, rfl, hO5⟩⟩
   have H := H.readers (fp := []) (by simp) (PLe.refl _) H5'
   obtain ⟨e25, hP5⟩ := hO5
   obtain ⟨sa5, sc5, rfl⟩ := OwnS.shape hP5
   have hO5 := OIs.mk hP5
   refine ⟨_, rfl, ?_⟩
   have hdm1 := dm_nodup H (k := 0) rfl; obtain ⟨Gk1, H, hkl1, hks1⟩ := H.keepF (k := 0) rfl (fun b _ hb => by simp at hb)
   have hrk1 := hO5.rd hks1 hdm1
   have hSs := hSs.up hkl1
   have hbs := hbs.up hkl1
   have htrees := htrees.up hkl1
   have hnd4 := hnd4.up hkl1
   have hpr4 := hpr4.up hkl1
   have hri4 := hri4.up hkl1
   have hrk4 := hrk4.up hkl1
   have hrow4 := hrow4.up hkl1
   have hle2 := hle2.trans hkl1
   have hn_hrk1 := hrk1.len
   refine o_len_slice Tryz.underlying24 rfl rfl ?_
   refine o_move rfl rfl ?_
   refine q3 ?_
   refine W_block ?_
   refine W_loop (hf := (Sub.cons (t := 0) rfl (Sub.cons (t := 5) rfl (Sub.cons (t := 15) rfl (Sub.cons (t := 16) rfl (Sub.cons (t := 17) rfl (Sub.cons (t := 22) rfl (Sub.cons (t := 23) rfl Sub.nil)))))))) (J := fun M w m => ∃ (esm0 : Array MapEntry) (ckm0 : Nat) (xsm0 : List (Int × Value)) (fm0 : Int → Nat) (jj : Nat) (G : PH), M = [(24, .int .i64 (jj : Int))] ∧ PLe Gk1 G ∧ Hp w0 G0 [] w G [blk b1 (.map esm0 ckm0)] ∧ (MapIs (Value.int .i64) esm0 ckm0 xsm0 ∧ UsR xsm0 fm0 ∧ jj ≤ (z4.flat []).length ∧ (∀ a, fm0 a = Sp.cntT (trees.take i) a + Sp.cntU (z4.flat []) a jj ∧ fm0 a ≤ 48 * i + 4 * jj) ∧ ((z4.flat []).take jj).all (fun x => Sp.l4Ids Ls x.ids) = true) ∧ m = ((z4.flat []).length - jj)) (h0 := ⟨_, _, xsm0, fm0, 0, _, rfl, PLe.refl _, H, ?inv, rfl⟩) (hM := ?hM) (round := ?round)
   case hM => (repeat (first | exact Sub.nil | refine Sub.cons rfl ?_))
   case inv => exact ⟨hm2_m0, hS2_m0, (by exact ⟨by omega, fun a => (by have := hf a; simp [Sp.cntU]; omega), by simp⟩)⟩
   case round =>
    rintro _ w6 _ ⟨esm0, ckm0, xsm0, fm0, jj, G6, rfl, hle6, H, hinv6, rfl⟩
    have hSs := hSs.up hle6
    have hbs := hbs.up hle6
    have htrees := htrees.up hle6
    have hnd4 := hnd4.up hle6
    have hpr4 := hpr4.up hle6
    have hri4 := hri4.up hle6
    have hrk4 := hrk4.up hle6
    have hrow4 := hrow4.up hle6
    have hrk1 := hrk1.up hle6
    have hle2 := hle2.trans hle6
    obtain ⟨hm6_m0, hS6_m0, hinv6⟩ := hinv6
    obtain ⟨hjl, hf2, hok2⟩ := hinv6
    refine q2 ?_
    refine o_lss rfl rfl rfl ?_
    refine q3 ?_
    refine W_seq ?_
    refine W_cond rfl ?_ ?_
    ·intro hc7
     try simp only [nrm] at hc7
     refine W_skip ?_
     refine N_K ?_
     refine W_seq ?_
     refine W_block ?_
     refine q2 ?_
     refine o_index_P jj hrk1 Tryz.underlying24 Tryz.sizeOf39 rfl rfl rfl rfl (by first | omega | (simp; omega)) ?_; intro b8 o8 z8 q8 hz8 hE8 hrow8
     obtain ⟨a8, m8, c8, rfl, hi8, hr8⟩ := hE8; have hy_hi8 : _ ≤ 16777216 := hi8; have hn_hr8 := hr8.len; have hx_hr8 : _ ≤ 1099511627776 := hr8.lim
     try (have hzw := htw z8 (List.mem_of_getElem? hz8); have hzf := Nd.flat_len [] z8)
     refine o_loadagg_P H Tryz.isAgg39 Tryz.sizeOf39 rfl rfl hrow8 rfl ?_
     refine o_alloc H Tryz.zeroValue39 rfl rfl ?_; intro b9 w9 hb9 H
     refine o_store_B 0 H Tryz.sizeOf39 rfl rfl rfl rfl rfl rfl rfl rfl ?_; intro w10 H
     refine q3 ?_
     refine W_seq ?_
     refine q2 ?_
     refine o_move rfl rfl ?_
     refine o_fieldAddr 2 Tryz.runUnderlying39 rfl Tryz.sizeOf27 rfl rfl rfl ?_
     refine o_load_B 0 H Tryz.isAgg27 rfl rfl rfl rfl ?_
     refine o_call Tryz.call128 rfl rfl (i_fileIds_c _ _ H.sub _ _ _ _ _ hbs hms hSs hVs _ _ hr8 ) ?_
     rintro _ w11 ⟨rfl, ew11⟩; have H := H.step ew11; refine ⟨_, rfl, ?_⟩
     refine o_not rfl rfl ?_
     refine q3 ?_
     refine W_cond rfl ?_ ?_
     ·intro hc12
      try simp only [nrm] at hc12
      refine q2 ?_
      refine o_assign rfl rfl ?_
      refine q3 ?_
      refine W_ret ?_
      refine N_K_ret ?_
      refine N_B_ret ?_
      refine N_K_ret ?_
      refine N_LP_ret ?_
      refine N_B_ret ?_
      refine N_B_ret ?_
      refine N_K_ret ?_
      refine N_LP_ret ?_
      refine N_B_ret ?_
      refine N_K_ret ?_
      refine ret_gen (rs := [.tmp 4]) (vs := [_]) Tryz.results75 ⟨rfl, trivial⟩ ?_
      exact H.rets (congrArg Value.bool (by rw [Sp.all_false hz4 (Sp.all_false hz8 (by simpa using hc12)), Bool.false_and]))
     intro hc12'
     try simp only [nrm] at hc12'
     have hio : Sp.l4Ids Ls z8.ids = true := by simpa using hc12'
     have hil := Sp.ids_le hio
     refine W_skip ?_
     refine N_K ?_
     refine q2 ?_
     refine o_fieldAddr 2 Tryz.runUnderlying39 rfl Tryz.sizeOf27 rfl rfl rfl ?_
     refine o_load_B 0 H Tryz.isAgg27 rfl rfl rfl rfl ?_
     refine o_len_slice Tryz.underlying27 rfl rfl ?_
     refine o_move rfl rfl ?_
     refine q3 ?_
     refine W_block ?_
     obtain ⟨ln13, hln13, H⟩ := H.name (k := 0) rfl
     refine W_loop (hf := (Sub.cons (t := 0) rfl (Sub.cons (t := 5) rfl (Sub.cons (t := 15) rfl (Sub.cons (t := 16) rfl (Sub.cons (t := 17) rfl (Sub.cons (t := 22) rfl (Sub.cons (t := 23) rfl (Sub.cons (t := 24) rfl (Sub.cons (t := 34) rfl (Sub.cons (t := 35) rfl Sub.nil))))))))))) (J := fun M w m => ∃ (esm0 : Array MapEntry) (ckm0 : Nat) (xsm0 : List (Int × Value)) (fm0 : Int → Nat) (kk : Nat) (G : PH), M = [(36, .int .i64 (kk : Int))] ∧ PLe G6 G ∧ Hp w0 G0 [] w G [blk b9 (cl ln13 39), blk b1 (.map esm0 ckm0)] ∧ (MapIs (Value.int .i64) esm0 ckm0 xsm0 ∧ UsR xsm0 fm0 ∧ kk ≤ z8.ids.length ∧ (∀ a, fm0 a = Sp.cntT (trees.take i) a + Sp.cntU (z4.flat []) a jj + Sp.cnt1 a (z8.ids.take kk) ∧ fm0 a ≤ 48 * i + 4 * jj + kk)) ∧ m = (z8.ids.length - kk)) (h0 := ⟨_, _, xsm0, fm0, 0, _, rfl, PLe.refl _, H, ?inv, rfl⟩) (hM := ?hM) (round := ?round)
     case hM => (repeat (first | exact Sub.nil | refine Sub.cons rfl ?_))
     case inv => exact ⟨hm6_m0, hS6_m0, (by exact ⟨by omega, fun a => (by have := hf2 a; simp [Sp.cnt1]; omega)⟩)⟩
     case round =>
      rintro _ w14 _ ⟨esm0, ckm0, xsm0, fm0, kk, G14, rfl, hle14, H, hinv14, rfl⟩
      subst hln13
      have hSs := hSs.up hle14
      have hbs := hbs.up hle14
      have htrees := htrees.up hle14
      have hnd4 := hnd4.up hle14
      have hpr4 := hpr4.up hle14
      have hri4 := hri4.up hle14
      have hrk4 := hrk4.up hle14
      have hrow4 := hrow4.up hle14
      have hrk1 := hrk1.up hle14
      have hr8 := hr8.up hle14
      have hrow8 := hrow8.up hle14
      have hle2 := hle2.trans hle14
      have hle6 := hle6.trans hle14
      obtain ⟨hm14_m0, hS14_m0, hinv14⟩ := hinv14
      obtain ⟨hkl, hf3⟩ := hinv14; have hb3 := fun a => (hf3 a).2
      refine q2 ?_
      refine o_lss rfl rfl rfl ?_
      refine q3 ?_
      refine W_seq ?_
      refine W_cond rfl ?_ ?_
      ·intro hc15
       try simp only [nrm] at hc15
       refine W_skip ?_
       refine N_K ?_
       refine W_seq ?_
       refine W_block ?_
       refine q2 ?_
       refine o_index_P kk hr8 Tryz.underlying27 Tryz.sizeOf3 rfl rfl rfl rfl (by first | omega | (simp; omega)) ?_; intro b16 o16 z16 q16 hz16 hE16 hrow16
       obtain ⟨rfl, hi16⟩ := hE16
       refine o_load_P H Tryz.isAgg3 rfl rfl (hrow16 0 _ rfl) ?_
       refine o_assign rfl rfl ?_
       refine q3 ?_
       refine W_region ?_
       refine o_move rfl rfl ?_
       refine o_move rfl rfl ?_
       refine o_lookU (H.at (k := 1) rfl) hm14_m0 hS14_m0 Tryz.underlying174 Tryz.underlying3 Tryz.zeroValue3 rfl rfl rfl ?_
       try (have h7 := hb3 z16)
       refine o_add rfl rfl rfl ⟨by omega, by omega⟩ ?_
       refine o_updU 1 H (fm0 z16 + 1) rfl hm14_m0 hS14_m0 Tryz.underlying174 Tryz.underlying3 rfl rfl rfl (by omega) ?_; intro es19 ck19 xs19 w19 H hm19 hS19
       refine R_nil ?_
       refine N_B ?_
       refine N_K ?_
       refine W_region ?_
       refine o_add rfl rfl rfl ⟨by omega, by omega⟩ ?_
       refine o_move rfl rfl ?_
       refine R_nil ?_
       refine N_LP (hJ := ⟨_, _, xs19, (fun a => if a = z16 then (fm0 z16 + 1) else fm0 a), kk + 1, _, rfl, hle14, H, ?inv, rfl⟩) (hM := ?hM) (hf := ?hf) (hm := ?hm)
       case hM => (repeat (first | exact Sub.nil | refine Sub.cons rfl ?_))
       case hf => (repeat (first | exact Sub.nil | refine Sub.cons rfl ?_))
       case hm => omega
       case inv => exact ⟨hm19, hS19, (by exact ⟨by omega, fun a => (by have h9 := hf3 a; have h7 := hf3 z16; (rw [Sp.cnt1_succ hz16]); by_cases e : a = z16; (· subst e; simp; omega); (· have e2 : ¬ z16 = a := fun h => e h.symm; simp only [e, e2, if_false]; omega))⟩)⟩
      intro hc15'
      try simp only [nrm] at hc15'
      refine W_exit ?_
      refine N_K_exit ?_
      refine N_LP_exit ?_
      refine N_B_same ?_
      refine N_B ?_
      refine N_K ?_
      refine W_region ?_
      refine o_add rfl rfl rfl ⟨by omega, by omega⟩ ?_
      refine o_move rfl rfl ?_
      refine R_nil ?_
      have H := H.del (k := 0) rfl
      refine N_LP (hJ := ⟨_, _, xsm0, fm0, jj + 1, _, rfl, hle6, H, ?inv, rfl⟩) (hM := ?hM) (hf := ?hf) (hm := ?hm)
      case hM => (repeat (first | exact Sub.nil | refine Sub.cons rfl ?_))
      case hf => (repeat (first | exact Sub.nil | refine Sub.cons rfl ?_))
      case hm => omega
      case inv => exact ⟨hm14_m0, hS14_m0, (by exact ⟨by omega, fun a => (by have h9 := hf3 a; (rw [Sp.cntU_succ hz8]); (rw [List.take_of_length_le (l := z8.ids) (by omega)] at h9); omega), Sp.all_take hok2 hz8 hio⟩)⟩
    intro hc7'
    try simp only [nrm] at hc7'
    refine W_exit ?_
    refine N_K_exit ?_
    refine N_LP_exit ?_
    refine N_B_same ?_
    refine N_B ?_
    refine N_K ?_
    refine W_region ?_
    refine o_add rfl rfl rfl ⟨by omega, by omega⟩ ?_
    refine o_move rfl rfl ?_
    refine R_nil ?_
    refine N_LP (hJ := ⟨_, _, xsm0, fm0, i + 1, _, rfl, hle2, H, ?inv, rfl⟩) (hM := ?hM) (hf := ?hf) (hm := ?hm)
    case hM => (repeat (first | exact Sub.nil | refine Sub.cons rfl ?_))
    case hf => (repeat (first | exact Sub.nil | refine Sub.cons rfl ?_))
    case hm => omega
    case inv => exact ⟨hm6_m0, hS6_m0, (by exact ⟨by omega, fun a => (by have h9 := hf2 a; have h10 := Sp.cntT_succ (id := a) hz4; have h8 : (z4.flat []).length = jj := (by omega); (rw [h8] at h10); omega), Sp.all_take hok hz4 (by (rw [List.take_of_length_le (l := z4.flat []) (by omega)] at hok2); exact hok2)⟩)⟩
  intro hc3'
  try simp only [nrm] at hc3'
  refine W_exit ?_
  refine N_K_exit ?_
  refine N_LP_exit ?_
  refine N_B_same ?_
  refine N_K ?_
  refine W_seq ?_
  refine q2 ?_
  refine o_move rfl rfl ?_
  have hmb23 := (hbs.at H.sub); refine o_range H hmb23 Tryz.underlying66 rfl rfl ?_; intro r23 w23 hr23 H _; have hne23 : r23 ≠ mbs := fun e => by have := (Array.getElem?_eq_some_iff.1 hmb23).1; omega
  refine q3 ?_
  refine W_block ?_
  refine W_loop (hf := (Sub.cons (t := 5) rfl (Sub.cons (t := 48) rfl Sub.nil))) (J := fun M w m => ∃  (sn : Array Nat) (G : PH), M = [] ∧ PLe G2 G ∧ Hp w0 G0 [] w G [blk r23 (.mapIter (some mbs) cks sn cks), blk b1 (.map esm0 ckm0)] ∧ (∀ y, y ∈ Ls → seenH ess sn y → (Sp.cntT trees y.id : Int) = y.uses) ∧ m = ((leftOf ess sn).size)) (h0 := ⟨#[], _, rfl, PLe.refl _, H, ?inv, rfl⟩) (hM := ?hM) (round := ?round)
  case hM => (repeat (first | exact Sub.nil | refine Sub.cons rfl ?_))
  case inv => rintro y hy ⟨e, _, _, he⟩; simp at he
  case round =>
   rintro _ w24 _ ⟨sn, G24, rfl, hle24, H, hinv24, rfl⟩
   have hSs := hSs.up hle24
   have hbs := hbs.up hle24
   have htrees := htrees.up hle24
   have hle2 := hle2.trans hle24
   have hsn := hinv24
   refine q2 ?_
   refine o_next 0 H (hbs.at H.sub) hms hSs rfl hne23 rfl rfl ?_ ?_
   ·intro hall25
    refine o_extract rfl rfl rfl ?_
    refine q3 ?_
    refine W_seq ?_
    refine W_false rfl ?_
    refine W_exit ?_
    refine N_K_exit ?_
    refine N_LP_exit ?_
    refine N_B_same ?_
    refine N_K ?_
    refine q2 ?_
    refine o_assign rfl rfl ?_
    refine q3 ?_
    refine W_ret ?_
    refine ret_gen (rs := [.tmp 4]) (vs := [_]) Tryz.results75 ⟨rfl, trivial⟩ ?_
    have hot := hok; rw [List.take_of_length_le (by omega)] at hot
    exact H.rets (congrArg Value.bool (by (rw [hot, Bool.true_and]); symm; (rw [List.all_eq_true]); intro y hy; simp only [decide_eq_true_eq]; exact hsn y hy (hall25 y hy)))
   intro e25 y25 q25 w25 he25 hk25 hv25 hy25 hE25 _ hless25 H
   obtain ⟨a25, m25, c25, rfl, hi25, hr25, hj25⟩ := hE25; have hn_hr25 := hr25.len; have hx_hr25 : _ ≤ 1099511627776 := hr25.lim
   refine o_extract rfl rfl rfl ?_
   refine q3 ?_
   refine W_seq ?_
   refine W_true rfl ?_
   refine W_skip ?_
   refine N_K ?_
   refine W_block ?_
   refine q2 ?_
   refine o_entry 0 H (hbs.at H.sub) hms rfl he25 hk25 hv25 rfl rfl ?_
   refine o_extract rfl rfl rfl ?_
   refine o_extract rfl rfl rfl ?_
   refine o_alloc H Tryz.zeroValue117 rfl rfl ?_; intro b26 w26 hb26 H
   refine o_assign rfl rfl ?_
   refine o_store_B 0 H Tryz.sizeOf117 rfl rfl rfl rfl rfl rfl rfl rfl ?_; intro w27 H
   refine q1 ?_
   refine o_move rfl rfl ?_
   refine o_move rfl rfl ?_
   refine o_lookU (H.at (k := 2) rfl) hm2_m0 hS2_m0 Tryz.underlying174 Tryz.underlying3 Tryz.zeroValue3 rfl rfl rfl ?_
   refine o_fieldAddr 2 Tryz.runUnderlying117 rfl Tryz.sizeOf3 rfl rfl rfl ?_
   refine o_load_B 0 H Tryz.isAgg3 rfl rfl rfl rfl ?_
   refine o_neq rfl rfl rfl ?_
   refine q3 ?_
   refine W_cond rfl ?_ ?_
   ·intro hc29
    try simp only [nrm] at hc29
    refine q2 ?_
    refine o_assign rfl rfl ?_
    refine q3 ?_
    refine W_ret ?_
    refine N_B_ret ?_
    refine N_LP_ret ?_
    refine N_B_ret ?_
    refine N_K_ret ?_
    refine ret_gen (rs := [.tmp 4]) (vs := [_]) Tryz.results75 ⟨rfl, trivial⟩ ?_
    have hft : ∀ a, fm0 a = Sp.cntT trees a := fun a => (by have h9 := (hf a).1; (rw [List.take_of_length_le (by omega)] at h9); exact h9)
    have hot := hok; rw [List.take_of_length_le (by omega)] at hot
    exact H.rets (congrArg Value.bool (by (rw [hot, Bool.true_and]); symm; (rw [List.all_eq_false]); exact ⟨_, hy25, by simp only [decide_eq_true_eq]; (rw [← hft]); first | exact hc29 | (simpa using hc29) | omega⟩))
   intro hc29'
   try simp only [nrm] at hc29'
   refine W_skip ?_
   refine N_B ?_
   have H := H.del (k := 0) rfl
   refine N_LP (hJ := ⟨_, _, rfl, hle24, H, ?inv, rfl⟩) (hM := ?hM) (hf := ?hf) (hm := ?hm)
   case hM => (repeat (first | exact Sub.nil | refine Sub.cons rfl ?_))
   case hf => (repeat (first | exact Sub.nil | refine Sub.cons rfl ?_))
   case hm => exact hless25
   case inv => intro y hy hs; rcases seenH_push hms (hSs.nd hms) he25 hk25 hy25 hy hs with rfl | h; (· (have h9 := (hf y.id).1; (rw [List.take_of_length_le (by omega)] at h9); (rw [← h9]); first | exact hc29' | (simpa using hc29') | omega)); exact hsn y hy h
end Go.Proofs.Tst

namespace Go.Proofs.Tst
open Go Fw
theorem i_StoreValid_c (w0 : World) (G0 : PH) (hG : PSub G0 w0) (vlist : Value) (list : List (BHeld)) (hlist : RdH G0 vlist list)  :
  Calls Tryz.prog 158 #[vlist] w0 (Rets w0 (.bool (Sp.StoreValid list))) := by
 obtain ⟨alist, klist, rfl⟩ := hlist.shape
 have hlimlist : list.length ≤ 1099511627776 := hlist.lim
 have H := Hp.init hG
 refine calls_of_W (l := [.slice alist list.length klist]) Tryz.func158 rfl Tryz.ntmps158 rfl ?_
 refine q2 ?_
 refine o_assign rfl rfl ?_
 refine q3 ?_
 refine W_seq ?_
 refine q2 ?_
 refine o_move rfl rfl ?_
 refine o_len_slice Tryz.underlying23 rfl rfl ?_
 refine o_gtr rfl rfl rfl ?_
 refine q3 ?_
 refine W_cond rfl ?_ ?_
 ·intro hc1
  try simp only [nrm] at hc1
  refine q2 ?_
  refine o_assign rfl rfl ?_
  refine q3 ?_
  refine W_ret ?_
  refine N_K_ret ?_
  refine ret_gen (rs := [.tmp 2]) (vs := [_]) Tryz.results158 ⟨rfl, trivial⟩ ?_
  exact H.rets (congrArg Value.bool (by rw [Sp.sv_long (by omega)]))
 intro hc1'
 try simp only [nrm] at hc1'
 refine W_skip ?_
 refine N_K ?_
 refine q2 ?_
 refine o_assign rfl rfl ?_
 refine q3 ?_
 refine W_seq ?_
 refine q2 ?_
 refine o_move rfl rfl ?_
 refine o_len_slice Tryz.underlying23 rfl rfl ?_
 refine o_move rfl rfl ?_
 refine q3 ?_
 refine W_block ?_
 refine W_loop (hf := (Sub.cons (t := 0) rfl (Sub.cons (t := 11) rfl (Sub.cons (t := 12) rfl Sub.nil)))) (J := fun M w m => ∃ (k : Nat) (la : Int) (G : PH), M = [(13, .int .i64 (k : Int)), (3, .int .i64 la)] ∧ PLe G0 G ∧ Hp w0 G0 [] w G [] ∧ (k ≤ list.length ∧ la = Sp.lastId list k ∧ (∀ j, j < k → Sp.okH list j = true) ∧ inI la) ∧ m = (list.length - k)) (h0 := ⟨0, 0, _, rfl, PLe.refl _, H, ?inv, rfl⟩) (hM := ?hM) (round := ?round)
 case hM => (repeat (first | exact Sub.nil | refine Sub.cons rfl ?_))
 case inv => exact ⟨by omega, rfl, fun j hj => by omega, by decide⟩
 case round =>
  rintro _ w2 _ ⟨k, la, G2, rfl, hle2, H, hinv2, rfl⟩
  have hlist := hlist.up hle2
  obtain ⟨hk, hla, hall, hlai⟩ := hinv2
  refine q2 ?_
  refine o_lss rfl rfl rfl ?_
  refine q3 ?_
  refine W_seq ?_
  refine W_cond rfl ?_ ?_
  ·intro hc3
   try simp only [nrm] at hc3
   refine W_skip ?_
   refine N_K ?_
   refine W_seq ?_
   refine W_block ?_
   refine q2 ?_
   refine o_move rfl rfl ?_
   refine o_index_P k hlist Tryz.underlying23 Tryz.sizeOf117 rfl rfl rfl rfl (by omega) ?_; intro b4 o4 z4 q4 hz4 hE4 hrow4
   obtain ⟨a4, m4, c4, rfl, hi4, hr4, hj4⟩ := hE4; have hn_hr4 := hr4.len; have hx_hr4 : _ ≤ 1099511627776 := hr4.lim
   refine o_loadagg_P H Tryz.isAgg117 Tryz.sizeOf117 rfl rfl hrow4 rfl ?_
   refine o_alloc H Tryz.zeroValue117 rfl rfl ?_; intro b5 w5 hb5 H
   refine o_assign rfl rfl ?_
   refine o_store_B 0 H Tryz.sizeOf117 rfl rfl rfl rfl rfl rfl rfl rfl ?_; intro w6 H
   refine q3 ?_
   refine W_seq ?_
   refine q2 ?_
   refine o_fieldAddr 0 Tryz.runUnderlying117 rfl Tryz.sizeOf3 rfl rfl rfl ?_
   refine o_load_B 0 H Tryz.isAgg3 rfl rfl rfl rfl ?_
   refine o_move rfl rfl ?_
   refine o_leq rfl rfl rfl ?_
   refine o_move rfl rfl ?_
   refine R_case (t := 22) rfl ?_ ?_
   ·intro hc7
    try simp only [nrm] at hc7
    refine R_pass rfl (yl_ne rfl rfl rfl) ?_
    refine R_pass rfl (yl_ne rfl rfl rfl) ?_
    refine R_pass rfl (yl_ne rfl rfl rfl) ?_
    refine o_pick_t rfl rfl rfl ?_
    refine o_move rfl rfl ?_
    refine R_pass rfl (yl_ne rfl rfl rfl) ?_
    refine R_pass rfl (yl_ne rfl rfl rfl) ?_
    refine R_pass rfl (yl_ne rfl rfl rfl) ?_
    refine o_pick_t rfl rfl rfl ?_
    refine o_move rfl rfl ?_
    refine R_pass rfl (yl_ne rfl rfl rfl) ?_
    refine R_pass rfl (yl_ne rfl rfl rfl) ?_
    refine R_pass rfl (yl_ne rfl rfl rfl) ?_
    refine o_pick_t rfl rfl rfl ?_
    refine o_move rfl rfl ?_
    refine R_pass rfl (yl_ne rfl rfl rfl) ?_
    refine R_pass rfl (yl_ne rfl rfl rfl) ?_
    refine R_pass rfl (yl_ne rfl rfl rfl) ?_
    refine R_pass rfl (yl_ne rfl rfl rfl) ?_
    refine o_pick_t rfl rfl rfl ?_
    refine q3 ?_
    refine W_true rfl ?_
    refine q2 ?_
    refine o_assign rfl rfl ?_
    refine q3 ?_
    refine W_ret ?_
    refine N_K_ret ?_
    refine N_B_ret ?_
    refine N_K_ret ?_
    refine N_LP_ret ?_
    refine N_B_ret ?_
    refine N_K_ret ?_
    refine ret_gen (rs := [.tmp 2]) (vs := [_]) Tryz.results158 ⟨rfl, trivial⟩ ?_
    exact H.rets (congrArg Value.bool (by rw [Sp.sv_false (k := k) (by omega) (Sp.okH_last hz4 (by omega))]))
   intro hc7'
   try simp only [nrm] at hc7'
   refine R_guard (yl rfl rfl) ?_
   refine o_fieldAddr 0 Tryz.runUnderlying117 rfl Tryz.sizeOf3 rfl rfl rfl ?_
   refine R_guard (yl rfl rfl) ?_
   refine o_load_B 0 H Tryz.isAgg3 rfl rfl rfl rfl ?_
   refine R_guard (yl rfl rfl) ?_
   refine o_gtr rfl rfl rfl ?_
   refine o_pick_f rfl rfl rfl ?_
   refine o_move rfl rfl ?_
   refine R_case (t := 27) rfl ?_ ?_
   ·intro hc8
    try simp only [nrm] at hc8
    refine R_pass rfl (yl_ne rfl rfl rfl) ?_
    refine R_pass rfl (yl_ne rfl rfl rfl) ?_
    refine R_pass rfl (yl_ne rfl rfl rfl) ?_
    refine o_pick_t rfl rfl rfl ?_
    refine o_move rfl rfl ?_
    refine R_pass rfl (yl_ne rfl rfl rfl) ?_
    refine R_pass rfl (yl_ne rfl rfl rfl) ?_
    refine R_pass rfl (yl_ne rfl rfl rfl) ?_
    refine o_pick_t rfl rfl rfl ?_
    refine o_move rfl rfl ?_
    refine R_pass rfl (yl_ne rfl rfl rfl) ?_
    refine R_pass rfl (yl_ne rfl rfl rfl) ?_
    refine R_pass rfl (yl_ne rfl rfl rfl) ?_
    refine R_pass rfl (yl_ne rfl rfl rfl) ?_
    refine o_pick_t rfl rfl rfl ?_
    refine q3 ?_
    refine W_true rfl ?_
    refine q2 ?_
    refine o_assign rfl rfl ?_
    refine q3 ?_
    refine W_ret ?_
    refine N_K_ret ?_
    refine N_B_ret ?_
    refine N_K_ret ?_
    refine N_LP_ret ?_
    refine N_B_ret ?_
    refine N_K_ret ?_
    refine ret_gen (rs := [.tmp 2]) (vs := [_]) Tryz.results158 ⟨rfl, trivial⟩ ?_
    exact H.rets (congrArg Value.bool (by rw [Sp.sv_false (k := k) (by omega) (Sp.okH_id hz4 (by omega))]))
   intro hc8'
   try simp only [nrm] at hc8'
   refine R_guard (yl rfl rfl) ?_
   refine o_fieldAddr 2 Tryz.runUnderlying117 rfl Tryz.sizeOf3 rfl rfl rfl ?_
   refine R_guard (yl rfl rfl) ?_
   refine o_load_B 0 H Tryz.isAgg3 rfl rfl rfl rfl ?_
   refine R_guard (yl rfl rfl) ?_
   refine o_lss rfl rfl rfl ?_
   refine o_pick_f rfl rfl rfl ?_
   refine o_move rfl rfl ?_
   refine R_case (t := 32) rfl ?_ ?_
   ·intro hc9
    try simp only [nrm] at hc9
    refine R_pass rfl (yl_ne rfl rfl rfl) ?_
    refine R_pass rfl (yl_ne rfl rfl rfl) ?_
    refine R_pass rfl (yl_ne rfl rfl rfl) ?_
    refine o_pick_t rfl rfl rfl ?_
    refine o_move rfl rfl ?_
    refine R_pass rfl (yl_ne rfl rfl rfl) ?_
    refine R_pass rfl (yl_ne rfl rfl rfl) ?_
    refine R_pass rfl (yl_ne rfl rfl rfl) ?_
    refine R_pass rfl (yl_ne rfl rfl rfl) ?_
    refine o_pick_t rfl rfl rfl ?_
    refine q3 ?_
    refine W_true rfl ?_
    refine q2 ?_
    refine o_assign rfl rfl ?_
    refine q3 ?_
    refine W_ret ?_
    refine N_K_ret ?_
    refine N_B_ret ?_
    refine N_K_ret ?_
    refine N_LP_ret ?_
    refine N_B_ret ?_
    refine N_K_ret ?_
    refine ret_gen (rs := [.tmp 2]) (vs := [_]) Tryz.results158 ⟨rfl, trivial⟩ ?_
    exact H.rets (congrArg Value.bool (by rw [Sp.sv_false (k := k) (by omega) (Sp.okH_id hz4 (by omega))]))
   intro hc9'
   try simp only [nrm] at hc9'
   refine R_guard (yl rfl rfl) ?_
   refine o_fieldAddr 2 Tryz.runUnderlying117 rfl Tryz.sizeOf3 rfl rfl rfl ?_
   refine R_guard (yl rfl rfl) ?_
   refine o_load_B 0 H Tryz.isAgg3 rfl rfl rfl rfl ?_
   refine R_guard (yl rfl rfl) ?_
   refine o_gtr rfl rfl rfl ?_
   refine o_pick_f rfl rfl rfl ?_
   refine o_move rfl rfl ?_
   refine R_case (t := 37) rfl ?_ ?_
   ·intro hc10
    try simp only [nrm] at hc10
    refine R_pass rfl (yl_ne rfl rfl rfl) ?_
    refine R_pass rfl (yl_ne rfl rfl rfl) ?_
    refine R_pass rfl (yl_ne rfl rfl rfl) ?_
    refine R_pass rfl (yl_ne rfl rfl rfl) ?_
    refine o_pick_t rfl rfl rfl ?_
    refine q3 ?_
    refine W_true rfl ?_
    refine q2 ?_
    refine o_assign rfl rfl ?_
    refine q3 ?_
    refine W_ret ?_
    refine N_K_ret ?_
    refine N_B_ret ?_
    refine N_K_ret ?_
    refine N_LP_ret ?_
    refine N_B_ret ?_
    refine N_K_ret ?_
    refine ret_gen (rs := [.tmp 2]) (vs := [_]) Tryz.results158 ⟨rfl, trivial⟩ ?_
    exact H.rets (congrArg Value.bool (by rw [Sp.sv_false (k := k) (by omega) (Sp.okH_id hz4 (by omega))]))
   intro hc10'
   try simp only [nrm] at hc10'
   refine R_guard (yl rfl rfl) ?_
   refine o_fieldAddr 1 Tryz.runUnderlying117 rfl Tryz.sizeOf27 rfl rfl rfl ?_
   refine R_guard (yl rfl rfl) ?_
   refine o_load_B 0 H Tryz.isAgg27 rfl rfl rfl rfl ?_
   refine R_guard (yl rfl rfl) ?_
   refine o_call Tryz.call183 rfl rfl (i_BlockValid_c _ _ H.sub _ _ hr4 ) ?_
   rintro _ w11 ⟨rfl, ew11⟩; have H := H.step ew11; refine ⟨_, rfl, ?_⟩
   refine R_guard (yl rfl rfl) ?_
   refine o_not rfl rfl ?_
   refine o_pick_f rfl rfl rfl ?_
   refine q3 ?_
   refine W_cond rfl ?_ ?_
   ·intro hc12
    try simp only [nrm] at hc12
    refine q2 ?_
    refine o_assign rfl rfl ?_
    refine q3 ?_
    refine W_ret ?_
    refine N_K_ret ?_
    refine N_B_ret ?_
    refine N_K_ret ?_
    refine N_LP_ret ?_
    refine N_B_ret ?_
    refine N_K_ret ?_
    refine ret_gen (rs := [.tmp 2]) (vs := [_]) Tryz.results158 ⟨rfl, trivial⟩ ?_
    exact H.rets (congrArg Value.bool (by rw [Sp.sv_false (k := k) (by omega) (Sp.okH_id hz4 (by exact .inr (.inr (.inr (by simpa using hc12)))))]))
   intro hc12'
   try simp only [nrm] at hc12'
   refine W_skip ?_
   refine N_K ?_
   refine W_seq ?_
   refine q2 ?_
   refine o_move rfl rfl ?_
   refine o_move rfl rfl ?_
   have hcap13 := hlist.cap; try simp only [List.length_set, List.length_append, List.length_take, List.length_drop, List.length_replicate] at hcap13
   refine o_slice_to (j := k) Tryz.underlying23 Tryz.sizeOf117 rfl rfl rfl (by omega) (by omega) ?_
   have hsl13 := hlist.take (j := k) (by first | omega | (simp; omega))
   have hsn1 := hsl13.len
   refine o_len_slice Tryz.underlying23 rfl rfl ?_
   refine o_move rfl rfl ?_
   refine q3 ?_
   refine W_block ?_
   obtain ⟨ln14, hln14, H⟩ := H.name (k := 0) rfl
   refine W_loop (hf := (Sub.cons (t := 0) rfl (Sub.cons (t := 3) rfl (Sub.cons (t := 5) rfl (Sub.cons (t := 11) rfl (Sub.cons (t := 12) rfl (Sub.cons (t := 13) rfl (Sub.cons (t := 45) rfl (Sub.cons (t := 46) rfl Sub.nil))))))))) (J := fun M w m => ∃ (j : Nat) (G : PH), M = [(47, .int .i64 (j : Int))] ∧ PLe G2 G ∧ Hp w0 G0 [] w G [blk b5 (cl ln14 117)] ∧ (j ≤ k ∧ (list.take j).all (fun g => !Sp.l2Same g.bytes z4.bytes) = true) ∧ m = (k - j)) (h0 := ⟨0, _, rfl, PLe.refl _, H, ?inv, rfl⟩) (hM := ?hM) (round := ?round)
   case hM => (repeat (first | exact Sub.nil | refine Sub.cons rfl ?_))
   case inv => exact ⟨by omega, by simp⟩
   case round =>
    rintro _ w15 _ ⟨j, G15, rfl, hle15, H, hinv15, rfl⟩
    subst hln14
    have hlist := hlist.up hle15
    have hr4 := hr4.up hle15
    have hrow4 := hrow4.up hle15
    have hsl13 := hsl13.up hle15
    have hle2 := hle2.trans hle15
    obtain ⟨hj, hall2⟩ := hinv15
    refine q2 ?_
    refine o_lss rfl rfl rfl ?_
    refine q3 ?_
    refine W_seq ?_
    refine W_cond rfl ?_ ?_
    ·intro hc16
     try simp only [nrm] at hc16
     refine W_skip ?_
     refine N_K ?_
     refine W_seq ?_
     refine W_block ?_
     refine q2 ?_
     refine o_index_P j hsl13 Tryz.underlying23 Tryz.sizeOf117 rfl rfl rfl rfl (by omega) ?_; intro b17 o17 z17 q17 hz17 hE17 hrow17
     obtain ⟨a17, m17, c17, rfl, hi17, hr17, hj17⟩ := hE17; have hn_hr17 := hr17.len; have hx_hr17 : _ ≤ 1099511627776 := hr17.lim
     rw [List.getElem?_take, if_pos (by omega)] at hz17
     refine o_loadagg_P H Tryz.isAgg117 Tryz.sizeOf117 rfl rfl hrow17 rfl ?_
     refine o_alloc H Tryz.zeroValue117 rfl rfl ?_; intro b18 w18 hb18 H
     refine o_store_B 0 H Tryz.sizeOf117 rfl rfl rfl rfl rfl rfl rfl rfl ?_; intro w19 H
     refine q1 ?_
     refine o_fieldAddr 1 Tryz.runUnderlying117 rfl Tryz.sizeOf27 rfl rfl rfl ?_
     refine o_load_B 0 H Tryz.isAgg27 rfl rfl rfl rfl ?_
     refine o_fieldAddr 1 Tryz.runUnderlying117 rfl Tryz.sizeOf27 rfl rfl rfl ?_
     refine o_load_B 1 H Tryz.isAgg27 rfl rfl rfl rfl ?_
     refine o_call Tryz.call184 rfl rfl (l_Equal_c _ _ H.sub _ _ hr17 _ _ hr4 ) ?_
     rintro _ w20 ⟨rfl, ew20⟩; have H := H.step ew20; refine ⟨_, rfl, ?_⟩
     refine q3 ?_
     refine W_cond rfl ?_ ?_
     ·intro hc21
      try simp only [nrm] at hc21
      refine q2 ?_
      refine o_assign rfl rfl ?_
      refine q3 ?_
      refine W_ret ?_
      refine N_B_ret ?_
      refine N_K_ret ?_
      refine N_LP_ret ?_
      refine N_B_ret ?_
      refine N_K_ret ?_
      refine N_B_ret ?_
      refine N_K_ret ?_
      refine N_LP_ret ?_
      refine N_B_ret ?_
      refine N_K_ret ?_
      refine ret_gen (rs := [.tmp 2]) (vs := [_]) Tryz.results158 ⟨rfl, trivial⟩ ?_
      exact H.rets (congrArg Value.bool (by rw [Sp.sv_false (k := k) (by omega) (Sp.okH_dup hz4 (by omega) hz17 hc21)]))
     intro hc21'
     try simp only [nrm] at hc21'
     refine W_skip ?_
     refine N_B ?_
     refine N_K ?_
     refine W_region ?_
     refine o_add rfl rfl rfl ⟨by omega, by omega⟩ ?_
     refine o_move rfl rfl ?_
     refine R_nil ?_
     have H := H.del (k := 0) rfl
     refine N_LP (hJ := ⟨j + 1, _, rfl, hle15, H, ?inv, rfl⟩) (hM := ?hM) (hf := ?hf) (hm := ?hm)
     case hM => (repeat (first | exact Sub.nil | refine Sub.cons rfl ?_))
     case hf => (repeat (first | exact Sub.nil | refine Sub.cons rfl ?_))
     case hm => omega
     case inv => exact ⟨by omega, Sp.all_take hall2 hz17 (by simp [hc21'])⟩
    intro hc16'
    try simp only [nrm] at hc16'
    refine W_exit ?_
    refine N_K_exit ?_
    refine N_LP_exit ?_
    refine N_B_same ?_
    refine N_K ?_
    refine W_region ?_
    refine o_fieldAddr 0 Tryz.runUnderlying117 rfl Tryz.sizeOf3 rfl rfl rfl ?_
    refine o_load_B 0 H Tryz.isAgg3 rfl rfl rfl rfl ?_
    refine o_assign rfl rfl ?_
    refine R_nil ?_
    refine N_B ?_
    refine N_K ?_
    refine W_region ?_
    refine o_add rfl rfl rfl ⟨by omega, by omega⟩ ?_
    refine o_move rfl rfl ?_
    refine R_nil ?_
    have H := H.del (k := 0) rfl
    refine N_LP (hJ := ⟨k + 1, z4.id, _, rfl, hle2, H, ?inv, rfl⟩) (hM := ?hM) (hf := ?hf) (hm := ?hm)
    case hM => (repeat (first | exact Sub.nil | refine Sub.cons rfl ?_))
    case hf => (repeat (first | exact Sub.nil | refine Sub.cons rfl ?_))
    case hm => omega
    case inv => (obtain rfl : j = k := by omega); exact ⟨by omega, (Sp.lastId_succ hz4).symm, Sp.upto_succ hall (Sp.okH_mk hz4 hall (by omega) (by omega) (by simpa using hc12') (by omega) hall2), hi4⟩
  intro hc3'
  try simp only [nrm] at hc3'
  refine W_exit ?_
  refine N_K_exit ?_
  refine N_LP_exit ?_
  refine N_B_same ?_
  refine N_K ?_
  refine q2 ?_
  refine o_assign rfl rfl ?_
  refine q3 ?_
  refine W_ret ?_
  refine ret_gen (rs := [.tmp 2]) (vs := [_]) Tryz.results158 ⟨rfl, trivial⟩ ?_
  exact H.rets (congrArg Value.bool (by rw [Sp.sv_true (fun j hj => hall j (by omega)) (by omega)]))
end Go.Proofs.Tst

namespace Go.Proofs.Tst
open Go Fw
theorem i_openStore_c (w0 : World) (G0 : PH) (hG : PSub G0 w0) (vlist : Value) (list : List (BHeld)) (hlist : RdH G0 vlist list) (hLent : Lent w0 G0 [])  :
  Calls Tryz.prog 127 #[vlist] w0 (RetM w0 G0 [] (fun G' v Bs => (Sp.StoreValid list = false ∧ v = .tuple #[.map none, .bool false] ∧ Bs = []) ∨ (Sp.VH list ∧ ∃ (mb : Nat) (es' : Array MapEntry) (ck' : Nat) (xs' : List (Int × Value)), v = .tuple #[.map (some mb), .bool true] ∧ Bs = [blk mb (.map es' ck')] ∧ MapIs (Value.int .i64) es' ck' xs' ∧ StR G' xs' list))) := by
 obtain ⟨alist, klist, rfl⟩ := hlist.shape
 have hlimlist : list.length ≤ 1099511627776 := hlist.lim
 have H : Hp w0 G0 [] w0 G0 [] := hLent.hp
 refine calls_of_W (l := [.slice alist list.length klist]) Tryz.func127 rfl Tryz.ntmps127 rfl ?_
 refine q2 ?_
 refine o_assign rfl rfl ?_
 refine o_assign rfl rfl ?_
 refine q3 ?_
 refine W_seq ?_
 refine q2 ?_
 refine o_move rfl rfl ?_
 refine o_call Tryz.call158 rfl rfl (i_StoreValid_c _ _ H.sub _ _ hlist ) ?_
 rintro _ w1 ⟨rfl, ew1⟩; have H := H.step ew1; refine ⟨_, rfl, ?_⟩
 refine o_not rfl rfl ?_
 refine q3 ?_
 refine W_cond rfl ?_ ?_
 ·intro hc2
  try simp only [nrm] at hc2
  refine q2 ?_
  refine o_assign rfl rfl ?_
  refine o_assign rfl rfl ?_
  refine q3 ?_
  refine W_ret ?_
  refine N_K_ret ?_
  refine ret_gen (rs := [.tmp 2, .tmp 3]) (vs := [_, _]) Tryz.results127 ⟨rfl, rfl, trivial⟩ ?_
  exact H.retM (.inl ⟨by simpa using hc2, rfl, rfl⟩)
 intro hc2'
 try simp only [nrm] at hc2'
 have hVl := Sp.valid_iff.1 (by simpa using hc2' : Sp.StoreValid list = true)
 refine W_skip ?_
 refine N_K ?_
 refine q2 ?_
 refine o_makeMap H rfl ?_; intro b3 w3 hb3 H
 have hm3 := MapIs.empty (key := Value.int .i64) 0
 have hS3 := StR.nil G0
 refine o_assign rfl rfl ?_
 refine q3 ?_
 refine W_seq ?_
 refine q2 ?_
 refine o_move rfl rfl ?_
 refine o_len_slice Tryz.underlying23 rfl rfl ?_
 refine o_move rfl rfl ?_
 refine q3 ?_
 refine W_block ?_
 refine W_loop (hf := (Sub.cons (t := 2) rfl (Sub.cons (t := 3) rfl (Sub.cons (t := 4) rfl (Sub.cons (t := 11) rfl (Sub.cons (t := 12) rfl Sub.nil)))))) (J := fun M w m => ∃ (esm0 : Array MapEntry) (ckm0 : Nat) (xsm0 : List (Int × Value)) (Lm0 : List BHeld) (k : Nat) (G : PH), M = [(13, .int .i64 (k : Int))] ∧ PLe G0 G ∧ Hp w0 G0 [] w G [blk b3 (.map esm0 ckm0)] ∧ (MapIs (Value.int .i64) esm0 ckm0 xsm0 ∧ StR G xsm0 Lm0 ∧ Sp.VH Lm0 ∧ k ≤ list.length ∧ Lm0 = list.take k) ∧ m = (list.length - k)) (h0 := ⟨_, _, [], [], 0, _, rfl, PLe.refl _, H, ?inv, rfl⟩) (hM := ?hM) (round := ?round)
 case hM => (repeat (first | exact Sub.nil | refine Sub.cons rfl ?_))
 case inv => exact ⟨hm3, hS3, Sp.VH_nil, (by simp)⟩
 case round =>
  rintro _ w4 _ ⟨esm0, ckm0, xsm0, Lm0, k, G4, rfl, hle4, H, hinv4, rfl⟩
  have hlist := hlist.up hle4
  have hS3 := hS3.up hle4
  obtain ⟨hm4_m0, hS4_m0, hV4_m0, hinv4⟩ := hinv4
  obtain ⟨hk, rfl⟩ := hinv4
  refine q2 ?_
  refine o_lss rfl rfl rfl ?_
  refine q3 ?_
  refine W_seq ?_
  refine W_cond rfl ?_ ?_
  ·intro hc5
   try simp only [nrm] at hc5
   refine W_skip ?_
   refine N_K ?_
   refine W_seq ?_
   refine W_block ?_
   refine q2 ?_
   refine o_index_P k hlist Tryz.underlying23 Tryz.sizeOf117 rfl rfl rfl rfl (by first | omega | (simp; omega)) ?_; intro b6 o6 z6 q6 hz6 hE6 hrow6
   obtain ⟨a6, m6, c6, rfl, hi6, hr6, hj6⟩ := hE6; have hn_hr6 := hr6.len; have hx_hr6 : _ ≤ 1099511627776 := hr6.lim
   refine o_loadagg_P H Tryz.isAgg117 Tryz.sizeOf117 rfl rfl hrow6 rfl ?_
   refine o_alloc H Tryz.zeroValue117 rfl rfl ?_; intro b7 w7 hb7 H
   refine o_store_B 0 H Tryz.sizeOf117 rfl rfl rfl rfl rfl rfl rfl rfl ?_; intro w8 H
   refine q3 ?_
   refine W_drawK [0] 12 H (by kernel_rfl) rfl ?_; intro w9 H; have hd9 := PLe.refl G4
   refine RD_t 0 rfl (by kernel_rfl) rfl (fun _ hK => v_move rfl) ?_
   refine RD_t 1 rfl (by kernel_rfl) rfl (fun _ hK => v_fieldAddr 0 Tryz.runUnderlying117 rfl Tryz.sizeOf3 rfl rfl) ?_
   refine RD_t 2 rfl (by kernel_rfl) rfl (fun _ hK => v_load_B 0 hK Tryz.isAgg3 rfl rfl rfl) ?_
   refine RD_t 3 rfl (by kernel_rfl) rfl (fun _ hK => v_fieldAddr 0 Tryz.runUnderlying117 rfl Tryz.sizeOf3 rfl rfl) ?_
   refine RD_t 4 rfl (by kernel_rfl) rfl (fun _ hK => v_load_B 0 hK Tryz.isAgg3 rfl rfl rfl) ?_
   refine RD_t 5 rfl (by kernel_rfl) rfl (fun _ hK => v_fieldAddr 1 Tryz.runUnderlying117 rfl Tryz.sizeOf27 rfl rfl) ?_
   refine RD_t 6 rfl (by kernel_rfl) rfl (fun _ hK => v_load_B 0 hK Tryz.isAgg27 rfl rfl rfl) ?_
   refine RD_t 8 rfl (by kernel_rfl) rfl (fun _ hK => v_fieldAddr 2 Tryz.runUnderlying117 rfl Tryz.sizeOf3 rfl rfl) ?_
   refine RD_t 9 rfl (by kernel_rfl) rfl (fun _ hK => v_load_B 0 hK Tryz.isAgg3 rfl rfl rfl) ?_
   refine RD_run [7] (by kernel_rfl) rfl (RDs.cons rfl ?_ RDs.nil)
   refine o_call Tryz.call133 rfl rfl (l_Clone_c _ _ H.sub _ _ hr6 ) ?_
   rintro _ w10 ⟨G10, v10, _, g10, rfl, ⟨cs10, rfl, hchk10⟩, hp10, hq10, hs10⟩
   have H := H.growO g10 hp10 hq10 hs10; obtain ⟨av10, cv10, rfl⟩ := H.accShape (k := 0) rfl
   have hlist := hlist.up g10.le
   have hS3 := hS3.up g10.le
   have hS4_m0 := hS4_m0.up g10.le
   have hr6 := hr6.up g10.le
   have hrow6 := hrow6.up g10.le
   have hle4 := hle4.trans g10.le
   have hd9 := hd9.trans g10.le
   refine ⟨_, rfl, ?_⟩
   refine R_nil ?_
   refine N_DK (Kn.of' H hd9 (SubL.cons 1 rfl SubL.nil)) ?_
   refine RD_t 10 rfl (by kernel_rfl) rfl (fun _ hK => v_build bf117 rfl rfl) ?_
   refine RD_run [11] (by kernel_rfl) rfl (RDs.cons rfl ?_ RDs.nil)
   obtain ⟨G12, H, hsg12, hsr12⟩ := H.shutL (k := 0) rfl (H.apart (k := 0) (ks := []) rfl rfl (by intro b hb; simpa [fpsAt, nth, blk] using hb)) hchk10 (by first | assumption | (simp; done) | (simp; omega) | omega) (by first | assumption | (simp; done) | (simp; omega) | omega)
   have hlist := hlist.up hsg12
   have hS3 := hS3.up hsg12
   have hS4_m0 := hS4_m0.up hsg12
   have hr6 := hr6.up hsg12
   have hrow6 := hrow6.up hsg12
   have hchk10 := hchk10.up hsg12
   have hle4 := hle4.trans hsg12
   have hd9 := hd9.trans hsg12
   refine o_updS 1 H z6 rfl hm4_m0 hS4_m0 Tryz.underlying66 Tryz.underlying3 rfl rfl rfl (show heldE G12 z6 _ from ⟨_, _, _, rfl, ⟨by first | omega | (dsimp only; omega), by first | omega | (dsimp only; omega)⟩, hsr12, ⟨by first | omega | (dsimp only; omega), by first | omega | (dsimp only; omega)⟩⟩) rfl ?_; intro es11 ck11 xs11 w11 H hm11 hS11
   refine R_nil ?_
   refine N_DKlast (by kernel_rfl) (by kernel_rfl) ?_
   refine N_B ?_
   refine N_K ?_
   refine W_region ?_
   rw [Sp.upd_take hVl hz6] at hS11
   refine o_add rfl rfl rfl ⟨by omega, by omega⟩ ?_
   refine o_move rfl rfl ?_
   refine R_nil ?_
   have H := H.del (k := 0) rfl
   refine N_LP (hJ := ⟨_, _, xs11, (list.take (k + 1)), k + 1, _, rfl, hle4, H, ?inv, rfl⟩) (hM := ?hM) (hf := ?hf) (hm := ?hm)
   case hM => (repeat (first | exact Sub.nil | refine Sub.cons rfl ?_))
   case hf => (repeat (first | exact Sub.nil | refine Sub.cons rfl ?_))
   case hm => omega
   case inv => exact ⟨hm11, hS11, (hVl.take (k + 1)), (by exact ⟨by omega, rfl⟩)⟩
  intro hc5'
  try simp only [nrm] at hc5'
  refine W_exit ?_
  refine N_K_exit ?_
  refine N_LP_exit ?_
  refine N_B_same ?_
  refine N_K ?_
  refine q2 ?_
  refine o_move rfl rfl ?_
  refine o_assign rfl rfl ?_
  refine o_assign rfl rfl ?_
  refine q3 ?_
  refine W_ret ?_
  refine ret_gen (rs := [.tmp 2, .tmp 3]) (vs := [_, _]) Tryz.results127 ⟨rfl, rfl, trivial⟩ ?_
  rw [List.take_of_length_le (by omega)] at hS4_m0
  exact H.retM (.inr ⟨hVl, _, _, _, _, rfl, rfl, hm4_m0, hS4_m0⟩)
theorem i_slist_c (w0 : World) (G0 : PH) (hG : PSub G0 w0) (mbs : Nat) (ess : Array MapEntry) (cks : Nat) (xss : List (Int × Value)) (Ls : List BHeld) (hbs : MapAt G0 mbs ess cks) (hms : MapIs (Value.int .i64) ess cks xss) (hSs : StR G0 xss Ls) (hVs : Sp.VH Ls)  :
  Calls Tryz.prog 81 #[.map (some mbs)] w0 (RetN w0 G0 (fun v Bs => ∃ (F : Fr), Bs = [frag F] ∧ OHs F v Ls)) := by
 have hl16 := hVs.len
 have H := Hp.init hG
 refine calls_of_W (l := [.map (some mbs)]) Tryz.func81 rfl Tryz.ntmps81 rfl ?_
 refine q2 ?_
 refine o_assign rfl rfl ?_
 refine q1 ?_
 refine o_move rfl rfl ?_
 have hml1 := hSs.len
 refine o_lenM (hbs.at H.sub) hms Tryz.underlying66 rfl rfl ?_
 refine o_make0 (c := Ls.length) (sz := 3) (bytes := 40) H Tryz.underlying23 Tryz.typeInfo117 ⟨_, rfl, rfl⟩ rfl rfl rfl rfl rfl rfl (by omega) (by omega) rfl ?_; intro b2 w2 H
 refine o_assign rfl rfl ?_
 refine q3 ?_
 refine W_seq ?_
 refine q2 ?_
 refine o_move rfl rfl ?_
 refine o_call Tryz.call136 rfl rfl (keys_c _ _ H.sub _) ?_; rintro _ w3 ⟨kb3, rfl, hkb3, ek3, hkc3⟩; have H := H.step ek3; refine ⟨_, rfl, ?_⟩
 refine o_call Tryz.call135 rfl rfl (sorted_c _ _ _ hkc3 (hbs.at H.sub) hms hSs hVs) ?_; rintro _ w4 ⟨v4, rfl, ek4, hp4, hf4⟩; have H := H.add ek4 _ hp4 hf4 (acc_nd _ _ _ _ _)
 have hchk4 := chkIds G0 hVs; obtain ⟨av4, cv4, rfl⟩ := H.accShape (k := 0) rfl; refine ⟨_, rfl, ?_⟩
 refine o_len_slice Tryz.underlying27 rfl rfl ?_
 refine o_move rfl rfl ?_
 refine q3 ?_
 refine W_block ?_
 obtain ⟨G5, H, hsg5, hsr5⟩ := H.shut' (k := 0) rfl hchk4 (by first | assumption | (simp; done) | (simp; omega) | omega) (by first | assumption | (simp; done) | (simp; omega) | omega)
 have hSs := hSs.up hsg5
 have hbs := hbs.up hsg5
 have hchk4 := hchk4.up hsg5
 have H := H.addF
 refine W_loop (hf := (Sub.cons (t := 0) rfl (Sub.cons (t := 2) rfl (Sub.cons (t := 12) rfl (Sub.cons (t := 13) rfl Sub.nil))))) (J := fun M w m => ∃ (v : Value) (n : Nat) (cs : List Value) (xs : List (BHeld)) (F : Fr) (k : Nat) (G : PH), M = [(14, .int .i64 (k : Int)), (3, v)] ∧ PLe G5 G ∧ Hp w0 G0 [] w G [frag F, acc 117 3 v n cs] ∧ (ChkF heldO 3 cs xs F ∧ n = xs.length ∧ k ≤ Ls.length ∧ xs = Ls.take k) ∧ m = (Ls.length - k)) (h0 := ⟨_, _, _, [], [], 0, _, rfl, PLe.refl _, H, ?inv, rfl⟩) (hM := ?hM) (round := ?round)
 case hM => (repeat (first | exact Sub.nil | refine Sub.cons rfl ?_))
 case inv => exact ⟨ChkF.nil,  by first | rfl | simp | (simp; omega) | omega, (by simp)⟩
 case round =>
  rintro _ w6 _ ⟨v, n, cs, xs, F, k, G6, rfl, hle6, H, hinv6, rfl⟩
  have hSs := hSs.up hle6
  have hbs := hbs.up hle6
  have hchk4 := hchk4.up hle6
  have hsr5 := hsr5.up hle6
  obtain ⟨hchk6_0, hn6_0, hinv6⟩ := hinv6
  obtain ⟨av6_0, cv6_0, rfl⟩ := H.accShape (k := 1) rfl
  obtain ⟨hk, hxs⟩ := hinv6; have hxl : xs.length ≤ 16 := by rw [hxs]; simp; omega
  refine q2 ?_
  refine o_lss rfl rfl rfl ?_
  refine q3 ?_
  refine W_seq ?_
  refine W_cond rfl ?_ ?_
  ·intro hc7
   try simp only [nrm] at hc7
   refine W_skip ?_
   refine N_K ?_
   refine W_seq ?_
   refine W_block ?_
   refine q2 ?_
   refine o_index_P k hsr5 Tryz.underlying27 Tryz.sizeOf3 rfl rfl rfl rfl (by first | omega | (simp; omega)) ?_; intro b8 o8 z8 q8 hz8 hE8 hrow8
   obtain ⟨rfl, hi8⟩ := hE8
   refine o_load_P H Tryz.isAgg3 rfl rfl (hrow8 0 _ rfl) ?_
   refine o_assign rfl rfl ?_
   refine q1 ?_
   refine o_move rfl rfl ?_
   refine o_move rfl rfl ?_
   refine o_lookS (hbs.at H.sub) hms hSs Tryz.underlying66 Tryz.underlying3 Tryz.zeroValue117 rfl rfl rfl ?_; intro q9 hE9
   obtain ⟨a9, m9, c9, rfl, hi9, hr9, hj9⟩ := hE9; have hn_hr9 := hr9.len; have hx_hr9 : _ ≤ 1099511627776 := hr9.lim
   have hgb := Sp.get_len hVs z8
   have hat := Sp.get_at hVs hz8
   refine o_alloc H Tryz.zeroValue117 rfl rfl ?_; intro b10 w10 hb10 H
   refine o_store_B 0 H Tryz.sizeOf117 rfl rfl rfl rfl rfl rfl rfl rfl ?_; intro w11 H
   refine q3 ?_
   refine W_drawK [0] 11 H (by kernel_rfl) rfl ?_; intro w12 H; have hd12 := PLe.refl G6
   refine RD_t 0 rfl (by kernel_rfl) rfl (fun _ hK => v_move rfl) ?_
   refine RD_t 1 rfl (by kernel_rfl) rfl (fun _ hK => v_move rfl) ?_
   refine RD_t 2 rfl (by kernel_rfl) rfl (fun _ hK => v_fieldAddr 1 Tryz.runUnderlying117 rfl Tryz.sizeOf27 rfl rfl) ?_
   refine RD_t 3 rfl (by kernel_rfl) rfl (fun _ hK => v_load_B 0 hK Tryz.isAgg27 rfl rfl rfl) ?_
   refine RD_t 5 rfl (by kernel_rfl) rfl (fun _ hK => v_fieldAddr 2 Tryz.runUnderlying117 rfl Tryz.sizeOf3 rfl rfl) ?_
   refine RD_t 6 rfl (by kernel_rfl) rfl (fun _ hK => v_load_B 0 hK Tryz.isAgg3 rfl rfl rfl) ?_
   refine RD_run [4] (by kernel_rfl) rfl (RDs.cons rfl ?_ RDs.nil)
   refine o_call Tryz.call133 rfl rfl (l_Clone_c _ _ H.sub _ _ hr9 ) ?_
   rintro _ w13 ⟨G13, v13, _, g13, rfl, ⟨cs13, rfl, hchk13⟩, hp13, hq13, hs13⟩
   have H := H.growO g13 hp13 hq13 hs13; obtain ⟨av13, cv13, rfl⟩ := H.accShape (k := 0) rfl
   have hSs := hSs.up g13.le
   have hbs := hbs.up g13.le
   have hchk4 := hchk4.up g13.le
   have hsr5 := hsr5.up g13.le
   have hrow8 := hrow8.up g13.le
   have hr9 := hr9.up g13.le
   have hle6 := hle6.trans g13.le
   have hd12 := hd12.trans g13.le
   refine ⟨_, rfl, ?_⟩
   refine R_nil ?_
   refine N_DK (Kn.of' H hd12 (SubL.cons 1 rfl SubL.nil)) ?_
   refine RD_t 7 rfl (by kernel_rfl) rfl (fun _ hK => v_build bf117 rfl rfl) ?_
   refine RD_run [8] (by kernel_rfl) rfl (RDs.cons rfl ?_ RDs.nil)
   refine o_buildSlice H Tryz.underlying23 Tryz.sizeOf117 (fun w => ⟨_, Tryz.zeroValue117 w, rfl⟩) rfl rfl rfl rfl rfl rfl rfl ?_; intro b14 w14 hb14 H
   refine R_nil ?_
   refine N_DK (Kn.of' H hd12 (SubL.cons 2 rfl SubL.nil)) ?_
   refine RD_run [9] (by kernel_rfl) rfl (RDs.cons rfl ?_ RDs.nil)
   refine o_append1 3 H (sz := 3) (bytes := 40) Tryz.underlying23 Tryz.typeInfo117 ⟨_, rfl, rfl⟩ rfl rfl rfl rfl rfl rfl rfl rfl rfl rfl (by omega) rfl ?_; intro v15 w15 H
   obtain ⟨Fi2, H, hOI2⟩ := H.ownI (k := 0) rfl hchk13 (by first | assumption | rfl | (simp; done) | (simp; omega) | omega) (by first | assumption | (simp; done) | (simp; omega) | omega)
   have hchk15 := hchk6_0.snoc (show heldO Fi2 ⟨z8, (getH Ls z8).bytes, (getH Ls z8).uses⟩ _ from ⟨_, _, _, rfl, ⟨by first | omega | (dsimp only; omega), by first | omega | (dsimp only; omega)⟩, hOI2, ⟨by first | omega | (dsimp only; omega), by first | omega | (dsimp only; omega)⟩⟩) rfl
   have H := H.toFront (k := 2) rfl
   have H := H.mergeF
   obtain ⟨av15, cv15, rfl⟩ := H.accShape (k := 2) rfl
   refine R_nil ?_
   refine N_DK (Kn.of' H hd12 (SubL.cons 1 rfl SubL.nil)) ?_
   refine RD_t 10 rfl (by kernel_rfl) rfl (fun _ hK => v_assign rfl) ?_
   refine RD_done (by kernel_rfl) ?_
   refine N_B ?_
   refine N_K ?_
   refine W_region ?_
   refine o_add rfl rfl rfl ⟨by omega, by omega⟩ ?_
   refine o_move rfl rfl ?_
   refine R_nil ?_
   have H := H.del (k := 1) rfl
   refine N_LP (hJ := ⟨_, _, _, (xs ++ [⟨z8, (getH Ls z8).bytes, (getH Ls z8).uses⟩]), (F ++ Fi2), k + 1, _, rfl, hle6, H, ?inv, rfl⟩) (hM := ?hM) (hf := ?hf) (hm := ?hm)
   case hM => (repeat (first | exact Sub.nil | refine Sub.cons rfl ?_))
   case hf => (repeat (first | exact Sub.nil | refine Sub.cons rfl ?_))
   case hm => omega
   case inv => exact ⟨hchk15, (by first | assumption | (simp; omega) | omega), (by exact ⟨by omega, by rw [Sp.take_succ' hat, hxs]⟩)⟩
  intro hc7'
  try simp only [nrm] at hc7'
  refine W_exit ?_
  refine N_K_exit ?_
  refine N_LP_exit ?_
  refine N_B_same ?_
  refine N_K ?_
  refine q2 ?_
  refine o_move rfl rfl ?_
  refine o_assign rfl rfl ?_
  refine q3 ?_
  refine W_ret ?_
  refine ret_gen (rs := [.tmp 2]) (vs := [_]) Tryz.results81 ⟨rfl, trivial⟩ ?_
  have H := H.toFront (k := 1) rfl
  obtain ⟨Fo3, H, hOw3⟩ := H.ownF hchk6_0 (by first | assumption | rfl | (simp; done) | (simp; omega) | omega) (by first | assumption | (simp; done) | (simp; omega) | omega)
  have hX : xs = Ls := by rw [hxs, List.take_of_length_le (by omega)]
  have H := H.forget hG (by simp)
  exact ⟨_, _, rfl, H, _, rfl, hX ▸ ⟨_, hOw3⟩⟩
end Go.Proofs.Tst

namespace Go.Proofs.Tst
open Go Fw
theorem i_newVolume_c (w0 : World) (G0 : PH) (hG : PSub G0 w0) (vstore : Value) (store : List (BHeld)) (hstore : RdH G0 vstore store) (vtree : Value) (tree : List (BItem)) (htree : RdItems G0 vtree tree) (hLent : Lent w0 G0 [])  :
  Calls Tryz.prog 74 #[vstore, vtree] w0 (RetM w0 G0 [] (fun G' v Bs => (v = .tuple #[.agg #[.map none, .pointer none], .bool false] ∧ Bs = [] ∧ (Sp.StoreValid store && Sp.TreeValid tree) = false) ∨ (∃ (mb : Nat) (es : Array MapEntry) (ck : Nat) (xs : List (Int × Value)) (T : Nd) (F : Fr), v = .tuple #[.agg #[.map (some mb), .pointer (some ⟨T.b, 0, none⟩)], .bool true] ∧ Bs = [blk mb (.map es ck), frag F] ∧ MapIs (Value.int .i64) es ck xs ∧ StR G' xs store ∧ Sp.VH store ∧ NdO 83 67 G' T F ∧ Nd.TOK T tree ∧ Sp.TreeValid tree = true))) := by
 obtain ⟨astore, kstore, rfl⟩ := hstore.shape
 have hlimstore : store.length ≤ 1099511627776 := hstore.lim
 obtain ⟨atree, ktree, rfl⟩ := htree.shape
 have hlimtree : tree.length ≤ 1099511627776 := htree.lim
 have H : Hp w0 G0 [] w0 G0 [] := hLent.hp
 refine calls_of_W (l := [.slice astore store.length kstore, .slice atree tree.length ktree]) Tryz.func74 rfl Tryz.ntmps74 rfl ?_
 refine q2 ?_
 refine o_alloc H Tryz.zeroValue69 rfl rfl ?_; intro b1 w1 hb1 H
 refine o_assign rfl rfl ?_
 refine q1 ?_
 refine o_move rfl rfl ?_
 refine o_call Tryz.call127 rfl rfl (i_openStore_c _ _ H.sub _ _ hstore H.lent0 ) ?_
 rintro _ w2 ⟨G2, _, _, rfl, H2', ⟨hnv2, rfl, rfl⟩ | ⟨hV2, mb2, es2, ck2, xs2, rfl, rfl, hm2, hS2⟩⟩
 ·skip
  have hstore := hstore.up H2'.le
  have htree := htree.up H2'.le
  have H := H.borrow0 H2'
  refine ⟨_, rfl, ?_⟩
  refine o_move rfl rfl ?_
  refine o_extract rfl rfl rfl ?_
  refine o_extract rfl rfl rfl ?_
  refine o_assign rfl rfl ?_
  refine o_assign rfl rfl ?_
  refine q3 ?_
  refine W_seq ?_
  refine q2 ?_
  refine o_move rfl rfl ?_
  refine o_not rfl rfl ?_
  refine q3 ?_
  refine W_true rfl ?_
  refine q2 ?_
  refine o_build bf69 rfl rfl rfl ?_
  refine o_store_B 0 H Tryz.sizeOf69 rfl rfl rfl rfl rfl rfl rfl rfl ?_; intro w3 H
  refine o_assign rfl rfl ?_
  refine q3 ?_
  refine W_ret ?_
  refine N_K_ret ?_
  refine ret_gen (rs := [.cell 4 69, .tmp 5]) (vs := [_, _]) Tryz.results74 ⟨⟨_, rfl, load_blk 0 H Tryz.isAgg69 Tryz.sizeOf69 rfl rfl rfl⟩, rfl, trivial⟩ ?_
  have H := H.del (k := 0) rfl
  exact H.retM (.inl ⟨rfl, rfl, by simp_all⟩)
 skip
 have hstore := hstore.up H2'.le
 have htree := htree.up H2'.le
 have H := H.borrow0 H2'
 refine ⟨_, rfl, ?_⟩
 refine o_move rfl rfl ?_
 refine o_extract rfl rfl rfl ?_
 refine o_extract rfl rfl rfl ?_
 refine o_assign rfl rfl ?_
 refine o_assign rfl rfl ?_
 refine q3 ?_
 refine W_seq ?_
 refine q2 ?_
 refine o_move rfl rfl ?_
 refine o_not rfl rfl ?_
 refine q3 ?_
 refine W_false rfl ?_
 refine W_skip ?_
 refine N_K ?_
 refine q2 ?_
 refine o_move rfl rfl ?_
 refine o_call Tryz.call40 rfl rfl (i_openTree_c _ _ H.sub _ _ htree H.lent0 ) ?_
 rintro _ w4 ⟨G4, _, _, rfl, H4', ⟨rfl, rfl, hv4⟩ | ⟨T4, F4, rfl, rfl, hN4, hT4, hv4⟩⟩
 ·skip
  have hstore := hstore.up H4'.le
  have htree := htree.up H4'.le
  have hS2 := hS2.up H4'.le
  have H := H.borrow0 H4'
  refine ⟨_, rfl, ?_⟩
  refine o_move rfl rfl ?_
  refine o_extract rfl rfl rfl ?_
  refine o_extract rfl rfl rfl ?_
  refine o_assign rfl rfl ?_
  refine o_assign rfl rfl ?_
  refine q3 ?_
  refine W_seq ?_
  refine q2 ?_
  refine o_move rfl rfl ?_
  refine o_not rfl rfl ?_
  refine q3 ?_
  refine W_true rfl ?_
  refine q2 ?_
  refine o_build bf69 rfl rfl rfl ?_
  refine o_store_B 1 H Tryz.sizeOf69 rfl rfl rfl rfl rfl rfl rfl rfl ?_; intro w5 H
  refine o_assign rfl rfl ?_
  refine q3 ?_
  refine W_ret ?_
  refine N_K_ret ?_
  refine ret_gen (rs := [.cell 4 69, .tmp 5]) (vs := [_, _]) Tryz.results74 ⟨⟨_, rfl, load_blk 1 H Tryz.isAgg69 Tryz.sizeOf69 rfl rfl rfl⟩, rfl, trivial⟩ ?_
  have H := H.del (k := 0) rfl
  have H := H.del (k := 0) rfl
  exact H.retM (.inl ⟨rfl, rfl, by simp_all⟩)
 skip
 have hstore := hstore.up H4'.le
 have htree := htree.up H4'.le
 have hS2 := hS2.up H4'.le
 have H := H.borrow0 H4'
 refine ⟨_, rfl, ?_⟩
 refine o_move rfl rfl ?_
 refine o_extract rfl rfl rfl ?_
 refine o_extract rfl rfl rfl ?_
 refine o_assign rfl rfl ?_
 refine o_assign rfl rfl ?_
 refine q3 ?_
 refine W_seq ?_
 refine q2 ?_
 refine o_move rfl rfl ?_
 refine o_not rfl rfl ?_
 refine q3 ?_
 refine W_false rfl ?_
 refine W_skip ?_
 refine N_K ?_
 refine q2 ?_
 refine o_move rfl rfl ?_
 refine o_move rfl rfl ?_
 refine o_build bf69 rfl rfl rfl ?_
 refine o_store_B 2 H Tryz.sizeOf69 rfl rfl rfl rfl rfl rfl rfl rfl ?_; intro w6 H
 refine o_assign rfl rfl ?_
 refine q3 ?_
 refine W_ret ?_
 refine ret_gen (rs := [.cell 4 69, .tmp 5]) (vs := [_, _]) Tryz.results74 ⟨⟨_, rfl, load_blk 2 H Tryz.isAgg69 Tryz.sizeOf69 rfl rfl rfl⟩, rfl, trivial⟩ ?_
 have H := H.del (k := 2) rfl
 have H := H.toFront (k := 1) rfl
 exact H.retM (.inr ⟨_, _, _, _, _, _, rfl, rfl, hm2, hS2, hV2, hN4, hT4, hv4⟩)
theorem i_keepTree_c (w0 : World) (G0 : PH) (hG : PSub G0 w0) (mbs : Nat) (ess : Array MapEntry) (cks : Nat) (xss : List (Int × Value)) (Ls : List BHeld) (hms : MapIs (Value.int .i64) ess cks xss) (hSs : StR G0 xss Ls) (hVs : Sp.VH Ls) (Ft : Fr) (t : Nd) (hNt : NdO 83 67 G0 t Ft) (hLent : Lent w0 G0 [blk mbs (.map ess cks), frag Ft]) (hwt : t.wf) (hct : t.cnt ≤ 1000) :
  Calls Tryz.prog 119 #[.map (some mbs), .pointer (some ⟨t.b, 0, none⟩)] w0 (RetM w0 G0 (fps [blk mbs (.map ess cks), frag Ft]) (fun G' v Bs => ∃ (es' : Array MapEntry) (ck' : Nat) (xs' : List (Int × Value)) (L' : List BHeld), v = .bool (Sp.l12Keep Ls (t.flat [])).isSome ∧ Bs = [blk mbs (.map es' ck'), frag Ft] ∧ MapIs (Value.int .i64) es' ck' xs' ∧ StR G' xs' L' ∧ Sp.VH L' ∧ ∀ l, Sp.l12Keep Ls (t.flat []) = some l → L' = l)) := by
 have hfl := Nd.flat_len [] t
 have H : Hp w0 G0 (fps [blk mbs (.map ess cks), frag Ft]) w0 G0 [blk mbs (.map ess cks), frag Ft] := hLent.hp
 refine calls_of_W (l := [.map (some mbs), .pointer (some ⟨t.b, 0, none⟩)]) Tryz.func119 rfl Tryz.ntmps119 rfl ?_
 refine q2 ?_
 refine o_assign rfl rfl ?_
 refine q3 ?_
 refine W_seq ?_
 refine q2 ?_
 refine o_move rfl rfl ?_
 refine o_call Tryz.call82 rfl rfl (i_tlist_c _ _ (H.lendSubL [1]) _ ((H.lendN (k := 1) (ks := [1]) rfl rfl hNt).at (show Nd.at_ t [] = some t from rfl)) hwt hct) ?_
 rintro _ w1 ⟨_, _, rfl, H1', ⟨F1, rfl, hO1⟩⟩
 have H := H.readersL H1'
 obtain ⟨e21, hP1⟩ := hO1
 obtain ⟨sa1, sc1, rfl⟩ := OwnS.shape hP1
 have hO1 := OIs.mk hP1
 refine ⟨_, rfl, ?_⟩
 have hdm1 := dm_nodup H (k := 0) rfl; obtain ⟨Gk1, H, hkl1, hks1⟩ := H.keepF (k := 0) rfl (H.apart (k := 0) (ks := [1, 2]) rfl rfl (by intro b hb; simp only [fps, List.flatMap_cons, List.flatMap_nil, List.append_nil, List.mem_append] at hb; rcases hb with h | h; (· exact fpsAt_mem (k := 1) rfl rfl b h); (· exact fpsAt_mem (k := 2) rfl rfl b h)))
 have hrk1 := hO1.rd hks1 hdm1
 have hSs := hSs.up hkl1
 have hNt := hNt.up hkl1
 have hn_hrk1 := hrk1.len
 refine o_len_slice Tryz.underlying24 rfl rfl ?_
 refine o_move rfl rfl ?_
 refine q3 ?_
 refine W_block ?_
 refine W_loop (hf := (Sub.cons (t := 0) rfl (Sub.cons (t := 8) rfl (Sub.cons (t := 9) rfl Sub.nil)))) (J := fun M w m => ∃ (esm0 : Array MapEntry) (ckm0 : Nat) (xsm0 : List (Int × Value)) (Lm0 : List BHeld) (k : Nat) (G : PH), M = [(10, .int .i64 (k : Int))] ∧ PLe Gk1 G ∧ Hp w0 G0 (fps [blk mbs (.map ess cks), frag Ft]) w G [blk mbs (.map esm0 ckm0), frag Ft] ∧ (MapIs (Value.int .i64) esm0 ckm0 xsm0 ∧ StR G xsm0 Lm0 ∧ Sp.VH Lm0 ∧ k ≤ (t.flat []).length ∧ Sp.foldB Sp.keepT ((t.flat []).take k) (some Ls) = some Lm0) ∧ m = ((t.flat []).length - k)) (h0 := ⟨_, _, xss, Ls, 0, _, rfl, PLe.refl _, H, ?inv, rfl⟩) (hM := ?hM) (round := ?round)
 case hM => (repeat (first | exact Sub.nil | refine Sub.cons rfl ?_))
 case inv => exact ⟨hms, hSs, hVs, (by simp [Sp.foldB])⟩
 case round =>
  rintro _ w2 _ ⟨esm0, ckm0, xsm0, Lm0, k, G2, rfl, hle2, H, hinv2, rfl⟩
  have hSs := hSs.up hle2
  have hNt := hNt.up hle2
  have hrk1 := hrk1.up hle2
  obtain ⟨hm2_m0, hS2_m0, hV2_m0, hinv2⟩ := hinv2
  obtain ⟨hk, hf⟩ := hinv2
  refine q2 ?_
  refine o_lss rfl rfl rfl ?_
  refine q3 ?_
  refine W_seq ?_
  refine W_cond rfl ?_ ?_
  ·intro hc3
   try simp only [nrm] at hc3
   refine W_skip ?_
   refine N_K ?_
   refine W_seq ?_
   refine W_block ?_
   refine q2 ?_
   refine o_index_P k hrk1 Tryz.underlying24 Tryz.sizeOf39 rfl rfl rfl rfl (by first | omega | (simp; omega)) ?_; intro b4 o4 z4 q4 hz4 hE4 hrow4
   obtain ⟨a4, m4, c4, rfl, hi4, hr4⟩ := hE4; have hy_hi4 : _ ≤ 16777216 := hi4; have hn_hr4 := hr4.len; have hx_hr4 : _ ≤ 1099511627776 := hr4.lim
   refine o_loadagg_P H Tryz.isAgg39 Tryz.sizeOf39 rfl rfl hrow4 rfl ?_
   refine o_alloc H Tryz.zeroValue39 rfl rfl ?_; intro b5 w5 hb5 H
   refine o_store_B 0 H Tryz.sizeOf39 rfl rfl rfl rfl rfl rfl rfl rfl ?_; intro w6 H
   refine q1 ?_
   refine o_move rfl rfl ?_
   refine o_fieldAddr 2 Tryz.runUnderlying39 rfl Tryz.sizeOf27 rfl rfl rfl ?_
   refine o_load_B 0 H Tryz.isAgg27 rfl rfl rfl rfl ?_
   have H := H.toFront (k := 1) rfl
   refine o_call Tryz.call155 rfl rfl (i_keepFile_c _ _ H.sub _ _ _ _ _ hm2_m0 hS2_m0 hV2_m0 _ _ hr4 H.lent1 ) ?_
   rintro _ w7 ⟨G7, _, _, rfl, H7', ⟨es7, ck7, xs7, L7, rfl, rfl, hm7, hS7, hV7, hL7⟩⟩
   have hSs := hSs.up H7'.le
   have hNt := hNt.up H7'.le
   have hrk1 := hrk1.up H7'.le
   have hS2_m0 := hS2_m0.up H7'.le
   have hr4 := hr4.up H7'.le
   have hrow4 := hrow4.up H7'.le
   have hle2 := hle2.trans H7'.le
   have H := H.borrow1 H7'
   refine ⟨_, rfl, ?_⟩
   refine o_not rfl rfl ?_
   refine q3 ?_
   refine W_cond rfl ?_ ?_
   ·intro hc8
    try simp only [nrm] at hc8
    refine q2 ?_
    refine o_assign rfl rfl ?_
    refine q3 ?_
    refine W_ret ?_
    refine N_B_ret ?_
    refine N_K_ret ?_
    refine N_LP_ret ?_
    refine N_B_ret ?_
    refine N_K_ret ?_
    refine ret_gen (rs := [.tmp 4]) (vs := [_]) Tryz.results119 ⟨rfl, trivial⟩ ?_
    have H := H.del (k := 1) rfl
    have H := H.toFront (k := 1) rfl
    have H := H.toFront (k := 1) rfl
    have hno : Sp.l12Keep Ls (t.flat []) = none := by (have hno : Sp.keepT Lm0 z4 = none := (show Sp.foldB Sp.StoreKeep z4.ids (some Lm0) = none by simpa using hc8)); exact Sp.foldB_stop hf hz4 hno
    exact H.retM ⟨_, _, _, _, congrArg Value.bool (by rw [hno]; rfl), rfl, hm7, hS7, hV7, fun l hl => by rw [hno] at hl; cases hl⟩
   intro hc8'
   try simp only [nrm] at hc8'
   obtain ⟨p, hsp⟩ := Option.isSome_iff_exists.1 (show (Sp.foldB Sp.StoreKeep z4.ids (some Lm0)).isSome = true by simpa using hc8')
   have hLp := hL7 p hsp; subst hLp
   have hsp : Sp.keepT Lm0 z4 = some L7 := hsp
   refine W_skip ?_
   refine N_B ?_
   refine N_K ?_
   refine W_region ?_
   refine o_add rfl rfl rfl ⟨by omega, by omega⟩ ?_
   refine o_move rfl rfl ?_
   refine R_nil ?_
   have H := H.del (k := 1) rfl
   refine N_LP (hJ := ⟨_, _, xs7, L7, k + 1, _, rfl, hle2, H, ?inv, rfl⟩) (hM := ?hM) (hf := ?hf) (hm := ?hm)
   case hM => (repeat (first | exact Sub.nil | refine Sub.cons rfl ?_))
   case hf => (repeat (first | exact Sub.nil | refine Sub.cons rfl ?_))
   case hm => omega
   case inv => exact ⟨hm7, hS7, hV7, (by exact ⟨by omega, Sp.foldB_succ hf hz4 hsp⟩)⟩
  intro hc3'
  try simp only [nrm] at hc3'
  refine W_exit ?_
  refine N_K_exit ?_
  refine N_LP_exit ?_
  refine N_B_same ?_
  refine N_K ?_
  refine q2 ?_
  refine o_assign rfl rfl ?_
  refine q3 ?_
  refine W_ret ?_
  refine ret_gen (rs := [.tmp 4]) (vs := [_]) Tryz.results119 ⟨rfl, trivial⟩ ?_
  have H := H.toFront (k := 1) rfl
  have H := H.toFront (k := 1) rfl
  have hyes : Sp.l12Keep Ls (t.flat []) = some Lm0 := Sp.foldB_all hf (by omega)
  exact H.retM ⟨_, _, _, _, congrArg Value.bool (by rw [hyes]; rfl), rfl, hm2_m0, hS2_m0, hV2_m0, fun l hl => by rw [hyes] at hl; cases hl; rfl⟩
end Go.Proofs.Tst

namespace Go.Proofs.Tst
open Go Fw
theorem i_snapAt_c (w0 : World) (G0 : PH) (hG : PSub G0 w0) (db : Nat) (m1 m2 v1 v2 vs : Value) (sn : List (Bs × Nd)) (hdk : PRow G0 db 0 [m1, m2, v1, v2, vs]) (hsn : RdS LIM osE 2 G0 vs sn) (nm : Bs) (hnm : nm.length ≤ 16777216)  :
  Calls Tryz.prog 117 #[.pointer (some ⟨db, 0, none⟩), str nm] w0 (Rets w0 (.int .i64 (Sp.optI (sn.findIdx? (fun x => decide (x.1 = nm)))))) := by
 obtain ⟨asn, ksn, rfl⟩ := hsn.shape; have hlimsn : sn.length ≤ 1099511627776 := hsn.lim
 have H := Hp.init hG
 refine calls_of_W (l := [.pointer (some ⟨db, 0, none⟩), str nm]) Tryz.func117 rfl Tryz.ntmps117 rfl ?_
 refine q2 ?_
 refine o_assign rfl rfl ?_
 refine q3 ?_
 refine W_seq ?_
 refine q2 ?_
 refine o_move rfl rfl ?_
 refine o_nilCheck rfl rfl ?_
 refine o_fieldAddr 4 Tryz.runUnderlying163 rfl Tryz.sizeOf161 rfl rfl rfl ?_
 refine o_load_P H Tryz.isAgg161 rfl rfl (hdk 4 _ rfl) ?_
 refine o_len_slice Tryz.underlying161 rfl rfl ?_
 refine o_move rfl rfl ?_
 refine q3 ?_
 refine W_block ?_
 refine W_loop (hf := (Sub.cons (t := 1) rfl (Sub.cons (t := 10) rfl (Sub.cons (t := 11) rfl Sub.nil)))) (J := fun M w m => ∃ (k : Nat) (G : PH), M = [(12, .int .i64 (k : Int))] ∧ PLe G0 G ∧ Hp w0 G0 [] w G [] ∧ (k ≤ sn.length ∧ ∀ (j : Nat) (x : Bs × Nd), j < k → sn[j]? = some x → decide (x.1 = nm) = false) ∧ m = (sn.length - k)) (h0 := ⟨0, _, rfl, PLe.refl _, H, ?inv, rfl⟩) (hM := ?hM) (round := ?round)
 case hM => (repeat (first | exact Sub.nil | refine Sub.cons rfl ?_))
 case inv => exact ⟨by omega, fun j x hj => by omega⟩
 case round =>
  rintro _ w1 _ ⟨k, G1, rfl, hle1, H, hinv1, rfl⟩
  have hdk := hdk.up hle1
  have hsn := hsn.up hle1
  obtain ⟨hk, hno⟩ := hinv1
  refine q2 ?_
  refine o_lss rfl rfl rfl ?_
  refine q3 ?_
  refine W_seq ?_
  refine W_cond rfl ?_ ?_
  ·intro hc2
   try simp only [nrm] at hc2
   refine W_skip ?_
   refine N_K ?_
   refine W_seq ?_
   refine W_block ?_
   refine q2 ?_
   refine o_move rfl rfl ?_
   refine o_index_P k hsn Tryz.underlying161 Tryz.sizeOf167 rfl rfl rfl rfl (by first | omega | (simp; omega)) ?_; intro b3 o3 z3 q3 hz3 hE3 hrow3
   obtain ⟨rfl, hi3⟩ := hE3; have hy_hi3 : _ ≤ 16777216 := hi3
   refine o_loadagg_P H Tryz.isAgg167 Tryz.sizeOf167 rfl rfl hrow3 rfl ?_
   refine o_alloc H Tryz.zeroValue167 rfl rfl ?_; intro b4 w4 hb4 H
   refine o_assign rfl rfl ?_
   refine o_store_B 0 H Tryz.sizeOf167 rfl rfl rfl rfl rfl rfl rfl rfl ?_; intro w5 H
   refine q1 ?_
   refine o_fieldAddr 0 Tryz.runUnderlying167 rfl Tryz.sizeOf9 rfl rfl rfl ?_
   refine o_load_B 0 H Tryz.isAgg9 rfl rfl rfl rfl ?_
   refine o_move rfl rfl ?_
   refine o_seql rfl rfl rfl ?_
   refine q3 ?_
   refine W_cond rfl ?_ ?_
   ·intro hc6
    try simp only [nrm] at hc6
    refine q2 ?_
    refine o_move rfl rfl ?_
    refine o_assign rfl rfl ?_
    refine q3 ?_
    refine W_ret ?_
    refine N_B_ret ?_
    refine N_K_ret ?_
    refine N_LP_ret ?_
    refine N_B_ret ?_
    refine N_K_ret ?_
    refine ret_gen (rs := [.tmp 4]) (vs := [_]) Tryz.results117 ⟨rfl, trivial⟩ ?_
    exact H.rets (congrArg (Value.int .i64) (by rw [Sp.fidx_some (p := fun x : Bs × Nd => decide (x.1 = nm)) hno hz3 (by simpa using hc6)]; rfl))
   intro hc6'
   try simp only [nrm] at hc6'
   refine W_skip ?_
   refine N_B ?_
   refine N_K ?_
   refine W_region ?_
   refine o_add rfl rfl rfl ⟨by omega, by omega⟩ ?_
   refine o_move rfl rfl ?_
   refine R_nil ?_
   have H := H.del (k := 0) rfl
   refine N_LP (hJ := ⟨k + 1, _, rfl, hle1, H, ?inv, rfl⟩) (hM := ?hM) (hf := ?hf) (hm := ?hm)
   case hM => (repeat (first | exact Sub.nil | refine Sub.cons rfl ?_))
   case hf => (repeat (first | exact Sub.nil | refine Sub.cons rfl ?_))
   case hm => omega
   case inv => exact ⟨by omega, Sp.fidx_step hno hz3 (by simpa using hc6')⟩
  intro hc2'
  try simp only [nrm] at hc2'
  refine W_exit ?_
  refine N_K_exit ?_
  refine N_LP_exit ?_
  refine N_B_same ?_
  refine N_K ?_
  refine q2 ?_
  refine o_assign rfl rfl ?_
  refine q3 ?_
  refine W_ret ?_
  refine ret_gen (rs := [.tmp 4]) (vs := [_]) Tryz.results117 ⟨rfl, trivial⟩ ?_
  exact H.rets (congrArg (Value.int .i64) (by rw [Sp.fidx_none (p := fun x : Bs × Nd => decide (x.1 = nm)) (fun j x hj => hno j x (by omega))]; rfl))
end Go.Proofs.Tst

