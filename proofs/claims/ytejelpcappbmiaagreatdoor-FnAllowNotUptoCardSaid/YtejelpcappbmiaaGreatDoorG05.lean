/- Part 5 of the proof: the program logic and plain functions. Conditions: none. -/
import Derived.Test.YtejelpcappbmiaaGreatDoorProg
import Derived.Test.YtejelpcappbmiaaGreatDoorG02
import Derived.Test.YtejelpcappbmiaaGreatDoorG03
import Derived.Test.YtejelpcappbmiaaGreatDoorG04
import Derived.Shelf.SlGeneric
import Derived.Shelf.Strings.Search1
import Derived.Shelf.Strings.Search2
import Derived.Shelf.Strings.Count
import Derived.Shelf.SlIterI.Nil
import Derived.Shelf.SortM.Plain
import Derived.Shelf.SortM.SortNone
import Derived.Ground.GgzProg
import Derived.Ground.SlgmProg
set_option linter.all false
set_option maxRecDepth 100000
set_option maxHeartbeats 1000000
namespace Go.Proofs.Tst
open Go Fw Tryz
theorem StoreKeep_c (w0 : World) (G0 : PH) (hG : PSub G0 w0) (vlist : Value) (list : List (BHeld)) (hlist : RdH G0 vlist list) (id : Int)  :
  Calls Tryz.prog 147 #[vlist, .int .i64 id] w0 (RetO w0 G0 (fun G v r => ∃ u, v = .tuple #[u, .bool (Sp.StoreKeep list id).isSome] ∧ AccOf heldE 3 153 ((Sp.StoreKeep list id).getD []) G u r)) := by
 obtain ⟨alist, klist, rfl⟩ := hlist.shape
 have hlimlist : list.length ≤ 1099511627776 := hlist.lim
 have H := Hp.init hG
 refine calls_of_W (l := [.slice alist list.length klist, .int .i64 id]) func147 Z ntmps147 Z (q2 (pe 2 Z (q1 (pe 2 Z (xr H Z2 (l3At_c _ _ H.sub _ _ hlist _ ) ?_))))); intro _ H
 refine aG Z (q3 (W_seq (q2 (mV Z (xr H Z2 (StoreValid_c _ _ H.sub _ _ hlist ) ?_))))); intro _ H
 refine pe 2 Z ?_
 refine R_case (t := 14) Z ?_ ?_
 ·intro hc3
  try simp only [nrm] at hc3
  refine pe 11 Z (q3 (W_true Z (q2 (xbs H Z7 ?_)))); intro _ _ _ H
  have H := H.blkAcc 3 (k := 0) (n := 0) rfl rfl (by decide)
  refine pe 2 Z (q3 (W_ret (N_K_ret (rt2 results147 Z Z ?_))))
  have hN : Sp.StoreKeep list id = none := by simp [Sp.StoreKeep, hc3]
  exact H.retO (k := 0) rfl (by rw [hN]; exact ⟨_, rfl, AccOf.mk aN (Chk.nil (E := heldE) (sz := 3) (G := G0))⟩) (acc_nd _ _ _ _ _)
 intro hc3'
 try simp only [nrm] at hc3'
 refine pe 4 Z ?_
 refine R_case (t := 18) Z ?_ ?_
 ·intro hc5
  try simp only [nrm] at hc5
  refine pe 7 Z (q3 (W_true Z (q2 (xbs H Z7 ?_)))); intro _ _ _ H
  have H := H.blkAcc 3 (k := 0) (n := 0) rfl rfl (by decide)
  refine pe 2 Z (q3 (W_ret (N_K_ret (rt2 results147 Z Z ?_))))
  have hN : Sp.StoreKeep list id = none := by simp [Sp.StoreKeep, Sp.atH, Sp.at_none hc5]
  exact H.retO (k := 0) rfl (by rw [hN]; exact ⟨_, rfl, AccOf.mk aN (Chk.nil (E := heldE) (sz := 3) (G := G0))⟩) (acc_nd _ _ _ _ _)
 intro hc5'
 try simp only [nrm] at hc5'
 obtain ⟨i, _, hi1, hi2, _, _, _⟩ := Sp.at_nat hc5'
 have hl : Sp.atH list id = some i := hi1
 refine pe 2 Z (gR Z (iP i hlist Z3 hi2 ?_)); intro _ _ z7 _ hz7 hE7 hrow7
 obtain ⟨_, _, _, rfl, _, hr7, _, _, _⟩ := ox hE7
 refine gR Z (fA 2 Z (gR Z (lP H hrow7 2 Z2 (pe 2 Z (q3 ?_)))))
 refine W_cond Z ?_ ?_
 ·intro hc8
  try simp only [nrm] at hc8
  refine q2 (xbs H Z7 ?_); intro _ _ _ H
  have H := H.blkAcc 3 (k := 0) (n := 0) rfl rfl (by decide)
  refine pe 2 Z (q3 (W_ret (N_K_ret (rt2 results147 Z Z ?_))))
  have hN : Sp.StoreKeep list id = none := by simp [Sp.StoreKeep, hl, hz7, hc8]
  exact H.retO (k := 0) rfl (by rw [hN]; exact ⟨_, rfl, AccOf.mk aN (Chk.nil (E := heldE) (sz := 3) (G := G0))⟩) (acc_nd _ _ _ _ _)
 intro hc8'
 try simp only [nrm] at hc8'
 refine W_skip (N_K (q2 (mV Z (xc Z2 (l3Copy_c _ _ H.sub _ _ hlist ) ?_))))
 rintro _ _ ⟨_, _, _, g10, rfl, ⟨_, rfl, hchk10⟩, hp10, hq10, hs10⟩
 have H := H.growO g10 hp10 hq10 hs10; obtain ⟨_, _, rfl⟩ := H.accShape (k := 0) rfl
 refine ⟨_, Z, ?_⟩
 refine aG Z (q1 (pe 4 Z (o_index_A 0 H i Z hchk10 underlying23 sizeOf153 Z Z Z hi2 aN aN ?_))); intro _ z11 _ hba11 hz11 hE11 hg11; cases hba11
 obtain ⟨_, _, _, rfl, _, _, _, _, _⟩ := ox hE11
 have hsv := Sp.valid_at hc3' hz11
 refine fA 2 Z (o_load_A 0 H isAgg3 Z Z Z (hg11 2 _ Z) (aD Z2 (o_index_A 0 H i Z hchk10 underlying23 sizeOf153 Z Z Z hi2 aN aN ?_))); intro _ z13 _ hba13 hz13 hE13 _; cases hba13
 obtain ⟨_, _, _, rfl, _, _, _, _, _⟩ := ox hE13
 have hzz13 : z11 = z13 := Option.some.inj (hz11.symm.trans hz13)
 subst hzz13
 refine fA 2 Z ?_
 have hcl14 := hchk10.length
 refine o_store_A 0 H sizeOf3 Z Z Z Z Z (by simp only [vc, List.length_cons, List.length_nil]; omega) ?_; intro _ H
 have hchk14 := hchk10.put (x' := ⟨z11.id, z11.bytes, z11.uses + 1⟩) (off := 2) (vs := [_]) hz13 (fun cs hl hE => by obtain ⟨_, _, _, rfl, h1, h2, _⟩ := hE; exact ⟨_, _, _, rfl, h1, h2, ⟨by first | omega | (dsimp only; omega), by first | omega | (dsimp only; omega)⟩⟩) (by simp only [vc, List.length_cons, List.length_nil]; omega)
 refine q1 (pe 3 Z (q3 (W_ret (rt2 results147 Z Z ?_))))
 have hY : Sp.StoreKeep list id = some (list.set i ⟨z11.id, z11.bytes, z11.uses + 1⟩) := by (have hzz : z7 = z11 := Option.some.inj (hz7.symm.trans hz11)); rw [hzz] at hc8'; simp [Sp.StoreKeep, hc3', hl, hz11, hc8', Sp.bump_at hz11]
 exact H.retO (k := 0) rfl (by rw [hY]; exact ⟨_, rfl, AccOf.mk aN hchk14⟩) (acc_nd _ _ _ _ _)
theorem StoreDrop_c (w0 : World) (G0 : PH) (hG : PSub G0 w0) (vlist : Value) (list : List (BHeld)) (hlist : RdH G0 vlist list) (id : Int)  :
  Calls Tryz.prog 222 #[vlist, .int .i64 id] w0 (RetO w0 G0 (fun G v r => ∃ u, v = .tuple #[u, .bool (Sp.StoreDrop list id).isSome] ∧ AccOf heldE 3 153 ((Sp.StoreDrop list id).getD []) G u r)) := by
 obtain ⟨alist, klist, rfl⟩ := hlist.shape
 have hlimlist : list.length ≤ 1099511627776 := hlist.lim
 have H := Hp.init hG
 refine calls_of_W (l := [.slice alist list.length klist, .int .i64 id]) func222 Z ntmps222 Z (q2 (pe 2 Z (q1 (pe 2 Z (xr H Z2 (l3At_c _ _ H.sub _ _ hlist _ ) ?_))))); intro _ H
 refine aG Z (q3 (W_seq (q2 (mV Z (xr H Z2 (StoreValid_c _ _ H.sub _ _ hlist ) ?_))))); intro _ H
 refine pe 2 Z ?_
 refine R_case (t := 14) Z ?_ ?_
 ·intro hc3
  try simp only [nrm] at hc3
  refine pe 3 Z (q3 (W_true Z (q2 (xbs H Z7 ?_)))); intro _ _ _ H
  have H := H.blkAcc 3 (k := 0) (n := 0) rfl rfl (by decide)
  refine pe 2 Z (q3 (W_ret (N_K_ret (rt2 results222 Z Z ?_))))
  have hN : Sp.StoreDrop list id = none := by simp [Sp.StoreDrop, hc3]
  exact H.retO (k := 0) rfl (by rw [hN]; exact ⟨_, rfl, AccOf.mk aN (Chk.nil (E := heldE) (sz := 3) (G := G0))⟩) (acc_nd _ _ _ _ _)
 intro hc3'
 try simp only [nrm] at hc3'
 refine pe 3 Z (q3 ?_)
 refine W_cond Z ?_ ?_
 ·intro hc5
  try simp only [nrm] at hc5
  refine q2 (xbs H Z7 ?_); intro _ _ _ H
  have H := H.blkAcc 3 (k := 0) (n := 0) rfl rfl (by decide)
  refine pe 2 Z (q3 (W_ret (N_K_ret (rt2 results222 Z Z ?_))))
  have hN : Sp.StoreDrop list id = none := by simp [Sp.StoreDrop, Sp.atH, Sp.at_none hc5]
  exact H.retO (k := 0) rfl (by rw [hN]; exact ⟨_, rfl, AccOf.mk aN (Chk.nil (E := heldE) (sz := 3) (G := G0))⟩) (acc_nd _ _ _ _ _)
 intro hc5'
 try simp only [nrm] at hc5'
 obtain ⟨i, _, hi1, hi2, _, _, _⟩ := Sp.at_nat hc5'
 have hi2 : Sp.l3At list id = (i : Int) := hi2
 have hl : Sp.atH list id = some i := hi1
 refine W_skip (N_K (q2 (mV Z (xc Z2 (l3Copy_c _ _ H.sub _ _ hlist ) ?_))))
 rintro _ _ ⟨G7, _, _, g7, rfl, ⟨_, rfl, hchk7⟩, hp7, hq7, hs7⟩
 have H := H.growO g7 hp7 hq7 hs7; obtain ⟨_, _, rfl⟩ := H.accShape (k := 0) rfl
 refine ⟨_, Z, ?_⟩
 refine aG Z (q3 (W_seq (q2 (pe 2 Z (o_index_A 0 H i Z hchk7 underlying23 sizeOf153 Z Z Z hi2 aN aN ?_))))); intro _ z8 _ hba8 hz8 hE8 hg8; cases hba8
 obtain ⟨_, _, _, rfl, _, _, _, _, _⟩ := ox hE8
 have hsv := Sp.valid_at hc3' hz8
 refine fA 2 Z (o_load_A 0 H isAgg3 Z Z Z (hg8 2 _ Z) (pe 1 Z (q3 ?_)))
 refine W_cond Z ?_ ?_
 ·intro hc9
  try simp only [nrm] at hc9
  refine W_seq (W_drawK [] 10 H kR Z ?_); intro _ H; have hd10 := PLe.refl G7
  refine dE 0 Z2 (dE 1 Z2 ?_)
  have hac11 := H.accCap (k := 0) rfl
  refine RD_t 2 Z kR Z (fun _ hK => v_slice_to (j := i) underlying23 sizeOf153 Z Z hi2 oM) (dE 3 Z2 (dE 4 Z2 (RD_t 5 Z kR Z (fun _ hK => v_add Z Z oO) ?_)))
  have hac13 := H.accCap (k := 0) rfl
  refine RD_t 6 Z kR Z (fun _ hK => v_slice_from (i := (i + 1)) underlying23 sizeOf153 Z Z oM oM) (r1 7 Z ?_)
  refine o_append_del 0 H i Z hchk7 (by intro _ cs hz _ hu; obtain ⟨_, _, _, rfl, _⟩ := hz; simp at hu; rcases hu with rfl | rfl | rfl <;> rfl) underlying23 typeInfo153 rfl rfl rfl rfl oM aN ?_; intro _ _ hb14 H hchk14; cases hb14
  refine q4 H hd10 (dE 8 Z2 (dE 9 Z2 (rz (N_K (W_ret (N_K_ret (rt2 results222 Z Z ?_)))))))
  have hY : Sp.StoreDrop list id = some (list.take i ++ list.drop (i + 1)) := by simp [Sp.StoreDrop, hc3', hl, hz8, hc9]
  exact H.retO (k := 0) rfl (by rw [hY]; exact ⟨_, rfl, AccOf.mk aN hchk14⟩) (acc_nd _ _ _ _ _)
 intro hc9'
 try simp only [nrm] at hc9'
 refine W_skip (N_K (q2 (pe 4 Z (o_index_A 0 H i Z hchk7 underlying23 sizeOf153 Z Z Z hi2 aN aN ?_)))); intro _ z15 _ hba15 hz15 hE15 hg15; cases hba15
 obtain ⟨_, _, _, rfl, _, _, _, _, _⟩ := ox hE15
 have hzz15 : z8 = z15 := Option.some.inj (hz8.symm.trans hz15)
 subst hzz15
 refine fA 2 Z (o_load_A 0 H isAgg3 Z Z Z (hg15 2 _ Z) (o_sub Z Z Z oO (o_index_A 0 H i Z hchk7 underlying23 sizeOf153 Z Z Z hi2 aN aN ?_))); intro _ z17 _ hba17 hz17 hE17 _; cases hba17
 obtain ⟨_, _, _, rfl, _, _, _, _, _⟩ := ox hE17
 have hzz17 : z8 = z17 := Option.some.inj (hz8.symm.trans hz17)
 subst hzz17
 refine fA 2 Z ?_
 have hcl18 := hchk7.length
 refine o_store_A 0 H sizeOf3 Z Z Z Z Z (by simp only [vc, List.length_cons, List.length_nil]; omega) ?_; intro _ H
 have hchk18 := hchk7.put (x' := ⟨z8.id, z8.bytes, z8.uses + (-1)⟩) (off := 2) (vs := [_]) hz17 (fun cs hl hE => by obtain ⟨_, _, _, rfl, h1, h2, _⟩ := hE; exact ⟨_, _, _, rfl, h1, h2, ⟨by first | omega | (dsimp only; omega), by first | omega | (dsimp only; omega)⟩⟩) (by simp only [vc, List.length_cons, List.length_nil]; omega)
 refine q1 (pe 3 Z (q3 (W_ret (rt2 results222 Z Z ?_))))
 have hY : Sp.StoreDrop list id = some (list.set i ⟨z8.id, z8.bytes, z8.uses + (-1)⟩) := by simp [Sp.StoreDrop, hc3', hl, hz8, hc9', Sp.bump_at hz8]
 exact H.retO (k := 0) rfl (by rw [hY]; exact ⟨_, rfl, AccOf.mk aN hchk18⟩) (acc_nd _ _ _ _ _)
end Go.Proofs.Tst

namespace Go.Proofs.Tst
open Go Fw Tryz
theorem l4Cut_c (w0 : World) (G0 : PH) (hG : PSub G0 w0) (vbytes : Value) (bytes : List (Int)) (hbytes : RdI G0 vbytes bytes) (hS : bytes.length ≤ 1000000) :
  Calls Tryz.prog 255 #[vbytes] w0 (RetP w0 G0 (fun G v => RdS LIM intsE 1 G v (Sp.l4Cut bytes))) := by
 obtain ⟨abytes, kbytes, rfl⟩ := hbytes.shape
 have hlimbytes : bytes.length ≤ 1099511627776 := hbytes.lim
 have H := Hp.init hG
 refine calls_of_W (l := [.slice abytes bytes.length kbytes]) func255 Z ntmps255 Z (q2 (aG Z (q1 (xbs H Z7 ?_)))); intro _ _ _ H
 have H := H.blkAcc 1 (k := 0) (n := 0) rfl rfl (by decide)
 refine aG Z (q3 (W_seq (q2 (aG Z (q3 (W_block ?_))))))
 refine W_lp (hf := (Sub.cons (t := 0) Z (Sub.cons (t := 2) Z Sub.nil))) (J := fun M w m => ∃ (v : Value) (n : Nat) (cs : List Value) (xs : List (List Int)) (k : Nat) (G : PH), M = [(4, .int .i64 (8 * (k : Int))), (3, v)] ∧ PLe G0 G ∧ Hp w0 G0 [] w G [acc 33 1 v n cs] ∧ (Chk intsE 1 G cs xs ∧ n = xs.length ∧ k ≤ (bytes.length + 7) / 8 ∧ xs.length = k ∧ xs = (List.range k).map (Sp.chunk bytes)) ∧ m = (bytes.length + 8 - 8 * k)) (h0 := ⟨_, _, _, [], 0, _, Z, PLe.refl _, H, ?inv, Z⟩) (round := ?round)
 case inv => exact ⟨(Chk.nil (E := intsE) (sz := 1) (G := G0)),  by first | rfl | simp | (simp; omega) | omega, (by simp)⟩
 case round =>
  rintro _ _ _ ⟨v, n, cs, xs, k, G2, rfl, hle2, H, hinv2, rfl⟩
  have hbytes := hbytes.up hle2
  obtain ⟨hchk2_0, _, hinv2⟩ := hinv2
  obtain ⟨_, _, rfl⟩ := H.accShape (k := 0) rfl
  obtain ⟨_, hxl, hxs⟩ := hinv2
  refine W_seq (q2 (pe 2 Z (lN Z (pe 1 Z (q3 ?_)))))
  refine W_cond Z ?_ ?_
  ·intro hc3
   try simp only [nrm] at hc3
   refine W_skip (N_K (W_seq (W_block (W_region (mV Z (xbs H Z7 ?_)))))); intro _ _ _ H
   have H := H.blkAcc 1 (k := 0) (n := 0) rfl rfl (by decide)
   refine pe 3 Z (aD Z2 (mV Z (lN Z (o_min Z Z Z ?_))))
   have hcap6 := hbytes.cap; try simp only [List.length_set, List.length_append, List.length_take, List.length_drop, List.length_replicate] at hcap6
   refine o_slice (i := (8 * k)) (j := (min (8 * k + 8) bytes.length)) underlying33 sizeOf3 Z Z Z Z oM oM aN aN ?_
   have hsl6 := hbytes.part (i := (8 * k)) (j := (min (8 * k + 8) bytes.length)) oM oM
   have hsn1 := hsl6.len
   refine o_append_P 0 H hsl6 (by intro _ cs hz _ hu; obtain ⟨rfl, _⟩ := hz; simp at hu; subst hu; rfl) (sz := 1) (bytes := 8) underlying33 typeInfo3 ⟨_, rfl, rfl⟩ rfl rfl rfl rfl rfl rfl rfl oM rfl ?_; intro _ _ css7 hcl7 hcs7 H
   have hchk7 : Chk intE 1 G2 ([] ++ css7.flatten) _ := ⟨css7, rfl, hcl7, hcs7⟩
   obtain ⟨_, _, rfl⟩ := H.accShape (k := 0) rfl
   refine xbs H Z7 ?_; intro _ _ _ H
   refine o_append1 1 H (sz := 1) (bytes := 24) underlying303 typeInfo33 ⟨_, Z, Z⟩ Z Z Z Z Z Z Z Z Z Z oM Z ?_; intro _ _ H
   obtain ⟨_, H, hsg10, hsr10⟩ := H.shut' (k := 0) rfl hchk7 aN aN
   have hchk2_0 := hchk2_0.up hsg10
   have hle2 := hle2.trans hsg10
   have hchk9 := hchk2_0.snoc (show intsE _ (Sp.chunk bytes k) _ from ⟨_, _, _, rfl, hsr10⟩) rfl
   obtain ⟨_, _, rfl⟩ := H.accShape (k := 0) rfl
   refine aG Z (R_nil (N_B (N_K (W_region (mV Z (aD Z2 (aG Z (R_nil ?_))))))))
   refine N_lp (hJ := ⟨_, _, _, (xs ++ [(Sp.chunk bytes k)]), k + 1, _, Z, hle2, H, ?inv, Z⟩) (hm := ?hm)
   case hm => omega
   case inv => exact ⟨hchk9, aN, (by exact ⟨by omega, by simp [hxl], by rw [hxs, List.range_succ, List.map_append]; rfl⟩)⟩
  intro hc3'
  try simp only [nrm] at hc3'
  refine W_exit (N_K_exit (N_LP_exit (N_B_same (N_K (q2 (pe 2 Z (q3 (W_ret (rt1 results255 Z ?_)))))))))
  obtain ⟨_, H, hsg512, hsr512⟩ := H.shut' (k := 0) rfl hchk2_0 aN aN
  obtain rfl : k = (bytes.length + 7) / 8 := by omega
  exact H.retP (by rw [Sp.l4Cut, ← hxs]; exact hsr512)
end Go.Proofs.Tst

namespace Go.Proofs.Tst
open Go Fw Tryz
theorem l4Ids_c (w0 : World) (G0 : PH) (hG : PSub G0 w0) (vlist : Value) (list : List (BHeld)) (hlist : RdH G0 vlist list) (vids : Value) (ids : List (Int)) (hids : RdI G0 vids ids)  :
  Calls Tryz.prog 170 #[vlist, vids] w0 (Rets w0 (.bool (Sp.l4Ids list ids))) := by
 obtain ⟨alist, klist, rfl⟩ := hlist.shape
 have hlimlist : list.length ≤ 1099511627776 := hlist.lim
 obtain ⟨aids, kids, rfl⟩ := hids.shape
 have hlimids : ids.length ≤ 1099511627776 := hids.lim
 have H := Hp.init hG
 refine calls_of_W (l := [.slice alist list.length klist, .slice aids ids.length kids]) func170 Z ntmps170 Z (q2 (aG Z (q3 (W_seq (q2 (aG Z (q3 (W_block ?_))))))))
 refine W_lp (hf := (Sub.cons (t := 0) Z (Sub.cons (t := 1) Z Sub.nil))) (J := fun M w m => ∃ (k : Nat) (G : PH), M = [(5, .int .i64 (k : Int))] ∧ PLe G0 G ∧ Hp w0 G0 [] w G [] ∧ (k ≤ ids.length ∧ ∀ j, j < k → Sp.idsOk list ids j = true) ∧ m = (ids.length - k)) (h0 := ⟨0, _, Z, PLe.refl _, H, ?inv, Z⟩) (round := ?round)
 case inv => exact ⟨by omega, fun j hj => by omega⟩
 case round =>
  rintro _ _ _ ⟨k, _, rfl, hle1, H, hinv1, rfl⟩
  have hlist := hlist.up hle1
  have hids := hids.up hle1
  obtain ⟨_, hall⟩ := hinv1
  refine W_seq (q2 (pe 2 Z (lN Z (pe 1 Z (q3 ?_)))))
  refine W_cond Z ?_ ?_
  ·intro hc2
   try simp only [nrm] at hc2
   refine W_skip (N_K (W_seq (W_block (q2 (pe 3 Z (iP k hids Z3 Z ?_)))))); intro _ _ z3 _ hz3 hE3 hrow3
   obtain ⟨rfl, hi3⟩ := hE3
   refine lP H hrow3 0 Z2 (xr H Z2 (l3At_c _ _ H.sub _ _ hlist _ ) ?_); intro _ H
   refine aG Z (q1 (pe 3 Z ?_))
   refine R_case (t := 21) Z ?_ ?_
   ·intro hc5
    try simp only [nrm] at hc5
    refine pe 6 Z (R_pass Z (yl_un Z Z) (R_pass Z (yl_un Z Z) (R_pass Z (yl_un Z Z) (R_pass Z (yl_un Z Z) (R_pass Z (yl_un Z Z) (R_pass Z (yl_un Z Z) (R_pass Z (yl_un Z Z) (pe 2 Z (q3 (W_true Z (q2 (aG Z (q3 (W_ret (N_B_ret ?_)))))))))))))))
    refine N_K_ret (N_LP_ret (N_B_ret (N_K_ret (rt1 results170 Z ?_))))
    exact H.rets (congrArg Value.bool (by rw [Sp.l4Ids, Sp.not_all_range (k := k) oM (by simp [Sp.idsOk, hz3, Sp.atH, Sp.at_none hc5])]; rfl))
   intro hc5'
   try simp only [nrm] at hc5'
   obtain ⟨i, x, hi1, hi2, hi3, hi4, _⟩ := Sp.at_nat hc5'
   have hl : Sp.atH list z3 = some i := hi1
   refine pe 1 Z (gR Z (aD Z2 (pe 1 Z (gR Z (lN Z (pe 2 Z ?_))))))
   refine R_case (t := 27) Z ?_ ?_
   ·intro hc7
    try simp only [nrm] at hc7
    refine pe 2 Z (gR Z (iP i hlist Z3 hi2 ?_)); intro _ _ z8 _ hz8 hE8 hrow8
    obtain ⟨_, _, _, rfl, _, _, _, _, _⟩ := ox hE8
    have hzz : x = z8 := Option.some.inj (hi4.symm.trans hz8)
    subst hzz
    refine gR Z (fA 1 Z (gR Z (lP H hrow8 1 Z2 (gR Z (lN Z (pe 3 Z (q3 ?_)))))))
    refine W_cond Z ?_ ?_
    ·intro hc9
     try simp only [nrm] at hc9
     refine q2 (aG Z (q3 (W_ret (N_B_ret (N_K_ret (N_LP_ret (N_B_ret (N_K_ret (rt1 results170 Z ?_)))))))))
     exact H.rets (congrArg Value.bool (by rw [Sp.l4Ids, Sp.not_all_range (k := k) oM (by simp [Sp.idsOk, hz3, hl, hi4]; omega)]; rfl))
    intro hc9'
    try simp only [nrm] at hc9'
    refine W_skip (N_B (N_K (W_region (mV Z (aD Z2 (aG Z (R_nil ?_)))))))
    refine N_lp (hJ := ⟨k + 1, _, Z, hle1, H, ?inv, Z⟩) (hm := ?hm)
    case hm => omega
    case inv => exact ⟨by omega, Sp.upto_succ hall (by simp [Sp.idsOk, hz3, hl, hi4]; omega)⟩
   intro hc7'
   try simp only [nrm] at hc7'
   refine pe 9 Z (q3 (W_false Z (W_skip (N_B (N_K (W_region (mV Z (aD Z2 (aG Z (R_nil ?_))))))))))
   refine N_lp (hJ := ⟨k + 1, _, Z, hle1, H, ?inv, Z⟩) (hm := ?hm)
   case hm => omega
   case inv => exact ⟨by omega, Sp.upto_succ hall (by simp [Sp.idsOk, hz3, hl, hi4]; omega)⟩
  intro hc2'
  try simp only [nrm] at hc2'
  refine W_exit (N_K_exit (N_LP_exit (N_B_same (N_K (q2 (mV Z (lN Z (pe 2 Z (q3 (W_ret (rt1 results170 Z ?_)))))))))))
  exact H.rets (congrArg Value.bool (by rw [Sp.l4Ids, Sp.all_range (fun j hj => hall j oM), Bool.true_and]; rw [Bool.eq_iff_iff]; simp; omega))
end Go.Proofs.Tst

namespace Go.Proofs.Tst
open Go Fw Tryz
theorem FileStore_c (w0 : World) (G0 : PH) (hG : PSub G0 w0) (vlist : Value) (list : List (BHeld)) (hlist : RdH G0 vlist list) (vbytes : Value) (bytes : List (Int)) (hbytes : RdI G0 vbytes bytes) (hS : bytes.length ≤ 1000000) :
  Calls Tryz.prog 220 #[vlist, vbytes] w0 (RetO w0 G0 (fun G v r => ∃ u u1, v = .tuple #[u, u1, .bool (Sp.FileStore list bytes).isSome] ∧ AccOf heldE 3 153 (((Sp.FileStore list bytes).map (·.1)).getD []) G u r ∧ RdI G u1 (((Sp.FileStore list bytes).map (·.2)).getD []))) := by
 obtain ⟨alist, klist, rfl⟩ := hlist.shape
 have hlimlist : list.length ≤ 1099511627776 := hlist.lim
 obtain ⟨abytes, kbytes, rfl⟩ := hbytes.shape
 have hlimbytes : bytes.length ≤ 1099511627776 := hbytes.lim
 have H := Hp.init hG
 refine calls_of_W (l := [.slice alist list.length klist, .slice abytes bytes.length kbytes]) func220 Z ntmps220 Z (q2 (pe 3 Z (q3 (W_seq (q2 (mV Z (xr H Z2 (StoreValid_c _ _ H.sub _ _ hlist ) ?_))))))); intro _ H
 refine pe 2 Z ?_
 refine R_case (t := 17) Z ?_ ?_
 ·intro hc2
  try simp only [nrm] at hc2
  refine pe 4 Z (q3 (W_true Z (q2 (xbs H Z7 ?_)))); intro _ _ _ H
  have H := H.blkAcc 3 (k := 0) (n := 0) rfl rfl (by decide)
  refine xbs H Z7 ?_; intro _ _ _ H
  have H := H.blkAcc 1 (k := 0) (n := 0) rfl rfl (by decide)
  refine pe 3 Z (q3 (W_ret (N_K_ret (ret_gen (rs := [.tmp 4, .tmp 5, .tmp 6]) (vs := [_, _, _]) results220 ⟨Z, Z, Z, trivial⟩ ?_))))
  obtain ⟨G505, H, hsg505, hsr505⟩ := H.shut' (k := 0) rfl (Chk.nil (E := intE) (sz := 1) (G := G0)) aN aN
  have hY : Sp.FileStore list bytes = none := by simp [Sp.FileStore, hc2]
  exact H.retO (k := 0) rfl (by rw [hY]; exact ⟨_, _, rfl, AccOf.mk aN (Chk.nil (E := heldE) (sz := 3) (G := G505)), hsr505⟩) (acc_nd _ _ _ _ _)
 intro hc2'
 try simp only [nrm] at hc2'
 refine pe 1 Z (gR Z (xr H Z2 (FileValid_c _ _ H.sub _ _ hbytes ) ?_)); intro _ H
 refine pe 2 Z (q3 ?_)
 refine W_cond Z ?_ ?_
 ·intro hc6
  try simp only [nrm] at hc6
  refine q2 (xbs H Z7 ?_); intro _ _ _ H
  have H := H.blkAcc 3 (k := 0) (n := 0) rfl rfl (by decide)
  refine xbs H Z7 ?_; intro _ _ _ H
  have H := H.blkAcc 1 (k := 0) (n := 0) rfl rfl (by decide)
  refine pe 3 Z (q3 (W_ret (N_K_ret (ret_gen (rs := [.tmp 4, .tmp 5, .tmp 6]) (vs := [_, _, _]) results220 ⟨Z, Z, Z, trivial⟩ ?_))))
  obtain ⟨G509, H, hsg509, hsr509⟩ := H.shut' (k := 0) rfl (Chk.nil (E := intE) (sz := 1) (G := G0)) aN aN
  have hY : Sp.FileStore list bytes = none := by simp [Sp.FileStore, hc6]
  exact H.retO (k := 0) rfl (by rw [hY]; exact ⟨_, _, rfl, AccOf.mk aN (Chk.nil (E := heldE) (sz := 3) (G := G509)), hsr509⟩) (acc_nd _ _ _ _ _)
 intro hc6'
 try simp only [nrm] at hc6'
 refine W_skip (N_K (q2 (mV Z (xc Z2 (l3Copy_c _ _ H.sub _ _ hlist ) ?_))))
 rintro _ _ ⟨_, _, _, g9, rfl, ⟨_, rfl, hchk9⟩, hp9, hq9, hs9⟩
 have H := H.growO g9 hp9 hq9 hs9; obtain ⟨_, _, rfl⟩ := H.accShape (k := 0) rfl
 have hbytes := hbytes.up g9.le
 refine ⟨_, Z, ?_⟩
 refine aG Z (q1 (xbs H Z7 ?_)); intro _ _ _ H
 have H := H.blkAcc 1 (k := 0) (n := 0) rfl rfl (by decide)
 refine aG Z (q1 (mV Z (xc Z2 (l4Cut_c _ _ H.sub _ _ hbytes oM) ?_)))
 rintro _ _ ⟨G11, _, g11, rfl, hr11_0⟩
 have H := H.grow g11
 have hchk9 := hchk9.up g11.le
 obtain ⟨_, _, rfl⟩ := hr11_0.shape; have hx_hr11_0 : _ ≤ 1099511627776 := hr11_0.lim
 refine ⟨_, Z, ?_⟩
 refine aG Z (q3 (W_seq (q2 (aG Z (q3 (W_block ?_))))))
 refine W_lp (hf := (Sub.cons (t := 9) Z Sub.nil)) (J := fun M w m => ∃ (v : Value) (n : Nat) (cs : List Value) (xs : List (BHeld)) (v1 : Value) (n1 : Nat) (cs1 : List Value) (xs1 : List (Int)) (k : Nat) (G : PH), M = [(10, .int .i64 (k : Int)), (7, v), (8, v1)] ∧ PLe G11 G ∧ Hp w0 G0 [] w G [acc 3 1 v1 n1 cs1, acc 153 3 v n cs] ∧ (Chk heldE 3 G cs xs ∧ n = xs.length ∧ Chk intE 1 G cs1 xs1 ∧ n1 = xs1.length ∧ k ≤ (Sp.l4Cut bytes).length ∧ xs.length ≤ 1000 ∧ xs1.length ≤ k ∧ Sp.foldB Sp.put1 ((Sp.l4Cut bytes).take k) (some (list, [])) = some (xs, xs1)) ∧ m = ((Sp.l4Cut bytes).length - k)) (h0 := ⟨_, _, _, list, _, _, _, [], 0, _, Z, PLe.refl _, H, ?inv, Z⟩) (round := ?round)
 case inv => exact ⟨hchk9, (by first | rfl | simp | (simp; omega) | omega), (Chk.nil (E := intE) (sz := 1) (G := G11)),  by first | rfl | simp | (simp; omega) | omega, (by exact ⟨by omega, by have := Sp.valid_len hc2'; omega, by simp, by simp [Sp.foldB]⟩)⟩
 case round =>
  rintro _ _ _ ⟨v, n, cs, xs, v1, n1, cs1, xs1, k, _, rfl, hle12, H, hinv12, rfl⟩
  have hr11_0 := hr11_0.up hle12
  obtain ⟨hchk12_0, _, hinv12⟩ := hinv12
  obtain ⟨_, _, rfl⟩ := H.accShape (k := 1) rfl
  obtain ⟨hchk12_1, _, hinv12⟩ := hinv12
  obtain ⟨_, _, rfl⟩ := H.accShape (k := 0) rfl
  obtain ⟨_, _, _, hf⟩ := hinv12
  refine W_seq (q2 (pe 2 Z (lN Z (pe 1 Z (q3 ?_)))))
  refine W_cond Z ?_ ?_
  ·intro hc13
   try simp only [nrm] at hc13
   refine W_skip (N_K (W_seq (W_block (q2 (pe 3 Z (iP k hr11_0 Z3 Z ?_)))))); intro _ _ z14 _ hz14 hE14 hrow14
   obtain ⟨_, _, _, rfl, hr14⟩ := hE14; have hn_hr14 := hr14.len; have hx_hr14 : _ ≤ 1099511627776 := hr14.lim
   refine lP H hrow14 0 Z2 ?_
   obtain ⟨_, H, hsg16, hsr16⟩ := H.shut' (k := 1) rfl hchk12_0 aN aN
   have hchk12_1 := hchk12_1.up hsg16
   have hr14 := hr14.up hsg16
   have hle12 := hle12.trans hsg16
   refine xc Z2 (StorePut_c _ _ H.sub _ _ hsr16 _ _ hr14 oM) ?_
   rintro _ _ ⟨G15, _, _, g15, rfl, ⟨_, rfl, ⟨_, rfl, hchk15⟩, ⟨hfa15, hfb15⟩⟩, hp15, hq15, hs15⟩
   have H := H.growO g15 hp15 hq15 hs15; obtain ⟨_, _, rfl⟩ := H.accShape (k := 0) rfl
   have hchk12_1 := hchk12_1.up g15.le
   have hle12 := hle12.trans g15.le
   refine ⟨_, Z, ?_⟩
   refine pe 7 Z (q3 (W_seq (q2 (pe 2 Z (q3 ?_)))))
   refine W_cond Z ?_ ?_
   ·intro hc17
    try simp only [nrm] at hc17
    refine q2 (xbs H Z7 ?_); intro _ _ _ H
    have H := H.blkAcc 3 (k := 0) (n := 0) rfl rfl (by decide)
    refine xbs H Z7 ?_; intro _ _ _ H
    have H := H.blkAcc 1 (k := 0) (n := 0) rfl rfl (by decide)
    refine pe 3 Z (q3 (W_ret (N_K_ret (N_B_ret (N_K_ret (N_LP_ret (N_B_ret (N_K_ret (ret_gen (rs := [.tmp 4, .tmp 5, .tmp 6]) (vs := [_, _, _]) results220 ⟨Z, Z, Z, trivial⟩ ?_)))))))))
    obtain ⟨G520, H, hsg520, hsr520⟩ := H.shut' (k := 0) rfl (Chk.nil (E := intE) (sz := 1) (G := G15)) aN aN
    have hY : Sp.FileStore list bytes = none := by (have hno : Sp.StorePut xs z14 = none := by simpa using hc17); simp only [Sp.FileStore, hc2', hc6', Bool.and_self, if_true]; exact Sp.foldB_stop hf hz14 (by simp [Sp.put1, hno])
    exact H.retO (k := 0) rfl (by rw [hY]; exact ⟨_, _, rfl, AccOf.mk aN (Chk.nil (E := heldE) (sz := 3) (G := G520)), hsr520⟩) (acc_nd _ _ _ _ _)
   intro hc17'
   try simp only [nrm] at hc17'
   obtain ⟨p, hsp⟩ := Option.isSome_iff_exists.1 hc17'
   rw [hsp] at H hchk15 hfa15 hfb15 ⊢
   dsimp only [Option.map, Option.getD] at H hchk15 hfa15 hfb15
   refine W_skip (N_K (q2 (pe 2 Z (q3 (W_region (pe 2 Z (xbs H Z7 ?_))))))); intro _ _ _ H
   refine o_append1 1 H (sz := 1) (bytes := 8) underlying33 typeInfo3 ⟨_, Z, Z⟩ Z Z Z Z Z Z Z Z Z Z oM Z ?_; intro _ _ H
   have hchk21 := hchk12_1.snoc (show intE _ p.2 _ from ⟨rfl, oO⟩) rfl
   obtain ⟨_, _, rfl⟩ := H.accShape (k := 1) rfl
   refine aG Z (R_nil (N_B (N_K (W_region (mV Z (aD Z2 (aG Z (R_nil ?_))))))))
   have H := H.tF 1
   refine N_lp (hJ := ⟨_, _, _, p.1, _, _, _, (xs1 ++ [p.2]), k + 1, _, Z, hle12, H, ?inv, Z⟩) (hm := ?hm)
   case hm => omega
   case inv => exact ⟨hchk15, aN, hchk21, aN, (by exact ⟨by omega, by have := Sp.put_len hsp; omega, by simp; omega, Sp.foldB_succ hf hz14 (by simp [Sp.put1, hsp])⟩)⟩
  intro hc13'
  try simp only [nrm] at hc13'
  refine W_exit (N_K_exit (N_LP_exit (N_B_same (N_K (q2 (pe 5 Z (q3 (W_ret (ret_gen (rs := [.tmp 4, .tmp 5, .tmp 6]) (vs := [_, _, _]) results220 ⟨Z, Z, Z, trivial⟩ ?_)))))))))
  obtain ⟨_, H, hsg523, hsr523⟩ := H.shut' (k := 0) rfl hchk12_1 aN aN
  have hchk12_0 := hchk12_0.up hsg523
  have hY : Sp.FileStore list bytes = some (xs, xs1) := by simp only [Sp.FileStore, hc2', hc6', Bool.and_self, if_true]; exact Sp.foldB_all hf oM
  exact H.retO (k := 0) rfl (by rw [hY]; exact ⟨_, _, rfl, AccOf.mk aN hchk12_0, hsr523⟩) (acc_nd _ _ _ _ _)
end Go.Proofs.Tst

namespace Go.Proofs.Tst
open Go Fw Tryz
theorem FileFree_c (w0 : World) (G0 : PH) (hG : PSub G0 w0) (vlist : Value) (list : List (BHeld)) (hlist : RdH G0 vlist list) (vids : Value) (ids : List (Int)) (hids : RdI G0 vids ids)  :
  Calls Tryz.prog 178 #[vlist, vids] w0 (RetO w0 G0 (fun G v r => ∃ u, v = .tuple #[u, .bool (Sp.FileFree list ids).isSome] ∧ AccOf heldE 3 153 ((Sp.FileFree list ids).getD []) G u r)) := by
 obtain ⟨alist, klist, rfl⟩ := hlist.shape
 have hlimlist : list.length ≤ 1099511627776 := hlist.lim
 obtain ⟨aids, kids, rfl⟩ := hids.shape
 have hlimids : ids.length ≤ 1099511627776 := hids.lim
 have H := Hp.init hG
 refine calls_of_W (l := [.slice alist list.length klist, .slice aids ids.length kids]) func178 Z ntmps178 Z (q2 (pe 2 Z (q3 (W_seq (q2 (mV Z (xr H Z2 (StoreValid_c _ _ H.sub _ _ hlist ) ?_))))))); intro _ H
 refine pe 2 Z ?_
 refine R_case (t := 13) Z ?_ ?_
 ·intro hc2
  try simp only [nrm] at hc2
  refine pe 5 Z (q3 (W_true Z (q2 (xbs H Z7 ?_)))); intro _ _ _ H
  have H := H.blkAcc 3 (k := 0) (n := 0) rfl rfl (by decide)
  refine pe 2 Z (q3 (W_ret (N_K_ret (rt2 results178 Z Z ?_))))
  have hN : Sp.FileFree list ids = none := by simp [Sp.FileFree, hc2]
  exact H.retO (k := 0) rfl (by rw [hN]; exact ⟨_, rfl, AccOf.mk aN (Chk.nil (E := heldE) (sz := 3) (G := G0))⟩) (acc_nd _ _ _ _ _)
 intro hc2'
 try simp only [nrm] at hc2'
 refine pe 2 Z (gR Z (xr H Z2 (l4Ids_c _ _ H.sub _ _ hlist _ _ hids ) ?_)); intro _ H
 refine pe 2 Z (q3 ?_)
 refine W_cond Z ?_ ?_
 ·intro hc5
  try simp only [nrm] at hc5
  refine q2 (xbs H Z7 ?_); intro _ _ _ H
  have H := H.blkAcc 3 (k := 0) (n := 0) rfl rfl (by decide)
  refine pe 2 Z (q3 (W_ret (N_K_ret (rt2 results178 Z Z ?_))))
  have hN : Sp.FileFree list ids = none := by simp [Sp.FileFree, hc5]
  exact H.retO (k := 0) rfl (by rw [hN]; exact ⟨_, rfl, AccOf.mk aN (Chk.nil (E := heldE) (sz := 3) (G := G0))⟩) (acc_nd _ _ _ _ _)
 intro hc5'
 try simp only [nrm] at hc5'
 refine W_skip (N_K (q2 (mV Z (xc Z2 (l3Copy_c _ _ H.sub _ _ hlist ) ?_))))
 rintro _ _ ⟨G7, _, _, g7, rfl, ⟨_, rfl, hchk7⟩, hp7, hq7, hs7⟩
 have H := H.growO g7 hp7 hq7 hs7; obtain ⟨_, _, rfl⟩ := H.accShape (k := 0) rfl
 have hids := hids.up g7.le
 refine ⟨_, Z, ?_⟩
 refine aG Z (q3 (W_seq (q2 (aG Z (q3 (W_block ?_))))))
 refine W_lp (hf := (Sub.cons (t := 1) Z Sub.nil)) (J := fun M w m => ∃ (v : Value) (n : Nat) (cs : List Value) (xs : List (BHeld)) (k : Nat) (G : PH), M = [(7, .int .i64 (k : Int)), (6, v)] ∧ PLe G7 G ∧ Hp w0 G0 [] w G [acc 153 3 v n cs] ∧ (Chk heldE 3 G cs xs ∧ n = xs.length ∧ k ≤ ids.length ∧ xs.length ≤ 1000 ∧ Sp.foldB Sp.StoreDrop (ids.take k) (some list) = some xs) ∧ m = (ids.length - k)) (h0 := ⟨_, _, _, list, 0, _, Z, PLe.refl _, H, ?inv, Z⟩) (round := ?round)
 case inv => exact ⟨hchk7,  by first | rfl | simp | (simp; omega) | omega, (by exact ⟨by omega, by have := Sp.valid_len hc2'; omega, by simp [Sp.foldB]⟩)⟩
 case round =>
  rintro _ _ _ ⟨v, n, cs, xs, k, _, rfl, hle8, H, hinv8, rfl⟩
  have hids := hids.up hle8
  obtain ⟨hchk8_0, _, hinv8⟩ := hinv8
  obtain ⟨_, _, rfl⟩ := H.accShape (k := 0) rfl
  obtain ⟨_, _, hf⟩ := hinv8
  refine W_seq (q2 (pe 2 Z (lN Z (pe 1 Z (q3 ?_)))))
  refine W_cond Z ?_ ?_
  ·intro hc9
   try simp only [nrm] at hc9
   refine W_skip (N_K (W_seq (W_block (q2 (pe 3 Z (iP k hids Z3 Z ?_)))))); intro _ _ z10 _ hz10 hE10 hrow10
   obtain ⟨rfl, _⟩ := hE10
   refine lP H hrow10 0 Z2 ?_
   obtain ⟨_, H, hsg12, hsr12⟩ := H.shut' (k := 0) rfl hchk8_0 aN aN
   have hle8 := hle8.trans hsg12
   refine xc Z2 (StoreDrop_c _ _ H.sub _ _ hsr12 _ ) ?_
   rintro _ _ ⟨G11, _, _, g11, rfl, ⟨_, rfl, ⟨_, rfl, hchk11⟩⟩, hp11, hq11, hs11⟩
   have H := H.growO g11 hp11 hq11 hs11; obtain ⟨_, _, rfl⟩ := H.accShape (k := 0) rfl
   have hle8 := hle8.trans g11.le
   refine ⟨_, Z, ?_⟩
   refine pe 5 Z (q3 (W_seq (q2 (pe 2 Z (q3 ?_)))))
   refine W_cond Z ?_ ?_
   ·intro hc13
    try simp only [nrm] at hc13
    refine q2 (xbs H Z7 ?_); intro _ _ _ H
    have H := H.blkAcc 3 (k := 0) (n := 0) rfl rfl (by decide)
    refine pe 2 Z (q3 (W_ret (N_K_ret (N_B_ret (N_K_ret (N_LP_ret (N_B_ret (N_K_ret (rt2 results178 Z Z ?_)))))))))
    have hN : Sp.FileFree list ids = none := by (have hno : Sp.StoreDrop xs z10 = none := by simpa using hc13); simp only [Sp.FileFree, hc2', hc5', Bool.and_self, if_true]; exact Sp.foldB_stop hf hz10 hno
    exact H.retO (k := 0) rfl (by rw [hN]; exact ⟨_, rfl, AccOf.mk aN (Chk.nil (E := heldE) (sz := 3) (G := G11))⟩) (acc_nd _ _ _ _ _)
   intro hc13'
   try simp only [nrm] at hc13'
   obtain ⟨p, hsp⟩ := Option.isSome_iff_exists.1 hc13'
   rw [hsp] at H hchk11 ⊢
   dsimp only [Option.map, Option.getD] at H hchk11
   refine W_skip (N_K (W_region (pe 2 Z (R_nil (N_B (N_K (W_region (mV Z (aD Z2 (aG Z (R_nil ?_)))))))))))
   refine N_lp (hJ := ⟨_, _, _, p, k + 1, _, Z, hle8, H, ?inv, Z⟩) (hm := ?hm)
   case hm => omega
   case inv => exact ⟨hchk11, aN, (by exact ⟨by omega, by have := Sp.drop_len hsp; omega, Sp.foldB_succ hf hz10 hsp⟩)⟩
  intro hc9'
  try simp only [nrm] at hc9'
  refine W_exit (N_K_exit (N_LP_exit (N_B_same (N_K (q2 (pe 3 Z (q3 (W_ret (rt2 results178 Z Z ?_)))))))))
  have hY : Sp.FileFree list ids = some xs := by simp only [Sp.FileFree, hc2', hc5', Bool.and_self, if_true]; exact Sp.foldB_all hf oM
  exact H.retO (k := 0) rfl (by rw [hY]; exact ⟨_, rfl, AccOf.mk aN hchk8_0⟩) (acc_nd _ _ _ _ _)
end Go.Proofs.Tst

namespace Go.Proofs.Tst
open Go Fw Tryz
theorem l5Copy_c (w0 : World) (G0 : PH) (hG : PSub G0 w0) (cx : List Value) (x : BItem) (hx : itemE G0 x cx)  :
  Calls Tryz.prog 148 #[.agg cx.toArray] w0 (RetP w0 G0 (fun G v => ∃ cs, v = .agg cs.toArray ∧ itemE G x cs)) := by
 obtain ⟨_, _, _, rfl, hi1, hr1, _, _⟩ := ox hx
 have H := Hp.init hG
 refine calls_of_W (l := [_]) func148 Z ntmps148 Z (q2 (o_box H Z Z Z ?_)); intro _ _ _ H
 refine xal H Z ?_; intro _ _ _ H
 refine q1 (xbs H Z7 ?_); intro _ _ _ H
 have H := H.blkAcc 1 (k := 0) (n := 0) rfl rfl (by decide)
 refine fA 2 Z (lB 2 H Z3 ?_)
 refine o_append_P 0 H hr1 (by intro _ _ hz _ hu; obtain ⟨rfl, _⟩ := hz; simp at hu; subst hu; rfl) (sz := 1) (bytes := 8) underlying33 typeInfo3 ⟨_, rfl, rfl⟩ rfl rfl rfl rfl rfl rfl rfl oM rfl ?_; intro _ _ css5 hcl5 hcs5 H
 have hchk5 : Chk intE 1 G0 ([] ++ css5.flatten) _ := ⟨css5, rfl, hcl5, hcs5⟩
 obtain ⟨_, _, rfl⟩ := H.accShape (k := 0) rfl
 refine fA 2 Z (xst 2 H Z8 ?_); intro _ H
 refine q1 (lA 2 3 H Z4 (xst 1 H Z8 ?_)); intro _ H
 refine q3 (W_ret (ret_gen (rs := [.cell 2 35]) (vs := [_]) results148 ⟨⟨_, Z, load_blk 1 H isAgg35 sizeOf35 Z Z Z⟩, trivial⟩ ?_))
 obtain ⟨_, H, hsg509, hsr509⟩ := H.shut' (k := 0) rfl hchk5 aN aN
 exact H.retP ⟨_, Z, ⟨_, _, _, Z, hi1, hsr509⟩⟩
end Go.Proofs.Tst

namespace Go.Proofs.Tst
open Go Fw Tryz
theorem l5All_c (w0 : World) (G0 : PH) (hG : PSub G0 w0) (vlist : Value) (list : List (BItem)) (hlist : RdItems G0 vlist list)  :
  Calls Tryz.prog 67 #[vlist] w0 (RetO w0 G0 (AccOf itemE 3 35 list)) := by
 obtain ⟨alist, klist, rfl⟩ := hlist.shape
 have hlimlist : list.length ≤ 1099511627776 := hlist.lim
 have H := Hp.init hG
 refine calls_of_W (l := [.slice alist list.length klist]) func67 Z ntmps67 Z (q2 (aG Z (q1 (xbs H Z7 ?_)))); intro _ _ _ H
 have H := H.blkAcc 3 (k := 0) (n := 0) rfl rfl (by decide)
 refine aG Z (q3 (W_seq (q2 (aG Z (q3 (W_block ?_))))))
 refine W_lp (hf := (Sub.cons (t := 0) Z (Sub.cons (t := 2) Z Sub.nil))) (J := fun M w m => ∃ (v : Value) (n : Nat) (cs : List Value) (xs : List (BItem)) (k : Nat) (G : PH), M = [(4, .int .i64 (k : Int)), (3, v)] ∧ PLe G0 G ∧ Hp w0 G0 [] w G [acc 35 3 v n cs] ∧ (Chk itemE 3 G cs xs ∧ n = xs.length ∧ k ≤ list.length ∧ xs.length = k ∧ xs = list.take k) ∧ m = (list.length - k)) (h0 := ⟨_, _, _, [], 0, _, Z, PLe.refl _, H, ?inv, Z⟩) (round := ?round)
 case inv => exact ⟨(Chk.nil (E := itemE) (sz := 3) (G := G0)),  by first | rfl | simp | (simp; omega) | omega, (by simp)⟩
 case round =>
  rintro _ _ _ ⟨v, n, cs, xs, k, _, rfl, hle2, H, hinv2, rfl⟩
  have hlist := hlist.up hle2
  obtain ⟨hchk2_0, _, hinv2⟩ := hinv2
  obtain ⟨_, _, rfl⟩ := H.accShape (k := 0) rfl
  obtain ⟨_, hxl, hxs⟩ := hinv2
  refine W_seq (q2 (pe 2 Z (lN Z (pe 1 Z (q3 ?_)))))
  refine W_cond Z ?_ ?_
  ·intro hc3
   try simp only [nrm] at hc3
   refine W_skip (N_K (W_seq (W_block (W_region (pe 3 Z (iP k hlist Z3 Z ?_)))))); intro _ _ z4 _ hz4 hE4 hrow4
   obtain ⟨_, _, _, rfl, hi4, hr4, _, _⟩ := ox hE4
   refine o_loadagg_P H isAgg35 sizeOf35 Z Z hrow4 Z (xc Z2 (l5Copy_c _ _ H.sub _ _ ⟨_, _, _, Z, hi4, hr4⟩ ) ?_)
   rintro _ _ ⟨_, _, g5, rfl, _, rfl, hr5_0⟩
   have H := H.grow g5
   have hchk2_0 := hchk2_0.up g5.le
   have hle2 := hle2.trans g5.le
   obtain ⟨_, _, _, rfl, hi6, hr6, _, _⟩ := ox hr5_0
   refine ⟨_, Z, ?_⟩
   refine xbs H Z7 ?_; intro _ _ _ H
   refine o_append1 0 H (sz := 3) (bytes := 48) underlying24 typeInfo35 ⟨_, Z, Z⟩ Z Z Z Z Z Z Z Z Z Z oM Z ?_; intro _ _ H
   have hchk8 := hchk2_0.snoc (show itemE _ z4 _ from ⟨_, _, _, rfl, hi6, hr6⟩) rfl
   obtain ⟨_, _, rfl⟩ := H.accShape (k := 0) rfl
   refine aG Z (R_nil (N_B (N_K (W_region (mV Z (aD Z2 (aG Z (R_nil ?_))))))))
   refine N_lp (hJ := ⟨_, _, _, (xs ++ [z4]), k + 1, _, Z, hle2, H, ?inv, Z⟩) (hm := ?hm)
   case hm => omega
   case inv => exact ⟨hchk8, aN, (by exact ⟨by omega, by simp [hxl], by rw [Sp.take_succ' hz4, hxs]⟩)⟩
  intro hc3'
  try simp only [nrm] at hc3'
  refine W_exit (N_K_exit (N_LP_exit (N_B_same (N_K (q2 (pe 2 Z (q3 (W_ret (rt1 results67 Z ?_)))))))))
  obtain rfl : k = list.length := by omega
  rw [List.take_length] at hxs
  subst hxs
  exact H.retO (k := 0) rfl (AccOf.mk (by assumption) hchk2_0) (acc_nd _ _ _ _ _)
end Go.Proofs.Tst

namespace Go.Proofs.Tst
open Go Fw Tryz
theorem l5Put_c (w0 : World) (G0 : PH) (hG : PSub G0 w0) (vlist : Value) (list : List (BItem)) (hlist : RdItems G0 vlist list) (cx : List Value) (x : BItem) (hx : itemE G0 x cx) (hS : list.length ≤ 1000000) :
  Calls Tryz.prog 223 #[vlist, .agg cx.toArray] w0 (RetO w0 G0 (AccOf itemE 3 35 (Sp.l5Put list x))) := by
 obtain ⟨alist, klist, rfl⟩ := hlist.shape
 have hlimlist : list.length ≤ 1099511627776 := hlist.lim
 obtain ⟨_, _, _, rfl, hi1, hr1, _, _⟩ := ox hx
 have H := Hp.init hG
 refine calls_of_W (l := [.slice alist list.length klist, _]) func223 Z ntmps223 Z (q2 (o_box H Z Z Z ?_)); intro b2 _ _ H
 refine aG Z (q1 (xbs H Z7 ?_)); intro _ _ _ H
 have H := H.blkAcc 3 (k := 0) (n := 0) rfl rfl (by decide)
 refine aG Z (q1 (aG Z (q3 (W_seq (q2 (aG Z (q3 (W_block ?_))))))))
 obtain ⟨ln4, hln4, H⟩ := H.name (k := 1) rfl
 refine W_lp (hf := (Sub.cons (t := 0) Z (Sub.cons (t := 3) Z (Sub.cons (t := 4) Z Sub.nil)))) (J := fun M w m => ∃ (v : Value) (n : Nat) (cs : List Value) (xs : List (BItem)) (d : Bool) (k : Nat) (G : PH), M = [(6, .bool d), (7, .int .i64 (k : Int)), (5, v)] ∧ PLe G0 G ∧ Hp w0 G0 [] w G [acc 35 3 v n cs, blk b2 (cl ln4 35)] ∧ (Chk itemE 3 G cs xs ∧ n = xs.length ∧ k ≤ list.length ∧ xs.length ≤ k + 1 ∧ (d = false → xs.length ≤ k) ∧ xs ++ Sp.putGo x d (list.drop k) = Sp.l5Put list x) ∧ m = (list.length - k)) (h0 := ⟨_, _, _, [], false, 0, _, Z, PLe.refl _, H, ?inv, Z⟩) (round := ?round)
 case inv => exact ⟨(Chk.nil (E := itemE) (sz := 3) (G := G0)),  by first | rfl | simp | (simp; omega) | omega, (by simp [Sp.l5Put])⟩
 case round =>
  rintro _ _ _ ⟨v, n, cs, xs, d, k, G5, rfl, hle5, H, hinv5, rfl⟩
  subst hln4
  have hlist := hlist.up hle5
  have hr1 := hr1.up hle5
  obtain ⟨hchk5_0, _, hinv5⟩ := hinv5
  obtain ⟨_, _, rfl⟩ := H.accShape (k := 0) rfl
  obtain ⟨_, _, hxd, hp⟩ := hinv5
  refine W_seq (q2 (pe 2 Z (lN Z (pe 1 Z (q3 ?_)))))
  refine W_cond Z ?_ ?_
  ·intro hc6
   try simp only [nrm] at hc6
   refine W_skip (N_K (W_seq (W_block (W_seq (W_seq (W_drawK [1] 12 H kR Z ?_)))))); intro _ H; have hd7 := PLe.refl G5
   refine dE 0 Z2 (dE 1 Z2 (dE 2 Z2 ?_))
   refine RD_case (t := 17) Z ?_ ?_
   ·intro hc8
    try simp only [nrm] at hc8
    refine dE 3 Z2 (dE 4 Z2 ?_)
    have hl9 := hlist.len
    obtain ⟨_, _, z9, _, ha9, hz9, hq9, hE9, hrow9, _⟩ := hlist.at (i := k) oM
    clear hq9
    obtain ⟨_, _, _, rfl, _, hr9, _, _⟩ := ox hE9
    refine dI 5 3 k ha9 Z3 Z (dF 6 0 Z2 (dP 7 hrow9 0 Z3 (dF 8 0 Z2 (dB 9 0 Z4 (RD_tg 10 Z kR Z (yl Z Z) (fun _ hK => v_sgeq Z Z) (dE 11 Z2 (rz (N_K ?_))))))))
    refine W_cond Z ?_ ?_
    ·intro hc10
     try simp only [nrm] at hc10
     refine q2 (mV Z (lA 1 3 H Z4 (xc Z2 (l5Copy_c _ _ H.sub _ x ⟨_, _, _, Z, hi1, hr1⟩ ) ?_)))
     rintro _ _ ⟨G11, _, g11, rfl, _, rfl, hr11_0⟩
     have H := H.grow g11
     have hlist := hlist.up g11.le
     have hchk5_0 := hchk5_0.up g11.le
     have hle5 := hle5.trans g11.le
     obtain ⟨_, _, _, rfl, hi12, hr12, _, _⟩ := ox hr11_0
     refine ⟨_, Z, ?_⟩
     refine xbs H Z7 ?_; intro _ _ _ H
     refine o_append1 0 H (sz := 3) (bytes := 48) underlying24 typeInfo35 ⟨_, Z, Z⟩ Z Z Z Z Z Z Z Z Z Z oM Z ?_; intro _ _ H
     have hchk14 := hchk5_0.snoc (show itemE _ x _ from ⟨_, _, _, rfl, hi12, hr12⟩) rfl
     obtain ⟨_, _, rfl⟩ := H.accShape (k := 0) rfl
     refine aG Z (q3 (W_region (aG Z (q3 (W_seq (W_drawK [1] 8 H kR Z ?_)))))); intro _ H; have hd15 := PLe.refl G11
     refine dE 0 Z2 (dE 1 Z2 ?_)
     have hl16 := hlist.len
     obtain ⟨_, _, z16, _, ha16, hz16, hq16, hE16, hrow16, _⟩ := hlist.at (i := k) oM
     clear hq16
     obtain ⟨_, _, _, rfl, _, hr16, _, _⟩ := ox hE16
     have hzz16 : z9 = z16 := Option.some.inj (hz9.symm.trans hz16)
     subst hzz16
     refine dI 2 3 k ha16 Z3 Z (dF 3 0 Z2 (dP 4 hrow16 0 Z3 (dF 5 0 Z2 (dB 6 0 Z4 (RD_t 7 Z kR Z (fun _ hK => v_sneq Z Z) (rz (N_K ?_)))))))
     refine W_cond Z ?_ ?_
     ·intro hc17
      try simp only [nrm] at hc17
      refine W_region (pe 3 Z (iP k hlist Z3 Z ?_)); intro _ _ z18 _ hz18 hE18 hrow18
      obtain ⟨_, _, _, rfl, hi18, hr18, _, _⟩ := ox hE18
      have hzz18 : z9 = z18 := Option.some.inj (hz9.symm.trans hz18)
      subst hzz18
      refine o_loadagg_P H isAgg35 sizeOf35 Z Z hrow18 Z (xc Z2 (l5Copy_c _ _ H.sub _ _ ⟨_, _, _, Z, hi18, hr18⟩ ) ?_)
      rintro _ _ ⟨_, _, g19, rfl, _, rfl, hr19_0⟩
      have H := H.grow g19
      have hchk14 := hchk14.up g19.le
      have hle5 := hle5.trans g19.le
      obtain ⟨_, _, _, rfl, hi20, hr20, _, _⟩ := ox hr19_0
      refine ⟨_, Z, ?_⟩
      refine xbs H Z7 ?_; intro _ _ _ H
      refine o_append1 0 H (sz := 3) (bytes := 48) underlying24 typeInfo35 ⟨_, Z, Z⟩ Z Z Z Z Z Z Z Z Z Z oM Z ?_; intro _ _ H
      have hchk22 := hchk14.snoc (show itemE _ z9 _ from ⟨_, _, _, rfl, hi20, hr20⟩) rfl
      obtain ⟨_, _, rfl⟩ := H.accShape (k := 0) rfl
      refine aG Z (R_nil (N_B (N_K (W_region (mV Z (aD Z2 (aG Z (R_nil ?_))))))))
      refine N_lp (hJ := ⟨_, _, _, ((xs ++ [x]) ++ [z9]), true, k + 1, _, Z, hle5, H, ?inv, Z⟩) (hm := ?hm)
      case hm => omega
      case inv => exact ⟨hchk22, aN, (by exact ⟨by omega, by have := hxd (by assumption); simp; omega, by simp, by rw [Sp.drop_at hz9] at hp; rw [← hp]; (first | rw [Sp.putA (by assumption) (by assumption) (by assumption)] | rw [Sp.putB (by assumption) (by assumption) (by assumption)] | rw [Sp.putC (by assumption) (by assumption)] | rw [Sp.putC' (by assumption) (by assumption)] | rw [Sp.putD (by assumption) (by assumption)] | rw [Sp.putD' (by assumption) (by assumption)]) <;> simp⟩)⟩
     intro hc17'
     try simp only [nrm] at hc17'
     refine W_skip (N_B (N_K (W_region (mV Z (aD Z2 (aG Z (R_nil ?_)))))))
     refine N_lp (hJ := ⟨_, _, _, (xs ++ [x]), true, k + 1, _, Z, hle5, H, ?inv, Z⟩) (hm := ?hm)
     case hm => omega
     case inv => exact ⟨hchk14, aN, (by exact ⟨by omega, by have := hxd (by assumption); simp; omega, by simp, by rw [Sp.drop_at hz9] at hp; rw [← hp]; (first | rw [Sp.putA (by assumption) (by assumption) (by assumption)] | rw [Sp.putB (by assumption) (by assumption) (by assumption)] | rw [Sp.putC (by assumption) (by assumption)] | rw [Sp.putC' (by assumption) (by assumption)] | rw [Sp.putD (by assumption) (by assumption)] | rw [Sp.putD' (by assumption) (by assumption)]) <;> simp⟩)⟩
    intro hc10'
    try simp only [nrm] at hc10'
    refine W_skip (N_K (W_seq (W_drawK [1] 8 H kR Z ?_))); intro _ H; have hd25 := PLe.refl G5
    refine dE 0 Z2 (dE 1 Z2 ?_)
    have hl26 := hlist.len
    obtain ⟨_, _, z26, _, ha26, hz26, hq26, hE26, hrow26, _⟩ := hlist.at (i := k) oM
    clear hq26
    obtain ⟨_, _, _, rfl, _, hr26, _, _⟩ := ox hE26
    have hzz26 : z9 = z26 := Option.some.inj (hz9.symm.trans hz26)
    subst hzz26
    refine dI 2 3 k ha26 Z3 Z (dF 3 0 Z2 (dP 4 hrow26 0 Z3 (dF 5 0 Z2 (dB 6 0 Z4 (RD_t 7 Z kR Z (fun _ hK => v_sneq Z Z) (rz (N_K ?_)))))))
    refine W_cond Z ?_ ?_
    ·intro hc27
     try simp only [nrm] at hc27
     refine W_region (pe 3 Z (iP k hlist Z3 Z ?_)); intro _ _ z28 _ hz28 hE28 hrow28
     obtain ⟨_, _, _, rfl, hi28, hr28, _, _⟩ := ox hE28
     have hzz28 : z9 = z28 := Option.some.inj (hz9.symm.trans hz28)
     subst hzz28
     refine o_loadagg_P H isAgg35 sizeOf35 Z Z hrow28 Z (xc Z2 (l5Copy_c _ _ H.sub _ _ ⟨_, _, _, Z, hi28, hr28⟩ ) ?_)
     rintro _ _ ⟨_, _, g29, rfl, _, rfl, hr29_0⟩
     have H := H.grow g29
     have hchk5_0 := hchk5_0.up g29.le
     have hle5 := hle5.trans g29.le
     obtain ⟨_, _, _, rfl, hi30, hr30, _, _⟩ := ox hr29_0
     refine ⟨_, Z, ?_⟩
     refine xbs H Z7 ?_; intro _ _ _ H
     refine o_append1 0 H (sz := 3) (bytes := 48) underlying24 typeInfo35 ⟨_, Z, Z⟩ Z Z Z Z Z Z Z Z Z Z oM Z ?_; intro _ _ H
     have hchk32 := hchk5_0.snoc (show itemE _ z9 _ from ⟨_, _, _, rfl, hi30, hr30⟩) rfl
     obtain ⟨_, _, rfl⟩ := H.accShape (k := 0) rfl
     refine aG Z (R_nil (N_B (N_K (W_region (mV Z (aD Z2 (aG Z (R_nil ?_))))))))
     refine N_lp (hJ := ⟨_, _, _, (xs ++ [z9]), d, k + 1, _, Z, hle5, H, ?inv, Z⟩) (hm := ?hm)
     case hm => omega
     case inv => exact ⟨hchk32, aN, (by exact ⟨by omega, by first | omega | (simp; omega), fun h => by have := hxd h; first | omega | (simp; omega), by rw [Sp.drop_at hz9] at hp; rw [← hp]; (first | rw [Sp.putA (by assumption) (by assumption) (by assumption)] | rw [Sp.putB (by assumption) (by assumption) (by assumption)] | rw [Sp.putC (by assumption) (by assumption)] | rw [Sp.putC' (by assumption) (by assumption)] | rw [Sp.putD (by assumption) (by assumption)] | rw [Sp.putD' (by assumption) (by assumption)]) <;> simp⟩)⟩
    intro hc27'
    try simp only [nrm] at hc27'
    refine W_skip (N_B (N_K (W_region (mV Z (aD Z2 (aG Z (R_nil ?_)))))))
    refine N_lp (hJ := ⟨_, _, _, xs, d, k + 1, _, Z, hle5, H, ?inv, Z⟩) (hm := ?hm)
    case hm => omega
    case inv => exact ⟨hchk5_0, aN, (by exact ⟨by omega, by first | omega | (simp; omega), fun h => by have := hxd h; first | omega | (simp; omega), by rw [Sp.drop_at hz9] at hp; rw [← hp]; (first | rw [Sp.putA (by assumption) (by assumption) (by assumption)] | rw [Sp.putB (by assumption) (by assumption) (by assumption)] | rw [Sp.putC (by assumption) (by assumption)] | rw [Sp.putC' (by assumption) (by assumption)] | rw [Sp.putD (by assumption) (by assumption)] | rw [Sp.putD' (by assumption) (by assumption)]) <;> simp⟩)⟩
   intro hc8'
   try simp only [nrm] at hc8'
   refine dE 3 Z2 (dE 4 Z2 (dE 5 Z2 (dE 6 Z2 (dE 7 Z2 (dE 8 Z2 (dE 9 Z2 (dE 10 Z2 (dE 11 Z2 (rz (N_K (W_false Z (W_skip (N_K (W_seq (W_drawK [1] 8 H kR Z ?_))))))))))))))); intro _ H; have hd35 := PLe.refl G5
   refine dE 0 Z2 (dE 1 Z2 ?_)
   have hl36 := hlist.len
   obtain ⟨_, _, z36, _, ha36, hz36, hq36, hE36, hrow36, _⟩ := hlist.at (i := k) oM
   clear hq36
   obtain ⟨_, _, _, rfl, _, hr36, _, _⟩ := ox hE36
   refine dI 2 3 k ha36 Z3 Z (dF 3 0 Z2 (dP 4 hrow36 0 Z3 (dF 5 0 Z2 (dB 6 0 Z4 (RD_t 7 Z kR Z (fun _ hK => v_sneq Z Z) (rz (N_K ?_)))))))
   refine W_cond Z ?_ ?_
   ·intro hc37
    try simp only [nrm] at hc37
    refine W_region (pe 3 Z (iP k hlist Z3 Z ?_)); intro _ _ z38 _ hz38 hE38 hrow38
    obtain ⟨_, _, _, rfl, hi38, hr38, _, _⟩ := ox hE38
    have hzz38 : z36 = z38 := Option.some.inj (hz36.symm.trans hz38)
    subst hzz38
    refine o_loadagg_P H isAgg35 sizeOf35 Z Z hrow38 Z (xc Z2 (l5Copy_c _ _ H.sub _ _ ⟨_, _, _, Z, hi38, hr38⟩ ) ?_)
    rintro _ _ ⟨_, _, g39, rfl, _, rfl, hr39_0⟩
    have H := H.grow g39
    have hchk5_0 := hchk5_0.up g39.le
    have hle5 := hle5.trans g39.le
    obtain ⟨_, _, _, rfl, hi40, hr40, _, _⟩ := ox hr39_0
    refine ⟨_, Z, ?_⟩
    refine xbs H Z7 ?_; intro _ _ _ H
    refine o_append1 0 H (sz := 3) (bytes := 48) underlying24 typeInfo35 ⟨_, Z, Z⟩ Z Z Z Z Z Z Z Z Z Z oM Z ?_; intro _ _ H
    have hchk42 := hchk5_0.snoc (show itemE _ z36 _ from ⟨_, _, _, rfl, hi40, hr40⟩) rfl
    obtain ⟨_, _, rfl⟩ := H.accShape (k := 0) rfl
    refine aG Z (R_nil (N_B (N_K (W_region (mV Z (aD Z2 (aG Z (R_nil ?_))))))))
    refine N_lp (hJ := ⟨_, _, _, (xs ++ [z36]), d, k + 1, _, Z, hle5, H, ?inv, Z⟩) (hm := ?hm)
    case hm => omega
    case inv => exact ⟨hchk42, aN, (by exact ⟨by omega, by first | omega | (simp; omega), fun h => by have := hxd h; first | omega | (simp; omega), by rw [Sp.drop_at hz36] at hp; rw [← hp]; (first | rw [Sp.putA (by assumption) (by assumption) (by assumption)] | rw [Sp.putB (by assumption) (by assumption) (by assumption)] | rw [Sp.putC (by assumption) (by assumption)] | rw [Sp.putC' (by assumption) (by assumption)] | rw [Sp.putD (by assumption) (by assumption)] | rw [Sp.putD' (by assumption) (by assumption)]) <;> simp⟩)⟩
   intro hc37'
   try simp only [nrm] at hc37'
   refine W_skip (N_B (N_K (W_region (mV Z (aD Z2 (aG Z (R_nil ?_)))))))
   refine N_lp (hJ := ⟨_, _, _, xs, d, k + 1, _, Z, hle5, H, ?inv, Z⟩) (hm := ?hm)
   case hm => omega
   case inv => exact ⟨hchk5_0, aN, (by exact ⟨by omega, by first | omega | (simp; omega), fun h => by have := hxd h; first | omega | (simp; omega), by rw [Sp.drop_at hz36] at hp; rw [← hp]; (first | rw [Sp.putA (by assumption) (by assumption) (by assumption)] | rw [Sp.putB (by assumption) (by assumption) (by assumption)] | rw [Sp.putC (by assumption) (by assumption)] | rw [Sp.putC' (by assumption) (by assumption)] | rw [Sp.putD (by assumption) (by assumption)] | rw [Sp.putD' (by assumption) (by assumption)]) <;> simp⟩)⟩
  intro hc6'
  try simp only [nrm] at hc6'
  refine W_exit (N_K_exit (N_LP_exit (N_B_same (N_K (W_seq (q2 (pe 2 Z (q3 ?_))))))))
  refine W_cond Z ?_ ?_
  ·intro hc45
   try simp only [nrm] at hc45
   refine W_region (mV Z (lA 1 3 H Z4 (xc Z2 (l5Copy_c _ _ H.sub _ x ⟨_, _, _, Z, hi1, hr1⟩ ) ?_)))
   rintro _ _ ⟨_, _, g46, rfl, _, rfl, hr46_0⟩
   have H := H.grow g46
   have hchk5_0 := hchk5_0.up g46.le
   obtain ⟨_, _, _, rfl, hi47, hr47, _, _⟩ := ox hr46_0
   refine ⟨_, Z, ?_⟩
   refine xbs H Z7 ?_; intro _ _ _ H
   refine o_append1 0 H (sz := 3) (bytes := 48) underlying24 typeInfo35 ⟨_, Z, Z⟩ Z Z Z Z Z Z Z Z Z Z oM Z ?_; intro _ _ H
   have hchk49 := hchk5_0.snoc (show itemE _ x _ from ⟨_, _, _, rfl, hi47, hr47⟩) rfl
   obtain ⟨_, _, rfl⟩ := H.accShape (k := 0) rfl
   refine aG Z (q1 (pe 2 Z (q3 (W_ret (rt1 results223 Z ?_)))))
   rw [List.drop_of_length_le oM] at hp
   exact H.retO (k := 0) rfl (by rw [← hp, Sp.putGo, if_neg (by simp [*])]; exact AccOf.mk aN hchk49) (acc_nd _ _ _ _ _)
  intro hc45'
  try simp only [nrm] at hc45'
  refine W_skip (N_K (q2 (pe 2 Z (q3 (W_ret (rt1 results223 Z ?_))))))
  rw [List.drop_of_length_le oM] at hp
  exact H.retO (k := 0) rfl (by rw [← hp, Sp.putGo, if_pos (by assumption), List.append_nil]; exact AccOf.mk aN hchk5_0) (acc_nd _ _ _ _ _)
end Go.Proofs.Tst

namespace Go.Proofs.Tst
open Go Fw Tryz
theorem TreePut_c (w0 : World) (G0 : PH) (hG : PSub G0 w0) (vlist : Value) (list : List (BItem)) (hlist : RdItems G0 vlist list) (cx : List Value) (x : BItem) (hx : itemE G0 x cx)  :
  Calls Tryz.prog 179 #[vlist, .agg cx.toArray] w0 (RetP w0 G0 (fun G v => ∃ u, v = .tuple #[u, .bool (Sp.TreePut list x).isSome] ∧ RdItems G u ((Sp.TreePut list x).getD []))) := by
 obtain ⟨alist, klist, rfl⟩ := hlist.shape
 have hlimlist : list.length ≤ 1099511627776 := hlist.lim
 obtain ⟨_, _, _, rfl, hi1, hr1, _, _⟩ := ox hx
 have H := Hp.init hG
 refine calls_of_W (l := [.slice alist list.length klist, _]) func179 Z ntmps179 Z (q2 (o_box H Z Z Z ?_)); intro _ _ _ H
 refine pe 2 Z (q3 (W_seq (q2 (mV Z (xr H Z2 (TreeValid_c _ _ H.sub _ _ hlist ) ?_))))); intro _ H
 refine pe 2 Z ?_
 refine R_case (t := 11) Z ?_ ?_
 ·intro hc4
  try simp only [nrm] at hc4
  refine pe 4 Z (q3 (W_true Z (q2 (xbs H Z7 ?_)))); intro _ _ _ H
  have H := H.blkAcc 3 (k := 0) (n := 0) rfl rfl (by decide)
  refine pe 2 Z (q3 (W_ret (N_K_ret (rt2 results179 Z Z ?_))))
  obtain ⟨_, H, hsg507, hsr507⟩ := H.shut' (k := 0) rfl (Chk.nil (E := itemE) (sz := 3) (G := G0)) aN aN
  have hY : Sp.TreePut list x = none := by simp [Sp.TreePut, hc4]
  exact H.retP (by rw [hY]; exact ⟨_, rfl, hsr507⟩)
 intro hc4'
 try simp only [nrm] at hc4'
 have htl := Sp.tree_len hc4'
 refine gR Z (lA 0 3 H Z4 (gR Z (xr H Z2 (l5Item_c _ _ H.sub _ x ⟨_, _, _, Z, hi1, hr1⟩ ) ?_))); intro _ H
 refine pe 2 Z (q3 ?_)
 refine W_cond Z ?_ ?_
 ·intro hc7
  try simp only [nrm] at hc7
  refine q2 (xbs H Z7 ?_); intro _ _ _ H
  have H := H.blkAcc 3 (k := 0) (n := 0) rfl rfl (by decide)
  refine pe 2 Z (q3 (W_ret (N_K_ret (rt2 results179 Z Z ?_))))
  obtain ⟨_, H, hsg511, hsr511⟩ := H.shut' (k := 0) rfl (Chk.nil (E := itemE) (sz := 3) (G := G0)) aN aN
  have hY : Sp.TreePut list x = none := by simp [Sp.TreePut, hc7]
  exact H.retP (by rw [hY]; exact ⟨_, rfl, hsr511⟩)
 intro hc7'
 try simp only [nrm] at hc7'
 refine W_skip (N_K (q2 (mV Z (fA 0 Z (lB 0 H Z3 (xr H Z2 (l5At_c _ _ H.sub _ _ hlist _ hi1 ) ?_)))))); intro _ H
 refine aG Z (q3 (W_seq (q2 (pe 3 Z ?_))))
 refine R_case (t := 23) Z ?_ ?_
 ·intro hc10
  try simp only [nrm] at hc10
  obtain ⟨i, _, ia, ib, _, _, _⟩ := Sp.at_nat hc10
  refine pe 2 Z (gR Z (iP i hlist Z3 ib ?_)); intro _ _ _ _ hz11 hE11 hrow11
  obtain ⟨_, _, _, rfl, _, hr11, _, _⟩ := ox hE11
  refine gR Z (fA 1 Z (gR Z (lP H hrow11 1 Z2 (pe 1 Z ?_))))
  refine R_case (t := 29) Z ?_ ?_
  ·intro hc12
   try simp only [nrm] at hc12
   refine pe 4 Z (q3 (W_true Z (q2 (xbs H Z7 ?_)))); intro _ _ _ H
   have H := H.blkAcc 3 (k := 0) (n := 0) rfl rfl (by decide)
   refine pe 2 Z (q3 (W_ret (N_K_ret (rt2 results179 Z Z ?_))))
   obtain ⟨_, H, hsg517, hsr517⟩ := H.shut' (k := 0) rfl (Chk.nil (E := itemE) (sz := 3) (G := G0)) aN aN
   have hY : Sp.TreePut list x = none := by (have hl : Sp.atI list x.path = some i := ia); simp [Sp.TreePut, hl, hz11, hc12]
   exact H.retP (by rw [hY]; exact ⟨_, rfl, hsr517⟩)
  intro hc12'
  try simp only [nrm] at hc12'
  refine gR Z (fA 1 Z (gR Z (lB 0 H Z3 (pe 2 Z (q3 ?_)))))
  refine W_cond Z ?_ ?_
  ·intro hc14
   try simp only [nrm] at hc14
   refine q2 (xbs H Z7 ?_); intro _ _ _ H
   have H := H.blkAcc 3 (k := 0) (n := 0) rfl rfl (by decide)
   refine pe 2 Z (q3 (W_ret (N_K_ret (rt2 results179 Z Z ?_))))
   obtain ⟨_, H, hsg520, hsr520⟩ := H.shut' (k := 0) rfl (Chk.nil (E := itemE) (sz := 3) (G := G0)) aN aN
   have hY : Sp.TreePut list x = none := by (have hl : Sp.atI list x.path = some i := ia); simp [Sp.TreePut, hl, hz11, hc14]
   exact H.retP (by rw [hY]; exact ⟨_, rfl, hsr520⟩)
  intro hc14'
  try simp only [nrm] at hc14'
  refine W_skip (N_K (q2 (mV Z (lA 0 3 H Z4 (xc Z2 (l5Put_c _ _ H.sub _ _ hlist _ x ⟨_, _, _, Z, hi1, hr1⟩ oM) ?_)))))
  rintro _ _ ⟨G16, _, _, g16, rfl, ⟨_, rfl, hchk16⟩, hp16, hq16, hs16⟩
  have H := H.growO g16 hp16 hq16 hs16; obtain ⟨_, _, rfl⟩ := H.accShape (k := 0) rfl
  refine ⟨_, Z, ?_⟩
  have hpl := Sp.l5Put_len list x
  refine aG Z (q3 (W_seq (q2 (mV Z (xr H Z2 (TreeValid_c _ _ (H.lendSubL [0]) _ _ (H.lendRdL (k := 0) (ks := [0]) Z Z hchk16 aN aN) ) ?_))))); intro _ H
  refine pe 1 Z (q3 ?_)
  refine W_cond Z ?_ ?_
  ·intro hc18
   try simp only [nrm] at hc18
   refine q2 (xbs H Z7 ?_); intro _ _ _ H
   have H := H.blkAcc 3 (k := 0) (n := 0) rfl rfl (by decide)
   refine pe 2 Z (q3 (W_ret (N_K_ret (rt2 results179 Z Z ?_))))
   obtain ⟨_, H, hsg525, hsr525⟩ := H.shut' (k := 0) rfl (Chk.nil (E := itemE) (sz := 3) (G := G16)) aN aN
   have hY : Sp.TreePut list x = none := by (have hl : Sp.atI list x.path = some i := ia); simp [Sp.TreePut, hc18]
   exact H.retP (by rw [hY]; exact ⟨_, rfl, hsr525⟩)
  intro hc18'
  try simp only [nrm] at hc18'
  refine W_skip (N_K (q2 (pe 3 Z (q3 (W_ret (rt2 results179 Z Z ?_))))))
  obtain ⟨_, H, hsg526, hsr526⟩ := H.shut' (k := 0) rfl hchk16 aN aN
  have hY : Sp.TreePut list x = some (Sp.l5Put list x) := by (have hl : Sp.atI list x.path = some i := ia); simp [Sp.TreePut, hl, hz11, hc4', hc7', hc12', hc14', hc18']
  exact H.retP (by rw [hY]; exact ⟨_, rfl, hsr526⟩)
 intro hc10'
 try simp only [nrm] at hc10'
 refine pe 6 Z (R_pass Z (yl_un Z Z) (R_pass Z (yl_un Z Z) (pe 2 Z (q3 (W_false Z (W_skip (N_K (q2 (mV Z (lA 0 3 H Z4 (xc Z2 (l5Put_c _ _ H.sub _ _ hlist _ x ⟨_, _, _, Z, hi1, hr1⟩ oM) ?_)))))))))))
 rintro _ _ ⟨G20, _, _, g20, rfl, ⟨_, rfl, hchk20⟩, hp20, hq20, hs20⟩
 have H := H.growO g20 hp20 hq20 hs20; obtain ⟨_, _, rfl⟩ := H.accShape (k := 0) rfl
 refine ⟨_, Z, ?_⟩
 have hpl := Sp.l5Put_len list x
 refine aG Z (q3 (W_seq (q2 (mV Z (xr H Z2 (TreeValid_c _ _ (H.lendSubL [0]) _ _ (H.lendRdL (k := 0) (ks := [0]) Z Z hchk20 aN aN) ) ?_))))); intro _ H
 refine pe 1 Z (q3 ?_)
 refine W_cond Z ?_ ?_
 ·intro hc22
  try simp only [nrm] at hc22
  refine q2 (xbs H Z7 ?_); intro _ _ _ H
  have H := H.blkAcc 3 (k := 0) (n := 0) rfl rfl (by decide)
  refine pe 2 Z (q3 (W_ret (N_K_ret (rt2 results179 Z Z ?_))))
  obtain ⟨_, H, hsg531, hsr531⟩ := H.shut' (k := 0) rfl (Chk.nil (E := itemE) (sz := 3) (G := G20)) aN aN
  have hY : Sp.TreePut list x = none := by simp [Sp.TreePut, hc22]
  exact H.retP (by rw [hY]; exact ⟨_, rfl, hsr531⟩)
 intro hc22'
 try simp only [nrm] at hc22'
 refine W_skip (N_K (q2 (pe 3 Z (q3 (W_ret (rt2 results179 Z Z ?_))))))
 obtain ⟨_, H, hsg532, hsr532⟩ := H.shut' (k := 0) rfl hchk20 aN aN
 have hY : Sp.TreePut list x = some (Sp.l5Put list x) := by (have hl : Sp.atI list x.path = none := Sp.at_none hc10'); simp [Sp.TreePut, hl, hc4', hc7', hc22']
 exact H.retP (by rw [hY]; exact ⟨_, rfl, hsr532⟩)
end Go.Proofs.Tst

namespace Go.Proofs.Tst
open Go Fw Tryz
theorem TreeDrop_c (w0 : World) (G0 : PH) (hG : PSub G0 w0) (vlist : Value) (list : List (BItem)) (hlist : RdItems G0 vlist list) (path : Bs) (hpath : path.length ≤ 16777216)  :
  Calls Tryz.prog 177 #[vlist, str path] w0 (RetP w0 G0 (fun G v => ∃ u, v = .tuple #[u, .bool (Sp.TreeDrop list path).isSome] ∧ RdItems G u ((Sp.TreeDrop list path).getD []))) := by
 obtain ⟨alist, klist, rfl⟩ := hlist.shape
 have hlimlist : list.length ≤ 1099511627776 := hlist.lim
 have H := Hp.init hG
 refine calls_of_W (l := [.slice alist list.length klist, str path]) func177 Z ntmps177 Z (q2 (pe 2 Z (q1 (pe 2 Z (xr H Z2 (l5At_c _ _ H.sub _ _ hlist _ hpath ) ?_))))); intro _ H
 refine aG Z (q3 (W_seq (q2 (mV Z (xr H Z2 (TreeValid_c _ _ H.sub _ _ hlist ) ?_))))); intro _ H
 refine pe 2 Z ?_
 refine R_case (t := 14) Z ?_ ?_
 ·intro hc3
  try simp only [nrm] at hc3
  refine pe 3 Z (q3 (W_true Z (q2 (xbs H Z7 ?_)))); intro _ _ _ H
  have H := H.blkAcc 3 (k := 0) (n := 0) rfl rfl (by decide)
  refine pe 2 Z (q3 (W_ret (N_K_ret (rt2 results177 Z Z ?_))))
  obtain ⟨_, H, hsg506, hsr506⟩ := H.shut' (k := 0) rfl (Chk.nil (E := itemE) (sz := 3) (G := G0)) aN aN
  have hY : Sp.TreeDrop list path = none := by simp [Sp.TreeDrop, hc3]
  exact H.retP (by rw [hY]; exact ⟨_, rfl, hsr506⟩)
 intro hc3'
 try simp only [nrm] at hc3'
 refine pe 3 Z (q3 ?_)
 refine W_cond Z ?_ ?_
 ·intro hc5
  try simp only [nrm] at hc5
  refine q2 (xbs H Z7 ?_); intro _ _ _ H
  have H := H.blkAcc 3 (k := 0) (n := 0) rfl rfl (by decide)
  refine pe 2 Z (q3 (W_ret (N_K_ret (rt2 results177 Z Z ?_))))
  obtain ⟨_, H, hsg509, hsr509⟩ := H.shut' (k := 0) rfl (Chk.nil (E := itemE) (sz := 3) (G := G0)) aN aN
  have hY : Sp.TreeDrop list path = none := by simp [Sp.TreeDrop, Sp.atI, Sp.at_none hc5]
  exact H.retP (by rw [hY]; exact ⟨_, rfl, hsr509⟩)
 intro hc5'
 try simp only [nrm] at hc5'
 obtain ⟨i, _, hi1, hi2, _, _, _⟩ := Sp.at_nat hc5'
 have hi2 : Sp.l5At list path = (i : Int) := hi2
 have hl : Sp.atI list path = some i := hi1
 have htl := Sp.tree_len hc3'
 refine W_skip (N_K (q2 (mV Z (xc Z2 (l5All_c _ _ H.sub _ _ hlist ) ?_))))
 rintro _ _ ⟨G7, _, _, g7, rfl, ⟨_, rfl, hchk7⟩, hp7, hq7, hs7⟩
 have H := H.growO g7 hp7 hq7 hs7; obtain ⟨_, _, rfl⟩ := H.accShape (k := 0) rfl
 refine ⟨_, Z, ?_⟩
 refine aG Z (q3 (W_seq (W_drawK [] 9 H kR Z ?_))); intro _ H; have hd8 := PLe.refl G7
 refine dE 0 Z2 (dE 1 Z2 ?_)
 have hac9 := H.accCap (k := 0) rfl
 refine RD_t 2 Z kR Z (fun _ hK => v_slice_to (j := i) underlying24 sizeOf35 Z Z hi2 oM) (dE 3 Z2 (dE 4 Z2 (RD_t 5 Z kR Z (fun _ hK => v_add Z Z oO) ?_)))
 have hac11 := H.accCap (k := 0) rfl
 refine RD_t 6 Z kR Z (fun _ hK => v_slice_from (i := (i + 1)) underlying24 sizeOf35 Z Z oM oM) (r1 7 Z ?_)
 refine o_append_del 0 H i Z hchk7 (by intro _ _ hz _ hu; obtain ⟨_, _, _, rfl, _⟩ := hz; simp at hu; rcases hu with rfl | rfl | rfl <;> rfl) underlying24 typeInfo35 rfl rfl rfl rfl oM aN ?_; intro _ _ hb12 H hchk12; cases hb12
 refine q4 H hd8 (dE 8 Z2 (rz (N_K (W_seq (q2 (mV Z (xr H Z2 (TreeValid_c _ _ (H.lendSubL [0]) _ _ (H.lendRdL (k := 0) (ks := [0]) Z Z hchk12 aN aN) ) ?_))))))); intro _ H
 refine pe 1 Z (q3 ?_)
 refine W_cond Z ?_ ?_
 ·intro hc14
  try simp only [nrm] at hc14
  refine q2 (xbs H Z7 ?_); intro _ _ _ H
  have H := H.blkAcc 3 (k := 0) (n := 0) rfl rfl (by decide)
  refine pe 2 Z (q3 (W_ret (N_K_ret (rt2 results177 Z Z ?_))))
  obtain ⟨_, H, hsg519, hsr519⟩ := H.shut' (k := 0) rfl (Chk.nil (E := itemE) (sz := 3) (G := G7)) aN aN
  have hY : Sp.TreeDrop list path = none := by simp [Sp.TreeDrop, hl, hc14]
  exact H.retP (by rw [hY]; exact ⟨_, rfl, hsr519⟩)
 intro hc14'
 try simp only [nrm] at hc14'
 refine W_skip (N_K (q2 (pe 3 Z (q3 (W_ret (rt2 results177 Z Z ?_))))))
 obtain ⟨_, H, hsg520, hsr520⟩ := H.shut' (k := 0) rfl hchk12 aN aN
 have hY : Sp.TreeDrop list path = some (list.take i ++ list.drop (i + 1)) := by simp [Sp.TreeDrop, hl, hc3', hc14']
 exact H.retP (by rw [hY]; exact ⟨_, rfl, hsr520⟩)
end Go.Proofs.Tst

namespace Go.Proofs.Tst
open Go Fw Tryz
theorem l11Count_c (w0 : World) (G0 : PH) (hG : PSub G0 w0) (vlist : Value) (list : List (BItem)) (hlist : RdItems G0 vlist list) (id : Int) (hT : Sp.TreeValid list = true) :
  Calls Tryz.prog 171 #[vlist, .int .i64 id] w0 (Rets w0 (.int .i64 (Sp.l11Count list id : Int))) := by
 obtain ⟨alist, klist, rfl⟩ := hlist.shape
 have hlimlist : list.length ≤ 1099511627776 := hlist.lim
 have htl := Sp.tree_len hT
 have H := Hp.init hG
 refine calls_of_W (l := [.slice alist list.length klist, .int .i64 id]) func171 Z ntmps171 Z (q2 (aG Z (q1 (aG Z (q3 (W_seq (q2 (aG Z (q3 (W_block ?_))))))))))
 refine W_lp (hf := (Sub.cons (t := 0) Z (Sub.cons (t := 1) Z (Sub.cons (t := 4) Z Sub.nil)))) (J := fun M w m => ∃ (c k : Nat) (G : PH), M = [(5, .int .i64 (c : Int)), (6, .int .i64 (k : Int))] ∧ PLe G0 G ∧ Hp w0 G0 [] w G [] ∧ (k ≤ list.length ∧ c = Sp.cntU list id k) ∧ m = (list.length - k)) (h0 := ⟨0, 0, _, Z, PLe.refl _, H, ?inv, Z⟩) (round := ?round)
 case inv => exact ⟨by omega, by simp [Sp.cntU]⟩
 case round =>
  rintro _ _ _ ⟨c, k, G1, rfl, hle1, H, hinv1, rfl⟩
  have hlist := hlist.up hle1
  obtain ⟨hk, hc⟩ := hinv1; have hcu := Sp.cntU_le hT k hk (id := id)
  refine W_seq (q2 (pe 2 Z (lN Z (pe 1 Z (q3 ?_)))))
  refine W_cond Z ?_ ?_
  ·intro hc2
   try simp only [nrm] at hc2
   refine W_skip (N_K (W_seq (W_block (q2 (aG Z (q3 (W_block ?_)))))))
   refine W_lp (hf := (Sub.cons (t := 0) Z (Sub.cons (t := 1) Z (Sub.cons (t := 4) Z (Sub.cons (t := 6) Z Sub.nil))))) (J := fun M w m => ∃ (c2 j : Nat) (y : BItem) (G : PH), M = [(5, .int .i64 (c2 : Int)), (7, .int .i64 (j : Int))] ∧ PLe G1 G ∧ Hp w0 G0 [] w G [] ∧ (list[k]? = some y ∧ j ≤ y.ids.length ∧ c2 = Sp.cntU list id k + Sp.cnt1 id (y.ids.take j)) ∧ m = (y.ids.length - j)) (h0 := ⟨c, 0, (list[k]'oM), _, Z, PLe.refl _, H, ?inv, Z⟩) (round := ?round)
   case inv => exact ⟨by simp, by omega, by simp [hc, Sp.cnt1]⟩
   case round =>
    rintro _ _ _ ⟨c2, j, y, _, rfl, hle3, H, hinv3, rfl⟩
    have hlist := hlist.up hle3
    have hle1 := hle1.trans hle3
    obtain ⟨hy, _, hc2⟩ := hinv3; have hc4 := (Sp.tree_at hT hy).2; have hc1 := Sp.cnt1_le id (y.ids.take j); have htk : (y.ids.take j).length ≤ j := by simp; omega
    refine W_seq (q2 (pe 3 Z (iP k hlist Z3 Z ?_))); intro _ _ z4 _ hz4 hE4 hrow4
    obtain ⟨_, _, _, rfl, _, _, _, _⟩ := ox hE4
    have hzz4 : y = z4 := Option.some.inj (hy.symm.trans hz4)
    subst hzz4
    refine fA 2 Z (lP H hrow4 2 Z2 (lN Z (pe 1 Z (q3 ?_))))
    refine W_cond Z ?_ ?_
    ·intro hc5
     try simp only [nrm] at hc5
     refine W_skip (N_K (W_seq (W_block (q2 (pe 2 Z (iP k hlist Z3 Z ?_)))))); intro _ _ z6 _ hz6 hE6 hrow6
     obtain ⟨_, _, _, rfl, _, hr6, _, _⟩ := ox hE6
     have hzz6 : y = z6 := Option.some.inj (hy.symm.trans hz6)
     subst hzz6
     refine fA 2 Z (lP H hrow6 2 Z2 (mV Z (iP j hr6 Z3 Z ?_))); intro _ _ _ _ hz7 hE7 hrow7
     obtain ⟨rfl, _⟩ := hE7
     refine lP H hrow7 0 Z2 (pe 2 Z (q3 ?_))
     refine W_cond Z ?_ ?_
     ·intro hc8
      try simp only [nrm] at hc8
      refine W_region (mV Z (aD Z2 (aG Z (R_nil (N_B (N_K (W_region (mV Z (aD Z2 (aG Z (R_nil ?_)))))))))))
      refine N_lp (hJ := ⟨c2 + 1, j + 1, y, _, Z, hle3, H, ?inv, Z⟩) (hm := ?hm)
      case hm => omega
      case inv => exact ⟨hy, by omega, by rw [Sp.cnt1_succ hz7, if_pos oM, hc2]; omega⟩
     intro hc8'
     try simp only [nrm] at hc8'
     refine W_skip (N_B (N_K (W_region (mV Z (aD Z2 (aG Z (R_nil ?_)))))))
     refine N_lp (hJ := ⟨c2, j + 1, y, _, Z, hle3, H, ?inv, Z⟩) (hm := ?hm)
     case hm => omega
     case inv => exact ⟨hy, by omega, by rw [Sp.cnt1_succ hz7, if_neg oM, hc2]; omega⟩
    intro hc5'
    try simp only [nrm] at hc5'
    refine W_exit (N_K_exit (N_LP_exit (N_B_same (N_B (N_K (W_region (mV Z (aD Z2 (aG Z (R_nil ?_))))))))))
    refine N_lp (hJ := ⟨c2, k + 1, _, Z, hle1, H, ?inv, Z⟩) (hm := ?hm)
    case hm => omega
    case inv => exact ⟨by omega, by rw [hc2, Sp.cntU_succ hy, List.take_of_length_le oM]⟩
  intro hc2'
  try simp only [nrm] at hc2'
  refine W_exit (N_K_exit (N_LP_exit (N_B_same (N_K (q2 (pe 2 Z (q3 (W_ret (rt1 results171 Z ?_)))))))))
  obtain rfl : k = list.length := by omega
  exact H.rets (congrArg (Value.int .i64) (by rw [hc]; rfl))
theorem l11Files_c (w0 : World) (G0 : PH) (hG : PSub G0 w0) (vstore : Value) (store : List (BHeld)) (hstore : RdH G0 vstore store) (vlist : Value) (list : List (BItem)) (hlist : RdItems G0 vlist list)  :
  Calls Tryz.prog 91 #[vstore, vlist] w0 (Rets w0 (.bool (Sp.l11Files store list))) := by
 obtain ⟨astore, kstore, rfl⟩ := hstore.shape
 have hlimstore : store.length ≤ 1099511627776 := hstore.lim
 obtain ⟨alist, klist, rfl⟩ := hlist.shape
 have hlimlist : list.length ≤ 1099511627776 := hlist.lim
 have H := Hp.init hG
 refine calls_of_W (l := [.slice astore store.length kstore, .slice alist list.length klist]) func91 Z ntmps91 Z (q2 (aG Z (q3 (W_seq (q2 (aG Z (q3 (W_block ?_))))))))
 refine W_lp (hf := (Sub.cons (t := 0) Z (Sub.cons (t := 1) Z Sub.nil))) (J := fun M w m => ∃ (k : Nat) (G : PH), M = [(5, .int .i64 (k : Int))] ∧ PLe G0 G ∧ Hp w0 G0 [] w G [] ∧ (k ≤ list.length ∧ (list.take k).all (Sp.fileOk store) = true) ∧ m = (list.length - k)) (h0 := ⟨0, _, Z, PLe.refl _, H, ?inv, Z⟩) (round := ?round)
 case inv => exact ⟨by omega, by simp⟩
 case round =>
  rintro _ _ _ ⟨k, _, rfl, hle1, H, hinv1, rfl⟩
  have hstore := hstore.up hle1
  have hlist := hlist.up hle1
  obtain ⟨_, hall⟩ := hinv1
  refine W_seq (q2 (pe 2 Z (lN Z (pe 1 Z (q3 ?_)))))
  refine W_cond Z ?_ ?_
  ·intro hc2
   try simp only [nrm] at hc2
   refine W_skip (N_K (W_seq (W_block (q2 (pe 3 Z (iP k hlist Z3 Z ?_)))))); intro _ _ _ _ hz3 hE3 hrow3
   obtain ⟨_, _, _, rfl, _, hr3, _, _⟩ := ox hE3
   refine fA 2 Z (lP H hrow3 2 Z2 (xr H Z2 (l4Ids_c _ _ H.sub _ _ hstore _ _ hr3 ) ?_)); intro _ H
   refine pe 1 Z (q3 ?_)
   refine W_cond Z ?_ ?_
   ·intro hc5
    try simp only [nrm] at hc5
    refine q2 (aG Z (q3 (W_ret (N_B_ret (N_K_ret (N_LP_ret (N_B_ret (N_K_ret (rt1 results91 Z ?_)))))))))
    exact H.rets (congrArg Value.bool (by rw [Sp.l11Files, Sp.all_false hz3 (by simp [Sp.fileOk, *])]))
   intro hc5'
   try simp only [nrm] at hc5'
   refine W_skip (N_B (N_K (W_region (mV Z (aD Z2 (aG Z (R_nil ?_)))))))
   refine N_lp (hJ := ⟨k + 1, _, Z, hle1, H, ?inv, Z⟩) (hm := ?hm)
   case hm => omega
   case inv => exact ⟨by omega, Sp.all_take hall hz3 (by simp [Sp.fileOk, *])⟩
  intro hc2'
  try simp only [nrm] at hc2'
  refine W_exit (N_K_exit (N_LP_exit (N_B_same (N_K (q2 (aG Z (q3 (W_ret (rt1 results91 Z ?_)))))))))
  obtain rfl : k = list.length := by omega
  rw [List.take_length] at hall
  exact H.rets (congrArg Value.bool (by rw [Sp.l11Files, hall]))
theorem l11Ids_c (w0 : World) (G0 : PH) (hG : PSub G0 w0) (vlist : Value) (list : List (BItem)) (hlist : RdItems G0 vlist list) (path : Bs) (hpath : path.length ≤ 16777216)  :
  Calls Tryz.prog 221 #[vlist, str path] w0 (RetP w0 G0 (fun G v => RdItems G v (Sp.l11Ids list path))) := by
 obtain ⟨alist, klist, rfl⟩ := hlist.shape
 have hlimlist : list.length ≤ 1099511627776 := hlist.lim
 have H := Hp.init hG
 refine calls_of_W (l := [.slice alist list.length klist, str path]) func221 Z ntmps221 Z (q2 (aG Z (q1 (pe 2 Z (xr H Z2 (l5At_c _ _ H.sub _ _ hlist _ hpath ) ?_))))); intro _ H
 refine aG Z (q3 (W_seq (q2 (pe 3 Z ?_))))
 refine R_case (t := 11) Z ?_ ?_
 ·intro hc2
  try simp only [nrm] at hc2
  refine pe 6 Z (q3 (W_true Z (q2 (xbs H Z7 ?_)))); intro _ _ _ H
  have H := H.blkAcc 3 (k := 0) (n := 0) rfl rfl (by decide)
  refine aG Z (q3 (W_ret (N_K_ret (rt1 results221 Z ?_))))
  obtain ⟨_, H, hsg504, hsr504⟩ := H.shut' (k := 0) rfl (Chk.nil (E := itemE) (sz := 3) (G := G0)) aN aN
  exact H.retP (by rw [show Sp.l11Ids list path = [] by simp [Sp.l11Ids, Sp.atI, Sp.at_none hc2]]; exact hsr504)
 intro hc2'
 try simp only [nrm] at hc2'
 obtain ⟨i, _, ia, ib, _, _, _⟩ := Sp.at_nat hc2'
 have ib : Sp.l5At list path = (i : Int) := ib
 have hl : Sp.atI list path = some i := ia
 refine pe 2 Z (gR Z (iP i hlist Z3 ib ?_)); intro _ _ _ _ hz4 hE4 hrow4
 obtain ⟨_, _, _, rfl, _, hr4, _, _⟩ := ox hE4
 refine gR Z (fA 1 Z (gR Z (lP H hrow4 1 Z2 (pe 1 Z (q3 ?_)))))
 refine W_cond Z ?_ ?_
 ·intro hc5
  try simp only [nrm] at hc5
  refine q2 (xbs H Z7 ?_); intro _ _ _ H
  have H := H.blkAcc 3 (k := 0) (n := 0) rfl rfl (by decide)
  refine aG Z (q3 (W_ret (N_K_ret (rt1 results221 Z ?_))))
  obtain ⟨_, H, hsg507, hsr507⟩ := H.shut' (k := 0) rfl (Chk.nil (E := itemE) (sz := 3) (G := G0)) aN aN
  exact H.retP (by rw [show Sp.l11Ids list path = [] by simp [Sp.l11Ids, hl, hz4, hc5]]; exact hsr507)
 intro hc5'
 try simp only [nrm] at hc5'
 refine W_skip (N_K (q2 (pe 3 Z (aD Z2 ?_))))
 have hcap8 := hlist.cap; try simp only [List.length_set, List.length_append, List.length_take, List.length_drop, List.length_replicate] at hcap8
 refine o_slice (i := i) (j := (i + 1)) underlying24 sizeOf35 Z Z Z Z ib oM aN aN ?_
 have hsl8 := hlist.part (i := i) (j := (i + 1)) oM oM
 have hsn1 := hsl8.len
 refine aG Z (q3 (W_ret (rt1 results221 Z ?_)))
 exact H.retP (by rw [show Sp.l11Ids list path = (list.drop i).take (i + 1 - i) by simp [Sp.l11Ids, hl, hz4, hc5', Sp.drop_at hz4]]; exact hsl8)
end Go.Proofs.Tst

namespace Go.Proofs.Tst
open Go Fw Tryz
theorem VolumeValid_c (w0 : World) (G0 : PH) (hG : PSub G0 w0) (cv : List Value) (v : BVol) (hv : volE G0 v cv)  :
  Calls Tryz.prog 265 #[.agg cv.toArray] w0 (Rets w0 (.bool (Sp.VolumeValid v))) := by
 obtain ⟨_, _, _, _, _, _, rfl, hr1, hr1', ⟨_, _⟩, _, _⟩ := ox hv
 have H := Hp.init hG
 refine calls_of_W (l := [_]) func265 Z ntmps265 Z (q2 (o_box H Z Z Z ?_)); intro b2 _ _ H
 refine aG Z (q3 (W_seq (q2 (fA 0 Z (lB 0 H Z3 (xr H Z2 (StoreValid_c _ _ H.sub _ _ hr1 ) ?_)))))); intro _ H
 refine pe 2 Z ?_
 refine R_case (t := 8) Z ?_ ?_
 ·intro hc4
  try simp only [nrm] at hc4
  refine pe 13 Z (q3 (W_true Z (q2 (aG Z (q3 (W_ret (N_K_ret (rt1 results265 Z ?_))))))))
  exact H.rets (congrArg Value.bool (by simp [Sp.VolumeValid, hc4]))
 intro hc4'
 try simp only [nrm] at hc4'
 refine gR Z (fA 1 Z (gR Z (lB 0 H Z3 (gR Z (xr H Z2 (TreeValid_c _ _ H.sub _ _ hr1' ) ?_))))); intro _ H
 refine pe 3 Z ?_
 refine R_case (t := 14) Z ?_ ?_
 ·intro hc6
  try simp only [nrm] at hc6
  refine pe 7 Z (q3 (W_true Z (q2 (aG Z (q3 (W_ret (N_K_ret (rt1 results265 Z ?_))))))))
  exact H.rets (congrArg Value.bool (by simp [Sp.VolumeValid, hc6]))
 intro hc6'
 try simp only [nrm] at hc6'
 refine gR Z (fA 0 Z (gR Z (lB 0 H Z3 (gR Z (fA 1 Z (gR Z (lB 0 H Z3 (gR Z (xr H Z2 (l11Files_c _ _ H.sub _ _ hr1 _ _ hr1' ) ?_))))))))); intro _ H
 refine pe 2 Z (q3 ?_)
 refine W_cond Z ?_ ?_
 ·intro hc8
  try simp only [nrm] at hc8
  refine q2 (aG Z (q3 (W_ret (N_K_ret (rt1 results265 Z ?_)))))
  exact H.rets (congrArg Value.bool (by simp [Sp.VolumeValid, hc8]))
 intro hc8'
 try simp only [nrm] at hc8'
 refine W_skip (N_K (W_seq (q2 (aG Z (q3 (W_block ?_))))))
 obtain ⟨ln9, hln9, H⟩ := H.name (k := 0) rfl
 refine W_lp (hf := (Sub.cons (t := 1) Z Sub.nil)) (J := fun M w m => ∃ (k : Nat) (G : PH), M = [(3, .int .i64 (k : Int))] ∧ PLe G0 G ∧ Hp w0 G0 [] w G [blk b2 (cl ln9 194)] ∧ (k ≤ v.store.length ∧ (v.store.take k).all (Sp.usesOk v.tree) = true) ∧ m = (v.store.length - k)) (h0 := ⟨0, _, Z, PLe.refl _, H, ?inv, Z⟩) (round := ?round)
 case inv => exact ⟨by omega, by simp⟩
 case round =>
  rintro _ _ _ ⟨k, G10, rfl, hle10, H, hinv10, rfl⟩
  subst hln9
  have hr1 := hr1.up hle10
  have hr1' := hr1'.up hle10
  obtain ⟨_, hall⟩ := hinv10
  refine W_seq (q2 (mV Z (fA 0 Z (lB 0 H Z3 (lN Z (pe 1 Z (q3 ?_)))))))
  refine W_cond Z ?_ ?_
  ·intro hc11
   try simp only [nrm] at hc11
   refine W_skip (N_K (W_seq (W_block (W_seq (W_drawK [0] 16 H kR Z ?_))))); intro _ H; have hd12 := PLe.refl G10
   refine dF 0 1 Z2 (dB 1 0 Z4 (dF 2 0 Z2 (dB 3 0 Z4 (dE 4 Z2 ?_))))
   have hl13 := hr1.len
   obtain ⟨_, _, z13, _, ha13, hz13, hq13, hE13, hrow13, _⟩ := hr1.at (i := k) oM
   clear hq13
   obtain ⟨_, _, _, rfl, _, _, _, _, _⟩ := ox hE13
   refine dI 5 3 k ha13 Z3 Z (dF 6 0 Z2 (dP 7 hrow13 0 Z3 (dF 9 0 Z2 (dB 10 0 Z4 (dE 11 Z2 ?_)))))
   have hl14 := hr1.len
   obtain ⟨_, _, z14, _, ha14, hz14, hq14, hE14, hrow14, _⟩ := hr1.at (i := k) oM
   clear hq14
   obtain ⟨_, _, _, rfl, _, _, _, _, _⟩ := ox hE14
   have hzz14 : z13 = z14 := Option.some.inj (hz13.symm.trans hz14)
   subst hzz14
   refine dI 12 3 k ha14 Z3 Z (dF 13 2 Z2 (dP 14 hrow14 2 Z3 (r1 8 Z (xr H Z2 (l11Count_c _ _ H.sub _ _ hr1' _ hc6') ?_)))); intro _ H
   refine q4 H hd12 (dE 15 Z2 (rz (N_K ?_)))
   refine W_cond Z ?_ ?_
   ·intro hc16
    try simp only [nrm] at hc16
    refine q2 (aG Z (q3 (W_ret (N_B_ret (N_K_ret (N_LP_ret (N_B_ret (N_K_ret (rt1 results265 Z ?_)))))))))
    exact H.rets (congrArg Value.bool (by rw [Sp.VolumeValid, Sp.all_false hz13 (by simp [Sp.usesOk, *])]; rfl))
   intro hc16'
   try simp only [nrm] at hc16'
   refine W_skip (N_B (N_K (W_region (mV Z (aD Z2 (aG Z (R_nil ?_)))))))
   refine N_lp (hJ := ⟨k + 1, _, Z, hle10, H, ?inv, Z⟩) (hm := ?hm)
   case hm => omega
   case inv => exact ⟨by omega, Sp.all_take hall hz13 (by simp [Sp.usesOk, *])⟩
  intro hc11'
  try simp only [nrm] at hc11'
  refine W_exit (N_K_exit (N_LP_exit (N_B_same (N_K (q2 (aG Z (q3 (W_ret (rt1 results265 Z ?_)))))))))
  obtain rfl : k = v.store.length := by omega
  rw [List.take_length] at hall
  exact H.rets (congrArg Value.bool (by simp [Sp.VolumeValid, hall, hc4', hc6', hc8']))
theorem VolumeDir_c (w0 : World) (G0 : PH) (hG : PSub G0 w0) (cv : List Value) (v : BVol) (hv : volE G0 v cv) (path : Bs) (hpath : path.length ≤ 16777216)  :
  Calls Tryz.prog 231 #[.agg cv.toArray, str path] w0 (RetO w0 G0 (fun G val r => ∃ u u1, val = .tuple #[.agg #[u, u1], .bool (Sp.VolumeDir v path).isSome] ∧ AccOf heldE 3 153 (((Sp.VolumeDir v path).map (·.store)).getD []) G u r ∧ RdItems G u1 (((Sp.VolumeDir v path).map (·.tree)).getD []))) := by
 obtain ⟨_, _, _, _, _, _, rfl, hr1, hr1', ⟨_, _⟩, _, _⟩ := ox hv
 have H := Hp.init hG
 refine calls_of_W (l := [_, str path]) func231 Z ntmps231 Z (q2 (o_box H Z Z Z ?_)); intro _ _ _ H
 refine xal H Z ?_; intro _ _ _ H
 refine aG Z (q1 (fA 1 Z (lB 1 H Z3 (mV Z (o_build bf35 Z Z Z (xc Z2 (TreePut_c _ _ H.sub _ _ hr1' _ ⟨path, true, []⟩ ⟨_, _, _, Z, hpath, (RdS.nil _ _ _)⟩ ) ?_))))))
 rintro _ _ ⟨_, _, g4, rfl, _, rfl, hr4_0⟩
 have H := H.grow g4
 have hr1 := hr1.up g4.le
 have hr1' := hr1'.up g4.le
 obtain ⟨_, _, rfl⟩ := hr4_0.shape; have hx_hr4_0 : _ ≤ 1099511627776 := hr4_0.lim
 refine ⟨_, Z, ?_⟩
 refine pe 5 Z (q3 (W_seq (q2 (lA 1 2 H Z4 (xr H Z2 (VolumeValid_c _ _ H.sub _ v ⟨_, _, _, _, _, _, Z, hr1, hr1'⟩ ) ?_))))); intro _ H
 refine pe 2 Z ?_
 refine R_case (t := 19) Z ?_ ?_
 ·intro hc6
  try simp only [nrm] at hc6
  refine pe 3 Z (q3 (W_true Z (q2 (o_build bf194 Z Z Z (xst 0 H Z8 ?_))))); intro _ H
  refine aG Z (q3 (W_ret (N_K_ret (ret_gen (rs := [.cell 4 194, .tmp 5]) (vs := [_, _]) results231 ⟨⟨_, Z, load_blk 0 H isAgg194 sizeOf194 Z Z Z⟩, Z, trivial⟩ ?_))))
  have hN : Sp.VolumeDir v path = none := by simp [Sp.VolumeDir, hc6]
  have H := H.addNil 153 3
  exact H.retO (k := 0) rfl (by rw [hN]; exact ⟨_, _, rfl, AccOf.mk rfl Chk.nil, RdS.nil _ _ _⟩) (acc_nd _ _ _ _ _)
 intro hc6'
 try simp only [nrm] at hc6'
 refine pe 3 Z (q3 ?_)
 refine W_cond Z ?_ ?_
 ·intro hc8
  try simp only [nrm] at hc8
  refine q2 (o_build bf194 Z Z Z (xst 0 H Z8 ?_)); intro _ H
  refine aG Z (q3 (W_ret (N_K_ret (ret_gen (rs := [.cell 4 194, .tmp 5]) (vs := [_, _]) results231 ⟨⟨_, Z, load_blk 0 H isAgg194 sizeOf194 Z Z Z⟩, Z, trivial⟩ ?_))))
  have hN : Sp.VolumeDir v path = none := by (have hno : Sp.TreePut v.tree ⟨path, true, []⟩ = none := by simpa using hc8); simp [Sp.VolumeDir, hno]
  have H := H.addNil 153 3
  exact H.retO (k := 0) rfl (by rw [hN]; exact ⟨_, _, rfl, AccOf.mk rfl Chk.nil, RdS.nil _ _ _⟩) (acc_nd _ _ _ _ _)
 intro hc8'
 try simp only [nrm] at hc8'
 refine W_skip (N_K (q2 (fA 0 Z (lB 1 H Z3 (xc Z2 (l3Copy_c _ _ H.sub _ _ hr1 ) ?_)))))
 rintro _ _ ⟨_, _, _, g10, rfl, ⟨_, rfl, hchk10⟩, hp10, hq10, hs10⟩
 have H := H.growO g10 hp10 hq10 hs10; obtain ⟨_, _, rfl⟩ := H.accShape (k := 0) rfl
 have hr4_0 := hr4_0.up g10.le
 refine ⟨_, Z, ?_⟩
 refine mV Z (o_build bf194 Z Z Z (xst 1 H Z8 ?_)); intro _ H
 refine aG Z (q3 (W_ret (ret_gen (rs := [.cell 4 194, .tmp 5]) (vs := [_, _]) results231 ⟨⟨_, Z, load_blk 1 H isAgg194 sizeOf194 Z Z Z⟩, Z, trivial⟩ ?_)))
 have hY : Sp.VolumeDir v path = some ⟨v.store, (Sp.TreePut v.tree ⟨path, true, []⟩).getD []⟩ := by (obtain ⟨_, hp⟩ := Option.isSome_iff_exists.1 hc8'); simp [Sp.VolumeDir, hp, hc6']
 exact H.retO (k := 0) rfl (by rw [hY]; exact ⟨_, _, rfl, AccOf.mk aN hchk10, hr4_0⟩) (acc_nd _ _ _ _ _)
theorem l11Write_c (w0 : World) (G0 : PH) (hG : PSub G0 w0) (cv : List Value) (v : BVol) (hv : volE G0 v cv) (path : Bs) (hpath : path.length ≤ 16777216) (vbytes : Value) (bytes : List (Int)) (hbytes : RdI G0 vbytes bytes) (hS : bytes.length ≤ 1000000) :
  Calls Tryz.prog 176 #[.agg cv.toArray, str path, vbytes] w0 (RetO w0 G0 (fun G val r => ∃ u u1, val = .tuple #[.agg #[u, u1], .bool (Sp.l11Write v path bytes).isSome] ∧ AccOf heldE 3 153 (((Sp.l11Write v path bytes).map (·.store)).getD []) G u r ∧ RdItems G u1 (((Sp.l11Write v path bytes).map (·.tree)).getD []))) := by
 obtain ⟨_, _, _, _, _, _, rfl, hr1, hr1', ⟨_, _⟩, _, _⟩ := ox hv
 obtain ⟨abytes, kbytes, rfl⟩ := hbytes.shape
 have hlimbytes : bytes.length ≤ 1099511627776 := hbytes.lim
 have H := Hp.init hG
 refine calls_of_W (l := [_, str path, .slice abytes bytes.length kbytes]) func176 Z ntmps176 Z (q2 (o_box H Z Z Z ?_)); intro _ _ _ H
 refine xal H Z ?_; intro _ _ _ H
 refine aG Z (q1 (fA 0 Z (lB 1 H Z3 (mV Z (xc Z2 (FileStore_c _ _ H.sub _ _ hr1 _ _ hbytes oM) ?_)))))
 rintro _ _ ⟨_, _, _, g4, rfl, ⟨_, _, rfl, ⟨_, rfl, hchk4⟩, hr4_1⟩, hp4, hq4, hs4⟩
 have H := H.growO g4 hp4 hq4 hs4; obtain ⟨_, _, rfl⟩ := H.accShape (k := 0) rfl
 have hr1' := hr1'.up g4.le
 obtain ⟨_, _, rfl⟩ := hr4_1.shape; have hx_hr4_1 : _ ≤ 1099511627776 := hr4_1.lim
 refine ⟨_, Z, ?_⟩
 have hfl := Sp.fileStore_len v.store bytes
 refine pe 7 Z (q1 (fA 1 Z (lB 2 H Z3 (pe 2 Z (o_build bf35 Z Z Z (xc Z2 (TreePut_c _ _ H.sub _ _ hr1' _ ⟨path, false, ((Sp.FileStore v.store bytes).map (·.2)).getD []⟩ ⟨_, _, _, Z, hpath, hr4_1⟩ ) ?_))))))
 rintro _ _ ⟨_, _, g5, rfl, _, rfl, hr5_0⟩
 have H := H.grow g5
 have hr1' := hr1'.up g5.le
 have hchk4 := hchk4.up g5.le
 obtain ⟨_, _, rfl⟩ := hr5_0.shape; have hx_hr5_0 : _ ≤ 1099511627776 := hr5_0.lim
 refine ⟨_, Z, ?_⟩
 refine pe 5 Z (q3 (W_seq (q2 (pe 3 Z ?_))))
 refine R_case (t := 35) Z ?_ ?_
 ·intro hc6
  try simp only [nrm] at hc6
  refine pe 3 Z (q3 (W_true Z (q2 (o_build bf194 Z Z Z (xst 1 H Z8 ?_))))); intro _ H
  refine aG Z (q3 (W_ret (N_K_ret (ret_gen (rs := [.cell 6 194, .tmp 7]) (vs := [_, _]) results176 ⟨⟨_, Z, load_blk 1 H isAgg194 sizeOf194 Z Z Z⟩, Z, trivial⟩ ?_))))
  have hN : Sp.l11Write v path bytes = none := by exact Sp.l11Write_1 hc6
  have H := H.addNil 153 3
  exact H.retO (k := 0) rfl (by rw [hN]; exact ⟨_, _, rfl, AccOf.mk rfl Chk.nil, RdS.nil _ _ _⟩) (acc_nd _ _ _ _ _)
 intro hc6'
 try simp only [nrm] at hc6'
 refine pe 3 Z (q3 ?_)
 refine W_cond Z ?_ ?_
 ·intro hc8
  try simp only [nrm] at hc8
  refine q2 (o_build bf194 Z Z Z (xst 1 H Z8 ?_)); intro _ H
  refine aG Z (q3 (W_ret (N_K_ret (ret_gen (rs := [.cell 6 194, .tmp 7]) (vs := [_, _]) results176 ⟨⟨_, Z, load_blk 1 H isAgg194 sizeOf194 Z Z Z⟩, Z, trivial⟩ ?_))))
  have hN : Sp.l11Write v path bytes = none := by exact Sp.l11Write_2 hc8
  have H := H.addNil 153 3
  exact H.retO (k := 0) rfl (by rw [hN]; exact ⟨_, _, rfl, AccOf.mk rfl Chk.nil, RdS.nil _ _ _⟩) (acc_nd _ _ _ _ _)
 intro hc8'
 try simp only [nrm] at hc8'
 refine W_skip (N_K (q2 (fA 1 Z (lB 2 H Z3 (mV Z (xc Z2 (l11Ids_c _ _ H.sub _ _ hr1' _ hpath ) ?_))))))
 rintro _ _ ⟨_, _, g10, rfl, hr10_0⟩
 have H := H.grow g10
 have hchk4 := hchk4.up g10.le
 have hr5_0 := hr5_0.up g10.le
 obtain ⟨_, _, rfl⟩ := hr10_0.shape; have hx_hr10_0 : _ ≤ 1099511627776 := hr10_0.lim
 refine ⟨_, Z, ?_⟩
 refine aG Z (q3 (W_seq (q2 (mV Z (lN Z (pe 1 Z (q3 ?_)))))))
 refine W_cond Z ?_ ?_
 ·intro hc11
  try simp only [nrm] at hc11
  refine q2 (pe 2 Z (iP 0 hr10_0 Z3 Z ?_)); intro _ _ z12 _ hz12 hE12 hrow12
  obtain ⟨_, _, _, rfl, _, hr12, _, _⟩ := ox hE12
  refine fA 2 Z (lP H hrow12 2 Z2 ?_)
  obtain ⟨_, H, hsg14, hsr14⟩ := H.shut' (k := 0) rfl hchk4 aN aN
  have hr5_0 := hr5_0.up hsg14
  have hr12 := hr12.up hsg14
  refine xc Z2 (FileFree_c _ _ H.sub _ _ hsr14 _ _ hr12 ) ?_
  rintro _ _ ⟨_, _, _, g13, rfl, ⟨_, rfl, ⟨_, rfl, hchk13⟩⟩, hp13, hq13, hs13⟩
  have H := H.growO g13 hp13 hq13 hs13; obtain ⟨_, _, rfl⟩ := H.accShape (k := 0) rfl
  have hr5_0 := hr5_0.up g13.le
  refine ⟨_, Z, ?_⟩
  refine pe 5 Z (q3 (W_region (pe 2 Z (q1 (pe 2 Z (o_build bf194 Z Z Z (xst 1 H Z8 ?_))))))); intro _ H
  refine aG Z (q3 (W_ret (ret_gen (rs := [.cell 6 194, .tmp 7]) (vs := [_, _]) results176 ⟨⟨_, Z, load_blk 1 H isAgg194 sizeOf194 Z Z Z⟩, Z, trivial⟩ ?_)))
  have hY : Sp.l11Write v path bytes = some ⟨(Sp.FileFree (((Sp.FileStore v.store bytes).map (·.1)).getD []) z12.ids).getD [], (Sp.TreePut v.tree ⟨path, false, ((Sp.FileStore v.store bytes).map (·.2)).getD []⟩).getD []⟩ := by rw [Sp.l11Write_3 hc6' hc8', Sp.freeOld_at hz12]
  exact H.retO (k := 0) rfl (by rw [hY]; exact ⟨_, _, rfl, AccOf.mk aN hchk13, hr5_0⟩) (acc_nd _ _ _ _ _)
 intro hc11'
 try simp only [nrm] at hc11'
 refine W_skip (N_K (q2 (pe 2 Z (o_build bf194 Z Z Z (xst 1 H Z8 ?_))))); intro _ H
 refine aG Z (q3 (W_ret (ret_gen (rs := [.cell 6 194, .tmp 7]) (vs := [_, _]) results176 ⟨⟨_, Z, load_blk 1 H isAgg194 sizeOf194 Z Z Z⟩, Z, trivial⟩ ?_)))
 have hY : Sp.l11Write v path bytes = some ⟨((Sp.FileStore v.store bytes).map (·.1)).getD [], (Sp.TreePut v.tree ⟨path, false, ((Sp.FileStore v.store bytes).map (·.2)).getD []⟩).getD []⟩ := by rw [Sp.l11Write_3 hc6' hc8', Sp.freeOld_nil oM]
 exact H.retO (k := 0) rfl (by rw [hY]; exact ⟨_, _, rfl, AccOf.mk aN hchk4, hr5_0⟩) (acc_nd _ _ _ _ _)
theorem VolumeWrite_c (w0 : World) (G0 : PH) (hG : PSub G0 w0) (cv : List Value) (v : BVol) (hv : volE G0 v cv) (path : Bs) (hpath : path.length ≤ 16777216) (vbytes : Value) (bytes : List (Int)) (hbytes : RdI G0 vbytes bytes)  :
  Calls Tryz.prog 233 #[.agg cv.toArray, str path, vbytes] w0 (RetO w0 G0 (fun G val r => ∃ u u1, val = .tuple #[.agg #[u, u1], .bool (Sp.VolumeWrite v path bytes).isSome] ∧ AccOf heldE 3 153 (((Sp.VolumeWrite v path bytes).map (·.store)).getD []) G u r ∧ RdItems G u1 (((Sp.VolumeWrite v path bytes).map (·.tree)).getD []))) := by
 obtain ⟨_, _, _, _, _, _, rfl, hr1, hr1', ⟨_, _⟩, _, _⟩ := ox hv
 obtain ⟨abytes, kbytes, rfl⟩ := hbytes.shape
 have hlimbytes : bytes.length ≤ 1099511627776 := hbytes.lim
 have H := Hp.init hG
 refine calls_of_W (l := [_, str path, .slice abytes bytes.length kbytes]) func233 Z ntmps233 Z (q2 (o_box H Z Z Z ?_)); intro _ _ _ H
 refine xal H Z ?_; intro _ _ _ H
 refine aG Z (q3 (W_seq (q2 (lA 1 2 H Z4 (xr H Z2 (VolumeValid_c _ _ H.sub _ v ⟨_, _, _, _, _, _, Z, hr1, hr1'⟩ ) ?_))))); intro _ H
 refine pe 2 Z ?_
 refine R_case (t := 11) Z ?_ ?_
 ·intro hc5
  try simp only [nrm] at hc5
  refine pe 4 Z (q3 (W_true Z (q2 (o_build bf194 Z Z Z (xst 0 H Z8 ?_))))); intro _ H
  refine aG Z (q3 (W_ret (N_K_ret (ret_gen (rs := [.cell 6 194, .tmp 7]) (vs := [_, _]) results233 ⟨⟨_, Z, load_blk 0 H isAgg194 sizeOf194 Z Z Z⟩, Z, trivial⟩ ?_))))
  have hN : Sp.VolumeWrite v path bytes = none := by simp [Sp.VolumeWrite, hc5]
  have H := H.addNil 153 3
  exact H.retO (k := 0) rfl (by rw [hN]; exact ⟨_, _, rfl, AccOf.mk rfl Chk.nil, RdS.nil _ _ _⟩) (acc_nd _ _ _ _ _)
 intro hc5'
 try simp only [nrm] at hc5'
 refine pe 1 Z (gR Z (xr H Z2 (FileValid_c _ _ H.sub _ _ hbytes ) ?_)); intro _ H
 refine pe 2 Z (q3 ?_)
 refine W_cond Z ?_ ?_
 ·intro hc8
  try simp only [nrm] at hc8
  refine q2 (o_build bf194 Z Z Z (xst 0 H Z8 ?_)); intro _ H
  refine aG Z (q3 (W_ret (N_K_ret (ret_gen (rs := [.cell 6 194, .tmp 7]) (vs := [_, _]) results233 ⟨⟨_, Z, load_blk 0 H isAgg194 sizeOf194 Z Z Z⟩, Z, trivial⟩ ?_))))
  have hN : Sp.VolumeWrite v path bytes = none := by simp [Sp.VolumeWrite, hc8]
  have H := H.addNil 153 3
  exact H.retO (k := 0) rfl (by rw [hN]; exact ⟨_, _, rfl, AccOf.mk rfl Chk.nil, RdS.nil _ _ _⟩) (acc_nd _ _ _ _ _)
 intro hc8'
 try simp only [nrm] at hc8'
 have hfl := Sp.file_len hc8'
 refine W_skip (N_K (q2 (lA 1 2 H Z4 (pe 2 Z (xc Z2 (l11Write_c _ _ H.sub _ v ⟨_, _, _, _, _, _, Z, hr1, hr1'⟩ _ hpath _ _ hbytes oM) ?_)))))
 rintro _ _ ⟨_, _, _, g10, rfl, ⟨_, _, rfl, ⟨_, rfl, hchk10⟩, hr10_1⟩, hp10, hq10, hs10⟩
 have H := H.growO g10 hp10 hq10 hs10; obtain ⟨_, _, rfl⟩ := H.accShape (k := 0) rfl
 obtain ⟨_, _, rfl⟩ := hr10_1.shape; have hx_hr10_1 : _ ≤ 1099511627776 := hr10_1.lim
 refine ⟨_, Z, ?_⟩
 refine pe 2 Z (xst 1 H Z8 ?_); intro _ H
 refine aG Z (q3 (W_ret (ret_gen (rs := [.cell 6 194, .tmp 7]) (vs := [_, _]) results233 ⟨⟨_, Z, load_blk 1 H isAgg194 sizeOf194 Z Z Z⟩, Z, trivial⟩ ?_)))
 have hY : Sp.VolumeWrite v path bytes = Sp.l11Write v path bytes := by simp [Sp.VolumeWrite, hc5', hc8']
 exact H.retO (k := 0) rfl (by rw [hY]; exact ⟨_, _, rfl, AccOf.mk aN hchk10, hr10_1⟩) (acc_nd _ _ _ _ _)
theorem VolumeDrop_c (w0 : World) (G0 : PH) (hG : PSub G0 w0) (cv : List Value) (v : BVol) (hv : volE G0 v cv) (path : Bs) (hpath : path.length ≤ 16777216)  :
  Calls Tryz.prog 232 #[.agg cv.toArray, str path] w0 (RetO w0 G0 (fun G val r => ∃ u u1, val = .tuple #[.agg #[u, u1], .bool (Sp.VolumeDrop v path).isSome] ∧ AccOf heldE 3 153 (((Sp.VolumeDrop v path).map (·.store)).getD []) G u r ∧ RdItems G u1 (((Sp.VolumeDrop v path).map (·.tree)).getD []))) := by
 obtain ⟨_, _, _, _, _, _, rfl, hr1, hr1', ⟨_, _⟩, _, _⟩ := ox hv
 have H := Hp.init hG
 refine calls_of_W (l := [_, str path]) func232 Z ntmps232 Z (q2 (o_box H Z Z Z ?_)); intro _ _ _ H
 refine xal H Z ?_; intro _ _ _ H
 refine aG Z (q1 (fA 1 Z (lB 1 H Z3 (mV Z (xc Z2 (TreeDrop_c _ _ H.sub _ _ hr1' _ hpath ) ?_)))))
 rintro _ _ ⟨G4, _, g4, rfl, _, rfl, hr4_0⟩
 have H := H.grow g4
 have hr1 := hr1.up g4.le
 have hr1' := hr1'.up g4.le
 obtain ⟨_, _, rfl⟩ := hr4_0.shape; have hx_hr4_0 : _ ≤ 1099511627776 := hr4_0.lim
 refine ⟨_, Z, ?_⟩
 refine pe 5 Z (q3 (W_seq (q2 (lA 1 2 H Z4 (xr H Z2 (VolumeValid_c _ _ H.sub _ v ⟨_, _, _, _, _, _, Z, hr1, hr1'⟩ ) ?_))))); intro _ H
 refine pe 2 Z ?_
 refine R_case (t := 20) Z ?_ ?_
 ·intro hc6
  try simp only [nrm] at hc6
  refine pe 3 Z (q3 (W_true Z (q2 (o_build bf194 Z Z Z (xst 0 H Z8 ?_))))); intro _ H
  refine aG Z (q3 (W_ret (N_K_ret (ret_gen (rs := [.cell 4 194, .tmp 5]) (vs := [_, _]) results232 ⟨⟨_, Z, load_blk 0 H isAgg194 sizeOf194 Z Z Z⟩, Z, trivial⟩ ?_))))
  have hN : Sp.VolumeDrop v path = none := by simp [Sp.VolumeDrop, hc6]
  have H := H.addNil 153 3
  exact H.retO (k := 0) rfl (by rw [hN]; exact ⟨_, _, rfl, AccOf.mk rfl Chk.nil, RdS.nil _ _ _⟩) (acc_nd _ _ _ _ _)
 intro hc6'
 try simp only [nrm] at hc6'
 refine pe 3 Z (q3 ?_)
 refine W_cond Z ?_ ?_
 ·intro hc8
  try simp only [nrm] at hc8
  refine q2 (o_build bf194 Z Z Z (xst 0 H Z8 ?_)); intro _ H
  refine aG Z (q3 (W_ret (N_K_ret (ret_gen (rs := [.cell 4 194, .tmp 5]) (vs := [_, _]) results232 ⟨⟨_, Z, load_blk 0 H isAgg194 sizeOf194 Z Z Z⟩, Z, trivial⟩ ?_))))
  have hN : Sp.VolumeDrop v path = none := by (have hno : Sp.TreeDrop v.tree path = none := by simpa using hc8); simp [Sp.VolumeDrop, hno]
  have H := H.addNil 153 3
  exact H.retO (k := 0) rfl (by rw [hN]; exact ⟨_, _, rfl, AccOf.mk rfl Chk.nil, RdS.nil _ _ _⟩) (acc_nd _ _ _ _ _)
 intro hc8'
 try simp only [nrm] at hc8'
 obtain ⟨i, _, ia, ib, _, _⟩ := Sp.treeDrop_at hc8'
 refine W_skip (N_K (W_seq (W_drawK [0, 1] 17 H kR Z ?_))); intro _ H; have hd10 := PLe.refl G4
 refine dF 0 0 Z2 (dB 1 1 Z4 (dF 2 1 Z2 (dB 3 1 Z4 (dF 4 1 Z2 (dB 5 1 Z4 (dE 6 Z2 (r1 7 Z (xr H Z2 (l5At_c _ _ H.sub _ _ hr1' _ hpath ) ?_)))))))); intro _ H
 refine q4 H hd10 ?_
 have hl12 := hr1'.len
 obtain ⟨_, _, z12, _, ha12, hz12, hq12, hE12, hrow12, _⟩ := hr1'.at (i := i) oM
 clear hq12
 obtain ⟨_, _, _, rfl, _, hr12, _, _⟩ := ox hE12
 refine dI 8 3 i ha12 Z3 ib (dF 9 2 Z2 (dP 10 hrow12 2 Z3 (r1 11 Z (xc Z2 (FileFree_c _ _ H.sub _ _ hr1 _ _ hr12 ) ?_))))
 rintro _ _ ⟨_, _, _, g13, rfl, ⟨_, rfl, ⟨_, rfl, hchk13⟩⟩, hp13, hq13, hs13⟩
 have H := H.growO g13 hp13 hq13 hs13; obtain ⟨_, _, rfl⟩ := H.accShape (k := 0) rfl
 have hr4_0 := hr4_0.up g13.le
 have hd10 := hd10.trans g13.le
 refine ⟨_, Z, ?_⟩
 refine q4 H hd10 (dE 12 Z2 (dE 13 Z2 (dE 14 Z2 (dE 15 Z2 (dE 16 Z2 (rz (N_K (q2 (pe 2 Z (o_build bf194 Z Z Z (xst 1 H Z8 ?_))))))))))); intro _ H
 refine aG Z (q3 (W_ret (ret_gen (rs := [.cell 4 194, .tmp 5]) (vs := [_, _]) results232 ⟨⟨_, Z, load_blk 1 H isAgg194 sizeOf194 Z Z Z⟩, Z, trivial⟩ ?_)))
 have hY : Sp.VolumeDrop v path = some ⟨(Sp.FileFree v.store z12.ids).getD [], (Sp.TreeDrop v.tree path).getD []⟩ := by (obtain ⟨_, hp⟩ := Option.isSome_iff_exists.1 hc8'); simp [Sp.VolumeDrop, hc6', hp, ia, hz12]
 exact H.retO (k := 0) rfl (by rw [hY]; exact ⟨_, _, rfl, AccOf.mk aN hchk13, hr4_0⟩) (acc_nd _ _ _ _ _)
end Go.Proofs.Tst

namespace Go.Proofs.Tst
open Go Fw Tryz
theorem l12Count_c (w0 : World) (G0 : PH) (hG : PSub G0 w0) (cd : List Value) (d : BDisk) (hd : diskE G0 d cd) (id : Int) (hT : Sp.TreeValid d.tree = true) (hN : Sp.l12Snaps d = true) :
  Calls Tryz.prog 93 #[.agg cd.toArray, .int .i64 id] w0 (Rets w0 (.int .i64 (Sp.l12Count d id : Int))) := by
 obtain ⟨_, _, _, _, _, _, _, _, _, rfl, hr1, hr1', hr1'', ⟨_, _⟩, ⟨_, _⟩, _, _⟩ := ox hd
 obtain ⟨_, hst⟩ := Sp.snaps_at hN
 have htc := Sp.l11Count_le hT (id := id)
 have H := Hp.init hG
 refine calls_of_W (l := [_, .int .i64 id]) func93 Z ntmps93 Z (q2 (o_box H Z Z Z ?_)); intro b2 _ _ H
 refine aG Z (q1 (fA 1 Z (lB 0 H Z3 (mV Z (xr H Z2 (l11Count_c _ _ H.sub _ _ hr1' _ hT) ?_))))); intro _ H
 refine aG Z (q3 (W_seq (q2 (aG Z (q3 (W_block ?_))))))
 obtain ⟨ln4, hln4, H⟩ := H.name (k := 0) rfl
 refine W_lp (hf := (Sub.cons (t := 1) Z (Sub.cons (t := 2) Z (Sub.cons (t := 4) Z Sub.nil)))) (J := fun M w m => ∃ (c k : Nat) (G : PH), M = [(5, .int .i64 (c : Int)), (6, .int .i64 (k : Int))] ∧ PLe G0 G ∧ Hp w0 G0 [] w G [blk b2 (cl ln4 27)] ∧ (k ≤ d.snaps.length ∧ c = Sp.l11Count d.tree id + Sp.cntS d.snaps id k) ∧ m = (d.snaps.length - k)) (h0 := ⟨(Sp.l11Count d.tree id), 0, _, Z, PLe.refl _, H, ?inv, Z⟩) (round := ?round)
 case inv => exact ⟨by omega, by simp [Sp.cntS]⟩
 case round =>
  rintro _ _ _ ⟨c, k, _, rfl, hle5, H, hinv5, rfl⟩
  subst hln4
  have hr1'' := hr1''.up hle5
  obtain ⟨hk, hc⟩ := hinv5; have hcu := Sp.cntS_le hst k hk (id := id)
  refine W_seq (q2 (mV Z (fA 2 Z (lB 0 H Z3 (lN Z (pe 1 Z (q3 ?_)))))))
  refine W_cond Z ?_ ?_
  ·intro hc6
   try simp only [nrm] at hc6
   refine W_skip (N_K (W_seq (W_block (W_region (mV Z (fA 2 Z (lB 0 H Z3 (mV Z (iP k hr1'' Z3 Z ?_))))))))); intro _ _ z7 _ hz7 hE7 hrow7
   obtain ⟨_, _, _, rfl, _, hr7, _, _⟩ := ox hE7
   have hlz := Sp.l11Count_le (hst _ (List.mem_of_getElem? hz7)) (id := id)
   refine fA 1 Z (lP H hrow7 1 Z2 (mV Z ?_))
   refine xr H Z2 (l11Count_c _ _ H.sub _ _ hr7 _ (hst _ (List.mem_of_getElem? hz7))) ?_; intro _ H
   refine aD Z2 (aG Z (R_nil (N_B (N_K (W_region (mV Z (aD Z2 (aG Z (R_nil ?_)))))))))
   refine N_lp (hJ := ⟨c + Sp.l11Count z7.tree id, k + 1, _, Z, hle5, H, ?inv, Z⟩) (hm := ?hm)
   case hm => omega
   case inv => exact ⟨by omega, by rw [hc, Sp.cntS_succ hz7]; omega⟩
  intro hc6'
  try simp only [nrm] at hc6'
  refine W_exit (N_K_exit (N_LP_exit (N_B_same (N_K (q2 (pe 2 Z (q3 (W_ret (rt1 results93 Z ?_)))))))))
  obtain rfl : k = d.snaps.length := by omega
  exact H.rets (congrArg (Value.int .i64) (by rw [hc]; rfl))
end Go.Proofs.Tst

namespace Go.Proofs.Tst
open Go Fw Tryz
theorem l12Snaps_c (w0 : World) (G0 : PH) (hG : PSub G0 w0) (cd : List Value) (d : BDisk) (hd : diskE G0 d cd)  :
  Calls Tryz.prog 92 #[.agg cd.toArray] w0 (Rets w0 (.bool (Sp.l12Snaps d))) := by
 obtain ⟨_, _, _, _, _, _, _, _, _, rfl, hr1, hr1', hr1'', ⟨_, _⟩, ⟨_, _⟩, _, _⟩ := ox hd
 have H := Hp.init hG
 refine calls_of_W (l := [_]) func92 Z ntmps92 Z (q2 (o_box H Z Z Z ?_)); intro b2 _ _ H
 refine aG Z (q3 (W_seq (q2 (aG Z (q3 (W_block ?_))))))
 obtain ⟨ln3, hln3, H⟩ := H.name (k := 0) rfl
 refine W_lp (hf := (Sub.cons (t := 1) Z Sub.nil)) (J := fun M w m => ∃ (k : Nat) (G : PH), M = [(3, .int .i64 (k : Int))] ∧ PLe G0 G ∧ Hp w0 G0 [] w G [blk b2 (cl ln3 27)] ∧ (k ≤ d.snaps.length ∧ ∀ j, j < k → Sp.okS d j = true) ∧ m = (d.snaps.length - k)) (h0 := ⟨0, _, Z, PLe.refl _, H, ?inv, Z⟩) (round := ?round)
 case inv => exact ⟨by omega, fun j hj => by omega⟩
 case round =>
  rintro _ _ _ ⟨k, _, rfl, hle4, H, hinv4, rfl⟩
  subst hln3
  have hr1 := hr1.up hle4
  have hr1'' := hr1''.up hle4
  obtain ⟨_, hall⟩ := hinv4
  refine W_seq (q2 (mV Z (fA 2 Z (lB 0 H Z3 (lN Z (pe 1 Z (q3 ?_)))))))
  refine W_cond Z ?_ ?_
  ·intro hc5
   try simp only [nrm] at hc5
   refine W_skip (N_K (W_seq (W_block (q2 (fA 2 Z (lB 0 H Z3 (mV Z (iP k hr1'' Z3 Z ?_)))))))); intro _ _ _ _ hz6 hE6 hrow6
   obtain ⟨_, _, _, rfl, hi6, hr6, _, _⟩ := ox hE6
   refine o_loadagg_P H isAgg107 sizeOf107 Z Z hrow6 Z (xal H Z ?_); intro _ _ _ H
   refine xst 0 H Z8 ?_; intro _ H
   refine q1 (fA 0 Z (lB 0 H Z3 (xr H Z2 (l1Word_c _ _ hi6 ) ?_))); intro _ H
   refine pe 2 Z ?_
   refine R_case (t := 21) Z ?_ ?_
   ·intro hc10
    try simp only [nrm] at hc10
    refine pe 22 Z (q3 (W_true Z (q2 (aG Z (q3 (W_ret (N_B_ret (N_K_ret (N_LP_ret (N_B_ret (N_K_ret (rt1 results92 Z ?_))))))))))))
    exact H.rets (congrArg Value.bool (by rw [Sp.l12Snaps, Sp.not_all_range (k := k) oM (by rw [Sp.okS_at hz6]; simp [*] <;> (intros; omega))]; rfl))
   intro hc10'
   try simp only [nrm] at hc10'
   refine gR Z (fA 2 Z (gR Z (lB 1 H Z3 (gR Z (fA 0 Z (gR Z (lB 0 H Z3 (gR Z (xr H Z2 (l12At_c _ _ H.sub _ _ hr1'' _ hi6 ) ?_))))))))); intro _ H
   refine pe 4 Z ?_
   refine R_case (t := 30) Z ?_ ?_
   ·intro hc12
    try simp only [nrm] at hc12
    refine pe 13 Z (q3 (W_true Z (q2 (aG Z (q3 (W_ret (N_B_ret (N_K_ret (N_LP_ret (N_B_ret (N_K_ret (rt1 results92 Z ?_))))))))))))
    exact H.rets (congrArg Value.bool (by rw [Sp.l12Snaps, Sp.not_all_range (k := k) oM (by rw [Sp.okS_at hz6]; simp [*] <;> (intros; omega))]; rfl))
   intro hc12'
   try simp only [nrm] at hc12'
   refine gR Z (fA 1 Z (gR Z (lB 0 H Z3 (gR Z (xr H Z2 (TreeValid_c _ _ H.sub _ _ hr6 ) ?_))))); intro _ H
   refine pe 3 Z ?_
   refine R_case (t := 36) Z ?_ ?_
   ·intro hc14
    try simp only [nrm] at hc14
    refine pe 7 Z (q3 (W_true Z (q2 (aG Z (q3 (W_ret (N_B_ret (N_K_ret (N_LP_ret (N_B_ret (N_K_ret (rt1 results92 Z ?_))))))))))))
    exact H.rets (congrArg Value.bool (by rw [Sp.l12Snaps, Sp.not_all_range (k := k) oM (by rw [Sp.okS_at hz6]; simp [*] <;> (intros; omega))]; rfl))
   intro hc14'
   try simp only [nrm] at hc14'
   refine gR Z (fA 0 Z (gR Z (lB 1 H Z3 (gR Z (fA 1 Z (gR Z (lB 0 H Z3 (gR Z (xr H Z2 (l11Files_c _ _ H.sub _ _ hr1 _ _ hr6 ) ?_))))))))); intro _ H
   refine pe 2 Z (q3 ?_)
   refine W_cond Z ?_ ?_
   ·intro hc16
    try simp only [nrm] at hc16
    refine q2 (aG Z (q3 (W_ret (N_B_ret (N_K_ret (N_LP_ret (N_B_ret (N_K_ret (rt1 results92 Z ?_)))))))))
    exact H.rets (congrArg Value.bool (by rw [Sp.l12Snaps, Sp.not_all_range (k := k) oM (by rw [Sp.okS_at hz6]; simp [*] <;> (intros; omega))]; rfl))
   intro hc16'
   try simp only [nrm] at hc16'
   refine W_skip (N_B (N_K (W_region (mV Z (aD Z2 (aG Z (R_nil ?_)))))))
   have H := H.dl 0
   refine N_lp (hJ := ⟨k + 1, _, Z, hle4, H, ?inv, Z⟩) (hm := ?hm)
   case hm => omega
   case inv => exact ⟨by omega, Sp.upto_succ hall (by rw [Sp.okS_at hz6]; simp [*])⟩
  intro hc5'
  try simp only [nrm] at hc5'
  refine W_exit (N_K_exit (N_LP_exit (N_B_same (N_K (q2 (fA 2 Z (lB 0 H Z3 (lN Z (pe 2 Z (q3 (W_ret (rt1 results92 Z ?_))))))))))))
  exact H.rets (congrArg Value.bool (by rw [Sp.l12Snaps, Sp.all_range (fun j hj => hall j oM), Bool.true_and]; rw [Bool.eq_iff_iff]; simp; omega))
end Go.Proofs.Tst

namespace Go.Proofs.Tst
open Go Fw Tryz
theorem l12Keep_c (w0 : World) (G0 : PH) (hG : PSub G0 w0) (vstore : Value) (store : List (BHeld)) (hstore : RdH G0 vstore store) (vlist : Value) (list : List (BItem)) (hlist : RdItems G0 vlist list)  :
  Calls Tryz.prog 65 #[vstore, vlist] w0 (RetO w0 G0 (fun G v r => ∃ u, v = .tuple #[u, .bool (Sp.l12Keep store list).isSome] ∧ AccOf heldE 3 153 ((Sp.l12Keep store list).getD []) G u r)) := by
 obtain ⟨astore, kstore, rfl⟩ := hstore.shape
 have hlimstore : store.length ≤ 1099511627776 := hstore.lim
 obtain ⟨alist, klist, rfl⟩ := hlist.shape
 have hlimlist : list.length ≤ 1099511627776 := hlist.lim
 have H := Hp.init hG
 refine calls_of_W (l := [.slice astore store.length kstore, .slice alist list.length klist]) func65 Z ntmps65 Z (q2 (pe 2 Z (q1 (mV Z (xc Z2 (l3Copy_c _ _ H.sub _ _ hstore ) ?_)))))
 rintro _ _ ⟨G1, _, _, g1, rfl, ⟨_, rfl, hchk1⟩, hp1, hq1, hs1⟩
 have H := H.growO g1 hp1 hq1 hs1; obtain ⟨_, _, rfl⟩ := H.accShape (k := 0) rfl
 have hlist := hlist.up g1.le
 refine ⟨_, Z, ?_⟩
 refine aG Z (q3 (W_seq (q2 (aG Z (q3 (W_block ?_))))))
 refine W_lp (hf := (Sub.cons (t := 1) Z Sub.nil)) (J := fun M w m => ∃ (vo : Value) (no : Nat) (cso : List Value) (xso : List (BHeld)) (k : Nat) (G : PH), M = [(7, .int .i64 (k : Int)), (6, vo)] ∧ PLe G1 G ∧ Hp w0 G0 [] w G [acc 153 3 vo no cso] ∧ (Chk heldE 3 G cso xso ∧ no = xso.length ∧ k ≤ list.length ∧ xso.length = store.length ∧ Sp.foldB Sp.keepT (list.take k) (some store) = some xso) ∧ m = (list.length - k)) (h0 := ⟨_, _, _, store, 0, _, Z, PLe.refl _, H, ?inv, Z⟩) (round := ?round)
 case inv => exact ⟨hchk1,  by first | rfl | simp | (simp; omega) | omega, (by exact ⟨by omega, rfl, by simp [Sp.foldB]⟩)⟩
 case round =>
  rintro _ _ _ ⟨vo, no, cso, xso, k, G2, rfl, hle2, H, hinv2, rfl⟩
  have hlist := hlist.up hle2
  obtain ⟨hchk2_0, _, hinv2⟩ := hinv2
  obtain ⟨_, _, rfl⟩ := H.accShape (k := 0) rfl
  obtain ⟨_, hxl, hf⟩ := hinv2
  refine W_seq (q2 (pe 2 Z (lN Z (pe 1 Z (q3 ?_)))))
  refine W_cond Z ?_ ?_
  ·intro hc3
   try simp only [nrm] at hc3
   refine W_skip (N_K (W_seq (W_block (q2 (aG Z (q3 (W_block ?_)))))))
   refine W_lp (hf := (Sub.cons (t := 1) Z (Sub.cons (t := 7) Z Sub.nil))) (J := fun M w m => ∃ (v : Value) (n : Nat) (cs : List Value) (xs : List (BHeld)) (j : Nat) (y : BItem) (G : PH), M = [(8, .int .i64 (j : Int)), (6, v)] ∧ PLe G2 G ∧ Hp w0 G0 [] w G [acc 153 3 v n cs] ∧ (Chk heldE 3 G cs xs ∧ n = xs.length ∧ list[k]? = some y ∧ j ≤ y.ids.length ∧ xs.length = store.length ∧ Sp.foldB Sp.StoreKeep (y.ids.take j) (some xso) = some xs) ∧ m = (y.ids.length - j)) (h0 := ⟨_, _, _, xso, 0, (list[k]'oM), _, Z, PLe.refl _, H, ?inv, Z⟩) (round := ?round)
   case inv => exact ⟨hchk2_0,  by first | rfl | simp | (simp; omega) | omega, (by exact ⟨by simp, by omega, hxl, by simp [Sp.foldB]⟩)⟩
   case round =>
    rintro _ _ _ ⟨v, n, cs, xs, j, y, _, rfl, hle4, H, hinv4, rfl⟩
    have hlist := hlist.up hle4
    have hle2 := hle2.trans hle4
    obtain ⟨hchk4_0, _, hinv4⟩ := hinv4
    obtain ⟨_, _, rfl⟩ := H.accShape (k := 0) rfl
    obtain ⟨hy, _, hxl2, hf2⟩ := hinv4
    refine W_seq (q2 (pe 3 Z (iP k hlist Z3 Z ?_))); intro _ _ z5 _ hz5 hE5 hrow5
    obtain ⟨_, _, _, rfl, _, hr5, _, _⟩ := ox hE5
    have hzz5 : y = z5 := Option.some.inj (hy.symm.trans hz5)
    subst hzz5
    refine fA 2 Z (lP H hrow5 2 Z2 (lN Z (pe 1 Z (q3 ?_))))
    refine W_cond Z ?_ ?_
    ·intro hc6
     try simp only [nrm] at hc6
     refine W_skip (N_K (W_seq (W_block (q2 (pe 3 Z (iP k hlist Z3 Z ?_)))))); intro _ _ z7 _ hz7 hE7 hrow7
     obtain ⟨_, _, _, rfl, _, hr7, _, _⟩ := ox hE7
     have hzz7 : y = z7 := Option.some.inj (hy.symm.trans hz7)
     subst hzz7
     refine fA 2 Z (lP H hrow7 2 Z2 (mV Z (iP j hr7 Z3 Z ?_))); intro _ _ z8 _ hz8 hE8 hrow8
     obtain ⟨rfl, _⟩ := hE8
     refine lP H hrow8 0 Z2 ?_
     obtain ⟨_, H, hsg10, hsr10⟩ := H.shut' (k := 0) rfl hchk4_0 aN aN
     have hle4 := hle4.trans hsg10
     refine xc Z2 (StoreKeep_c _ _ H.sub _ _ hsr10 _ ) ?_
     rintro _ _ ⟨G9, _, _, g9, rfl, ⟨_, rfl, ⟨_, rfl, hchk9⟩⟩, hp9, hq9, hs9⟩
     have H := H.growO g9 hp9 hq9 hs9; obtain ⟨_, _, rfl⟩ := H.accShape (k := 0) rfl
     have hle4 := hle4.trans g9.le
     refine ⟨_, Z, ?_⟩
     refine pe 5 Z (q3 (W_seq (q2 (pe 2 Z (q3 ?_)))))
     refine W_cond Z ?_ ?_
     ·intro hc11
      try simp only [nrm] at hc11
      refine q2 (xbs H Z7 ?_); intro _ _ _ H
      have H := H.blkAcc 3 (k := 0) (n := 0) rfl rfl (by decide)
      refine pe 2 Z (q3 (W_ret (N_K_ret (N_B_ret (N_K_ret (N_LP_ret (N_B_ret (N_B_ret (N_K_ret (N_LP_ret (N_B_ret (N_K_ret (rt2 results65 Z Z ?_)))))))))))))
      have hN : Sp.l12Keep store list = none := by (have hno : Sp.StoreKeep xs z8 = none := by simpa using hc11); unfold Sp.l12Keep; exact Sp.foldB_stop hf hy (by unfold Sp.keepT; exact Sp.foldB_stop hf2 hz8 hno)
      exact H.retO (k := 0) rfl (by rw [hN]; exact ⟨_, rfl, AccOf.mk aN (Chk.nil (E := heldE) (sz := 3) (G := G9))⟩) (acc_nd _ _ _ _ _)
     intro hc11'
     try simp only [nrm] at hc11'
     obtain ⟨p, hsp⟩ := Option.isSome_iff_exists.1 hc11'
     rw [hsp] at H hchk9 ⊢
     dsimp only [Option.map, Option.getD] at H hchk9
     refine W_skip (N_K (W_region (pe 2 Z (R_nil (N_B (N_K (W_region (mV Z (aD Z2 (aG Z (R_nil ?_)))))))))))
     refine N_lp (hJ := ⟨_, _, _, p, j + 1, y, _, Z, hle4, H, ?inv, Z⟩) (hm := ?hm)
     case hm => omega
     case inv => exact ⟨hchk9, aN, (by exact ⟨hy, by omega, by rw [Sp.keep_len hsp]; exact hxl2, Sp.foldB_succ hf2 hz8 hsp⟩)⟩
    intro hc6'
    try simp only [nrm] at hc6'
    refine W_exit (N_K_exit (N_LP_exit (N_B_same (N_B (N_K (W_region (mV Z (aD Z2 (aG Z (R_nil ?_))))))))))
    refine N_lp (hJ := ⟨_, _, _, xs, k + 1, _, Z, hle2, H, ?inv, Z⟩) (hm := ?hm)
    case hm => omega
    case inv => exact ⟨hchk4_0, aN, (by exact ⟨by omega, hxl2, Sp.foldB_succ hf hy (by unfold Sp.keepT; exact Sp.foldB_all hf2 oM)⟩)⟩
  intro hc3'
  try simp only [nrm] at hc3'
  refine W_exit (N_K_exit (N_LP_exit (N_B_same (N_K (q2 (pe 3 Z (q3 (W_ret (rt2 results65 Z Z ?_)))))))))
  have hY : Sp.l12Keep store list = some xso := by unfold Sp.l12Keep; exact Sp.foldB_all hf oM
  exact H.retO (k := 0) rfl (by rw [hY]; exact ⟨_, rfl, AccOf.mk aN hchk2_0⟩) (acc_nd _ _ _ _ _)
end Go.Proofs.Tst

namespace Go.Proofs.Tst
open Go Fw Tryz
theorem DiskValid_c (w0 : World) (G0 : PH) (hG : PSub G0 w0) (cd : List Value) (d : BDisk) (hd : diskE G0 d cd)  :
  Calls Tryz.prog 27 #[.agg cd.toArray] w0 (Rets w0 (.bool (Sp.DiskValid d))) := by
 obtain ⟨_, _, _, _, _, _, _, _, _, rfl, hr1, hr1', hr1'', ⟨_, _⟩, ⟨_, _⟩, _, _⟩ := ox hd
 have H := Hp.init hG
 refine calls_of_W (l := [_]) func27 Z ntmps27 Z (q2 (o_box H Z Z Z ?_)); intro b2 _ _ H
 refine aG Z (q3 (W_seq (q2 (fA 0 Z (lB 0 H Z3 (xr H Z2 (StoreValid_c _ _ H.sub _ _ hr1 ) ?_)))))); intro _ H
 refine pe 2 Z ?_
 refine R_case (t := 8) Z ?_ ?_
 ·intro hc4
  try simp only [nrm] at hc4
  refine pe 18 Z (q3 (W_true Z (q2 (aG Z (q3 (W_ret (N_K_ret (rt1 results27 Z ?_))))))))
  exact H.rets (congrArg Value.bool (by simp [Sp.DiskValid, hc4]))
 intro hc4'
 try simp only [nrm] at hc4'
 refine gR Z (fA 1 Z (gR Z (lB 0 H Z3 (gR Z (xr H Z2 (TreeValid_c _ _ H.sub _ _ hr1' ) ?_))))); intro _ H
 refine pe 3 Z ?_
 refine R_case (t := 14) Z ?_ ?_
 ·intro hc6
  try simp only [nrm] at hc6
  refine pe 12 Z (q3 (W_true Z (q2 (aG Z (q3 (W_ret (N_K_ret (rt1 results27 Z ?_))))))))
  exact H.rets (congrArg Value.bool (by simp [Sp.DiskValid, hc6]))
 intro hc6'
 try simp only [nrm] at hc6'
 refine gR Z (fA 0 Z (gR Z (lB 0 H Z3 (gR Z (fA 1 Z (gR Z (lB 0 H Z3 (gR Z (xr H Z2 (l11Files_c _ _ H.sub _ _ hr1 _ _ hr1' ) ?_))))))))); intro _ H
 refine pe 3 Z ?_
 refine R_case (t := 22) Z ?_ ?_
 ·intro hc8
  try simp only [nrm] at hc8
  refine pe 4 Z (q3 (W_true Z (q2 (aG Z (q3 (W_ret (N_K_ret (rt1 results27 Z ?_))))))))
  exact H.rets (congrArg Value.bool (by simp [Sp.DiskValid, hc8]))
 intro hc8'
 try simp only [nrm] at hc8'
 refine gR Z (lA 0 3 H Z4 (gR Z (xr H Z2 (l12Snaps_c _ _ H.sub _ d ⟨_, _, _, _, _, _, _, _, _, Z, hr1, hr1', hr1''⟩ ) ?_))); intro _ H
 refine pe 2 Z (q3 ?_)
 refine W_cond Z ?_ ?_
 ·intro hc10
  try simp only [nrm] at hc10
  refine q2 (aG Z (q3 (W_ret (N_K_ret (rt1 results27 Z ?_)))))
  exact H.rets (congrArg Value.bool (by simp [Sp.DiskValid, hc10]))
 intro hc10'
 try simp only [nrm] at hc10'
 refine W_skip (N_K (W_seq (q2 (aG Z (q3 (W_block ?_))))))
 obtain ⟨ln11, hln11, H⟩ := H.name (k := 0) rfl
 refine W_lp (hf := (Sub.cons (t := 1) Z Sub.nil)) (J := fun M w m => ∃ (k : Nat) (G : PH), M = [(3, .int .i64 (k : Int))] ∧ PLe G0 G ∧ Hp w0 G0 [] w G [blk b2 (cl ln11 27)] ∧ (k ≤ d.store.length ∧ (d.store.take k).all (Sp.usesD d) = true) ∧ m = (d.store.length - k)) (h0 := ⟨0, _, Z, PLe.refl _, H, ?inv, Z⟩) (round := ?round)
 case inv => exact ⟨by omega, by simp⟩
 case round =>
  rintro _ _ _ ⟨k, G12, rfl, hle12, H, hinv12, rfl⟩
  subst hln11
  have hr1 := hr1.up hle12
  have hr1' := hr1'.up hle12
  have hr1'' := hr1''.up hle12
  obtain ⟨_, hall⟩ := hinv12
  refine W_seq (q2 (mV Z (fA 0 Z (lB 0 H Z3 (lN Z (pe 1 Z (q3 ?_)))))))
  refine W_cond Z ?_ ?_
  ·intro hc13
   try simp only [nrm] at hc13
   refine W_skip (N_K (W_seq (W_block (W_seq (W_drawK [0] 15 H kR Z ?_))))); intro _ H; have hd14 := PLe.refl G12
   refine RD_t 0 Z kR Z (fun _ hK => v_loadagg_B 0 hK isAgg27 sizeOf27 Z Z Z Z) (dF 1 0 Z2 (dB 2 0 Z4 (dE 3 Z2 ?_)))
   have hl15 := hr1.len
   obtain ⟨_, _, z15, _, ha15, hz15, hq15, hE15, hrow15, _⟩ := hr1.at (i := k) oM
   clear hq15
   obtain ⟨_, _, _, rfl, _, _, _, _, _⟩ := ox hE15
   refine dI 4 3 k ha15 Z3 Z (dF 5 0 Z2 (dP 6 hrow15 0 Z3 (dF 8 0 Z2 (dB 9 0 Z4 (dE 10 Z2 ?_)))))
   have hl16 := hr1.len
   obtain ⟨_, _, z16, _, ha16, hz16, hq16, hE16, hrow16, _⟩ := hr1.at (i := k) oM
   clear hq16
   obtain ⟨_, _, _, rfl, _, _, _, _, _⟩ := ox hE16
   have hzz16 : z15 = z16 := Option.some.inj (hz15.symm.trans hz16)
   subst hzz16
   refine dI 11 3 k ha16 Z3 Z (dF 12 2 Z2 (dP 13 hrow16 2 Z3 (r1 7 Z (xr H Z2 (l12Count_c _ _ H.sub _ d ⟨_, _, _, _, _, _, _, _, _, Z, hr1, hr1', hr1''⟩ _ hc6' hc10') ?_)))); intro _ H
   refine q4 H hd14 (dE 14 Z2 (rz (N_K ?_)))
   refine W_cond Z ?_ ?_
   ·intro hc18
    try simp only [nrm] at hc18
    refine q2 (aG Z (q3 (W_ret (N_B_ret (N_K_ret (N_LP_ret (N_B_ret (N_K_ret (rt1 results27 Z ?_)))))))))
    exact H.rets (congrArg Value.bool (by rw [Sp.DiskValid, Sp.all_false hz15 (by simp [Sp.usesD, *])]; rfl))
   intro hc18'
   try simp only [nrm] at hc18'
   refine W_skip (N_B (N_K (W_region (mV Z (aD Z2 (aG Z (R_nil ?_)))))))
   refine N_lp (hJ := ⟨k + 1, _, Z, hle12, H, ?inv, Z⟩) (hm := ?hm)
   case hm => omega
   case inv => exact ⟨by omega, Sp.all_take hall hz15 (by simp [Sp.usesD, *])⟩
  intro hc13'
  try simp only [nrm] at hc13'
  refine W_exit (N_K_exit (N_LP_exit (N_B_same (N_K (q2 (aG Z (q3 (W_ret (rt1 results27 Z ?_)))))))))
  obtain rfl : k = d.store.length := by omega
  rw [List.take_length] at hall
  exact H.rets (congrArg Value.bool (by simp [Sp.DiskValid, hall, hc4', hc6', hc8', hc10']))
end Go.Proofs.Tst

namespace Go.Proofs.Tst
open Go Fw Tryz
theorem l12Copy_c (w0 : World) (G0 : PH) (hG : PSub G0 w0) (cd : List Value) (d : BDisk) (hd : diskE G0 d cd)  :
  Calls Tryz.prog 66 #[.agg cd.toArray] w0 (RetO w0 G0 (fun G val r => ∃ u u1 u2, val = .agg #[u, u1, u2] ∧ AccOf snapE 2 107 d.snaps G u2 r ∧ RdH G u d.store ∧ RdItems G u1 d.tree)) := by
 obtain ⟨_, _, _, _, _, _, _, _, _, rfl, hr1, hr1', hr1'', ⟨_, _⟩, ⟨_, _⟩, _, _⟩ := ox hd
 have H := Hp.init hG
 refine calls_of_W (l := [_]) func66 Z ntmps66 Z (q2 (o_box H Z Z Z ?_)); intro b2 _ _ H
 refine xal H Z ?_; intro b3 _ _ H
 refine q3 ?_
 obtain ⟨ljb3, hljb3, H⟩ := H.name (k := 0) rfl
 obtain ⟨ljb2, hljb2, H⟩ := H.name (k := 1) rfl
 have hj4 := PLe.refl G0
 refine W_join (hf := (Sub.cons (t := 1) Z (Sub.cons (t := 2) Z Sub.nil))) (J := fun M w => ∃ (jb : Nat) (ja jc : Option Addr) (jm jk jn jl : Nat) (ve : Value) (ce : List Value) (ne : Nat) (G : PH), M = [(3, .pointer (some ⟨jb, 0, none⟩))] ∧ PLe G0 G ∧ Hp w0 G0 [] w G [acc 107 2 ve ne ce, blk jb (cl [.slice ja jm jk, .slice jc jn jl, ve] 27), blk b3 (cl ljb3 27), blk b2 (cl ljb2 27)] ∧ (RdH G (.slice ja jm jk) d.store ∧ RdItems G (.slice jc jn jl) d.tree ∧ Chk snapE 2 G ce ([] : List BSnap) ∧ ne = 0)) (first := ?_) (second := ?_)
 ·skip
  subst hljb3
  subst hljb2
  refine W_drawK [0, 1] 10 H kR Z ?_; intro _ H; have hd5 := PLe.refl G0
  refine dF 0 0 Z2 (dB 1 1 Z4 (dF 3 1 Z2 (dB 4 1 Z4 ?_)))
  refine RD_run [2, 6, 8] kR Z (RDs.cons Z ?_ (RDs.cons Z ?_ (RDs.cons Z ?_ RDs.nil)))
  ·skip
   refine xc Z2 (l3Copy_c _ _ H.sub _ _ hr1 ) ?_
   rintro _ _ ⟨_, _, _, g6, rfl, ⟨_, rfl, hchk6⟩, hp6, hq6, hs6⟩
   have H := H.growO g6 hp6 hq6 hs6; obtain ⟨_, _, rfl⟩ := H.accShape (k := 0) rfl
   have hr1' := hr1'.up g6.le
   have hj4 := hj4.trans g6.le
   have hd5 := hd5.trans g6.le
   refine ⟨_, Z, ?_⟩
   refine q4 H hd5 ?_
   refine RD_run [5, 6, 8] kR Z (RDs.cons Z ?_ (RDs.cons Z ?_ (RDs.cons Z ?_ RDs.nil)))
   ·skip
    refine xc Z2 (l5All_c _ _ H.sub _ _ hr1' ) ?_
    rintro _ _ ⟨_, _, _, g7, rfl, ⟨_, rfl, hchk7⟩, hp7, hq7, hs7⟩
    have H := H.growO g7 hp7 hq7 hs7; obtain ⟨_, _, rfl⟩ := H.accShape (k := 0) rfl
    have hchk6 := hchk6.up g7.le
    have hj4 := hj4.trans g7.le
    have hd5 := hd5.trans g7.le
    refine ⟨_, Z, ?_⟩
    refine q4 H hd5 ?_
    refine r2 6 8 Z2 ?_ ?_
    ·skip
     refine xbs H Z7 ?_; intro _ _ _ H
     have H := H.blkAcc 2 (k := 0) (n := 0) rfl rfl (by decide)
     refine q4 H hd5 (RD_t 7 Z kR Z (fun _ hK => v_build bf27 Z Z) (r1 8 Z (xal H Z ?_))); intro _ _ _ H
     refine q4 H hd5 (r1 9 Z (xst 0 H Z8 ?_)); intro _ H
     refine R_nil (N_DKlast kR kR ?_)
     obtain ⟨_, H, hsg512, hsr512⟩ := H.shut' (k := 3) rfl hchk6 aN aN
     have hchk7 := hchk7.up hsg512
     have hj4 := hj4.trans hsg512
     obtain ⟨G513, H, hsg513, hsr513⟩ := H.shut' (k := 2) rfl hchk7 aN aN
     have hsr512 := hsr512.up hsg513
     have hj4 := hj4.trans hsg513
     have H := H.tF 3
     have H := H.tF 3
     have H := H.tF 2
     have H := H.tF 3
     exact N_J ⟨_, _, _, _, _, _, _, _, _, _, _, Z, hj4, H, ⟨hsr512, hsr513, (Chk.nil (E := snapE) (sz := 2) (G := G513)), Z⟩⟩
    skip
    refine xal H Z ?_; intro _ _ _ H
    refine q4 H hd5 (r1 6 Z (xbs H Z7 ?_)); intro _ _ _ H
    have H := H.blkAcc 2 (k := 0) (n := 0) rfl rfl (by decide)
    refine q4 H hd5 (RD_t 7 Z kR Z (fun _ hK => v_build bf27 Z Z) (r1 9 Z (xst 1 H Z8 ?_))); intro _ H
    refine R_nil (N_DKlast kR kR ?_)
    obtain ⟨_, H, hsg517, hsr517⟩ := H.shut' (k := 3) rfl hchk6 aN aN
    have hchk7 := hchk7.up hsg517
    have hj4 := hj4.trans hsg517
    obtain ⟨G518, H, hsg518, hsr518⟩ := H.shut' (k := 2) rfl hchk7 aN aN
    have hsr517 := hsr517.up hsg518
    have hj4 := hj4.trans hsg518
    have H := H.tF 3
    have H := H.tF 3
    have H := H.tF 3
    have H := H.tF 3
    exact N_J ⟨_, _, _, _, _, _, _, _, _, _, _, Z, hj4, H, ⟨hsr517, hsr518, (Chk.nil (E := snapE) (sz := 2) (G := G518)), Z⟩⟩
   ·skip
    refine xbs H Z7 ?_; intro _ _ _ H
    have H := H.blkAcc 2 (k := 0) (n := 0) rfl rfl (by decide)
    refine q4 H hd5 ?_
    refine r2 5 8 Z2 ?_ ?_
    ·skip
     refine xc Z2 (l5All_c _ _ H.sub _ _ hr1' ) ?_
     rintro _ _ ⟨_, _, _, g15, rfl, ⟨_, rfl, hchk15⟩, hp15, hq15, hs15⟩
     have H := H.growO g15 hp15 hq15 hs15; obtain ⟨_, _, rfl⟩ := H.accShape (k := 0) rfl
     have hchk6 := hchk6.up g15.le
     have hj4 := hj4.trans g15.le
     have hd5 := hd5.trans g15.le
     refine ⟨_, Z, ?_⟩
     refine q4 H hd5 (RD_t 7 Z kR Z (fun _ hK => v_build bf27 Z Z) (r1 8 Z (xal H Z ?_))); intro _ _ _ H
     refine q4 H hd5 (r1 9 Z (xst 0 H Z8 ?_)); intro _ H
     refine R_nil (N_DKlast kR kR ?_)
     obtain ⟨_, H, hsg523, hsr523⟩ := H.shut' (k := 3) rfl hchk6 aN aN
     have hchk15 := hchk15.up hsg523
     have hj4 := hj4.trans hsg523
     obtain ⟨G524, H, hsg524, hsr524⟩ := H.shut' (k := 1) rfl hchk15 aN aN
     have hsr523 := hsr523.up hsg524
     have hj4 := hj4.trans hsg524
     have H := H.tF 3
     have H := H.tF 3
     have H := H.tF 2
     have H := H.tF 3
     exact N_J ⟨_, _, _, _, _, _, _, _, _, _, _, Z, hj4, H, ⟨hsr523, hsr524, (Chk.nil (E := snapE) (sz := 2) (G := G524)), Z⟩⟩
    skip
    refine xal H Z ?_; intro _ _ _ H
    refine q4 H hd5 (r1 5 Z (xc Z2 (l5All_c _ _ H.sub _ _ hr1' ) ?_))
    rintro _ _ ⟨_, _, _, g19, rfl, ⟨_, rfl, hchk19⟩, hp19, hq19, hs19⟩
    have H := H.growO g19 hp19 hq19 hs19; obtain ⟨_, _, rfl⟩ := H.accShape (k := 0) rfl
    have hchk6 := hchk6.up g19.le
    have hj4 := hj4.trans g19.le
    have hd5 := hd5.trans g19.le
    refine ⟨_, Z, ?_⟩
    refine q4 H hd5 (RD_t 7 Z kR Z (fun _ hK => v_build bf27 Z Z) (r1 9 Z (xst 1 H Z8 ?_))); intro _ H
    refine R_nil (N_DKlast kR kR ?_)
    obtain ⟨_, H, hsg528, hsr528⟩ := H.shut' (k := 3) rfl hchk6 aN aN
    have hchk19 := hchk19.up hsg528
    have hj4 := hj4.trans hsg528
    obtain ⟨G529, H, hsg529, hsr529⟩ := H.shut' (k := 0) rfl hchk19 aN aN
    have hsr528 := hsr528.up hsg529
    have hj4 := hj4.trans hsg529
    have H := H.tF 3
    have H := H.tF 3
    have H := H.tF 2
    have H := H.tF 3
    exact N_J ⟨_, _, _, _, _, _, _, _, _, _, _, Z, hj4, H, ⟨hsr528, hsr529, (Chk.nil (E := snapE) (sz := 2) (G := G529)), Z⟩⟩
   skip
   refine xal H Z ?_; intro _ _ _ H
   refine q4 H hd5 ?_
   refine r2 5 6 Z2 ?_ ?_
   ·skip
    refine xc Z2 (l5All_c _ _ H.sub _ _ hr1' ) ?_
    rintro _ _ ⟨_, _, _, g22, rfl, ⟨_, rfl, hchk22⟩, hp22, hq22, hs22⟩
    have H := H.growO g22 hp22 hq22 hs22; obtain ⟨_, _, rfl⟩ := H.accShape (k := 0) rfl
    have hchk6 := hchk6.up g22.le
    have hj4 := hj4.trans g22.le
    have hd5 := hd5.trans g22.le
    refine ⟨_, Z, ?_⟩
    refine q4 H hd5 (r1 6 Z (xbs H Z7 ?_)); intro _ _ _ H
    have H := H.blkAcc 2 (k := 0) (n := 0) rfl rfl (by decide)
    refine q4 H hd5 (RD_t 7 Z kR Z (fun _ hK => v_build bf27 Z Z) (r1 9 Z (xst 2 H Z8 ?_))); intro _ H
    refine R_nil (N_DKlast kR kR ?_)
    obtain ⟨_, H, hsg534, hsr534⟩ := H.shut' (k := 3) rfl hchk6 aN aN
    have hchk22 := hchk22.up hsg534
    have hj4 := hj4.trans hsg534
    obtain ⟨G535, H, hsg535, hsr535⟩ := H.shut' (k := 1) rfl hchk22 aN aN
    have hsr534 := hsr534.up hsg535
    have hj4 := hj4.trans hsg535
    have H := H.tF 3
    have H := H.tF 3
    have H := H.tF 3
    have H := H.tF 3
    exact N_J ⟨_, _, _, _, _, _, _, _, _, _, _, Z, hj4, H, ⟨hsr534, hsr535, (Chk.nil (E := snapE) (sz := 2) (G := G535)), Z⟩⟩
   skip
   refine xbs H Z7 ?_; intro _ _ _ H
   have H := H.blkAcc 2 (k := 0) (n := 0) rfl rfl (by decide)
   refine q4 H hd5 (r1 5 Z (xc Z2 (l5All_c _ _ H.sub _ _ hr1' ) ?_))
   rintro _ _ ⟨_, _, _, g26, rfl, ⟨_, rfl, hchk26⟩, hp26, hq26, hs26⟩
   have H := H.growO g26 hp26 hq26 hs26; obtain ⟨_, _, rfl⟩ := H.accShape (k := 0) rfl
   have hchk6 := hchk6.up g26.le
   have hj4 := hj4.trans g26.le
   have hd5 := hd5.trans g26.le
   refine ⟨_, Z, ?_⟩
   refine q4 H hd5 (RD_t 7 Z kR Z (fun _ hK => v_build bf27 Z Z) (r1 9 Z (xst 2 H Z8 ?_))); intro _ H
   refine R_nil (N_DKlast kR kR ?_)
   obtain ⟨_, H, hsg539, hsr539⟩ := H.shut' (k := 3) rfl hchk6 aN aN
   have hchk26 := hchk26.up hsg539
   have hj4 := hj4.trans hsg539
   obtain ⟨G540, H, hsg540, hsr540⟩ := H.shut' (k := 0) rfl hchk26 aN aN
   have hsr539 := hsr539.up hsg540
   have hj4 := hj4.trans hsg540
   have H := H.tF 3
   have H := H.tF 3
   have H := H.tF 3
   have H := H.tF 3
   exact N_J ⟨_, _, _, _, _, _, _, _, _, _, _, Z, hj4, H, ⟨hsr539, hsr540, (Chk.nil (E := snapE) (sz := 2) (G := G540)), Z⟩⟩
  ·skip
   refine xbs H Z7 ?_; intro _ _ _ H
   have H := H.blkAcc 2 (k := 0) (n := 0) rfl rfl (by decide)
   refine q4 H hd5 ?_
   refine r2 2 8 Z2 ?_ ?_
   ·skip
    refine xc Z2 (l3Copy_c _ _ H.sub _ _ hr1 ) ?_
    rintro _ _ ⟨_, _, _, g29, rfl, ⟨_, rfl, hchk29⟩, hp29, hq29, hs29⟩
    have H := H.growO g29 hp29 hq29 hs29; obtain ⟨_, _, rfl⟩ := H.accShape (k := 0) rfl
    have hr1' := hr1'.up g29.le
    have hj4 := hj4.trans g29.le
    have hd5 := hd5.trans g29.le
    refine ⟨_, Z, ?_⟩
    refine q4 H hd5 ?_
    refine r2 5 8 Z2 ?_ ?_
    ·skip
     refine xc Z2 (l5All_c _ _ H.sub _ _ hr1' ) ?_
     rintro _ _ ⟨_, _, _, g30, rfl, ⟨_, rfl, hchk30⟩, hp30, hq30, hs30⟩
     have H := H.growO g30 hp30 hq30 hs30; obtain ⟨_, _, rfl⟩ := H.accShape (k := 0) rfl
     have hchk29 := hchk29.up g30.le
     have hj4 := hj4.trans g30.le
     have hd5 := hd5.trans g30.le
     refine ⟨_, Z, ?_⟩
     refine q4 H hd5 (RD_t 7 Z kR Z (fun _ hK => v_build bf27 Z Z) (r1 8 Z (xal H Z ?_))); intro _ _ _ H
     refine q4 H hd5 (r1 9 Z (xst 0 H Z8 ?_)); intro _ H
     refine R_nil (N_DKlast kR kR ?_)
     obtain ⟨_, H, hsg546, hsr546⟩ := H.shut' (k := 2) rfl hchk29 aN aN
     have hchk30 := hchk30.up hsg546
     have hj4 := hj4.trans hsg546
     obtain ⟨G547, H, hsg547, hsr547⟩ := H.shut' (k := 1) rfl hchk30 aN aN
     have hsr546 := hsr546.up hsg547
     have hj4 := hj4.trans hsg547
     have H := H.tF 3
     have H := H.tF 3
     have H := H.tF 2
     have H := H.tF 3
     exact N_J ⟨_, _, _, _, _, _, _, _, _, _, _, Z, hj4, H, ⟨hsr546, hsr547, (Chk.nil (E := snapE) (sz := 2) (G := G547)), Z⟩⟩
    skip
    refine xal H Z ?_; intro _ _ _ H
    refine q4 H hd5 (r1 5 Z (xc Z2 (l5All_c _ _ H.sub _ _ hr1' ) ?_))
    rintro _ _ ⟨_, _, _, g34, rfl, ⟨_, rfl, hchk34⟩, hp34, hq34, hs34⟩
    have H := H.growO g34 hp34 hq34 hs34; obtain ⟨_, _, rfl⟩ := H.accShape (k := 0) rfl
    have hchk29 := hchk29.up g34.le
    have hj4 := hj4.trans g34.le
    have hd5 := hd5.trans g34.le
    refine ⟨_, Z, ?_⟩
    refine q4 H hd5 (RD_t 7 Z kR Z (fun _ hK => v_build bf27 Z Z) (r1 9 Z (xst 1 H Z8 ?_))); intro _ H
    refine R_nil (N_DKlast kR kR ?_)
    obtain ⟨_, H, hsg551, hsr551⟩ := H.shut' (k := 2) rfl hchk29 aN aN
    have hchk34 := hchk34.up hsg551
    have hj4 := hj4.trans hsg551
    obtain ⟨G552, H, hsg552, hsr552⟩ := H.shut' (k := 0) rfl hchk34 aN aN
    have hsr551 := hsr551.up hsg552
    have hj4 := hj4.trans hsg552
    have H := H.tF 3
    have H := H.tF 3
    have H := H.tF 2
    have H := H.tF 3
    exact N_J ⟨_, _, _, _, _, _, _, _, _, _, _, Z, hj4, H, ⟨hsr551, hsr552, (Chk.nil (E := snapE) (sz := 2) (G := G552)), Z⟩⟩
   skip
   refine xal H Z ?_; intro _ _ _ H
   refine q4 H hd5 (r1 2 Z (xc Z2 (l3Copy_c _ _ H.sub _ _ hr1 ) ?_))
   rintro _ _ ⟨_, _, _, g37, rfl, ⟨_, rfl, hchk37⟩, hp37, hq37, hs37⟩
   have H := H.growO g37 hp37 hq37 hs37; obtain ⟨_, _, rfl⟩ := H.accShape (k := 0) rfl
   have hr1' := hr1'.up g37.le
   have hj4 := hj4.trans g37.le
   have hd5 := hd5.trans g37.le
   refine ⟨_, Z, ?_⟩
   refine q4 H hd5 (r1 5 Z (xc Z2 (l5All_c _ _ H.sub _ _ hr1' ) ?_))
   rintro _ _ ⟨_, _, _, g38, rfl, ⟨_, rfl, hchk38⟩, hp38, hq38, hs38⟩
   have H := H.growO g38 hp38 hq38 hs38; obtain ⟨_, _, rfl⟩ := H.accShape (k := 0) rfl
   have hchk37 := hchk37.up g38.le
   have hj4 := hj4.trans g38.le
   have hd5 := hd5.trans g38.le
   refine ⟨_, Z, ?_⟩
   refine q4 H hd5 (RD_t 7 Z kR Z (fun _ hK => v_build bf27 Z Z) (r1 9 Z (xst 2 H Z8 ?_))); intro _ H
   refine R_nil (N_DKlast kR kR ?_)
   obtain ⟨_, H, hsg557, hsr557⟩ := H.shut' (k := 1) rfl hchk37 aN aN
   have hchk38 := hchk38.up hsg557
   have hj4 := hj4.trans hsg557
   obtain ⟨G558, H, hsg558, hsr558⟩ := H.shut' (k := 0) rfl hchk38 aN aN
   have hsr557 := hsr557.up hsg558
   have hj4 := hj4.trans hsg558
   have H := H.tF 3
   have H := H.tF 3
   have H := H.tF 2
   have H := H.tF 3
   exact N_J ⟨_, _, _, _, _, _, _, _, _, _, _, Z, hj4, H, ⟨hsr557, hsr558, (Chk.nil (E := snapE) (sz := 2) (G := G558)), Z⟩⟩
  skip
  refine xal H Z ?_; intro _ _ _ H
  refine q4 H hd5 ?_
  refine r2 2 6 Z2 ?_ ?_
  ·skip
   refine xc Z2 (l3Copy_c _ _ H.sub _ _ hr1 ) ?_
   rintro _ _ ⟨_, _, _, g41, rfl, ⟨_, rfl, hchk41⟩, hp41, hq41, hs41⟩
   have H := H.growO g41 hp41 hq41 hs41; obtain ⟨_, _, rfl⟩ := H.accShape (k := 0) rfl
   have hr1' := hr1'.up g41.le
   have hj4 := hj4.trans g41.le
   have hd5 := hd5.trans g41.le
   refine ⟨_, Z, ?_⟩
   refine q4 H hd5 ?_
   refine r2 5 6 Z2 ?_ ?_
   ·skip
    refine xc Z2 (l5All_c _ _ H.sub _ _ hr1' ) ?_
    rintro _ _ ⟨_, _, _, g42, rfl, ⟨_, rfl, hchk42⟩, hp42, hq42, hs42⟩
    have H := H.growO g42 hp42 hq42 hs42; obtain ⟨_, _, rfl⟩ := H.accShape (k := 0) rfl
    have hchk41 := hchk41.up g42.le
    have hj4 := hj4.trans g42.le
    have hd5 := hd5.trans g42.le
    refine ⟨_, Z, ?_⟩
    refine q4 H hd5 (r1 6 Z (xbs H Z7 ?_)); intro _ _ _ H
    have H := H.blkAcc 2 (k := 0) (n := 0) rfl rfl (by decide)
    refine q4 H hd5 (RD_t 7 Z kR Z (fun _ hK => v_build bf27 Z Z) (r1 9 Z (xst 3 H Z8 ?_))); intro _ H
    refine R_nil (N_DKlast kR kR ?_)
    obtain ⟨_, H, hsg564, hsr564⟩ := H.shut' (k := 2) rfl hchk41 aN aN
    have hchk42 := hchk42.up hsg564
    have hj4 := hj4.trans hsg564
    obtain ⟨G565, H, hsg565, hsr565⟩ := H.shut' (k := 1) rfl hchk42 aN aN
    have hsr564 := hsr564.up hsg565
    have hj4 := hj4.trans hsg565
    have H := H.tF 3
    have H := H.tF 3
    have H := H.tF 3
    have H := H.tF 3
    exact N_J ⟨_, _, _, _, _, _, _, _, _, _, _, Z, hj4, H, ⟨hsr564, hsr565, (Chk.nil (E := snapE) (sz := 2) (G := G565)), Z⟩⟩
   skip
   refine xbs H Z7 ?_; intro _ _ _ H
   have H := H.blkAcc 2 (k := 0) (n := 0) rfl rfl (by decide)
   refine q4 H hd5 (r1 5 Z (xc Z2 (l5All_c _ _ H.sub _ _ hr1' ) ?_))
   rintro _ _ ⟨_, _, _, g46, rfl, ⟨_, rfl, hchk46⟩, hp46, hq46, hs46⟩
   have H := H.growO g46 hp46 hq46 hs46; obtain ⟨_, _, rfl⟩ := H.accShape (k := 0) rfl
   have hchk41 := hchk41.up g46.le
   have hj4 := hj4.trans g46.le
   have hd5 := hd5.trans g46.le
   refine ⟨_, Z, ?_⟩
   refine q4 H hd5 (RD_t 7 Z kR Z (fun _ hK => v_build bf27 Z Z) (r1 9 Z (xst 3 H Z8 ?_))); intro _ H
   refine R_nil (N_DKlast kR kR ?_)
   obtain ⟨_, H, hsg569, hsr569⟩ := H.shut' (k := 2) rfl hchk41 aN aN
   have hchk46 := hchk46.up hsg569
   have hj4 := hj4.trans hsg569
   obtain ⟨G570, H, hsg570, hsr570⟩ := H.shut' (k := 0) rfl hchk46 aN aN
   have hsr569 := hsr569.up hsg570
   have hj4 := hj4.trans hsg570
   have H := H.tF 3
   have H := H.tF 3
   have H := H.tF 3
   have H := H.tF 3
   exact N_J ⟨_, _, _, _, _, _, _, _, _, _, _, Z, hj4, H, ⟨hsr569, hsr570, (Chk.nil (E := snapE) (sz := 2) (G := G570)), Z⟩⟩
  skip
  refine xbs H Z7 ?_; intro _ _ _ H
  have H := H.blkAcc 2 (k := 0) (n := 0) rfl rfl (by decide)
  refine q4 H hd5 (r1 2 Z (xc Z2 (l3Copy_c _ _ H.sub _ _ hr1 ) ?_))
  rintro _ _ ⟨_, _, _, g49, rfl, ⟨_, rfl, hchk49⟩, hp49, hq49, hs49⟩
  have H := H.growO g49 hp49 hq49 hs49; obtain ⟨_, _, rfl⟩ := H.accShape (k := 0) rfl
  have hr1' := hr1'.up g49.le
  have hj4 := hj4.trans g49.le
  have hd5 := hd5.trans g49.le
  refine ⟨_, Z, ?_⟩
  refine q4 H hd5 (r1 5 Z (xc Z2 (l5All_c _ _ H.sub _ _ hr1' ) ?_))
  rintro _ _ ⟨_, _, _, g50, rfl, ⟨_, rfl, hchk50⟩, hp50, hq50, hs50⟩
  have H := H.growO g50 hp50 hq50 hs50; obtain ⟨_, _, rfl⟩ := H.accShape (k := 0) rfl
  have hchk49 := hchk49.up g50.le
  have hj4 := hj4.trans g50.le
  have hd5 := hd5.trans g50.le
  refine ⟨_, Z, ?_⟩
  refine q4 H hd5 (RD_t 7 Z kR Z (fun _ hK => v_build bf27 Z Z) (r1 9 Z (xst 3 H Z8 ?_))); intro _ H
  refine R_nil (N_DKlast kR kR ?_)
  obtain ⟨_, H, hsg575, hsr575⟩ := H.shut' (k := 1) rfl hchk49 aN aN
  have hchk50 := hchk50.up hsg575
  have hj4 := hj4.trans hsg575
  obtain ⟨G576, H, hsg576, hsr576⟩ := H.shut' (k := 0) rfl hchk50 aN aN
  have hsr575 := hsr575.up hsg576
  have hj4 := hj4.trans hsg576
  have H := H.tF 3
  have H := H.tF 3
  have H := H.tF 3
  have H := H.tF 3
  exact N_J ⟨_, _, _, _, _, _, _, _, _, _, _, Z, hj4, H, ⟨hsr575, hsr576, (Chk.nil (E := snapE) (sz := 2) (G := G576)), Z⟩⟩
 rintro _ _ ⟨jb, ja, jc, jm, jk, jn, jl, ve, ce, ne, G4, rfl, hle4, H, hinv4⟩
 subst hljb3
 subst hljb2
 have hr1'' := hr1''.up hle4
 obtain ⟨hja, hjb, hjc, rfl⟩ := hinv4; obtain ⟨_, _, rfl⟩ := H.accShape (k := 0) rfl
 refine W_seq (q2 (aG Z (q3 (W_block ?_))))
 obtain ⟨ln52, hln52, H⟩ := H.nameAt (k := 1) (off := 2) rfl rfl
 obtain ⟨ln53, hln53, H⟩ := H.name (k := 2) rfl
 obtain ⟨ln54, hln54, H⟩ := H.name (k := 3) rfl
 refine W_lp (hf := (Sub.cons (t := 1) Z (Sub.cons (t := 2) Z (Sub.cons (t := 3) Z Sub.nil)))) (J := fun M w m => ∃ (v : Value) (n : Nat) (cs : List Value) (xs : List (BSnap)) (k : Nat) (G : PH), M = [(4, .int .i64 (k : Int))] ∧ PLe G4 G ∧ Hp w0 G0 [] w G [acc 107 2 v n cs, blk jb (cl (setN ln52 2 v) 27), blk b3 (cl ln53 27), blk b2 (cl ln54 27)] ∧ (Chk snapE 2 G cs xs ∧ n = xs.length ∧ k ≤ d.snaps.length ∧ xs.length = k ∧ xs = d.snaps.take k) ∧ m = (d.snaps.length - k)) (h0 := ⟨_, _, _, [], 0, _, Z, PLe.refl _, H, ?inv, Z⟩) (round := ?round)
 case inv => exact ⟨hjc,  by first | rfl | simp | (simp; omega) | omega, (by simp)⟩
 case round =>
  rintro _ _ _ ⟨v, n, cs, xs, k, G55, rfl, hle55, H, hinv55, rfl⟩
  subst hln52
  subst hln53
  subst hln54
  have hr1'' := hr1''.up hle55
  have hja := hja.up hle55
  have hjb := hjb.up hle55
  obtain ⟨hchk55_0, _, hinv55⟩ := hinv55
  obtain ⟨_, _, rfl⟩ := H.accShape (k := 0) rfl
  obtain ⟨_, hxl, hxs⟩ := hinv55
  refine W_seq (q2 (mV Z (fA 2 Z (lB 3 H Z3 (lN Z (pe 1 Z (q3 ?_)))))))
  refine W_cond Z ?_ ?_
  ·intro hc56
   try simp only [nrm] at hc56
   refine W_skip (N_K (W_seq (W_block (W_drawK [1, 2, 3] 20 H kR Z ?_)))); intro _ H; have hd57 := PLe.refl G55
   refine dF 0 2 Z2 (dB 1 0 Z4 (dF 2 2 Z2 (dB 3 2 Z4 (dE 4 Z2 ?_))))
   have hl58 := hr1''.len
   obtain ⟨_, _, z58, _, ha58, hz58, hq58, hE58, hrow58, _⟩ := hr1''.at (i := k) oM
   clear hq58
   obtain ⟨_, _, _, rfl, hi58, hr58, _, _⟩ := ox hE58
   refine dI 5 2 k ha58 Z3 Z (dF 6 0 Z2 (dP 7 hrow58 0 Z3 (dF 8 2 Z2 (dB 9 2 Z4 (dE 10 Z2 ?_)))))
   have hl59 := hr1''.len
   obtain ⟨_, _, z59, _, ha59, hz59, hq59, hE59, hrow59, _⟩ := hr1''.at (i := k) oM
   clear hq59
   obtain ⟨_, _, _, rfl, _, hr59, _, _⟩ := ox hE59
   have hzz59 : z58 = z59 := Option.some.inj (hz58.symm.trans hz59)
   subst hzz59
   refine dI 11 2 k ha59 Z3 Z (dF 12 1 Z2 (dP 13 hrow59 1 Z3 (r1 14 Z (xc Z2 (l5All_c _ _ H.sub _ _ hr59 ) ?_))))
   rintro _ _ ⟨_, _, _, g60, rfl, ⟨_, rfl, hchk60⟩, hp60, hq60, hs60⟩
   have H := H.growO g60 hp60 hq60 hs60; obtain ⟨_, _, rfl⟩ := H.accShape (k := 0) rfl
   have hchk55_0 := hchk55_0.up g60.le
   have hle55 := hle55.trans g60.le
   have hd57 := hd57.trans g60.le
   refine ⟨_, Z, ?_⟩
   refine q4 H hd57 (RD_t 15 Z kR Z (fun _ hK => v_build bf107 Z Z) (r1 16 Z (xbs H Z7 ?_))); intro _ _ _ H
   refine q4 H hd57 (r1 17 Z (o_append1 1 H (sz := 2) (bytes := 40) underlying25 typeInfo107 ⟨_, Z, Z⟩ Z Z Z Z Z Z Z Z Z Z oM Z ?_)); intro _ _ H
   obtain ⟨_, H, hsg63, hsr63⟩ := H.shut' (k := 0) rfl hchk60 aN aN
   have hchk55_0 := hchk55_0.up hsg63
   have hle55 := hle55.trans hsg63
   have hd57 := hd57.trans hsg63
   have hchk62 := hchk55_0.snoc (show snapE _ ⟨z58.name, z58.tree⟩ _ from ⟨_, _, _, rfl, hi58, hsr63⟩) rfl
   obtain ⟨_, _, rfl⟩ := H.accShape (k := 0) rfl
   refine q4 H hd57 (dF 18 2 Z2 (r1 19 Z (xst 1 H Z8 ?_))); intro _ H
   refine R_nil (N_DKlast kR kR (N_B (N_K (W_region (mV Z (aD Z2 (aG Z (R_nil ?_))))))))
   refine N_lp (hJ := ⟨_, _, _, (xs ++ [⟨z58.name, z58.tree⟩]), k + 1, _, Z, hle55, H, ?inv, Z⟩) (hm := ?hm)
   case hm => omega
   case inv => exact ⟨hchk62, aN, (by exact ⟨by omega, by simp [hxl], by rw [Sp.take_succ' hz58, hxs]⟩)⟩
  intro hc56'
  try simp only [nrm] at hc56'
  refine W_exit (N_K_exit (N_LP_exit (N_B_same (N_K (q2 (lA 1 3 H Z4 (xst 2 H Z8 ?_))))))); intro _ H
  refine q3 (W_ret (ret_gen (rs := [.cell 2 27]) (vs := [_]) results66 ⟨⟨_, Z, load_blk 2 H isAgg27 sizeOf27 Z Z Z⟩, trivial⟩ ?_))
  obtain rfl : k = d.snaps.length := by omega
  rw [List.take_length] at hxs
  subst hxs
  exact H.retO (k := 0) Z ⟨_, _, _, Z, AccOf.mk aN hchk55_0, hja, hjb⟩ (acc_nd _ _ _ _ _)
end Go.Proofs.Tst

namespace Go.Proofs.Tst
open Go Fw Tryz
theorem SnapTake_c (w0 : World) (G0 : PH) (hG : PSub G0 w0) (cd : List Value) (d : BDisk) (hd : diskE G0 d cd) (name : Bs) (hname : name.length ≤ 16777216)  :
  Calls Tryz.prog 17 #[.agg cd.toArray, str name] w0 (RetO w0 G0 (fun G val r => ∃ u u1 u2, val = .tuple #[.agg #[u, u1, u2], .bool (Sp.SnapTake d name).isSome] ∧ AccOf snapE 2 107 (((Sp.SnapTake d name).map (·.snaps)).getD []) G u2 r ∧ RdH G u (((Sp.SnapTake d name).map (·.store)).getD []) ∧ RdItems G u1 (((Sp.SnapTake d name).map (·.tree)).getD []))) := by
 obtain ⟨_, _, _, _, _, _, _, _, _, rfl, hr1, hr1', hr1'', ⟨_, _⟩, ⟨_, _⟩, _, _⟩ := ox hd
 have H := Hp.init hG
 refine calls_of_W (l := [_, str name]) func17 Z ntmps17 Z (q2 (o_box H Z Z Z ?_)); intro _ _ _ H
 refine xal H Z ?_; intro _ _ _ H
 refine aG Z (q3 (W_seq (q2 (lA 1 3 H Z4 (xr H Z2 (DiskValid_c _ _ H.sub _ d ⟨_, _, _, _, _, _, _, _, _, Z, hr1, hr1', hr1''⟩ ) ?_))))); intro _ H
 refine pe 2 Z ?_
 refine R_case (t := 12) Z ?_ ?_
 ·intro hc5
  try simp only [nrm] at hc5
  refine pe 17 Z (q3 (W_true Z (q2 (o_build bf27 Z Z Z (xst 0 H Z8 ?_))))); intro _ H
  refine aG Z (q3 (W_ret (N_K_ret (ret_gen (rs := [.cell 4 27, .tmp 5]) (vs := [_, _]) results17 ⟨⟨_, Z, load_blk 0 H isAgg27 sizeOf27 Z Z Z⟩, Z, trivial⟩ ?_))))
  have hN : Sp.SnapTake d name = none := by simp [Sp.SnapTake, hc5]
  have H := H.addNil 107 2
  exact H.retO (k := 0) rfl (by rw [hN]; exact ⟨_, _, _, rfl, AccOf.mk rfl Chk.nil, RdS.nil _ _ _, RdS.nil _ _ _⟩) (acc_nd _ _ _ _ _)
 intro hc5'
 try simp only [nrm] at hc5'
 refine pe 1 Z (gR Z (xr H Z2 (l1Word_c _ _ hname ) ?_)); intro _ H
 refine pe 3 Z ?_
 refine R_case (t := 17) Z ?_ ?_
 ·intro hc8
  try simp only [nrm] at hc8
  refine pe 12 Z (q3 (W_true Z (q2 (o_build bf27 Z Z Z (xst 0 H Z8 ?_))))); intro _ H
  refine aG Z (q3 (W_ret (N_K_ret (ret_gen (rs := [.cell 4 27, .tmp 5]) (vs := [_, _]) results17 ⟨⟨_, Z, load_blk 0 H isAgg27 sizeOf27 Z Z Z⟩, Z, trivial⟩ ?_))))
  have hN : Sp.SnapTake d name = none := by simp [Sp.SnapTake, hc8]
  have H := H.addNil 107 2
  exact H.retO (k := 0) rfl (by rw [hN]; exact ⟨_, _, _, rfl, AccOf.mk rfl Chk.nil, RdS.nil _ _ _, RdS.nil _ _ _⟩) (acc_nd _ _ _ _ _)
 intro hc8'
 try simp only [nrm] at hc8'
 refine gR Z (fA 2 Z (gR Z (lB 1 H Z3 (pe 1 Z (gR Z (xr H Z2 (l12At_c _ _ H.sub _ _ hr1'' _ hname ) ?_)))))); intro _ H
 refine pe 3 Z ?_
 refine R_case (t := 24) Z ?_ ?_
 ·intro hc11
  try simp only [nrm] at hc11
  refine pe 5 Z (q3 (W_true Z (q2 (o_build bf27 Z Z Z (xst 0 H Z8 ?_))))); intro _ H
  refine aG Z (q3 (W_ret (N_K_ret (ret_gen (rs := [.cell 4 27, .tmp 5]) (vs := [_, _]) results17 ⟨⟨_, Z, load_blk 0 H isAgg27 sizeOf27 Z Z Z⟩, Z, trivial⟩ ?_))))
  have hN : Sp.SnapTake d name = none := by (obtain ⟨_, _, ia, _, _, _, _⟩ := Sp.at_nat hc11); simp [Sp.SnapTake, Sp.atS, ia]
  have H := H.addNil 107 2
  exact H.retO (k := 0) rfl (by rw [hN]; exact ⟨_, _, _, rfl, AccOf.mk rfl Chk.nil, RdS.nil _ _ _, RdS.nil _ _ _⟩) (acc_nd _ _ _ _ _)
 intro hc11'
 try simp only [nrm] at hc11'
 refine gR Z (fA 2 Z (gR Z (lB 1 H Z3 (gR Z (lN Z (pe 2 Z (q3 ?_)))))))
 refine W_cond Z ?_ ?_
 ·intro hc13
  try simp only [nrm] at hc13
  refine q2 (o_build bf27 Z Z Z (xst 0 H Z8 ?_)); intro _ H
  refine aG Z (q3 (W_ret (N_K_ret (ret_gen (rs := [.cell 4 27, .tmp 5]) (vs := [_, _]) results17 ⟨⟨_, Z, load_blk 0 H isAgg27 sizeOf27 Z Z Z⟩, Z, trivial⟩ ?_))))
  have hN : Sp.SnapTake d name = none := by simp [Sp.SnapTake, show d.snaps.length = 6 by omega]
  have H := H.addNil 107 2
  exact H.retO (k := 0) rfl (by rw [hN]; exact ⟨_, _, _, rfl, AccOf.mk rfl Chk.nil, RdS.nil _ _ _, RdS.nil _ _ _⟩) (acc_nd _ _ _ _ _)
 intro hc13'
 try simp only [nrm] at hc13'
 refine W_skip (N_K (q2 (fA 0 Z (lB 1 H Z3 (fA 1 Z (lB 1 H Z3 (xc Z2 (l12Keep_c _ _ H.sub _ _ hr1 _ _ hr1' ) ?_)))))))
 rintro _ _ ⟨_, _, _, g15, rfl, ⟨_, rfl, ⟨_, rfl, hchk15⟩⟩, hp15, hq15, hs15⟩
 have H := H.growO g15 hp15 hq15 hs15; obtain ⟨_, _, rfl⟩ := H.accShape (k := 0) rfl
 have hr1 := hr1.up g15.le
 have hr1' := hr1'.up g15.le
 have hr1'' := hr1''.up g15.le
 refine ⟨_, Z, ?_⟩
 have hkl := Sp.l12Keep_len d.store d.tree
 refine pe 5 Z (q3 (W_seq (q2 (pe 2 Z (q3 ?_)))))
 refine W_cond Z ?_ ?_
 ·intro hc16
  try simp only [nrm] at hc16
  refine q2 (o_build bf27 Z Z Z (xst 1 H Z8 ?_)); intro _ H
  refine aG Z (q3 (W_ret (N_K_ret (ret_gen (rs := [.cell 4 27, .tmp 5]) (vs := [_, _]) results17 ⟨⟨_, Z, load_blk 1 H isAgg27 sizeOf27 Z Z Z⟩, Z, trivial⟩ ?_))))
  have hN : Sp.SnapTake d name = none := by (have hno : Sp.l12Keep d.store d.tree = none := by simpa using hc16); simp [Sp.SnapTake, hno]
  have H := H.addNil 107 2
  exact H.retO (k := 0) rfl (by rw [hN]; exact ⟨_, _, _, rfl, AccOf.mk rfl Chk.nil, RdS.nil _ _ _, RdS.nil _ _ _⟩) (acc_nd _ _ _ _ _)
 intro hc16'
 try simp only [nrm] at hc16'
 refine W_skip (N_K (q2 (lA 2 3 H Z4 (xc Z2 (l12Copy_c _ _ H.sub _ d ⟨_, _, _, _, _, _, _, _, _, Z, hr1, hr1', hr1''⟩ ) ?_))))
 rintro _ _ ⟨G18, _, _, g18, rfl, ⟨_, _, _, rfl, ⟨_, rfl, hchk18⟩, hr18_0, hr18_1⟩, hp18, hq18, hs18⟩
 have H := H.growO g18 hp18 hq18 hs18; obtain ⟨_, _, rfl⟩ := H.accShape (k := 0) rfl
 have hr1' := hr1'.up g18.le
 have hchk15 := hchk15.up g18.le
 obtain ⟨_, _, rfl⟩ := hr18_0.shape; have hx_hr18_0 : _ ≤ 1099511627776 := hr18_0.lim
 obtain ⟨_, _, rfl⟩ := hr18_1.shape; have hx_hr18_1 : _ ≤ 1099511627776 := hr18_1.lim
 refine ⟨_, Z, ?_⟩
 refine xal H Z ?_; intro _ _ _ H
 refine xst 0 H Z8 ?_; intro _ H
 refine q1 (mV Z (fA 0 Z (xst 0 H Z8 ?_))); intro _ H
 refine q3 (W_seq (W_drawK [0, 3, 4] 11 H kR Z ?_)); intro _ H; have hd22 := PLe.refl G18
 refine dF 0 2 Z2 (dB 1 0 Z4 (dE 2 Z2 (dF 3 1 Z2 (dB 4 2 Z4 (r1 5 Z (xc Z2 (l5All_c _ _ H.sub _ _ hr1' ) ?_))))))
 rintro _ _ ⟨_, _, _, g23, rfl, ⟨_, rfl, hchk23⟩, hp23, hq23, hs23⟩
 have H := H.growO g23 hp23 hq23 hs23; obtain ⟨_, _, rfl⟩ := H.accShape (k := 0) rfl
 have hchk15 := hchk15.up g23.le
 have hr18_1 := hr18_1.up g23.le
 have hchk18 := hchk18.up g23.le
 have hd22 := hd22.trans g23.le
 refine ⟨_, Z, ?_⟩
 refine q4 H hd22 (RD_t 6 Z kR Z (fun _ hK => v_build bf107 Z Z) (r1 7 Z (xbs H Z7 ?_))); intro _ _ _ H
 refine q4 H hd22 (r1 8 Z (o_append1 2 H (sz := 2) (bytes := 40) underlying25 typeInfo107 ⟨_, Z, Z⟩ Z Z Z Z Z Z Z Z Z Z oM Z ?_)); intro _ _ H
 obtain ⟨_, H, hsg26, hsr26⟩ := H.shut' (k := 0) rfl hchk23 aN aN
 have hchk15 := hchk15.up hsg26
 have hr18_1 := hr18_1.up hsg26
 have hchk18 := hchk18.up hsg26
 have hd22 := hd22.trans hsg26
 have hchk25 := hchk18.snoc (show snapE _ ⟨name, d.tree⟩ _ from ⟨_, _, _, rfl, hname, hsr26⟩) rfl
 obtain ⟨_, _, rfl⟩ := H.accShape (k := 1) rfl
 refine q4 H hd22 (dF 9 2 Z2 (r1 10 Z (xst 0 H Z8 ?_))); intro _ H
 refine R_nil (N_DKlast kR kR (N_K (q2 (lA 0 3 H Z4 (xst 3 H Z8 ?_))))); intro _ H
 refine aG Z (q3 (W_ret (ret_gen (rs := [.cell 4 27, .tmp 5]) (vs := [_, _]) results17 ⟨⟨_, Z, load_blk 3 H isAgg27 sizeOf27 Z Z Z⟩, Z, trivial⟩ ?_)))
 obtain ⟨_, H, hsg530, hsr530⟩ := H.shut' (k := 2) rfl hchk15 aN aN
 have hr18_1 := hr18_1.up hsg530
 have hchk25 := hchk25.up hsg530
 have hY : Sp.SnapTake d name = some ⟨(Sp.l12Keep d.store d.tree).getD [], d.tree, d.snaps ++ [⟨name, d.tree⟩]⟩ := by (obtain ⟨_, hp⟩ := Option.isSome_iff_exists.1 hc16'); (have hat : Sp.atS d.snaps name = none := Sp.at_none hc11'); simp [Sp.SnapTake, hc5', hc8', hat, hp, show ¬ d.snaps.length = 6 by omega]
 exact H.retO (k := 1) rfl (by rw [hY]; exact ⟨_, _, _, rfl, AccOf.mk aN hchk25, hsr530, hr18_1⟩) (acc_nd _ _ _ _ _)
end Go.Proofs.Tst

namespace Go.Proofs.Tst
open Go Fw Tryz
theorem pick_c (w0 : World) (G0 : PH) (hG : PSub G0 w0) (rb : Nat) (ab : Option Addr) (mb kb : Nat) (bs : List UInt8) (p : Nat) (hbs : RdU G0 (.slice ab mb kb) bs) (hrb : w0.heap[rb]? = some (cl [.slice ab mb kb, .int .i64 (p : Int)] 192)) (hrn : G0 rb = none) (hp : p ≤ 1000000000000) (n : Int) (hn : inI n)  :
  Calls Tryz.prog 57 #[.pointer (some ⟨rb, 0, none⟩), .int .i64 n] w0 (RetM w0 G0 [rb] (fun G val Bs => ∃ (p' : Nat) (x : Nat), p' ≤ p + 1 ∧ val = .int .i64 (x : Int) ∧ ((x : Int) < n ∨ x = 0) ∧ Bs = [blk rb (cl [.slice ab mb kb, .int .i64 (p' : Int)] 192)])) := by
 have hlimbs : bs.length ≤ 1099511627776 := hbs.lim; obtain rfl : mb = bs.length := hbs.len
 have H := Hp.initM hG hrb hrn
 refine calls_of_W (l := [.pointer (some ⟨rb, 0, none⟩), .int .i64 n]) func57 Z ntmps57 Z (q2 (aG Z (q1 (pe 3 Z (fA 1 Z (lB 0 H Z3 (aD Z2 (pe 1 Z (fA 1 Z (xst 0 H Z8 ?_)))))))))); intro _ H
 refine q3 (W_seq (q2 (pe 3 Z ?_)))
 refine R_case (t := 17) Z ?_ ?_
 ·intro hc3
  try simp only [nrm] at hc3
  refine pe 7 Z (q3 (W_true Z (q2 (aG Z (q3 (W_ret (N_K_ret (rt1 results57 Z ?_))))))))
  exact H.retM ⟨p + 1, 0, by omega, rfl, .inr rfl, rfl⟩
 intro hc3'
 try simp only [nrm] at hc3'
 refine pe 2 Z (gR Z (fA 0 Z (gR Z (lB 0 H Z3 (gR Z (lN Z (pe 2 Z (q3 ?_))))))))
 refine W_cond Z ?_ ?_
 ·intro hc4
  try simp only [nrm] at hc4
  refine q2 (aG Z (q3 (W_ret (N_K_ret (rt1 results57 Z ?_)))))
  exact H.retM ⟨p + 1, 0, by omega, rfl, .inr rfl, rfl⟩
 intro hc4'
 try simp only [nrm] at hc4'
 have hm0 : 0 < bs.length := by omega
 have hm1 := Nat.mod_lt p hm0
 have hm2 := Nat.mod_lt (p * 7 + 3) hm0
 have hq1 : 0 ≤ ((p : Int) + 1 - 1) / (bs.length : Int) := Int.ediv_nonneg oM oM
 have hq2 : ((p : Int) + 1 - 1) / (bs.length : Int) ≤ (p : Int) + 1 - 1 := Int.ediv_le_self _ oM
 refine W_skip (N_K (q2 (pe 2 Z (fA 1 Z (lB 0 H Z3 (o_sub Z Z Z oO (aG Z (q3 (W_seq (q2 (pe 3 Z (fA 0 Z (lB 0 H Z3 (lN Z (pe 1 Z ?_)))))))))))))))
 refine q3 ?_
 refine W_cond Z ?_ ?_
 ·intro hc6
  try simp only [nrm] at hc6
  refine q2 (pe 2 Z (fA 0 Z (lB 0 H Z3 (mV Z (iP p hbs Z3 oM ?_))))); intro _ _ z7 _ _ hE7 hrow7
  obtain rfl := hE7
  have hzl7 := z7.toNat_lt
  refine lP H hrow7 0 Z2 (o_conv (by simp [underlying5]) underlying3 Z Z (wrap_i64 oO) (mV Z (o_rem Z Z Z oM oM (aG Z (q3 (W_ret (N_K_ret (rt1 results57 Z ?_))))))))
  exact H.retM ⟨p + 1, _, by omega, congrArg (Value.int .i64) (Int.toNat_of_nonneg (Int.emod_nonneg _ oM)).symm, .inl (by rw [Int.toNat_of_nonneg (Int.emod_nonneg _ oM)]; exact Int.emod_lt_of_pos _ oM), rfl⟩
 intro hc6'
 try simp only [nrm] at hc6'
 refine W_skip (N_K (W_seq (W_drawK [0] 46 H kR Z ?_))); intro _ H; have hd8 := PLe.refl G0
 refine dE 0 Z2 (dE 1 Z2 (dF 2 0 Z2 (dB 3 0 Z4 (dE 4 Z2 (dE 5 Z2 (dE 6 Z2 (dF 7 0 Z2 (dB 8 0 Z4 (dN 9 Z2 (RD_t 10 Z kR Z (fun _ hK => v_rem Z Z oM oM) ?_))))))))))
 have hl9 := hbs.len
 obtain ⟨_, _, z9, _, ha9, _, hq9, hE9, hrow9, _⟩ := hbs.at (i := (p % bs.length)) oM
 clear hq9
 obtain rfl := hE9
 have hzl9 := z9.toNat_lt
 refine RD_t 11 Z kR Z (fun _ hK => v_index_P (i := (p % bs.length)) ha9 underlying22 sizeOf5 Z Z (by rw [Int.add_sub_cancel]; exact (Int.natCast_emod _ _).symm) oM) ?_
 refine dP 12 hrow9 0 Z3 (RD_t 13 Z kR Z (fun _ hK => v_conv (by simp [underlying5]) underlying3 Z (wrap_i64 oO)) (RD_t 14 Z kR Z (fun _ hK => v_mul Z Z oO) (dE 15 Z2 (dE 16 Z2 (dF 17 0 Z2 (dB 18 0 Z4 (dE 19 Z2 (RD_t 20 Z kR Z (fun _ hK => v_mul Z Z oO) (RD_t 21 Z kR Z (fun _ hK => v_add Z Z oO) (dE 22 Z2 (dE 23 Z2 (dF 24 0 Z2 (dB 25 0 Z4 (dN 26 Z2 (RD_t 27 Z kR Z (fun _ hK => v_rem Z Z oM oM) ?_)))))))))))))))
 have hl13 := hbs.len
 obtain ⟨_, _, z13, _, ha13, _, hq13, hE13, hrow13, _⟩ := hbs.at (i := ((p * 7 + 3) % bs.length)) oM
 clear hq13
 obtain rfl := hE13
 have hzl13 := z13.toNat_lt
 refine RD_t 28 Z kR Z (fun _ hK => v_index_P (i := ((p * 7 + 3) % bs.length)) ha13 underlying22 sizeOf5 Z Z (by rw [Int.add_sub_cancel]; exact (Int.natCast_emod _ _).symm) oM) ?_
 refine dP 29 hrow13 0 Z3 (RD_t 30 Z kR Z (fun _ hK => v_conv (by simp [underlying5]) underlying3 Z (wrap_i64 oO)) (RD_t 31 Z kR Z (fun _ hK => v_mul Z Z oO) (RD_t 32 Z kR Z (fun _ hK => v_add Z Z oO) (dE 33 Z2 (RD_t 34 Z kR Z (fun _ hK => v_mul Z Z oO) (RD_t 35 Z kR Z (fun _ hK => v_add Z Z oO) (dE 36 Z2 (dE 37 Z2 (dE 38 Z2 (dF 39 0 Z2 (dB 40 0 Z4 (dN 41 Z2 (RD_t 42 Z kR Z (fun _ hK => v_quo Z Z oM oM oM) (RD_t 43 Z kR Z (fun _ hK => v_mul Z Z oO) (RD_t 44 Z kR Z (fun _ hK => v_add Z Z oO) ?_)))))))))))))))
 refine dE 45 Z2 (rz (N_K (q2 (pe 2 Z (o_quo Z Z Z oM oM oM (o_xor Z Z Z oO oO ?_)))))); intro _ _
 refine aG Z (q1 (pe 2 Z (o_rem Z Z Z oM oM (aG Z (q3 (W_ret (rt1 results57 Z ?_)))))))
 exact H.retM ⟨p + 1, _, by omega, congrArg (Value.int .i64) (Int.toNat_of_nonneg (Int.emod_nonneg _ oM)).symm, .inl (by rw [Int.toNat_of_nonneg (Int.emod_nonneg _ oM)]; exact Int.emod_lt_of_pos _ oM), rfl⟩
end Go.Proofs.Tst

namespace Go.Proofs.Tst
open Go Fw Tryz
theorem of_c (w0 : World) (G0 : PH) (hG : PSub G0 w0) (rb : Nat) (ab : Option Addr) (mb kb : Nat) (bs : List UInt8) (p : Nat) (hbs : RdU G0 (.slice ab mb kb) bs) (hrb : w0.heap[rb]? = some (cl [.slice ab mb kb, .int .i64 (p : Int)] 192)) (hrn : G0 rb = none) (hp : p ≤ 100000000000) (vlist : Value) (list : List (Bs)) (hlist : RdT G0 vlist list) (hL : 0 < list.length) :
  Calls Tryz.prog 58 #[.pointer (some ⟨rb, 0, none⟩), vlist] w0 (RetM w0 G0 [rb] (fun G val Bs => ∃ (p' : Nat) (x : Fw.Bs), p' ≤ p + 1 ∧ val = str x ∧ x.length ≤ 16777216 ∧ Bs = [blk rb (cl [.slice ab mb kb, .int .i64 (p' : Int)] 192)])) := by
 have hlimbs : bs.length ≤ 1099511627776 := hbs.lim; obtain rfl : mb = bs.length := hbs.len
 obtain ⟨alist, klist, rfl⟩ := hlist.shape
 have hlimlist : list.length ≤ 1099511627776 := hlist.lim
 have H := Hp.initM hG hrb hrn
 refine calls_of_W (l := [.pointer (some ⟨rb, 0, none⟩), .slice alist list.length klist]) func58 Z ntmps58 Z (q2 (aG Z (q1 (pe 3 Z (lN Z (xc Z2 (pick_c _ _ H.sub _ _ _ _ _ _ hbs (H.blkIs (k := 0) Z).1 (H.blkIs (k := 0) Z).2 oM _ oO ) ?_))))))
 rintro _ _ ⟨_, _, _, rfl, H1', ⟨_, x1, _, rfl, _, rfl⟩⟩
 have hlist := hlist.up H1'.le
 have H := H.borrow (k := 0) rfl H1'
 refine ⟨_, Z, ?_⟩
 refine iP x1 hlist Z3 Z ?_; intro _ _ _ _ _ hE2 hrow2
 obtain ⟨rfl, hi2⟩ := hE2; have hy_hi2 : _ ≤ 16777216 := hi2
 refine lP H hrow2 0 Z2 (aG Z (q3 (W_ret (rt1 results58 Z ?_))))
 exact H.retM ⟨_, _, by omega, rfl, (by assumption), rfl⟩
end Go.Proofs.Tst

namespace Go.Proofs.Tst
open Go Fw Tryz
theorem l6Open_c (w0 : World) (G0 : PH) (hG : PSub G0 w0) (vcode : Value) (code : List (UInt8)) (hcode : RdU G0 vcode code)  :
  Calls Tryz.prog 55 #[vcode] w0 (RetO w0 G0 (fun G val r => ∃ (b : Nat) (ab : Option Addr) (mb kb : Nat) (bs : List UInt8), val = .pointer (some ⟨b, 0, none⟩) ∧ r = blk b (cl [.slice ab mb kb, .int .i64 ((0 : Nat) : Int)] 192) ∧ RdU G (.slice ab mb kb) bs)) := by
 obtain ⟨acode, kcode, rfl⟩ := hcode.shape
 have hlimcode : code.length ≤ 1099511627776 := hcode.lim
 have H := Hp.init hG
 refine calls_of_W (l := [.slice acode code.length kcode]) func55 Z ntmps55 Z (q2 (aG Z (q3 (W_seq (q2 (mV Z (lN Z (pe 1 Z (q3 ?_)))))))))
 refine W_cond Z ?_ ?_
 ·intro hc1
  try simp only [nrm] at hc1
  refine W_region (mV Z ?_)
  have hcap2 := hcode.cap; try simp only [List.length_set, List.length_append, List.length_take, List.length_drop, List.length_replicate] at hcap2
  refine o_slice_to (j := 2000) underlying22 sizeOf5 Z Z Z oM oM ?_
  have hsl2 := hcode.take (j := 2000) aN
  have hsn1 := hsl2.len
  refine aG Z (q1 (mV Z (o_build bf192 Z Z Z (o_box H Z Z Z ?_)))); intro _ _ _ H
  refine aG Z (q3 (W_ret (rt1 results55 Z ?_)))
  exact H.retO (k := 0) rfl ⟨_, _, _, _, _, rfl, rfl, hsl2⟩ (by simp [blk])
 intro hc1'
 try simp only [nrm] at hc1'
 refine W_skip (N_K (q2 (mV Z (o_build bf192 Z Z Z (o_box H Z Z Z ?_))))); intro _ _ _ H
 refine aG Z (q3 (W_ret (rt1 results55 Z ?_)))
 exact H.retO (k := 0) rfl ⟨_, _, _, _, _, rfl, rfl, hcode⟩ (by simp [blk])
end Go.Proofs.Tst

namespace Go.Proofs.Tst
open Go Fw Tryz
theorem l91Path_c (w0 : World) (G0 : PH) (hG : PSub G0 w0) (rb : Nat) (ab : Option Addr) (mb kb : Nat) (bs : List UInt8) (p : Nat) (hbs : RdU G0 (.slice ab mb kb) bs) (hrb : w0.heap[rb]? = some (cl [.slice ab mb kb, .int .i64 (p : Int)] 192)) (hrn : G0 rb = none) (hp : p ≤ 10000000000)  :
  Calls Tryz.prog 155 #[.pointer (some ⟨rb, 0, none⟩)] w0 (RetM w0 G0 [rb] (fun G val Bs => ∃ (p' : Nat) (x : Fw.Bs), p' ≤ p + 2 ∧ val = str x ∧ x.length ≤ 16777216 ∧ Bs = [blk rb (cl [.slice ab mb kb, .int .i64 (p' : Int)] 192)])) := by
 have hlimbs : bs.length ≤ 1099511627776 := hbs.lim; obtain rfl : mb = bs.length := hbs.len
 have H := Hp.initM hG hrb hrn
 refine calls_of_W (l := [.pointer (some ⟨rb, 0, none⟩)]) func155 Z ntmps155 Z (q2 (aG Z (q3 (W_seq (q2 (mV Z (xc Z2 (pick_c _ _ H.sub _ _ _ _ _ _ hbs (H.blkIs (k := 0) Z).1 (H.blkIs (k := 0) Z).2 oM _ oO ) ?_)))))))
 rintro _ _ ⟨G1, _, _, rfl, H1', ⟨_, _, _, rfl, _, rfl⟩⟩
 have hbs := hbs.up H1'.le
 have H := H.borrow (k := 0) rfl H1'
 refine ⟨_, Z, ?_⟩
 refine pe 1 Z (q3 ?_)
 refine W_cond Z ?_ ?_
 ·intro hc2
  try simp only [nrm] at hc2
  refine q2 (mV Z (xbs H Z7 ?_)); intro _ _ _ H
  have H := H.blkAcc 1 (k := 0) (n := 8) rfl rfl (by decide)
  have hchk5 := (((((((((Chk.nil (E := strE) (sz := 1) (G := G1)).snoc (show strE _ ([] : Fw.Bs) [str []] from ⟨rfl, by decide⟩) rfl).snoc (show strE _ ([97, 47, 47, 98] : Fw.Bs) [str [97, 47, 47, 98]] from ⟨rfl, by decide⟩) rfl).snoc (show strE _ ([47, 97] : Fw.Bs) [str [47, 97]] from ⟨rfl, by decide⟩) rfl).snoc (show strE _ ([97, 47] : Fw.Bs) [str [97, 47]] from ⟨rfl, by decide⟩) rfl).snoc (show strE _ ([65] : Fw.Bs) [str [65]] from ⟨rfl, by decide⟩) rfl).snoc (show strE _ ([97, 98, 99, 100, 101, 102] : Fw.Bs) [str [97, 98, 99, 100, 101, 102]] from ⟨rfl, by decide⟩) rfl).snoc (show strE _ ([97, 47, 98, 47, 99, 47, 100, 47, 101] : Fw.Bs) [str [97, 47, 98, 47, 99, 47, 100, 47, 101]] from ⟨rfl, by decide⟩) rfl).snoc (show strE _ ([97, 47, 98, 47, 99, 47, 100] : Fw.Bs) [str [97, 47, 98, 47, 99, 47, 100]] from ⟨rfl, by decide⟩) rfl)
  obtain ⟨_, H, hsg6, hsr6⟩ := H.shutM (k := 0) (j := 0) rfl rfl hchk5 aN aN
  have hbs := hbs.up hsg6
  refine xc Z2 (of_c _ _ H.sub _ _ _ _ _ _ hbs (H.blkIs (k := 0) Z).1 (H.blkIs (k := 0) Z).2 oM _ _ hsr6 (by first | decide | (simp; done) | (simp; omega))) ?_
  rintro _ _ ⟨_, _, _, rfl, H4', ⟨_, _, _, rfl, _, rfl⟩⟩
  have H := H.borrow (k := 0) rfl H4'
  refine ⟨_, Z, ?_⟩
  refine aG Z (q3 (W_ret (N_K_ret (rt1 results155 Z ?_))))
  exact H.retM ⟨_, _, by omega, rfl, (by assumption), rfl⟩
 intro hc2'
 try simp only [nrm] at hc2'
 refine W_skip (N_K (q2 (mV Z (xbs H Z7 ?_)))); intro _ _ _ H
 have H := H.blkAcc 1 (k := 0) (n := 8) rfl rfl (by decide)
 have hchk9 := (((((((((Chk.nil (E := strE) (sz := 1) (G := G1)).snoc (show strE _ ([97] : Fw.Bs) [str [97]] from ⟨rfl, by decide⟩) rfl).snoc (show strE _ ([98] : Fw.Bs) [str [98]] from ⟨rfl, by decide⟩) rfl).snoc (show strE _ ([97, 47, 120] : Fw.Bs) [str [97, 47, 120]] from ⟨rfl, by decide⟩) rfl).snoc (show strE _ ([97, 47, 121] : Fw.Bs) [str [97, 47, 121]] from ⟨rfl, by decide⟩) rfl).snoc (show strE _ ([98, 47, 120] : Fw.Bs) [str [98, 47, 120]] from ⟨rfl, by decide⟩) rfl).snoc (show strE _ ([97, 47, 120, 47, 112] : Fw.Bs) [str [97, 47, 120, 47, 112]] from ⟨rfl, by decide⟩) rfl).snoc (show strE _ ([99] : Fw.Bs) [str [99]] from ⟨rfl, by decide⟩) rfl).snoc (show strE _ ([97, 47, 120, 47, 113] : Fw.Bs) [str [97, 47, 120, 47, 113]] from ⟨rfl, by decide⟩) rfl)
 obtain ⟨_, H, hsg10, hsr10⟩ := H.shutM (k := 0) (j := 0) rfl rfl hchk9 aN aN
 have hbs := hbs.up hsg10
 refine xc Z2 (of_c _ _ H.sub _ _ _ _ _ _ hbs (H.blkIs (k := 0) Z).1 (H.blkIs (k := 0) Z).2 oM _ _ hsr10 (by first | decide | (simp; done) | (simp; omega))) ?_
 rintro _ _ ⟨_, _, _, rfl, H8', ⟨_, _, _, rfl, _, rfl⟩⟩
 have H := H.borrow (k := 0) rfl H8'
 refine ⟨_, Z, ?_⟩
 refine aG Z (q3 (W_ret (rt1 results155 Z ?_)))
 exact H.retM ⟨_, _, by omega, rfl, (by assumption), rfl⟩
end Go.Proofs.Tst

namespace Go.Proofs.Tst
open Go Fw Tryz
theorem l91At_c (w0 : World) (G0 : PH) (hG : PSub G0 w0) (rb : Nat) (ab : Option Addr) (mb kb : Nat) (bs : List UInt8) (p : Nat) (hbs : RdU G0 (.slice ab mb kb) bs) (hrb : w0.heap[rb]? = some (cl [.slice ab mb kb, .int .i64 (p : Int)] 192)) (hrn : G0 rb = none) (hp : p ≤ 1000000000) (vlist : Value) (list : List (BItem)) (hlist : RdItems G0 vlist list)  :
  Calls Tryz.prog 74 #[.pointer (some ⟨rb, 0, none⟩), vlist] w0 (RetM w0 G0 [rb] (fun G val Bs => ∃ (p' : Nat) (x : Fw.Bs), p' ≤ p + 4 ∧ val = str x ∧ x.length ≤ 16777216 ∧ Bs = [blk rb (cl [.slice ab mb kb, .int .i64 (p' : Int)] 192)])) := by
 have hlimbs : bs.length ≤ 1099511627776 := hbs.lim; obtain rfl : mb = bs.length := hbs.len
 obtain ⟨alist, klist, rfl⟩ := hlist.shape
 have hlimlist : list.length ≤ 1099511627776 := hlist.lim
 have H := Hp.initM hG hrb hrn
 refine calls_of_W (l := [.pointer (some ⟨rb, 0, none⟩), .slice alist list.length klist]) func74 Z ntmps74 Z (q2 (aG Z (q3 (W_seq (q2 (mV Z (lN Z (pe 2 Z ?_))))))))
 refine R_case (t := 8) Z ?_ ?_
 ·intro hc1
  try simp only [nrm] at hc1
  refine pe 1 Z (gR Z (xc Z2 (pick_c _ _ H.sub _ _ _ _ _ _ hbs (H.blkIs (k := 0) Z).1 (H.blkIs (k := 0) Z).2 oM _ oO ) ?_))
  rintro _ _ ⟨_, _, _, rfl, H2', ⟨_, _, _, rfl, _, rfl⟩⟩
  have hbs := hbs.up H2'.le
  have hlist := hlist.up H2'.le
  have H := H.borrow (k := 0) rfl H2'
  refine ⟨_, Z, ?_⟩
  refine pe 2 Z (q3 ?_)
  refine W_cond Z ?_ ?_
  ·intro hc3
   try simp only [nrm] at hc3
   refine q2 (pe 3 Z (lN Z (xc Z2 (pick_c _ _ H.sub _ _ _ _ _ _ hbs (H.blkIs (k := 0) Z).1 (H.blkIs (k := 0) Z).2 oM _ oO ) ?_)))
   rintro _ _ ⟨_, _, _, rfl, H4', ⟨_, x4, _, rfl, _, rfl⟩⟩
   have hlist := hlist.up H4'.le
   have H := H.borrow (k := 0) rfl H4'
   refine ⟨_, Z, ?_⟩
   refine iP x4 hlist Z3 Z ?_; intro _ _ _ _ _ hE5 hrow5
   obtain ⟨_, _, _, rfl, _, _, _, _⟩ := ox hE5
   refine fA 0 Z (lP H hrow5 0 Z2 (aG Z (q3 (W_ret (N_K_ret (rt1 results74 Z ?_))))))
   exact H.retM ⟨_, _, by omega, rfl, (by assumption), rfl⟩
  intro hc3'
  try simp only [nrm] at hc3'
  refine W_skip (N_K (q2 (mV Z (xc Z2 (l91Path_c _ _ H.sub _ _ _ _ _ _ hbs (H.blkIs (k := 0) Z).1 (H.blkIs (k := 0) Z).2 oM ) ?_))))
  rintro _ _ ⟨_, _, _, rfl, H6', ⟨_, _, _, rfl, _, rfl⟩⟩
  have H := H.borrow (k := 0) rfl H6'
  refine ⟨_, Z, ?_⟩
  refine aG Z (q3 (W_ret (rt1 results74 Z ?_)))
  exact H.retM ⟨_, _, by omega, rfl, (by assumption), rfl⟩
 intro hc1'
 try simp only [nrm] at hc1'
 refine pe 4 Z (q3 (W_false Z (W_skip (N_K (q2 (mV Z (xc Z2 (l91Path_c _ _ H.sub _ _ _ _ _ _ hbs (H.blkIs (k := 0) Z).1 (H.blkIs (k := 0) Z).2 oM ) ?_)))))))
 rintro _ _ ⟨_, _, _, rfl, H7', ⟨_, _, _, rfl, _, rfl⟩⟩
 have H := H.borrow (k := 0) rfl H7'
 refine ⟨_, Z, ?_⟩
 refine aG Z (q3 (W_ret (rt1 results74 Z ?_)))
 exact H.retM ⟨_, _, by omega, rfl, (by assumption), rfl⟩
end Go.Proofs.Tst

namespace Go.Proofs
open Go.Shelf
def Tryz.keysA_ren : Go.Shelf.Ren := ⟨fun | 7 => 230 | 10 => 264 | n => n, fun | 23 => 121 | 26 => 3 | 3 => 153 | 28 => 281 | 0 => 0 | 27 => 280 | 33 => 292 | 4 => 4 | n => n, fun | n => n⟩
theorem Tryz.keysA : Go.Proofs.SlLaysZI.n7 Tryz.prog Tryz.keysA_ren := {
 mixed := by kernel_rfl
 f7 := ⟨Tryz.f230.name, by decide, Tryz.func230.trans (congrArg some (by kernel_rfl))⟩
 f10 := ⟨Tryz.f264.name, by decide, Tryz.func264.trans (congrArg some (by kernel_rfl))⟩
 t0 := Tryz.underlying0
 a0 := Tryz.isAgg0
 z0 := Tryz.sizeOf0
 v0 := Tryz.zeroValue0
 t4 := Tryz.underlying4
 a4 := Tryz.isAgg4
 z4 := Tryz.sizeOf4
 v4 := Tryz.zeroValue4
 t23 := Tryz.underlying121
 a23 := Tryz.isAgg121
 z23 := Tryz.sizeOf121
 v23 := Tryz.zeroValue121
 t26 := Tryz.underlying3
 a26 := Tryz.isAgg3
 z26 := Tryz.sizeOf3
 v26 := Tryz.zeroValue3
 t27 := Tryz.underlying280
 a27 := Tryz.isAgg280
 z27 := Tryz.sizeOf280
 v27 := Tryz.zeroValue280
 t28 := Tryz.underlying281
 a28 := Tryz.isAgg281
 z28 := Tryz.sizeOf281
 v28 := Tryz.zeroValue281
 t33 := Tryz.underlying292
 a33 := Tryz.isAgg292
 z33 := Tryz.sizeOf292
 v33 := Tryz.zeroValue292 }
def Tryz.sortedA_ren : Go.Shelf.Ren := ⟨fun | 6 => 229 | 8 => 262 | 9 => 263 | 11 => 282 | 13 => 284 | 12 => 283 | 23 => 302 | 24 => 303 | 14 => 293 | 15 => 294 | 16 => 295 | 17 => 296 | 18 => 297 | 19 => 298 | 20 => 299 | 21 => 300 | 22 => 301 | 25 => 312 | 26 => 313 | 27 => 314 | 28 => 315 | 29 => 316 | 30 => 317 | 31 => 325 | n => n, fun | 26 => 3 | 28 => 281 | 24 => 33 | 0 => 0 | 3 => 3 | 37 => 312 | 48 => 126 | 50 => 328 | 4 => 4 | 40 => 336 | 39 => 335 | 45 => 257 | 5 => 5 | 9 => 9 | 51 => 349 | 55 => 353 | 57 => 355 | 58 => 356 | 33 => 292 | n => n, fun | n => n⟩
theorem Tryz.sortedA : Go.Proofs.SlLaysZI.n6 Tryz.prog Tryz.sortedA_ren := {
 mixed := by kernel_rfl
 f6 := ⟨Tryz.f229.name, by decide, Tryz.func229.trans (congrArg some (by kernel_rfl))⟩
 f8 := ⟨Tryz.f262.name, by decide, Tryz.func262.trans (congrArg some (by kernel_rfl))⟩
 f11 := ⟨Tryz.f282.name, by decide, Tryz.func282.trans (congrArg some (by kernel_rfl))⟩
 t0 := Tryz.underlying0
 a0 := Tryz.isAgg0
 z0 := Tryz.sizeOf0
 v0 := Tryz.zeroValue0
 t24 := Tryz.underlying33
 a24 := Tryz.isAgg33
 z24 := Tryz.sizeOf33
 v24 := Tryz.zeroValue33
 t26 := Tryz.underlying3
 a26 := Tryz.isAgg3
 z26 := Tryz.sizeOf3
 v26 := Tryz.zeroValue3
 t28 := Tryz.underlying281
 a28 := Tryz.isAgg281
 z28 := Tryz.sizeOf281
 v28 := Tryz.zeroValue281
 i26 := by kernel_rfl }
def Tryz.sortA_ren : Go.Shelf.Ren := ⟨fun | 5 => 263 | 8 => 284 | 7 => 283 | 19 => 302 | 20 => 303 | 10 => 293 | 11 => 294 | 12 => 295 | 13 => 296 | 14 => 297 | 15 => 298 | 16 => 299 | 17 => 300 | 18 => 301 | 30 => 312 | 31 => 313 | 32 => 314 | 33 => 315 | 34 => 316 | 35 => 317 | 40 => 325 | n => n, fun | 23 => 33 | 25 => 3 | 3 => 3 | 32 => 312 | 22 => 33 | 0 => 0 | 44 => 126 | 46 => 328 | 4 => 4 | 36 => 336 | 35 => 335 | 41 => 257 | 5 => 5 | 9 => 9 | 53 => 349 | 57 => 353 | 63 => 355 | 64 => 356 | n => n, fun | n => n⟩
theorem Tryz.sortA : Go.Proofs.SlLaysM.n5 Tryz.prog Tryz.sortA_ren := {
 mixed := by kernel_rfl
 f5 := ⟨Tryz.f263.name, by decide, Tryz.func263.trans (congrArg some (by kernel_rfl))⟩
 f7 := ⟨Tryz.f283.name, by decide, Tryz.func283.trans (congrArg some (by kernel_rfl))⟩
 f8 := Tryz.func284.trans (congrArg some (by kernel_rfl))
 f10 := ⟨Tryz.f293.name, by decide, Tryz.func293.trans (congrArg some (by kernel_rfl))⟩
 f11 := ⟨Tryz.f294.name, by decide, Tryz.func294.trans (congrArg some (by kernel_rfl))⟩
 f12 := ⟨Tryz.f295.name, by decide, Tryz.func295.trans (congrArg some (by kernel_rfl))⟩
 f13 := ⟨Tryz.f296.name, by decide, Tryz.func296.trans (congrArg some (by kernel_rfl))⟩
 f14 := ⟨Tryz.f297.name, by decide, Tryz.func297.trans (congrArg some (by kernel_rfl))⟩
 f15 := ⟨Tryz.f298.name, by decide, Tryz.func298.trans (congrArg some (by kernel_rfl))⟩
 f16 := ⟨Tryz.f299.name, by decide, Tryz.func299.trans (congrArg some (by kernel_rfl))⟩
 f17 := ⟨Tryz.f300.name, by decide, Tryz.func300.trans (congrArg some (by kernel_rfl))⟩
 f18 := ⟨Tryz.f301.name, by decide, Tryz.func301.trans (congrArg some (by kernel_rfl))⟩
 f19 := Tryz.func302.trans (congrArg some (by kernel_rfl))
 f20 := Tryz.func303.trans (congrArg some (by kernel_rfl))
 f30 := ⟨Tryz.f312.name, by decide, Tryz.func312.trans (congrArg some (by kernel_rfl))⟩
 f31 := Tryz.func313.trans (congrArg some (by kernel_rfl))
 f32 := Tryz.func314.trans (congrArg some (by kernel_rfl))
 f33 := ⟨Tryz.f315.name, by decide, Tryz.func315.trans (congrArg some (by kernel_rfl))⟩
 f34 := ⟨Tryz.f316.name, by decide, Tryz.func316.trans (congrArg some (by kernel_rfl))⟩
 f35 := ⟨Tryz.f317.name, by decide, Tryz.func317.trans (congrArg some (by kernel_rfl))⟩
 f40 := ⟨Tryz.f325.name, by decide, Tryz.func325.trans (congrArg some (by kernel_rfl))⟩
 t0 := Tryz.underlying0
 a0 := Tryz.isAgg0
 z0 := Tryz.sizeOf0
 v0 := Tryz.zeroValue0
 t3 := Tryz.underlying3
 a3 := Tryz.isAgg3
 z3 := Tryz.sizeOf3
 v3 := Tryz.zeroValue3
 t4 := Tryz.underlying4
 a4 := Tryz.isAgg4
 z4 := Tryz.sizeOf4
 v4 := Tryz.zeroValue4
 t5 := Tryz.underlying5
 a5 := Tryz.isAgg5
 z5 := Tryz.sizeOf5
 v5 := Tryz.zeroValue5
 t9 := Tryz.underlying9
 a9 := Tryz.isAgg9
 z9 := Tryz.sizeOf9
 v9 := Tryz.zeroValue9
 t22 := Tryz.underlying33
 a22 := Tryz.isAgg33
 z22 := Tryz.sizeOf33
 v22 := Tryz.zeroValue33
 t23 := Tryz.underlying33
 a23 := Tryz.isAgg33
 z23 := Tryz.sizeOf33
 v23 := Tryz.zeroValue33
 t25 := Tryz.underlying3
 a25 := Tryz.isAgg3
 z25 := Tryz.sizeOf3
 v25 := Tryz.zeroValue3
 t32 := Tryz.underlying312
 a32 := Tryz.isAgg312
 z32 := Tryz.sizeOf312
 v32 := Tryz.zeroValue312
 t35 := Tryz.underlying335
 a35 := Tryz.isAgg335
 z35 := Tryz.sizeOf335
 v35 := Tryz.zeroValue335
 t36 := Tryz.underlying336
 a36 := Tryz.isAgg336
 z36 := Tryz.sizeOf336
 v36 := Tryz.zeroValue336
 t41 := Tryz.underlying257
 a41 := Tryz.isAgg257
 z41 := Tryz.sizeOf257
 v41 := Tryz.zeroValue257
 t44 := Tryz.underlying126
 a44 := Tryz.isAgg126
 z44 := Tryz.sizeOf126
 v44 := Tryz.zeroValue126
 t46 := Tryz.underlying328
 a46 := Tryz.isAgg328
 z46 := Tryz.sizeOf328
 v46 := Tryz.zeroValue328
 t53 := Tryz.underlying349
 a53 := Tryz.isAgg349
 z53 := Tryz.sizeOf349
 v53 := Tryz.zeroValue349
 t57 := Tryz.underlying353
 a57 := Tryz.isAgg353
 z57 := Tryz.sizeOf353
 v57 := Tryz.zeroValue353
 t63 := Tryz.underlying355
 a63 := Tryz.isAgg355
 z63 := Tryz.sizeOf355
 v63 := Tryz.zeroValue355
 t64 := Tryz.underlying356
 a64 := Tryz.isAgg356
 z64 := Tryz.sizeOf356
 v64 := Tryz.zeroValue356 }
def Tryz.lays143_ren : Go.Shelf.Ren := ⟨fun | 143 => 287 | 219 => 307 | 217 => 319 | 225 => 320 | 224 => 321 | 267 => 322 | 266 => 326 | 314 => 327 | n => n, fun | 9 => 9 | 3 => 3 | 4 => 4 | 5 => 5 | 46 => 312 | 146 => 362 | 51 => 126 | n => n, fun | 1 => 2 | n => n⟩
theorem Tryz.lays143 : Go.Proofs.Lays.n143 Tryz.prog Tryz.lays143_ren := {
 mixed := by kernel_rfl
 f143 := Tryz.func287.trans (congrArg some (by kernel_rfl))
 f217 := Tryz.func319.trans (congrArg some (by kernel_rfl))
 f219 := Tryz.func307.trans (congrArg some (by kernel_rfl))
 f224 := Tryz.func321.trans (congrArg some (by kernel_rfl))
 f225 := Tryz.func320.trans (congrArg some (by kernel_rfl))
 f266 := Tryz.func326.trans (congrArg some (by kernel_rfl))
 f267 := Tryz.func322.trans (congrArg some (by kernel_rfl))
 f314 := Tryz.func327.trans (congrArg some (by kernel_rfl))
 t3 := Tryz.underlying3
 a3 := Tryz.isAgg3
 z3 := Tryz.sizeOf3
 v3 := Tryz.zeroValue3
 t4 := Tryz.underlying4
 a4 := Tryz.isAgg4
 z4 := Tryz.sizeOf4
 v4 := Tryz.zeroValue4
 t5 := Tryz.underlying5
 a5 := Tryz.isAgg5
 z5 := Tryz.sizeOf5
 v5 := Tryz.zeroValue5
 t9 := Tryz.underlying9
 a9 := Tryz.isAgg9
 z9 := Tryz.sizeOf9
 v9 := Tryz.zeroValue9
 t46 := Tryz.underlying312
 a46 := Tryz.isAgg312
 z46 := Tryz.sizeOf312
 v46 := Tryz.zeroValue312
 t51 := Tryz.underlying126
 a51 := Tryz.isAgg126
 z51 := Tryz.sizeOf126
 v51 := Tryz.zeroValue126
 t146 := Tryz.underlying362
 a146 := Tryz.isAgg362
 z146 := Tryz.sizeOf362
 v146 := Tryz.zeroValue362
 g1 := by kernel_rfl }
def Tryz.lays138_ren : Go.Shelf.Ren := ⟨fun | 138 => 286 | 195 => 304 | 218 => 306 | 143 => 287 | 219 => 307 | 217 => 319 | 225 => 320 | 224 => 321 | 267 => 322 | 266 => 326 | 314 => 327 | n => n, fun | 9 => 9 | 3 => 3 | 4 => 4 | 5 => 5 | 0 => 0 | 46 => 312 | 146 => 362 | 51 => 126 | n => n, fun | 1 => 2 | n => n⟩
theorem Tryz.lays138 : Go.Proofs.Lays.n138 Tryz.prog Tryz.lays138_ren := {
 mixed := by kernel_rfl
 f138 := Tryz.func286.trans (congrArg some (by kernel_rfl))
 f143 := Tryz.func287.trans (congrArg some (by kernel_rfl))
 f195 := Tryz.func304.trans (congrArg some (by kernel_rfl))
 f217 := Tryz.func319.trans (congrArg some (by kernel_rfl))
 f218 := Tryz.func306.trans (congrArg some (by kernel_rfl))
 f219 := Tryz.func307.trans (congrArg some (by kernel_rfl))
 f224 := Tryz.func321.trans (congrArg some (by kernel_rfl))
 f225 := Tryz.func320.trans (congrArg some (by kernel_rfl))
 f266 := Tryz.func326.trans (congrArg some (by kernel_rfl))
 f267 := Tryz.func322.trans (congrArg some (by kernel_rfl))
 f314 := Tryz.func327.trans (congrArg some (by kernel_rfl))
 t0 := Tryz.underlying0
 a0 := Tryz.isAgg0
 z0 := Tryz.sizeOf0
 v0 := Tryz.zeroValue0
 t3 := Tryz.underlying3
 a3 := Tryz.isAgg3
 z3 := Tryz.sizeOf3
 v3 := Tryz.zeroValue3
 t4 := Tryz.underlying4
 a4 := Tryz.isAgg4
 z4 := Tryz.sizeOf4
 v4 := Tryz.zeroValue4
 t5 := Tryz.underlying5
 a5 := Tryz.isAgg5
 z5 := Tryz.sizeOf5
 v5 := Tryz.zeroValue5
 t9 := Tryz.underlying9
 a9 := Tryz.isAgg9
 z9 := Tryz.sizeOf9
 v9 := Tryz.zeroValue9
 t46 := Tryz.underlying312
 a46 := Tryz.isAgg312
 z46 := Tryz.sizeOf312
 v46 := Tryz.zeroValue312
 t51 := Tryz.underlying126
 a51 := Tryz.isAgg126
 z51 := Tryz.sizeOf126
 v51 := Tryz.zeroValue126
 t146 := Tryz.underlying362
 a146 := Tryz.isAgg362
 z146 := Tryz.sizeOf362
 v146 := Tryz.zeroValue362
 g1 := by kernel_rfl }
end Go.Proofs
namespace Fw
open Go Go.RowKit Go.Maps Go.Sort Go.Shelf Go.Proofs
open Go.WideElems (Fit rg)
def unitR : Value → Option (DataW Unit × List MemPlace) := fun _ => some (.agg [], [])
theorem owns_of {P : Program} {k : TypeId} {w : World} {b : Nat} {es : Array MapEntry} {clock : Nat} {xs : List (Int × Value)} (hk : P.underlying k = some (.int .i64)) (hb : w.heap[b]? = some (.map es clock)) (hm : MapIs (Value.int .i64) es clock xs) (hw : ∀ x, x ∈ xs → inI x.1) (hl : xs.length ≤ 1000000) :
  ∃ D : DataW Unit, w.ownsMap P k unitR b xs.length D ∧ (intKeys D).Perm (xs.map (·.1)) ∧ Maps.size D = xs.length := by
 have hsz : es.size = xs.length := by have := congrArg List.length hm.kv; simpa using this
 have hkey : ∀ x, x ∈ es.toList → ∃ y, y ∈ xs ∧ x.key = .int .i64 y.1 := by
  intro x hx
  have : (x.key, x.val) ∈ xs.map (fun y => (Value.int .i64 y.1, y.2)) := by rw [← hm.kv]; exact List.mem_map.2 ⟨x, hx, rfl⟩
  obtain ⟨y, h1, h2⟩ := List.mem_map.1 this
  simp only [Prod.mk.injEq] at h2
  exact ⟨y, h1, h2.1.symm⟩
 have hwf : ∀ a : Int, inI a → (Lit.int .i64 a).wf = true := by
  intro a ha
  unfold inI at ha
  have h1 : IntKind.i64.min = -9223372036854775808 := by decide
  have h2 : IntKind.i64.max = 9223372036854775807 := by decide
  simp only [Lit.wf, h1, h2]
  simp
  omega
 have hrd : ∀ x, x ∈ es.toList → ∃ y, y ∈ xs ∧ x.key = .int .i64 y.1 ∧ Go.WideElems.rd P k unitR x = some (.int .i64 y.1, .agg []) := by
  intro x hx
  obtain ⟨y, h1, h2⟩ := hkey x hx
  refine ⟨y, h1, h2, ?_⟩
  simp only [Go.WideElems.rd, h2, keyOf_int_mk hk (hwf _ (hw y h1)), unitR]
  rfl
 refine ⟨.map ((es.toList.map (rg P k unitR)).foldr DataW.insert []), ⟨es, clock, hb, ⟨?_, ⟨hm.lt, hm.born, ?_⟩, ?_⟩, by omega, rfl⟩, ?_, ?_⟩
 ·simp only [maxLen]; omega
 ·have h1 : es.toList.map (·.key) = xs.map (fun x => Value.int .i64 x.1) := by
   have := congrArg (List.map (·.1)) hm.kv
   rw [List.map_map, List.map_map] at this
   exact this
  rw [h1]
  have : (xs.map (fun x => Value.int .i64 x.1)) = (xs.map (·.1)).map (Value.int .i64) := by simp [List.map_map]
  rw [this, List.nodup_iff_pairwise_ne, List.pairwise_map]
  exact (List.nodup_iff_pairwise_ne.1 hm.nd).imp (fun h e => h (by simpa using e))
 ·intro x hx
  obtain ⟨y, _, _, h3⟩ := hrd x hx
  exact ⟨_, h3⟩
 ·have hp := (WideShapes.sorted_perm (es.toList.map (rg P k unitR))).map (fun p : Lit × DataW Unit => intOf p.1)
  show List.Perm (List.map (fun p : Lit × DataW Unit => intOf p.1) _) _
  refine hp.trans ?_
  rw [List.map_map]
  have key : ∀ (l : List MapEntry) (ys : List (Int × Value)), (∀ x, x ∈ l → ∃ y, y ∈ xs ∧ x.key = .int .i64 y.1 ∧ Go.WideElems.rd P k unitR x = some (.int .i64 y.1, .agg [])) → l.map (fun e => (e.key, e.val)) = ys.map (fun x => (Value.int .i64 x.1, x.2)) → l.map ((fun p : Lit × DataW Unit => intOf p.1) ∘ rg P k unitR) = ys.map (·.1) := by
   intro l
   induction l with
   | nil => intro ys _ h; cases ys <;> simp at h ⊢
   | cons x r ih =>
    intro ys h1 h2
    cases ys with
    | nil => simp at h2
    | cons y t =>
     simp only [List.map_cons, List.cons.injEq, Prod.mk.injEq] at h2 ⊢
     obtain ⟨z, _, h3, h4⟩ := h1 x (by simp)
     rw [h2.1.1] at h3
     simp only [Value.int.injEq, true_and] at h3
     refine ⟨?_, ih t (fun q hq => h1 q (by simp [hq])) h2.2⟩
     simp only [Function.comp, rg, h4, Option.getD_some, Go.intOf]
     exact h3.symm
  rw [key es.toList xs hrd hm.kv]
 ·simp only [Maps.size]
  rw [length_sorted]
  simp [hsz]
theorem sorts_of {G : PH} {xs : List (Int × Value)} {L : List BHeld} (hS : StR G xs L) (hL : Sp.VH L) {ss : List Int} (hp : ss.Perm (xs.map (·.1))) : ss.mergeSort (fun x y => decide (x ≤ y)) = L.map (·.id) := by
 have h1 : (ss.mergeSort (fun x y => decide (x ≤ y))).Perm (L.map (·.id)) := (List.mergeSort_perm _ _).trans (hp.trans hS.keys)
 have h2 : (ss.mergeSort (fun x y => decide (x ≤ y))).Pairwise (fun x y => decide (x ≤ y) = true) := List.pairwise_mergeSort (le := fun x y : Int => decide (x ≤ y)) (fun a b c h1 h2 => by simp at *; omega) (fun a b => by simp; omega) ss
 have h3 : (L.map (·.id)).Pairwise (fun x y => decide (x ≤ y) = true) := by
  rw [List.pairwise_map]
  exact hL.asc.imp (fun h => decide_eq_true (by omega))
 exact h1.eq_of_pairwise (fun a b _ _ h1 h2 => by have := of_decide_eq_true h1; have := of_decide_eq_true h2; omega) h2 h3
theorem owns_acc {w w' : World} {e : TypeId} {v : Value} {n : Nat} {cells : List Value} (h : w'.ownsRow w.heap.size e 1 v n cells) : (acc e 1 v n cells).pred (fun b => w'.heap[b]?) ∧ (∀ b, b ∈ (acc e 1 v n cells).fp → w.heap.size ≤ b) := by
 obtain ⟨h1, h2⟩ := h
 refine ⟨⟨h1, ?_⟩, ?_⟩
 ·rcases h2 with h2 | ⟨g, cap, cur, rfl, _, h3, h4, h5, h6, h7⟩
  ·exact .inl h2
  ·exact .inr ⟨g, cap, cur, rfl, h3, h4, h5, Nat.le_of_eq h6.symm, h7⟩
 ·rcases h2 with ⟨rfl, _⟩ | ⟨g, cap, cur, rfl, h3, _⟩
  ·intro b hb; rw [acc_fp_nil] at hb; cases hb
  ·intro b hb; rw [acc_fp, List.mem_singleton] at hb; rw [hb]; exact h3
end Fw
namespace Go.Proofs.Tst
open Go Fw Go.Proofs Go.Sort Go.Maps Go.Shelf Go.RowKit Tryz
theorem sorts (m : Nat) : AnyZI.SortsIn Tryz.prog Tryz.sortedA_ren Fence.wide m :=
  ⟨fun blk off cap ss W hH hblk hsz => callsIn_wide.2 (AnyM.slices_Sort_int Tryz.sortA blk off cap ss W hH hblk hsz),
   fun p cap W => callsIn_wide.2 (AnyM.slices_Sort_int_none Tryz.sortA p cap W)⟩
theorem keys_c (w0 : World) (G0 : PH) (hG : PSub G0 w0) (b : Nat) : Calls Tryz.prog 230 #[.map (some b)] w0 (fun e w' => ∃ kb, e = .returned (.func (.func 264) #[] #[.pointer (some ⟨kb, 0, none⟩)]) ∧ w0.heap.size ≤ kb ∧ Ext w0 w' ∧ w'.heap[kb]? = some (cl [.map (some b)] 121)) :=
  (callsIn_wide.1 (AnyZI.keys_in Tryz.keysA Fence.wide 5 trivial rfl (some b) w0)).mono fun e w' ⟨h1, h2⟩ => by
    subst h2
    exact ⟨w0.heap.size, h1, Nat.le_refl _, Ext.alloc _ _, alloc_new _ _⟩
set_option maxHeartbeats 1000000 in
theorem sorted_c (w0 : World) (Bm b : Nat) {es : Array MapEntry} {clock : Nat} {xs : List (Int × Value)} {L : List BHeld} {G : PH} (hB : w0.heap[Bm]? = some (cl [.map (some b)] 121)) (hb : w0.heap[b]? = some (.map es clock)) (hm : MapIs (Value.int .i64) es clock xs) (hS : StR G xs L) (hL : Sp.VH L) :
    Calls Tryz.prog 229 #[.func (.func 264) #[] #[.pointer (some ⟨Bm, 0, none⟩)]] w0 (fun e w' => ∃ v, e = .returned v ∧ Ext w0 w' ∧ (acc 3 1 v L.length (L.map (fun h => Value.int .i64 h.id))).pred (fun b => w'.heap[b]?) ∧ (∀ b, b ∈ (acc 3 1 v L.length (L.map (fun h => Value.int .i64 h.id))).fp → w0.heap.size ≤ b)) := by
  have hlen := hS.len
  have hw : ∀ x, x ∈ xs → inI x.1 := by
    intro x hx
    have := hS.keys.mem_iff.1 (List.mem_map.2 ⟨x, hx, rfl⟩)
    obtain ⟨h, hh, e⟩ := List.mem_map.1 this
    have := (hL.ok h hh).1
    rw [← e]
    unfold inI
    omega
  have hl16 := hL.len
  obtain ⟨D, hown, hp, hsz⟩ := owns_of (P := Tryz.prog) (k := 3) (by exact underlying3) hb hm hw oM
  have hBl := (Array.getElem?_eq_some_iff.1 hB).1
  have hseq : SeqGives Fence.wide 2 Tryz.prog 264 #[.pointer (some ⟨Bm, 0, none⟩)] encZ (fun ss => ss.Perm (intKeys D)) (Maps.size D) w0 :=
    AnyZI.keys_gives (ρ := Tryz.keysA_ren) { Tryz.keysA with } Fence.wide _ trivial rfl oM Bm b xs.length D w0 hBl (by simp [World.cell?, hB]) hown
  refine (callsIn_wide.1 (AnyZI.sorted_in Tryz.sortedA Fence.wide 5 trivial trivial trivial trivial Z oM (sorts _) (enters_of func263 kR Z) 264 #[.pointer (some ⟨Bm, 0, none⟩)] trivial (enters_of func264 kR Z) _ _ (by simp only [maxLen]; omega) oM _ hseq)).mono ?_
  rintro e w' ⟨v, ss, rfl, hS1, hrow, hnil, hbel⟩
  have hs := sorts_of hS hL (hS1.trans hp)
  have hn : ss.length = L.length := by have := (hS1.trans (hp.trans hS.keys)).length_eq; simpa using this
  rw [hs, hn] at hrow
  have he : (L.map (·.id)).map encZ = L.map (fun h => Value.int .i64 h.id) := by rw [List.map_map]; rfl
  rw [he] at hrow
  obtain ⟨h1, h2⟩ := owns_acc hrow
  exact ⟨v, Z, Ext.of_below hbel, h1, h2⟩
end Go.Proofs.Tst
namespace Go.Proofs.Tst
open Go Fw Go.Proofs
theorem l_Index_c (w0 : World) (s : Bs) (hs : s.length ≤ 16777216) (c : UInt8) : Calls Tryz.prog 287 #[str s, str [c]] w0 (Rets w0 (.int .i64 (Sp.optI (s.findIdx? (Sp.isC c))))) :=
  (Any.strings_Index_one Tryz.lays143 ⟨s.toArray⟩ c w0).mono fun e w' ⟨h1, h2⟩ => ⟨by rw [h1]; simp [Sp.indexByte_eq], by rw [h2]; exact Ext.refl _⟩
theorem l_Count_c (w0 : World) (s : Bs) (hs : s.length ≤ 16777216) (c : UInt8) : Calls Tryz.prog 286 #[str s, str [c]] w0 (Rets w0 (.int .i64 (s.count c : Int))) :=
  (Any.strings_Count_one Tryz.lays138 ⟨s.toArray⟩ c w0).mono fun e w' ⟨h1, h2⟩ => ⟨by rw [h1]; simp [Lib.countByte], by rw [h2]; exact Ext.refl _⟩
end Go.Proofs.Tst
namespace Go.Proofs.Tst
open Go Fw Go.Proofs
theorem chkIds (G : PH) {L : List BHeld} (h : Sp.VH L) : Chk intE 1 G (L.map (fun h => Value.int .i64 h.id)) (L.map (·.id)) := by
  refine ⟨L.map (fun h => [Value.int .i64 h.id]), ?_, by simp, fun i x hx => ?_⟩
  · clear h
    induction L with
    | nil => rfl
    | cons a r ih => simp only [List.map_cons, List.flatten_cons, ← ih]; rfl
  rw [List.getElem?_map] at hx ⊢
  cases e : L[i]? with
  | none => simp [e] at hx
  | some y =>
    simp only [e, Option.map_some, Option.some.injEq] at hx ⊢
    subst hx
    have := (h.at e).1
    exact ⟨_, rfl, rfl, rfl, by unfold inI; omega⟩
end Go.Proofs.Tst

namespace Go.Proofs.Tst
open Go Fw Tryz
theorem l_Equal_c (w0 : World) (G0 : PH) (hG : PSub G0 w0) (va : Value) (a : List (Int)) (ha : RdI G0 va a) (vb : Value) (b : List (Int)) (hb : RdI G0 vb b)  :
  Calls Tryz.prog 245 #[va, vb] w0 (Rets w0 (.bool (Sp.l2Same a b))) := by
 obtain ⟨aa, ka, rfl⟩ := ha.shape
 have hlima : a.length ≤ 1099511627776 := ha.lim
 obtain ⟨ab, kb, rfl⟩ := hb.shape
 have hlimb : b.length ≤ 1099511627776 := hb.lim
 have H := Hp.init hG
 refine calls_of_W (l := [.slice aa a.length ka, .slice ab b.length kb]) func245 Z ntmps245 Z (q2 (aG Z (q3 (W_seq (q2 (mV Z (lN Z (mV Z (lN Z (pe 1 Z (q3 ?_)))))))))))
 refine W_cond Z ?_ ?_
 ·intro hc1
  try simp only [nrm] at hc1
  refine q2 (aG Z (q3 (W_ret (N_K_ret (rt1 results245 Z ?_)))))
  exact H.rets (congrArg Value.bool (by unfold Sp.l2Same; exact Sp.ne_len oM))
 intro hc1'
 try simp only [nrm] at hc1'
 refine W_skip (N_K (W_seq (q2 (mV Z (lN Z (mV Z (q3 (W_block ?_))))))))
 refine W_lp (hf := (Sub.cons (t := 0) Z (Sub.cons (t := 1) Z (Sub.cons (t := 12) Z Sub.nil)))) (J := fun M w m => ∃ (k : Nat) (G : PH), M = [(13, .int .i64 (k : Int))] ∧ PLe G0 G ∧ Hp w0 G0 [] w G [] ∧ (k ≤ a.length ∧ a.take k = b.take k) ∧ m = (a.length - k)) (h0 := ⟨0, _, Z, PLe.refl _, H, ?inv, Z⟩) (round := ?round)
 case inv => exact ⟨by omega, by simp⟩
 case round =>
  rintro _ _ _ ⟨k, G2, rfl, hle2, H, hinv2, rfl⟩
  have ha := ha.up hle2
  have hb := hb.up hle2
  obtain ⟨_, hall⟩ := hinv2
  refine q2 (pe 1 Z (q3 (W_seq ?_)))
  refine W_cond Z ?_ ?_
  ·intro hc3
   try simp only [nrm] at hc3
   refine W_skip (N_K (W_seq (W_block (q2 (pe 2 Z (q3 (W_seq (W_drawK [] 9 H kR Z ?_)))))))); intro _ H; have hd4 := PLe.refl G2
   refine dE 0 Z2 (dE 1 Z2 ?_)
   have hl5 := ha.len
   obtain ⟨_, _, _, _, ha5, hz5, hq5, hE5, hrow5, _⟩ := ha.at (i := k) oM
   clear hq5
   obtain ⟨rfl, _⟩ := hE5
   refine dI 2 1 k ha5 Z3 Z (dP 3 hrow5 0 Z3 (dE 4 Z2 (dE 5 Z2 ?_)))
   have hl6 := hb.len
   obtain ⟨_, _, _, _, ha6, hz6, hq6, hE6, hrow6, _⟩ := hb.at (i := k) oM
   clear hq6
   obtain ⟨rfl, _⟩ := hE6
   refine dI 6 1 k ha6 Z3 Z (dP 7 hrow6 0 Z3 (dE 8 Z2 (rz (N_K ?_))))
   refine W_cond Z ?_ ?_
   ·intro hc7
    try simp only [nrm] at hc7
    refine q2 (aG Z (q3 (W_ret (N_B_ret (N_K_ret (N_LP_ret (N_B_ret (N_K_ret (rt1 results245 Z ?_)))))))))
    exact H.rets (congrArg Value.bool (by unfold Sp.l2Same; exact Sp.ne_at hz5 hz6 oM))
   intro hc7'
   try simp only [nrm] at hc7'
   refine W_skip (N_B (N_K (W_region (aD Z2 (mV Z (R_nil ?_))))))
   refine N_lp (hJ := ⟨k + 1, _, Z, hle2, H, ?inv, Z⟩) (hm := ?hm)
   case hm => omega
   case inv => exact ⟨by omega, Sp.take_eq hall hz5 (by rw [hz6]; congr 1; omega)⟩
  intro hc3'
  try simp only [nrm] at hc3'
  refine W_exit (N_K_exit (N_LP_exit (N_B_same (N_K (q2 (aG Z (q3 (W_ret (rt1 results245 Z ?_)))))))))
  exact H.rets (congrArg Value.bool (by unfold Sp.l2Same; exact Sp.eq_all hall oM oM))
theorem l_Clone_c (w0 : World) (G0 : PH) (hG : PSub G0 w0) (vl : Value) (l : List (Int)) (hl : RdI G0 vl l)  :
  Calls Tryz.prog 203 #[vl] w0 (RetO w0 G0 (AccOf intE 1 3 l)) := by
 obtain ⟨al, kl, rfl⟩ := hl.shape
 have hliml : l.length ≤ 1099511627776 := hl.lim
 have H := Hp.init hG
 refine calls_of_W (l := [.slice al l.length kl]) func203 Z ntmps203 Z (q2 (aG Z (q3 (W_seq (q2 (mV Z (o_eqnil_slice underlying33 Z Z Z (q3 ?_))))))))
 refine W_cond Z ?_ ?_
 ·intro hc1
  try simp only [nrm] at hc1
  refine q2 (aG Z (q3 (W_ret (N_K_ret (rt1 results203 Z ?_)))))
  obtain rfl : al = none := by simpa using hc1
  obtain rfl : l = [] := by obtain ⟨_, _, h1, _, _, h2⟩ := hl; rcases h2 with h2 | ⟨b, o, h2, _⟩; (· exact h2); simp only [Value.slice.injEq] at h1; rw [← h1.1] at h2; cases h2
  have H := H.addNil 3 1
  exact H.retO (k := 0) Z (AccOf.mk Z Chk.nil) (acc_nd _ _ _ _ _)
 intro hc1'
 try simp only [nrm] at hc1'
 refine W_skip (N_K (q2 (xbs H Z7 ?_))); intro _ _ _ H
 have H := H.blkAcc 1 (k := 0) (n := 0) rfl rfl (by decide)
 refine mV Z ?_
 refine o_append_P 0 H hl (by intro _ _ hz _ hu; obtain ⟨rfl, _⟩ := hz; simp at hu; subst hu; rfl) (sz := 1) (bytes := 8) underlying33 typeInfo3 ⟨_, rfl, rfl⟩ rfl rfl rfl rfl rfl rfl rfl oM rfl ?_; intro _ _ css3 hcl3 hcs3 H
 have hchk3 : Chk intE 1 G0 ([] ++ css3.flatten) _ := ⟨css3, rfl, hcl3, hcs3⟩
 obtain ⟨_, _, rfl⟩ := H.accShape (k := 0) rfl
 refine aG Z (q3 (W_ret (rt1 results203 Z ?_)))
 exact H.retO (k := 0) rfl (by skip; exact AccOf.mk aN hchk3) (acc_nd _ _ _ _ _)
theorem i_bytesValid_c (w0 : World) (G0 : PH) (hG : PSub G0 w0) (vbytes : Value) (bytes : List (Int)) (hbytes : RdI G0 vbytes bytes)  :
  Calls Tryz.prog 212 #[vbytes] w0 (Rets w0 (.bool (bytes.all Sp.byteOk))) := by
 obtain ⟨abytes, kbytes, rfl⟩ := hbytes.shape
 have hlimbytes : bytes.length ≤ 1099511627776 := hbytes.lim
 have H := Hp.init hG
 refine calls_of_W (l := [.slice abytes bytes.length kbytes]) func212 Z ntmps212 Z (q2 (aG Z (q3 (W_seq (q2 (mV Z (lN Z (mV Z (q3 (W_block ?_))))))))))
 refine W_lp (hf := (Sub.cons (t := 5) Z (Sub.cons (t := 6) Z Sub.nil))) (J := fun M w m => ∃ (k : Nat) (G : PH), M = [(7, .int .i64 (k : Int))] ∧ PLe G0 G ∧ Hp w0 G0 [] w G [] ∧ (k ≤ bytes.length ∧ (bytes.take k).all Sp.byteOk = true) ∧ m = (bytes.length - k)) (h0 := ⟨0, _, Z, PLe.refl _, H, ?inv, Z⟩) (round := ?round)
 case inv => exact ⟨by omega, by simp⟩
 case round =>
  rintro _ _ _ ⟨k, _, rfl, hle1, H, hinv1, rfl⟩
  have hbytes := hbytes.up hle1
  obtain ⟨_, hall⟩ := hinv1
  refine q2 (pe 1 Z (q3 (W_seq ?_)))
  refine W_cond Z ?_ ?_
  ·intro hc2
   try simp only [nrm] at hc2
   refine W_skip (N_K (W_seq (W_block (q2 (iP k hbytes Z3 Z ?_))))); intro _ _ _ _ hz3 hE3 hrow3
   obtain ⟨rfl, _⟩ := hE3
   refine lP H hrow3 0 Z2 (aG Z (q1 (pe 3 Z ?_)))
   refine R_case (t := 13) Z ?_ ?_
   ·intro hc4
    try simp only [nrm] at hc4
    refine pe 3 Z (q3 (W_true Z (q2 (aG Z (q3 (W_ret (N_B_ret (N_K_ret (N_LP_ret (N_B_ret (N_K_ret (rt1 results212 Z ?_))))))))))))
    exact H.rets (congrArg Value.bool (by rw [Sp.all_false hz3 (by simp [Sp.byteOk, Sp.l6In]; omega)]))
   intro hc4'
   try simp only [nrm] at hc4'
   refine pe 3 Z (q3 ?_)
   refine W_cond Z ?_ ?_
   ·intro hc5
    try simp only [nrm] at hc5
    refine q2 (aG Z (q3 (W_ret (N_B_ret (N_K_ret (N_LP_ret (N_B_ret (N_K_ret (rt1 results212 Z ?_)))))))))
    exact H.rets (congrArg Value.bool (by rw [Sp.all_false hz3 (by simp [Sp.byteOk, Sp.l6In]; omega)]))
   intro hc5'
   try simp only [nrm] at hc5'
   refine W_skip (N_B (N_K (W_region (aD Z2 (mV Z (R_nil ?_))))))
   refine N_lp (hJ := ⟨k + 1, _, Z, hle1, H, ?inv, Z⟩) (hm := ?hm)
   case hm => omega
   case inv => exact ⟨by omega, Sp.all_take hall hz3 (by simp [Sp.byteOk, Sp.l6In]; omega)⟩
  intro hc2'
  try simp only [nrm] at hc2'
  refine W_exit (N_K_exit (N_LP_exit (N_B_same (N_K (q2 (aG Z (q3 (W_ret (rt1 results212 Z ?_)))))))))
  obtain rfl : k = bytes.length := by omega
  rw [List.take_length] at hall
  exact H.rets (congrArg Value.bool (by rw [hall]))
theorem i_BlockValid_c (w0 : World) (G0 : PH) (hG : PSub G0 w0) (vbytes : Value) (bytes : List (Int)) (hbytes : RdI G0 vbytes bytes)  :
  Calls Tryz.prog 259 #[vbytes] w0 (Rets w0 (.bool (Sp.BlockValid bytes))) := by
 obtain ⟨abytes, kbytes, rfl⟩ := hbytes.shape
 have hlimbytes : bytes.length ≤ 1099511627776 := hbytes.lim
 have H := Hp.init hG
 refine calls_of_W (l := [.slice abytes bytes.length kbytes]) func259 Z ntmps259 Z (q2 (aG Z (q1 (mV Z (lN Z (pe 2 Z ?_))))))
 refine R_case (t := 6) Z ?_ ?_
 ·intro hc1
  try simp only [nrm] at hc1
  refine pe 1 Z (gR Z (lN Z (pe 3 Z ?_)))
  refine R_case (t := 11) Z ?_ ?_
  ·intro hc2
   try simp only [nrm] at hc2
   refine pe 1 Z (gR Z (xr H Z2 (i_bytesValid_c _ _ H.sub _ _ hbytes ) ?_)); intro _ H
   refine pe 2 Z (q3 (W_ret (rt1 results259 Z ?_)))
   exact H.rets (congrArg Value.bool (by unfold Sp.BlockValid Sp.l6In; rw [Bool.eq_iff_iff]; simp; omega))
  intro hc2'
  try simp only [nrm] at hc2'
  refine pe 4 Z (q3 (W_ret (rt1 results259 Z ?_)))
  exact H.rets (congrArg Value.bool (by unfold Sp.BlockValid Sp.l6In; rw [Bool.eq_iff_iff]; simp; omega))
 intro hc1'
 try simp only [nrm] at hc1'
 refine pe 9 Z (q3 (W_ret (rt1 results259 Z ?_)))
 exact H.rets (congrArg Value.bool (by unfold Sp.BlockValid Sp.l6In; rw [Bool.eq_iff_iff]; simp; omega))
theorem i_FileValid_c (w0 : World) (G0 : PH) (hG : PSub G0 w0) (vbytes : Value) (bytes : List (Int)) (hbytes : RdI G0 vbytes bytes)  :
  Calls Tryz.prog 163 #[vbytes] w0 (Rets w0 (.bool (Sp.FileValid bytes))) := by
 obtain ⟨abytes, kbytes, rfl⟩ := hbytes.shape
 have hlimbytes : bytes.length ≤ 1099511627776 := hbytes.lim
 have H := Hp.init hG
 refine calls_of_W (l := [.slice abytes bytes.length kbytes]) func163 Z ntmps163 Z (q2 (aG Z (q1 (mV Z (lN Z (pe 2 Z ?_))))))
 refine R_case (t := 6) Z ?_ ?_
 ·intro hc1
  try simp only [nrm] at hc1
  refine pe 1 Z (gR Z (xr H Z2 (i_bytesValid_c _ _ H.sub _ _ hbytes ) ?_)); intro _ H
  refine pe 2 Z (q3 (W_ret (rt1 results163 Z ?_)))
  exact H.rets (congrArg Value.bool (by unfold Sp.FileValid; rw [Bool.eq_iff_iff]; simp; omega))
 intro hc1'
 try simp only [nrm] at hc1'
 refine pe 4 Z (q3 (W_ret (rt1 results163 Z ?_)))
 exact H.rets (congrArg Value.bool (by unfold Sp.FileValid; rw [Bool.eq_iff_iff]; simp; omega))
theorem i_partValid_c (w0 : World) (s : Bs) (hs : s.length ≤ 16777216)  :
  Calls Tryz.prog 142 #[str s] w0 (Rets w0 (.bool (Sp.l1Word s))) := by
 have H := Hp.init0 w0
 refine calls_of_W (l := [str s]) func142 Z ntmps142 Z (q2 (aG Z (q3 (W_seq (q2 (mV Z (lS Z (pe 2 Z ?_))))))))
 refine R_case (t := 7) Z ?_ ?_
 ·intro hc1
  try simp only [nrm] at hc1
  refine pe 4 Z (q3 (W_true Z (q2 (aG Z (q3 (W_ret (N_K_ret (rt1 results142 Z ?_))))))))
  exact H.rets (congrArg Value.bool (by unfold Sp.l1Word; rw [Bool.eq_iff_iff]; simp; omega))
 intro hc1'
 try simp only [nrm] at hc1'
 refine pe 1 Z (gR Z (lS Z (pe 2 Z (q3 ?_))))
 refine W_cond Z ?_ ?_
 ·intro hc2
  try simp only [nrm] at hc2
  refine q2 (aG Z (q3 (W_ret (N_K_ret (rt1 results142 Z ?_)))))
  exact H.rets (congrArg Value.bool (by unfold Sp.l1Word; rw [Bool.eq_iff_iff]; simp; omega))
 intro hc2'
 try simp only [nrm] at hc2'
 refine W_skip (N_K (W_seq (q2 (aG Z (q3 (W_block ?_))))))
 refine W_lp (hf := (Sub.cons (t := 0) Z Sub.nil)) (J := fun M w m => ∃ (k : Nat) (G : PH), M = [(3, .int .i64 (k : Int))] ∧ PLe (fun _ => none) G ∧ Hp w0 (fun _ => none) [] w G [] ∧ (k ≤ s.length ∧ (s.take k).all Sp.low = true) ∧ m = (s.length - k)) (h0 := ⟨0, _, Z, PLe.refl _, H, ?inv, Z⟩) (round := ?round)
 case inv => exact ⟨by omega, by simp⟩
 case round =>
  rintro _ _ _ ⟨k, _, rfl, hle3, H, hinv3, rfl⟩
  obtain ⟨_, hall⟩ := hinv3
  refine W_seq (q2 (pe 2 Z (lS Z (pe 1 Z (q3 ?_)))))
  refine W_cond Z ?_ ?_
  ·intro hc4
   try simp only [nrm] at hc4
   refine W_skip (N_K (W_seq (W_block (q2 (pe 2 Z (o_index_str underlying9 Z Z Z Z oM ?_)))))); intro ch5 hch5; have hlt5 := ch5.toNat_lt
   refine pe 2 Z ?_
   refine R_case (t := 22) Z ?_ ?_
   ·intro hc6
    try simp only [nrm] at hc6
    refine pe 5 Z (q3 (W_true Z (q2 (aG Z (q3 (W_ret (N_B_ret (N_K_ret (N_LP_ret (N_B_ret (N_K_ret (rt1 results142 Z ?_))))))))))))
    exact H.rets (congrArg Value.bool (by rw [Sp.l1Word, Sp.all_false hch5 (by simp [Sp.low]; omega)]; rfl))
   intro hc6'
   try simp only [nrm] at hc6'
   refine pe 2 Z (gR Z (o_index_str underlying9 Z Z Z Z oM ?_)); intro ch7 hch7; have hlt7 := ch7.toNat_lt
   obtain rfl : ch7 = ch5 := Option.some.inj (hch7.symm.trans hch5)
   refine pe 2 Z (q3 ?_)
   refine W_cond Z ?_ ?_
   ·intro hc8
    try simp only [nrm] at hc8
    refine q2 (aG Z (q3 (W_ret (N_B_ret (N_K_ret (N_LP_ret (N_B_ret (N_K_ret (rt1 results142 Z ?_)))))))))
    exact H.rets (congrArg Value.bool (by rw [Sp.l1Word, Sp.all_false hch7 (by simp [Sp.low]; omega)]; rfl))
   intro hc8'
   try simp only [nrm] at hc8'
   refine W_skip (N_B (N_K (W_region (mV Z (aD Z2 (aG Z (R_nil ?_)))))))
   refine N_lp (hJ := ⟨k + 1, _, Z, hle3, H, ?inv, Z⟩) (hm := ?hm)
   case hm => omega
   case inv => exact ⟨by omega, Sp.all_take hall hch7 (by simp [Sp.low]; omega)⟩
  intro hc4'
  try simp only [nrm] at hc4'
  refine W_exit (N_K_exit (N_LP_exit (N_B_same (N_K (q2 (aG Z (q3 (W_ret (rt1 results142 Z ?_)))))))))
  obtain rfl : k = s.length := by omega
  rw [List.take_length] at hall
  exact H.rets (congrArg Value.bool (by simp only [Sp.l1Word, hall]; rw [Bool.eq_iff_iff]; simp; omega))
end Go.Proofs.Tst

namespace Go.Proofs.Tst
open Go Fw Tryz
theorem l_genSplit_c (w0 : World) (G0 : PH) (hG : PSub G0 w0) (s : Bs) (hs : s.length ≤ 16777216) (c : UInt8)    :
  Calls Tryz.prog 273 #[str s, str [c], .int .i64 0, .int .i64 (-1)] w0 (RetP w0 G0 (fun G v => RdT G v (Sp.cutAt c s))) := by
 have hcnt := Sp.cnt_le c s
 have H := Hp.init hG
 refine calls_of_W (l := [str s, str [c], .int .i64 0, .int .i64 (-1)]) func273 Z ntmps273 Z (q2 (aG Z (q3 (W_seq (q2 (pe 2 Z (q3 ?_)))))))
 refine W_cond Z ?_ ?_
 ·intro hc1
  try simp only [nrm] at hc1
  exact absurd hc1 (by decide)
 intro hc1'
 try simp only [nrm] at hc1'
 refine W_skip (N_K (W_seq (q2 (mV Z (o_seql Z Z Z (q3 ?_))))))
 refine W_cond Z ?_ ?_
 ·intro hc2
  try simp only [nrm] at hc2
  exact absurd hc2 (by simp)
 intro hc2'
 try simp only [nrm] at hc2'
 refine W_skip (N_K (W_seq (q2 (pe 2 Z (q3 ?_)))))
 refine W_cond Z ?_ ?_
 ·intro hc3
  try simp only [nrm] at hc3
  refine W_region (pe 2 Z (xr H Z2 (l_Count_c _ _ hs _ ) ?_)); intro _ H
  refine aD Z2 (aG Z (q1 (pe 2 Z (lS Z (aD Z2 (o_min Z Z Z (aG Z (q1 (mV Z (o_makeN (c := (s.count c + 1)) (sz := 1) (bytes := 16) H underlying95 typeInfo9 ⟨_, Z, Z⟩ Z Z Z Z Z Z Z oM oM oM Z ?_)))))))))); intro _ _ H
  have hchk7 := Chk.rep (E := strE) (sz := 1) (G := G0) (x0 := []) (⟨rfl, by decide⟩) rfl ((s.count c + 1))
  refine aG Z (q1 (mV Z (o_sub Z Z Z oO (aG Z (q1 (aG Z (q3 (W_seq (W_block ?_)))))))))
  refine W_lp (hf := (Sub.cons (t := 1) Z (Sub.cons (t := 2) Z (Sub.cons (t := 3) Z (Sub.cons (t := 8) Z Sub.nil))))) (J := fun M w m => ∃ (v : Value) (n : Nat) (cs : List Value) (xs : List (Bs)) (r : Bs) (i : Nat) (G : PH), M = [(0, str r), (10, .int .i64 (i : Int)), (9, v)] ∧ PLe G0 G ∧ Hp w0 G0 [] w G [acc 9 1 v n cs] ∧ (Chk strE 1 G cs xs ∧ n = xs.length ∧ i ≤ s.count c ∧ xs.length = s.count c + 1 ∧ r.length ≤ 16777216 ∧ xs.take i ++ Sp.cutAt c r = Sp.cutAt c s ∧ r.count c = s.count c - i) ∧ m = (s.count c + 1 - i)) (h0 := ⟨_, _, _, (List.replicate (s.count c + 1) []), s, 0, _, Z, PLe.refl _, H, ?inv, Z⟩) (round := ?round)
  case inv => exact ⟨hchk7,  by first | rfl | simp | (simp; omega) | omega, (by simp [hs])⟩
  case round =>
   rintro _ _ _ ⟨v, n, cs, xs, r, i, _, rfl, hle9, H, hinv9, rfl⟩
   obtain ⟨hchk9_0, _, hinv9⟩ := hinv9
   obtain ⟨_, _, rfl⟩ := H.accShape (k := 0) rfl
   obtain ⟨_, hxl, hrl, hcut, _⟩ := hinv9
   refine W_seq (q2 (pe 3 Z (q3 ?_)))
   refine W_cond Z ?_ ?_
   ·intro hc10
    try simp only [nrm] at hc10
    refine W_skip (N_K (W_block (q2 (pe 2 Z (xr H Z2 (l_Index_c _ _ hrl _ ) ?_))))); intro _ H
    refine aG Z (q3 (W_seq (q2 (pe 2 Z (q3 ?_)))))
    refine W_cond Z ?_ ?_
    ·intro hc12
     try simp only [nrm] at hc12
     have hx := Sp.count_none c (Sp.at_none hc12)
     omega
    intro hc12'
    try simp only [nrm] at hc12'
    obtain ⟨m, _, hm1, _, _, _, _⟩ := Sp.at_nat hc12'
    have hm6 := Sp.count_some c hm1
    refine W_skip (N_K (q2 (pe 5 Z (aD Z2 (o_slice_str_to underlying9 Z Z Z oM oM (o_index_A 0 H i Z hchk9_0 underlying95 sizeOf9 Z Z Z Z aN aN ?_)))))); intro _ _ _ hba15 hz15 hE15 _; cases hba15
    obtain ⟨rfl, hi15⟩ := hE15; have hy_hi15 : _ ≤ 16777216 := hi15
    have hcl16 := hchk9_0.length
    refine o_store_A 0 H sizeOf9 Z Z Z Z Z (by simp only [vc, List.length_cons, List.length_nil]; omega) ?_; intro _ H
    have hchk16 := hchk9_0.put (x' := (r.take m)) (off := 0) (vs := [_]) hz15 (fun cs hl hE => by obtain ⟨rfl, _⟩ := hE; exact ⟨congrArg (fun j => [str (List.take j r)]) (show (Sp.optI (List.findIdx? (Sp.isC c) r) + 0).toNat = m by omega), by simp; omega⟩) (by simp only [vc, List.length_cons, List.length_nil]; omega)
    refine q1 (pe 3 Z (lS Z ?_))
    have hll1 : ([c] : Fw.Bs).length = 1 := rfl
    refine aD Z2 (o_slice_str_from underlying9 Z Z Z oM oM (aG Z (q3 (W_region (mV Z (aD Z2 (aG Z (R_nil (N_B ?_)))))))))
    refine N_lp (hJ := ⟨_, _, _, (xs.set i (r.take m)), (r.drop (Sp.optI (List.findIdx? (Sp.isC c) r) + (([c] : Fw.Bs).length : Int)).toNat), i + 1, _, Z, hle9, H, ?inv, Z⟩) (hm := ?hm)
    case hm => omega
    case inv => exact ⟨hchk16, aN, (by refine ⟨by omega, by simp [hxl], by simp; omega, ?_, ?_⟩; (· rw [show (Sp.optI (List.findIdx? (Sp.isC c) r) + (([c] : Fw.Bs).length : Int)).toNat = m + 1 by omega]; exact Sp.cut_round hcut hm1 oM rfl); (· rw [show (Sp.optI (List.findIdx? (Sp.isC c) r) + (([c] : Fw.Bs).length : Int)).toNat = m + 1 by omega]; omega))⟩
   intro hc10'
   try simp only [nrm] at hc10'
   refine W_exit (N_K_exit (N_LP_exit (N_B_same (N_K (q2 (pe 3 Z (o_index_A 0 H i Z hchk9_0 underlying95 sizeOf9 Z Z Z Z aN aN ?_))))))); intro _ _ _ hba20 hz20 hE20 _; cases hba20
   obtain ⟨rfl, hi20⟩ := hE20; have hy_hi20 : _ ≤ 16777216 := hi20
   have hcl21 := hchk9_0.length
   refine o_store_A 0 H sizeOf9 Z Z Z Z Z (by simp only [vc, List.length_cons, List.length_nil]; omega) ?_; intro _ H
   have hchk21 := hchk9_0.put (x' := r) (off := 0) (vs := [_]) hz20 (fun cs hl hE => by obtain ⟨rfl, _⟩ := hE; exact ⟨rfl, hrl⟩) (by simp only [vc, List.length_cons, List.length_nil]; omega)
   refine q1 ?_
   obtain ⟨_, H, hsg22, hsr22⟩ := H.shut' (k := 0) rfl hchk21 aN aN
   refine pe 2 Z (aD Z2 ?_)
   have hcap24 := hsr22.cap; try simp only [List.length_set, List.length_append, List.length_take, List.length_drop, List.length_replicate] at hcap24
   refine o_slice_to (j := (i + 1)) underlying95 sizeOf9 Z Z Z oM oM ?_
   have hsl24 := hsr22.take (j := (i + 1)) aN
   have hsn2 := hsl24.len
   refine aG Z (q3 (W_ret (rt1 results273 Z ?_)))
   obtain rfl : i = s.count c := by omega
   have hcl := Sp.cut_last hcut oM oM
   exact H.retP (by rw [← hcl]; exact hsl24)
 intro hc3'
 try simp only [nrm] at hc3'
 exact absurd hc3' (by decide)
theorem l_Split_c (w0 : World) (G0 : PH) (hG : PSub G0 w0) (s : Bs) (hs : s.length ≤ 16777216) (c : UInt8)  :
  Calls Tryz.prog 244 #[str s, str [c]] w0 (RetP w0 G0 (fun G v => RdT G v (Sp.cutAt c s))) := by
 have H := Hp.init hG
 refine calls_of_W (l := [str s, str [c]]) func244 Z ntmps244 Z (q2 (aG Z (q1 (pe 2 Z (xc Z2 (l_genSplit_c _ _ H.sub _ hs _   ) ?_)))))
 rintro _ _ ⟨_, _, g1, rfl, hr1_0⟩
 have H := H.grow g1
 obtain ⟨_, _, rfl⟩ := hr1_0.shape; have hx_hr1_0 : _ ≤ 1099511627776 := hr1_0.lim
 refine ⟨_, Z, ?_⟩
 refine aG Z (q3 (W_ret (rt1 results244 Z ?_)))
 exact H.retP hr1_0
theorem i_parts_c (w0 : World) (G0 : PH) (hG : PSub G0 w0) (p : Bs) (hp : p.length ≤ 16777216)  :
  Calls Tryz.prog 206 #[str p] w0 (RetP w0 G0 (fun G v => RdT G v (Sp.parts p))) := by
 have H := Hp.init hG
 refine calls_of_W (l := [str p]) func206 Z ntmps206 Z (q2 (aG Z (q3 (W_seq (q2 (mV Z (lS Z (pe 1 Z (q3 ?_)))))))))
 refine W_cond Z ?_ ?_
 ·intro hc1
  try simp only [nrm] at hc1
  refine q2 (aG Z (q3 (W_ret (N_K_ret (rt1 results206 Z ?_)))))
  exact H.retP (by rw [show Sp.parts p = _ from by exact Sp.parts_long oM]; exact (RdS.nil _ _ _))
 intro hc1'
 try simp only [nrm] at hc1'
 refine W_skip (N_K (q2 (mV Z (xc Z2 (l_Split_c _ _ H.sub _ hp _ ) ?_))))
 rintro _ _ ⟨G2, _, g2, rfl, hr2_0⟩
 have H := H.grow g2
 obtain ⟨_, _, rfl⟩ := hr2_0.shape; have hx_hr2_0 : _ ≤ 1099511627776 := hr2_0.lim
 refine ⟨_, Z, ?_⟩
 refine aG Z (q3 (W_seq (q2 (mV Z (lN Z (pe 1 Z (q3 ?_)))))))
 refine W_cond Z ?_ ?_
 ·intro hc3
  try simp only [nrm] at hc3
  refine q2 (aG Z (q3 (W_ret (N_K_ret (rt1 results206 Z ?_)))))
  exact H.retP (by rw [show Sp.parts p = _ from by exact Sp.parts_many (by rw [← Sp.cutAt_47]; omega)]; exact (RdS.nil _ _ _))
 intro hc3'
 try simp only [nrm] at hc3'
 refine W_skip (N_K (W_seq (q2 (mV Z (lN Z (mV Z (q3 (W_block ?_))))))))
 refine W_lp (hf := (Sub.cons (t := 3) Z (Sub.cons (t := 14) Z (Sub.cons (t := 15) Z Sub.nil)))) (J := fun M w m => ∃ (k : Nat) (G : PH), M = [(16, .int .i64 (k : Int))] ∧ PLe G2 G ∧ Hp w0 G0 [] w G [] ∧ (k ≤ (Sp.cutAt 47 p).length ∧ ((Sp.cutAt 47 p).take k).all Sp.l1Word = true) ∧ m = ((Sp.cutAt 47 p).length - k)) (h0 := ⟨0, _, Z, PLe.refl _, H, ?inv, Z⟩) (round := ?round)
 case inv => exact ⟨by omega, by simp⟩
 case round =>
  rintro _ _ _ ⟨k, _, rfl, hle4, H, hinv4, rfl⟩
  have hr2_0 := hr2_0.up hle4
  obtain ⟨_, hall⟩ := hinv4
  refine q2 (pe 1 Z (q3 (W_seq ?_)))
  refine W_cond Z ?_ ?_
  ·intro hc5
   try simp only [nrm] at hc5
   refine W_skip (N_K (W_seq (W_block (q2 (iP k hr2_0 Z3 Z ?_))))); intro _ _ _ _ hz6 hE6 hrow6
   obtain ⟨rfl, hi6⟩ := hE6; have hy_hi6 : _ ≤ 16777216 := hi6
   refine lP H hrow6 0 Z2 (aG Z (q1 (mV Z (xr H Z2 (i_partValid_c _ _ hi6 ) ?_)))); intro _ H
   refine pe 1 Z (q3 ?_)
   refine W_cond Z ?_ ?_
   ·intro hc8
    try simp only [nrm] at hc8
    refine q2 (aG Z (q3 (W_ret (N_B_ret (N_K_ret (N_LP_ret (N_B_ret (N_K_ret (rt1 results206 Z ?_)))))))))
    exact H.retP (by rw [show Sp.parts p = _ from by exact Sp.parts_bad (by rw [← Sp.cutAt_47]; exact hz6) hc8]; exact (RdS.nil _ _ _))
   intro hc8'
   try simp only [nrm] at hc8'
   refine W_skip (N_B (N_K (W_region (aD Z2 (mV Z (R_nil ?_))))))
   refine N_lp (hJ := ⟨k + 1, _, Z, hle4, H, ?inv, Z⟩) (hm := ?hm)
   case hm => omega
   case inv => exact ⟨by omega, Sp.all_take hall hz6 (by assumption)⟩
  intro hc5'
  try simp only [nrm] at hc5'
  refine W_exit (N_K_exit (N_LP_exit (N_B_same (N_K (q2 (pe 2 Z (q3 (W_ret (rt1 results206 Z ?_)))))))))
  obtain rfl : k = (Sp.cutAt 47 p).length := by omega
  rw [List.take_length] at hall
  have hpo : Sp.parts p = Sp.cutAt 47 p := (Sp.parts_ok (by rw [← Sp.cutAt_47]; exact hall) (by rw [← Sp.cutAt_47]; omega)).trans (Sp.cutAt_47 p).symm
  exact H.retP (by rw [hpo]; exact hr2_0)
theorem i_PathParts_c (w0 : World) (G0 : PH) (hG : PSub G0 w0) (p : Bs) (hp : p.length ≤ 16777216)  :
  Calls Tryz.prog 209 #[str p] w0 (RetP w0 G0 (fun G v => RdT G v (Sp.parts p))) := by
 have H := Hp.init hG
 refine calls_of_W (l := [str p]) func209 Z ntmps209 Z (q2 (aG Z (q1 (mV Z (xc Z2 (i_parts_c _ _ H.sub _ hp ) ?_)))))
 rintro _ _ ⟨_, _, g1, rfl, hr1_0⟩
 have H := H.grow g1
 obtain ⟨_, _, rfl⟩ := hr1_0.shape; have hx_hr1_0 : _ ≤ 1099511627776 := hr1_0.lim
 refine ⟨_, Z, ?_⟩
 refine aG Z (q3 (W_ret (rt1 results209 Z ?_)))
 exact H.retP hr1_0
theorem i_valid_c (w0 : World) (G0 : PH) (hG : PSub G0 w0) (p : Bs) (hp : p.length ≤ 16777216)  :
  Calls Tryz.prog 152 #[str p] w0 (Rets w0 (.bool (Sp.PathValid p))) := by
 have H := Hp.init hG
 refine calls_of_W (l := [str p]) func152 Z ntmps152 Z (q2 (aG Z (q1 (mV Z (xc Z2 (i_parts_c _ _ H.sub _ hp ) ?_)))))
 rintro _ _ ⟨_, _, g1, rfl, hr1_0⟩
 have H := H.grow g1
 obtain ⟨_, _, rfl⟩ := hr1_0.shape; have hx_hr1_0 : _ ≤ 1099511627776 := hr1_0.lim
 refine ⟨_, Z, ?_⟩
 refine lN Z (pe 2 Z (q3 (W_ret (rt1 results152 Z ?_))))
 exact H.rets (congrArg Value.bool (by rw [← Sp.parts_pos, Bool.eq_iff_iff]; simp))
theorem i_PathValid_c (w0 : World) (G0 : PH) (hG : PSub G0 w0) (p : Bs) (hp : p.length ≤ 16777216)  :
  Calls Tryz.prog 71 #[str p] w0 (Rets w0 (.bool (Sp.PathValid p))) := by
 have H := Hp.init hG
 refine calls_of_W (l := [str p]) func71 Z ntmps71 Z (q2 (aG Z (q1 (mV Z (xr H Z2 (i_valid_c _ _ H.sub _ hp ) ?_))))); intro _ H
 refine aG Z (q3 (W_ret (rt1 results71 Z ?_)))
 exact H.rets (congrArg Value.bool (by rfl))
theorem i_itemValid_c (w0 : World) (G0 : PH) (hG : PSub G0 w0) (cx : List Value) (x : BItem) (hx : itemE G0 x cx)  :
  Calls Tryz.prog 185 #[.agg cx.toArray] w0 (Rets w0 (.bool (Sp.l5Item x))) := by
 obtain ⟨_, _, _, rfl, hi1, hr1, _, _⟩ := ox hx
 have H := Hp.init hG
 refine calls_of_W (l := [_]) func185 Z ntmps185 Z (q2 (o_box H Z Z Z ?_)); intro b2 _ _ H
 refine aG Z (q3 (W_seq (q2 (fA 0 Z (lB 0 H Z3 (xr H Z2 (i_PathValid_c _ _ H.sub _ hi1 ) ?_)))))); intro _ H
 refine pe 2 Z ?_
 refine R_case (t := 9) Z ?_ ?_
 ·intro hc4
  try simp only [nrm] at hc4
  refine pe 9 Z (R_pass Z (yl_un Z Z) (R_pass Z (yl_un Z Z) (R_pass Z (yl_un Z Z) (R_pass Z (yl_un Z Z) (pe 2 Z (q3 (W_true Z (q2 (aG Z (q3 (W_ret (N_K_ret (rt1 results185 Z ?_)))))))))))))
  exact H.rets (congrArg Value.bool (by simp [Sp.l5Item, hc4]))
 intro hc4'
 try simp only [nrm] at hc4'
 refine gR Z (fA 2 Z (gR Z (lB 0 H Z3 (gR Z (lN Z (pe 3 Z ?_))))))
 refine R_case (t := 15) Z ?_ ?_
 ·intro hc5
  try simp only [nrm] at hc5
  refine pe 3 Z (R_pass Z (yl_un Z Z) (R_pass Z (yl_un Z Z) (R_pass Z (yl_un Z Z) (R_pass Z (yl_un Z Z) (pe 2 Z (q3 (W_true Z (q2 (aG Z (q3 (W_ret (N_K_ret (rt1 results185 Z ?_)))))))))))))
  exact H.rets (congrArg Value.bool (by rw [Sp.l5Item, Bool.eq_iff_iff]; simp; intros; omega))
 intro hc5'
 try simp only [nrm] at hc5'
 refine gR Z (fA 1 Z (gR Z (lB 0 H Z3 (pe 1 Z ?_))))
 refine R_case (t := 18) Z ?_ ?_
 ·intro hc6
  try simp only [nrm] at hc6
  refine gR Z (fA 2 Z (gR Z (lB 0 H Z3 (gR Z (lN Z (pe 3 Z (q3 ?_)))))))
  refine W_cond Z ?_ ?_
  ·intro hc7
   try simp only [nrm] at hc7
   refine q2 (aG Z (q3 (W_ret (N_K_ret (rt1 results185 Z ?_)))))
   exact H.rets (congrArg Value.bool (by rw [Sp.l5Item, Sp.all_false (c := x.ids[0]) (k := 0) (List.getElem?_eq_getElem oM) (by simp [Sp.idOk, hc6])]; rfl))
  intro hc7'
  try simp only [nrm] at hc7'
  refine W_skip (N_K (W_seq (q2 (fA 2 Z (lB 0 H Z3 (lN Z (mV Z (q3 (W_block ?_)))))))))
  obtain ⟨ln8, hln8, H⟩ := H.name (k := 0) rfl
  refine W_lp (hf := (Sub.cons (t := 26) Z (Sub.cons (t := 27) Z Sub.nil))) (J := fun M w m => ∃ (k : Nat) (G : PH), M = [(28, .int .i64 (k : Int))] ∧ PLe G0 G ∧ Hp w0 G0 [] w G [blk b2 (cl ln8 35)] ∧ (k ≤ x.ids.length ∧ (x.ids.take k).all (Sp.idOk x.dir) = true) ∧ m = (x.ids.length - k)) (h0 := ⟨0, _, Z, PLe.refl _, H, ?inv, Z⟩) (round := ?round)
  case inv => exact ⟨by omega, by simp⟩
  case round =>
   rintro _ _ _ ⟨k, _, rfl, hle9, H, hinv9, rfl⟩
   subst hln8
   have hr1 := hr1.up hle9
   obtain ⟨hk, hall⟩ := hinv9
   refine q2 (pe 1 Z (q3 (W_seq ?_)))
   refine W_cond Z ?_ ?_
   ·intro hc10
    try simp only [nrm] at hc10
    refine W_skip (N_K (W_seq (W_block (q2 (iP k hr1 Z3 Z ?_))))); intro _ _ _ _ hz11 hE11 hrow11
    obtain ⟨rfl, _⟩ := hE11
    refine lP H hrow11 0 Z2 (aG Z (q1 (pe 3 Z ?_)))
    refine R_case (t := 34) Z ?_ ?_
    ·intro hc12
     try simp only [nrm] at hc12
     refine pe 3 Z (q3 (W_true Z (q2 (aG Z (q3 (W_ret (N_B_ret (N_K_ret (N_LP_ret (N_B_ret (N_K_ret (rt1 results185 Z ?_))))))))))))
     exact H.rets (congrArg Value.bool (by rw [Sp.l5Item, Sp.all_false hz11 (by first | (exfalso; omega) | (simp [Sp.idOk, Sp.l6In, *]; done) | (simp [Sp.idOk, Sp.l6In, *]; omega))]; rfl))
    intro hc12'
    try simp only [nrm] at hc12'
    refine pe 3 Z (q3 ?_)
    refine W_cond Z ?_ ?_
    ·intro hc13
     try simp only [nrm] at hc13
     refine q2 (aG Z (q3 (W_ret (N_B_ret (N_K_ret (N_LP_ret (N_B_ret (N_K_ret (rt1 results185 Z ?_)))))))))
     exact H.rets (congrArg Value.bool (by rw [Sp.l5Item, Sp.all_false hz11 (by first | (exfalso; omega) | (simp [Sp.idOk, Sp.l6In, *]; done) | (simp [Sp.idOk, Sp.l6In, *]; omega))]; rfl))
    intro hc13'
    try simp only [nrm] at hc13'
    refine W_skip (N_B (N_K (W_region (aD Z2 (mV Z (R_nil ?_))))))
    refine N_lp (hJ := ⟨k + 1, _, Z, hle9, H, ?inv, Z⟩) (hm := ?hm)
    case hm => omega
    case inv => exact ⟨by omega, Sp.all_take hall hz11 (by first | (exfalso; omega) | (simp [Sp.idOk, Sp.l6In, *]; done) | (simp [Sp.idOk, Sp.l6In, *]; omega))⟩
   intro hc10'
   try simp only [nrm] at hc10'
   refine W_exit (N_K_exit (N_LP_exit (N_B_same (N_K (q2 (aG Z (q3 (W_ret (rt1 results185 Z ?_)))))))))
   obtain rfl : k = x.ids.length := by omega
   rw [List.take_length] at hall
   exact H.rets (congrArg Value.bool (by rw [Sp.l5Item, hall, Bool.eq_iff_iff]; simp [hc4']; omega))
 intro hc6'
 try simp only [nrm] at hc6'
 refine pe 6 Z (q3 (W_false Z (W_skip (N_K (W_seq (q2 (fA 2 Z (lB 0 H Z3 (lN Z (mV Z (q3 (W_block ?_))))))))))))
 obtain ⟨ln15, hln15, H⟩ := H.name (k := 0) rfl
 refine W_lp (hf := (Sub.cons (t := 26) Z (Sub.cons (t := 27) Z Sub.nil))) (J := fun M w m => ∃ (k : Nat) (G : PH), M = [(28, .int .i64 (k : Int))] ∧ PLe G0 G ∧ Hp w0 G0 [] w G [blk b2 (cl ln15 35)] ∧ (k ≤ x.ids.length ∧ (x.ids.take k).all (Sp.idOk x.dir) = true) ∧ m = (x.ids.length - k)) (h0 := ⟨0, _, Z, PLe.refl _, H, ?inv, Z⟩) (round := ?round)
 case inv => exact ⟨by omega, by simp⟩
 case round =>
  rintro _ _ _ ⟨k, _, rfl, hle16, H, hinv16, rfl⟩
  subst hln15
  have hr1 := hr1.up hle16
  obtain ⟨hk, hall⟩ := hinv16
  refine q2 (pe 1 Z (q3 (W_seq ?_)))
  refine W_cond Z ?_ ?_
  ·intro hc17
   try simp only [nrm] at hc17
   refine W_skip (N_K (W_seq (W_block (q2 (iP k hr1 Z3 Z ?_))))); intro _ _ _ _ hz18 hE18 hrow18
   obtain ⟨rfl, _⟩ := hE18
   refine lP H hrow18 0 Z2 (aG Z (q1 (pe 3 Z ?_)))
   refine R_case (t := 34) Z ?_ ?_
   ·intro hc19
    try simp only [nrm] at hc19
    refine pe 3 Z (q3 (W_true Z (q2 (aG Z (q3 (W_ret (N_B_ret (N_K_ret (N_LP_ret (N_B_ret (N_K_ret (rt1 results185 Z ?_))))))))))))
    exact H.rets (congrArg Value.bool (by rw [Sp.l5Item, Sp.all_false hz18 (by first | (exfalso; omega) | (simp [Sp.idOk, Sp.l6In, *]; done) | (simp [Sp.idOk, Sp.l6In, *]; omega))]; rfl))
   intro hc19'
   try simp only [nrm] at hc19'
   refine pe 3 Z (q3 ?_)
   refine W_cond Z ?_ ?_
   ·intro hc20
    try simp only [nrm] at hc20
    refine q2 (aG Z (q3 (W_ret (N_B_ret (N_K_ret (N_LP_ret (N_B_ret (N_K_ret (rt1 results185 Z ?_)))))))))
    exact H.rets (congrArg Value.bool (by rw [Sp.l5Item, Sp.all_false hz18 (by first | (exfalso; omega) | (simp [Sp.idOk, Sp.l6In, *]; done) | (simp [Sp.idOk, Sp.l6In, *]; omega))]; rfl))
   intro hc20'
   try simp only [nrm] at hc20'
   refine W_skip (N_B (N_K (W_region (aD Z2 (mV Z (R_nil ?_))))))
   refine N_lp (hJ := ⟨k + 1, _, Z, hle16, H, ?inv, Z⟩) (hm := ?hm)
   case hm => omega
   case inv => exact ⟨by omega, Sp.all_take hall hz18 (by first | (exfalso; omega) | (simp [Sp.idOk, Sp.l6In, *]; done) | (simp [Sp.idOk, Sp.l6In, *]; omega))⟩
  intro hc17'
  try simp only [nrm] at hc17'
  refine W_exit (N_K_exit (N_LP_exit (N_B_same (N_K (q2 (aG Z (q3 (W_ret (rt1 results185 Z ?_)))))))))
  obtain rfl : k = x.ids.length := by omega
  rw [List.take_length] at hall
  exact H.rets (congrArg Value.bool (by rw [Sp.l5Item, hall, Bool.eq_iff_iff]; simp [hc4']; omega))
end Go.Proofs.Tst

namespace Go.Proofs.Tst
open Go Fw Tryz
theorem i_StoreValid_c (w0 : World) (G0 : PH) (hG : PSub G0 w0) (vlist : Value) (list : List (BHeld)) (hlist : RdH G0 vlist list)  :
  Calls Tryz.prog 227 #[vlist] w0 (Rets w0 (.bool (Sp.StoreValid list))) := by
 obtain ⟨alist, klist, rfl⟩ := hlist.shape
 have hlimlist : list.length ≤ 1099511627776 := hlist.lim
 have H := Hp.init hG
 refine calls_of_W (l := [.slice alist list.length klist]) func227 Z ntmps227 Z (q2 (aG Z (q3 (W_seq (q2 (mV Z (lN Z (pe 1 Z (q3 ?_)))))))))
 refine W_cond Z ?_ ?_
 ·intro hc1
  try simp only [nrm] at hc1
  refine q2 (aG Z (q3 (W_ret (N_K_ret (rt1 results227 Z ?_)))))
  exact H.rets (congrArg Value.bool (by rw [Sp.sv_long oM]))
 intro hc1'
 try simp only [nrm] at hc1'
 refine W_skip (N_K (q2 (aG Z (q3 (W_seq (q2 (mV Z (lN Z (mV Z (q3 (W_block ?_)))))))))))
 refine W_lp (hf := (Sub.cons (t := 0) Z (Sub.cons (t := 11) Z (Sub.cons (t := 12) Z Sub.nil)))) (J := fun M w m => ∃ (k : Nat) (la : Int) (G : PH), M = [(13, .int .i64 (k : Int)), (3, .int .i64 la)] ∧ PLe G0 G ∧ Hp w0 G0 [] w G [] ∧ (k ≤ list.length ∧ la = Sp.lastId list k ∧ (∀ j, j < k → Sp.okH list j = true) ∧ inI la) ∧ m = (list.length - k)) (h0 := ⟨0, 0, _, Z, PLe.refl _, H, ?inv, Z⟩) (round := ?round)
 case inv => exact ⟨by omega, rfl, fun j hj => by omega, by decide⟩
 case round =>
  rintro _ _ _ ⟨k, la, G2, rfl, hle2, H, hinv2, rfl⟩
  have hlist := hlist.up hle2
  obtain ⟨_, _, hall, _⟩ := hinv2
  refine q2 (pe 1 Z (q3 (W_seq ?_)))
  refine W_cond Z ?_ ?_
  ·intro hc3
   try simp only [nrm] at hc3
   refine W_skip (N_K (W_seq (W_block (q2 (mV Z (iP k hlist Z3 Z ?_)))))); intro _ _ z4 _ hz4 hE4 hrow4
   obtain ⟨_, _, _, rfl, hi4, hr4, _, _, _⟩ := ox hE4
   refine o_loadagg_P H isAgg153 sizeOf153 Z Z hrow4 Z (xal H Z ?_); intro b5 _ _ H
   refine aG Z (xst 0 H Z8 ?_); intro _ H
   refine q3 (W_seq (q2 (fA 0 Z (lB 0 H Z3 (pe 3 Z ?_)))))
   refine R_case (t := 22) Z ?_ ?_
   ·intro hc7
    try simp only [nrm] at hc7
    refine pe 20 Z (q3 (W_true Z (q2 (aG Z (q3 (W_ret (N_K_ret (N_B_ret (N_K_ret (N_LP_ret (N_B_ret (N_K_ret (rt1 results227 Z ?_)))))))))))))
    exact H.rets (congrArg Value.bool (by rw [Sp.sv_false (k := k) oM (Sp.okH_last hz4 oM)]))
   intro hc7'
   try simp only [nrm] at hc7'
   refine gR Z (fA 0 Z (gR Z (lB 0 H Z3 (pe 3 Z ?_))))
   refine R_case (t := 27) Z ?_ ?_
   ·intro hc8
    try simp only [nrm] at hc8
    refine pe 15 Z (q3 (W_true Z (q2 (aG Z (q3 (W_ret (N_K_ret (N_B_ret (N_K_ret (N_LP_ret (N_B_ret (N_K_ret (rt1 results227 Z ?_)))))))))))))
    exact H.rets (congrArg Value.bool (by rw [Sp.sv_false (k := k) oM (Sp.okH_id hz4 oM)]))
   intro hc8'
   try simp only [nrm] at hc8'
   refine gR Z (fA 2 Z (gR Z (lB 0 H Z3 (pe 3 Z ?_))))
   refine R_case (t := 32) Z ?_ ?_
   ·intro hc9
    try simp only [nrm] at hc9
    refine pe 10 Z (q3 (W_true Z (q2 (aG Z (q3 (W_ret (N_K_ret (N_B_ret (N_K_ret (N_LP_ret (N_B_ret (N_K_ret (rt1 results227 Z ?_)))))))))))))
    exact H.rets (congrArg Value.bool (by rw [Sp.sv_false (k := k) oM (Sp.okH_id hz4 oM)]))
   intro hc9'
   try simp only [nrm] at hc9'
   refine gR Z (fA 2 Z (gR Z (lB 0 H Z3 (pe 3 Z ?_))))
   refine R_case (t := 37) Z ?_ ?_
   ·intro hc10
    try simp only [nrm] at hc10
    refine pe 5 Z (q3 (W_true Z (q2 (aG Z (q3 (W_ret (N_K_ret (N_B_ret (N_K_ret (N_LP_ret (N_B_ret (N_K_ret (rt1 results227 Z ?_)))))))))))))
    exact H.rets (congrArg Value.bool (by rw [Sp.sv_false (k := k) oM (Sp.okH_id hz4 oM)]))
   intro hc10'
   try simp only [nrm] at hc10'
   refine gR Z (fA 1 Z (gR Z (lB 0 H Z3 (gR Z (xr H Z2 (i_BlockValid_c _ _ H.sub _ _ hr4 ) ?_))))); intro _ H
   refine pe 2 Z (q3 ?_)
   refine W_cond Z ?_ ?_
   ·intro hc12
    try simp only [nrm] at hc12
    refine q2 (aG Z (q3 (W_ret (N_K_ret (N_B_ret (N_K_ret (N_LP_ret (N_B_ret (N_K_ret (rt1 results227 Z ?_))))))))))
    exact H.rets (congrArg Value.bool (by rw [Sp.sv_false (k := k) oM (Sp.okH_id hz4 (by exact .inr (.inr (.inr (by simpa using hc12)))))]))
   intro hc12'
   try simp only [nrm] at hc12'
   refine W_skip (N_K (W_seq (q2 (pe 2 Z ?_))))
   have hcap13 := hlist.cap; try simp only [List.length_set, List.length_append, List.length_take, List.length_drop, List.length_replicate] at hcap13
   refine o_slice_to (j := k) underlying23 sizeOf153 Z Z Z oM oM ?_
   have hsl13 := hlist.take (j := k) aN
   have hsn1 := hsl13.len
   refine lN Z (mV Z (q3 (W_block ?_)))
   obtain ⟨ln14, hln14, H⟩ := H.name (k := 0) rfl
   refine W_lp (hf := (Sub.cons (t := 0) Z (Sub.cons (t := 3) Z (Sub.cons (t := 5) Z (Sub.cons (t := 11) Z (Sub.cons (t := 12) Z (Sub.cons (t := 13) Z (Sub.cons (t := 45) Z (Sub.cons (t := 46) Z Sub.nil))))))))) (J := fun M w m => ∃ (j : Nat) (G : PH), M = [(47, .int .i64 (j : Int))] ∧ PLe G2 G ∧ Hp w0 G0 [] w G [blk b5 (cl ln14 153)] ∧ (j ≤ k ∧ (list.take j).all (fun g => !Sp.l2Same g.bytes z4.bytes) = true) ∧ m = (k - j)) (h0 := ⟨0, _, Z, PLe.refl _, H, ?inv, Z⟩) (round := ?round)
   case inv => exact ⟨by omega, by simp⟩
   case round =>
    rintro _ _ _ ⟨j, _, rfl, hle15, H, hinv15, rfl⟩
    subst hln14
    have hr4 := hr4.up hle15
    have hsl13 := hsl13.up hle15
    have hle2 := hle2.trans hle15
    obtain ⟨hj, hall2⟩ := hinv15
    refine q2 (pe 1 Z (q3 (W_seq ?_)))
    refine W_cond Z ?_ ?_
    ·intro hc16
     try simp only [nrm] at hc16
     refine W_skip (N_K (W_seq (W_block (q2 (iP j hsl13 Z3 Z ?_))))); intro _ _ _ _ hz17 hE17 hrow17
     obtain ⟨_, _, _, rfl, _, hr17, _, _, _⟩ := ox hE17
     rw [List.getElem?_take, if_pos oM] at hz17
     refine o_loadagg_P H isAgg153 sizeOf153 Z Z hrow17 Z (xal H Z ?_); intro _ _ _ H
     refine xst 0 H Z8 ?_; intro _ H
     refine q1 (fA 1 Z (lB 0 H Z3 (fA 1 Z (lB 1 H Z3 (xr H Z2 (l_Equal_c _ _ H.sub _ _ hr17 _ _ hr4 ) ?_))))); intro _ H
     refine q3 ?_
     refine W_cond Z ?_ ?_
     ·intro hc21
      try simp only [nrm] at hc21
      refine q2 (aG Z (q3 (W_ret (N_B_ret (N_K_ret (N_LP_ret (N_B_ret (N_K_ret (N_B_ret (N_K_ret (N_LP_ret (N_B_ret (N_K_ret (rt1 results227 Z ?_))))))))))))))
      exact H.rets (congrArg Value.bool (by rw [Sp.sv_false (k := k) oM (Sp.okH_dup hz4 oM hz17 hc21)]))
     intro hc21'
     try simp only [nrm] at hc21'
     refine W_skip (N_B (N_K (W_region (aD Z2 (mV Z (R_nil ?_))))))
     have H := H.dl 0
     refine N_lp (hJ := ⟨j + 1, _, Z, hle15, H, ?inv, Z⟩) (hm := ?hm)
     case hm => omega
     case inv => exact ⟨by omega, Sp.all_take hall2 hz17 (by simp [hc21'])⟩
    intro hc16'
    try simp only [nrm] at hc16'
    refine W_exit (N_K_exit (N_LP_exit (N_B_same (N_K (W_region (fA 0 Z (lB 0 H Z3 (aG Z (R_nil (N_B (N_K (W_region (aD Z2 (mV Z (R_nil ?_)))))))))))))))
    have H := H.dl 0
    refine N_lp (hJ := ⟨k + 1, z4.id, _, Z, hle2, H, ?inv, Z⟩) (hm := ?hm)
    case hm => omega
    case inv => (obtain rfl : j = k := by omega); exact ⟨by omega, (Sp.lastId_succ hz4).symm, Sp.upto_succ hall (Sp.okH_mk hz4 hall oM oM (by simpa using hc12') oM hall2), hi4⟩
  intro hc3'
  try simp only [nrm] at hc3'
  refine W_exit (N_K_exit (N_LP_exit (N_B_same (N_K (q2 (aG Z (q3 (W_ret (rt1 results227 Z ?_)))))))))
  exact H.rets (congrArg Value.bool (by rw [Sp.sv_true (fun j hj => hall j oM) oM]))
end Go.Proofs.Tst

namespace Go.Proofs.Tst
open Go Fw Tryz
theorem i_keep_c (w0 : World) (G0 : PH) (hG : PSub G0 w0) (mbs : Nat) (ess : Array MapEntry) (cks : Nat) (xss : List (Int × Value)) (Ls : List BHeld) (hms : MapIs (Value.int .i64) ess cks xss) (hSs : StR G0 xss Ls) (hVs : Sp.VH Ls) (id : Int) (hLent : Lent w0 G0 [blk mbs (.map ess cks)])  :
  Calls Tryz.prog 243 #[.map (some mbs), .int .i64 id] w0 (RetM w0 G0 [mbs] (fun G' v Bs => ∃ (es' : Array MapEntry) (ck' : Nat) (xs' : List (Int × Value)) (L' : List BHeld), v = .bool (Sp.StoreKeep Ls id).isSome ∧ Bs = [blk mbs (.map es' ck')] ∧ MapIs (Value.int .i64) es' ck' xs' ∧ StR G' xs' L' ∧ Sp.VH L' ∧ L' = (Sp.StoreKeep Ls id).getD Ls)) := by
 have H : Hp w0 G0 [mbs] w0 G0 [blk mbs (.map ess cks)] := hLent.hp
 refine calls_of_W (l := [.map (some mbs), .int .i64 id]) func243 Z ntmps243 Z (q2 (aG Z (q1 (pe 2 Z (o_lookS2 (H.at (k := 0) Z) hms hSs underlying121 underlying3 zeroValue153 Z Z Z ?_))))); intro _ hE1
 obtain ⟨_, _, _, rfl, _, hr1, _, _, _⟩ := ox hE1
 have hfnd : True := trivial
 refine pe 3 Z (xal H Z ?_); intro _ _ _ H
 refine xst 0 H Z8 ?_; intro _ H
 refine aG Z (q3 (W_seq (q2 (pe 3 Z ?_))))
 refine R_case (t := 15) Z ?_ ?_
 ·intro hc4
  try simp only [nrm] at hc4
  refine pe 4 Z (q3 (W_true Z (q2 (aG Z (q3 (W_ret (N_K_ret (rt1 results243 Z ?_))))))))
  have H := H.dl 0
  exact H.retM ⟨_, _, _, _, congrArg Value.bool (by rw [Sp.keep_no hVs (.inl (by simpa using hc4))]; rfl), rfl, hms, hSs, hVs, by rw [Sp.keep_no hVs (.inl (by simpa using hc4))]; rfl⟩
 intro hc4'
 try simp only [nrm] at hc4'
 have hfd : (Sp.atH Ls id).isSome = true := by simpa using hc4'
 have hgo := Sp.get_ok hVs hfd
 refine gR Z (fA 2 Z (gR Z (lB 0 H Z3 (pe 2 Z (q3 ?_)))))
 refine W_cond Z ?_ ?_
 ·intro hc5
  try simp only [nrm] at hc5
  refine q2 (aG Z (q3 (W_ret (N_K_ret (rt1 results243 Z ?_)))))
  have H := H.dl 0
  exact H.retM ⟨_, _, _, _, congrArg Value.bool (by rw [Sp.keep_no hVs (.inr oM)]; rfl), rfl, hms, hSs, hVs, by rw [Sp.keep_no hVs (.inr oM)]; rfl⟩
 intro hc5'
 try simp only [nrm] at hc5'
 have hkg := Sp.keep_get hVs hfd oM
 refine W_skip (N_K (q2 (fA 2 Z (lB 0 H Z3 (aD Z2 (fA 2 Z (xst 0 H Z8 ?_))))))); intro _ H
 refine q1 (pe 2 Z (lA 0 3 H Z4 ?_))
 refine o_updS 1 H ⟨(getH Ls id).id, (getH Ls id).bytes, (getH Ls id).uses + 1⟩ Z hms hSs underlying121 underlying3 Z Z Z (show heldE G0 ⟨(getH Ls id).id, (getH Ls id).bytes, (getH Ls id).uses + 1⟩ _ from ⟨_, _, _, Z, ⟨by first | omega | (dsimp only; omega), by first | omega | (dsimp only; omega)⟩, hr1, ⟨by first | omega | (dsimp only; omega), by first | omega | (dsimp only; omega)⟩⟩) (by exact Sp.get_id hfd) ?_; intro _ _ _ _ H hm8 hS8
 refine q1 (aG Z (q3 (W_ret (rt1 results243 Z ?_))))
 have H := H.dl 0
 exact H.retM ⟨_, _, _, _, congrArg Value.bool (by rw [hkg.1]; rfl), rfl, hm8, hS8, hkg.2, by rw [hkg.1]; rfl⟩
theorem i_drop_c (w0 : World) (G0 : PH) (hG : PSub G0 w0) (mbs : Nat) (ess : Array MapEntry) (cks : Nat) (xss : List (Int × Value)) (Ls : List BHeld) (hms : MapIs (Value.int .i64) ess cks xss) (hSs : StR G0 xss Ls) (hVs : Sp.VH Ls) (id : Int) (hLent : Lent w0 G0 [blk mbs (.map ess cks)])  :
  Calls Tryz.prog 252 #[.map (some mbs), .int .i64 id] w0 (RetM w0 G0 [mbs] (fun G' v Bs => ∃ (es' : Array MapEntry) (ck' : Nat) (xs' : List (Int × Value)) (L' : List BHeld), v = .bool (Sp.StoreDrop Ls id).isSome ∧ Bs = [blk mbs (.map es' ck')] ∧ MapIs (Value.int .i64) es' ck' xs' ∧ StR G' xs' L' ∧ Sp.VH L' ∧ L' = (Sp.StoreDrop Ls id).getD Ls)) := by
 have H : Hp w0 G0 [mbs] w0 G0 [blk mbs (.map ess cks)] := hLent.hp
 refine calls_of_W (l := [.map (some mbs), .int .i64 id]) func252 Z ntmps252 Z (q2 (aG Z (q1 (pe 2 Z (o_lookS2 (H.at (k := 0) Z) hms hSs underlying121 underlying3 zeroValue153 Z Z Z ?_))))); intro _ hE1
 obtain ⟨_, _, _, rfl, _, hr1, _, _, _⟩ := ox hE1
 refine pe 3 Z (xal H Z ?_); intro _ _ _ H
 refine xst 0 H Z8 ?_; intro _ H
 refine aG Z (q3 (W_seq (q2 (pe 2 Z (q3 ?_)))))
 refine W_cond Z ?_ ?_
 ·intro hc4
  try simp only [nrm] at hc4
  refine q2 (aG Z (q3 (W_ret (N_K_ret (rt1 results252 Z ?_)))))
  have H := H.dl 0
  exact H.retM ⟨_, _, _, _, congrArg Value.bool (by rw [Sp.drop_no (by simpa using hc4)]; rfl), rfl, hms, hSs, hVs, by rw [Sp.drop_no (by simpa using hc4)]; rfl⟩
 intro hc4'
 try simp only [nrm] at hc4'
 have hfd : (Sp.atH Ls id).isSome = true := by simpa using hc4'
 have hgo := Sp.get_ok hVs hfd
 refine W_skip (N_K (W_seq (q2 (fA 2 Z (lB 0 H Z3 (pe 1 Z (q3 ?_)))))))
 refine W_cond Z ?_ ?_
 ·intro hc5
  try simp only [nrm] at hc5
  have hkg := Sp.drop_get1 hVs hfd hc5
  refine q2 (pe 2 Z (o_delS 1 H Z hms hSs underlying121 underlying3 Z Z ?_)); intro _ _ _ _ H hm6 hS6
  refine q1 (aG Z (q3 (W_ret (N_K_ret (rt1 results252 Z ?_)))))
  have H := H.dl 0
  exact H.retM ⟨_, _, _, _, congrArg Value.bool (by rw [hkg.1]; rfl), rfl, hm6, hS6, hkg.2, by rw [hkg.1]; rfl⟩
 intro hc5'
 try simp only [nrm] at hc5'
 have hkg := Sp.drop_get2 hVs hfd hc5'
 refine W_skip (N_K (q2 (fA 2 Z (lB 0 H Z3 (o_sub Z Z Z oO (fA 2 Z (xst 0 H Z8 ?_))))))); intro _ H
 refine q1 (pe 2 Z (lA 0 3 H Z4 ?_))
 refine o_updS 1 H ⟨(getH Ls id).id, (getH Ls id).bytes, (getH Ls id).uses - 1⟩ Z hms hSs underlying121 underlying3 Z Z Z (show heldE G0 ⟨(getH Ls id).id, (getH Ls id).bytes, (getH Ls id).uses - 1⟩ _ from ⟨_, _, _, Z, ⟨by first | omega | (dsimp only; omega), by first | omega | (dsimp only; omega)⟩, hr1, ⟨by first | omega | (dsimp only; omega), by first | omega | (dsimp only; omega)⟩⟩) (by exact Sp.get_id hfd) ?_; intro _ _ _ _ H hm9 hS9
 refine q1 (aG Z (q3 (W_ret (rt1 results252 Z ?_))))
 have H := H.dl 0
 exact H.retM ⟨_, _, _, _, congrArg Value.bool (by rw [hkg.1]; rfl), rfl, hm9, hS9, hkg.2, by rw [hkg.1]; rfl⟩
theorem i_find_c (w0 : World) (G0 : PH) (hG : PSub G0 w0) (mbs : Nat) (ess : Array MapEntry) (cks : Nat) (xss : List (Int × Value)) (Ls : List BHeld) (hbs : MapAt G0 mbs ess cks) (hms : MapIs (Value.int .i64) ess cks xss) (hSs : StR G0 xss Ls) (hVs : Sp.VH Ls) (vbytes : Value) (bytes : List (Int)) (hbytes : RdI G0 vbytes bytes)  :
  Calls Tryz.prog 275 #[.map (some mbs), vbytes] w0 (Rets w0 (.int .i64 (Sp.findId Ls bytes))) := by
 obtain ⟨abytes, kbytes, rfl⟩ := hbytes.shape
 have hlimbytes : bytes.length ≤ 1099511627776 := hbytes.lim
 have H := Hp.init hG
 refine calls_of_W (l := [.map (some mbs), .slice abytes bytes.length kbytes]) func275 Z ntmps275 Z (q2 (aG Z (q3 (W_seq (q2 (mV Z ?_))))))
 have hmb1 := (hbs.at H.sub); refine o_range H hmb1 underlying121 rfl rfl ?_; intro r1 _ _ H _; have hne1 : r1 ≠ mbs := fun e => by have := (Array.getElem?_eq_some_iff.1 hmb1).1; omega
 refine q3 (W_block ?_)
 refine W_lp (hf := (Sub.cons (t := 1) Z (Sub.cons (t := 8) Z Sub.nil))) (J := fun M w m => ∃  (sn : Array Nat) (G : PH), M = [] ∧ PLe G0 G ∧ Hp w0 G0 [] w G [blk r1 (.mapIter (some mbs) cks sn cks)] ∧ (∀ y, y ∈ Ls → seenH ess sn y → Sp.l2Same y.bytes bytes = false) ∧ m = ((leftOf ess sn).size)) (h0 := ⟨#[], _, Z, PLe.refl _, H, ?inv, Z⟩) (round := ?round)
 case inv => rintro y hy ⟨e, _, _, he⟩; simp at he
 case round =>
  rintro _ _ _ ⟨sn, _, rfl, hle2, H, hinv2, rfl⟩
  have hSs := hSs.up hle2
  have hbs := hbs.up hle2
  have hbytes := hbytes.up hle2
  have hsn := hinv2
  refine q2 ?_
  refine o_next 0 H (hbs.at H.sub) hms hSs Z hne1 Z Z ?_ ?_
  ·intro hall3
   refine pe 1 Z (q3 (W_seq (W_false Z (W_exit (N_K_exit (N_LP_exit (N_B_same (N_K (q2 (aG Z (q3 (W_ret (rt1 results275 Z ?_)))))))))))))
   exact H.rets (congrArg (Value.int .i64) (by rw [Sp.findId_none (fun y hy => hsn y hy (hall3 y hy))]))
  intro _ _ _ _ he3 hk3 hv3 hy3 hE3 _ hless3 H
  obtain ⟨_, _, _, rfl, _, hr3, _, _, _⟩ := ox hE3
  refine pe 1 Z (q3 (W_seq (W_true Z (W_skip (N_K (W_block (q2 (o_entry 0 H (hbs.at H.sub) hms Z he3 hk3 hv3 Z Z (pe 2 Z (xal H Z ?_)))))))))); intro _ _ _ H
  refine aG Z (xst 0 H Z8 ?_); intro _ H
  refine q1 (fA 1 Z (lB 0 H Z3 (mV Z (xr H Z2 (l_Equal_c _ _ H.sub _ _ hr3 _ _ hbytes ) ?_)))); intro _ H
  refine q3 ?_
  refine W_cond Z ?_ ?_
  ·intro hc7
   try simp only [nrm] at hc7
   refine q2 (pe 2 Z (q3 (W_ret (N_B_ret (N_LP_ret (N_B_ret (N_K_ret (rt1 results275 Z ?_))))))))
   exact H.rets (congrArg (Value.int .i64) (by rw [Sp.findId_some hVs hy3 hc7]))
  intro hc7'
  try simp only [nrm] at hc7'
  refine W_skip (N_B ?_)
  have H := H.dl 0
  refine N_lp (hJ := ⟨_, _, Z, hle2, H, ?inv, Z⟩) (hm := ?hm)
  case hm => exact hless3
  case inv => intro y hy hs; rcases seenH_push hms (hSs.nd hms) he3 hk3 hy3 hy hs with rfl | h; (· exact hc7'); exact hsn y hy h
theorem i_put_c (w0 : World) (G0 : PH) (hG : PSub G0 w0) (mbs : Nat) (ess : Array MapEntry) (cks : Nat) (xss : List (Int × Value)) (Ls : List BHeld) (hms : MapIs (Value.int .i64) ess cks xss) (hSs : StR G0 xss Ls) (hVs : Sp.VH Ls) (vbytes : Value) (bytes : List (Int)) (hbytes : RdI G0 vbytes bytes) (hLent : Lent w0 G0 [blk mbs (.map ess cks)]) (hB : Sp.BlockValid bytes = true) :
  Calls Tryz.prog 250 #[.map (some mbs), vbytes] w0 (RetM w0 G0 [mbs] (fun G' v Bs => ∃ (es' : Array MapEntry) (ck' : Nat) (xs' : List (Int × Value)) (L' : List BHeld) (i : Int), v = .tuple #[.int .i64 i, .bool (Sp.StorePut Ls bytes).isSome] ∧ Bs = [blk mbs (.map es' ck')] ∧ MapIs (Value.int .i64) es' ck' xs' ∧ StR G' xs' L' ∧ Sp.VH L' ∧ L' = ((Sp.StorePut Ls bytes).map (·.1)).getD Ls ∧ inI i ∧ ∀ r, Sp.StorePut Ls bytes = some r → r.2 = i)) := by
 obtain ⟨abytes, kbytes, rfl⟩ := hbytes.shape
 have hlimbytes : bytes.length ≤ 1099511627776 := hbytes.lim
 have hfin := Sp.findId_in hVs bytes
 have H : Hp w0 G0 [mbs] w0 G0 [blk mbs (.map ess cks)] := hLent.hp
 refine calls_of_W (l := [.map (some mbs), .slice abytes bytes.length kbytes]) func250 Z ntmps250 Z (q2 (pe 2 Z (q3 (W_seq (q2 (pe 2 Z (xr H Z2 (i_find_c _ _ (H.lendSubL [0]) _ _ _ _ _ (H.lendPredL (k := 0) (ks := [0]) Z Z) hms (hSs.up (PPlus.le _ _ _)) hVs _ _ (hbytes.up (PPlus.le _ _ _)) ) ?_))))))); intro _ H
 refine aG Z (q1 (pe 2 Z (q3 ?_)))
 refine W_cond Z ?_ ?_
 ·intro hc2
  try simp only [nrm] at hc2
  obtain ⟨_, _, hp1, hp2, hp3⟩ := Sp.findId_ne hVs hc2
  have hpo := Sp.put_old hVs hB hp1 hp2
  rw [← hp3] at hpo
  refine q2 (pe 3 Z (xc Z2 (i_keep_c _ _ H.sub _ _ _ _ _ hms hSs hVs _ H.lent1 ) ?_))
  rintro _ _ ⟨_, _, _, rfl, H3', ⟨_, _, _, _, rfl, rfl, hm3, hS3, hV3, hL3⟩⟩
  have H := H.borrow1 H3'
  refine ⟨_, Z, ?_⟩
  refine pe 2 Z (q3 (W_ret (N_K_ret (rt2 results250 Z Z ?_))))
  exact H.retM ⟨_, _, _, _, Sp.findId Ls bytes, congrArg (fun b => Value.tuple #[Value.int .i64 (Sp.findId Ls bytes), Value.bool b]) (by rw [hpo, Option.isSome_map]), rfl, hm3, hS3, hV3, (by rw [hL3, hpo]; cases Sp.StoreKeep Ls (Sp.findId Ls bytes) <;> rfl), oO, fun r hr => by rw [hpo] at hr; cases hk : Sp.StoreKeep Ls (Sp.findId Ls bytes) with | none => rw [hk] at hr; cases hr | some l => (rw [hk] at hr; cases hr; rfl)⟩
 intro hc2'
 try simp only [nrm] at hc2'
 have hnl := Sp.findId_eq hVs hc2'
 refine W_skip (N_K (W_seq (q2 (mV Z ?_))))
 have hml4 := hSs.len
 refine o_lenM (H.at (k := 0) Z) hms underlying121 Z Z (pe 1 Z (q3 ?_))
 refine W_cond Z ?_ ?_
 ·intro hc5
  try simp only [nrm] at hc5
  refine q2 (pe 2 Z (q3 (W_ret (N_K_ret (rt2 results250 Z Z ?_)))))
  exact H.retM ⟨_, _, _, _, 0, congrArg (fun b => Value.tuple #[Value.int .i64 (0), Value.bool b]) (by rw [Sp.put_full hnl oM]; rfl), rfl, hms, hSs, hVs, (by rw [Sp.put_full hnl oM]; rfl), by decide, fun r hr => by rw [Sp.put_full hnl oM] at hr; cases hr⟩
 intro hc5'
 try simp only [nrm] at hc5'
 refine W_skip (N_K (q2 (aG Z (q3 (W_seq (W_block ?_))))))
 refine W_lp (hf := (Sub.cons (t := 0) Z (Sub.cons (t := 1) Z (Sub.cons (t := 4) Z (Sub.cons (t := 5) Z Sub.nil))))) (J := fun M w m => ∃ (k : Nat) (G : PH), M = [(7, .int .i64 ((k : Int) + 1))] ∧ PLe G0 G ∧ Hp w0 G0 [mbs] w G [blk mbs (.map ess cks)] ∧ (∀ j : Nat, j < k → (Sp.atH Ls ((j : Int) + 1)).isSome = true) ∧ m = (Ls.length + 1 - k)) (h0 := ⟨0, _, Z, PLe.refl _, H, ?inv, Z⟩) (round := ?round)
 case inv => exact fun j hj => by omega
 case round =>
  rintro _ _ _ ⟨k, _, rfl, hle6, H, hinv6, rfl⟩
  have hSs := hSs.up hle6
  have hbytes := hbytes.up hle6
  have hall := hinv6; have hkl := Sp.free_le hall; have hv16 := hVs.len
  refine W_seq (q2 (pe 2 Z (o_lookS (H.at (k := 0) Z) hms hSs underlying121 underlying3 zeroValue153 Z Z Z ?_))); intro _ hE7
  obtain ⟨_, _, _, rfl, _, hr7, _, _, _⟩ := ox hE7
  refine o_field 2 runUnderlying153 Z Z Z isAgg3 Z Z Z (pe 1 Z (q3 ?_))
  refine W_cond Z ?_ ?_
  ·intro hc8
   try simp only [nrm] at hc8
   refine W_skip (N_K (W_block (W_region (mV Z (aD Z2 (aG Z (R_nil (N_B ?_))))))))
   refine N_lp (hJ := ⟨k + 1, _, Z, hle6, H, ?inv, Z⟩) (hm := ?hm)
   case hm => omega
   case inv => exact Sp.upto_succ (p := fun j : Nat => (Sp.atH Ls ((j : Int) + 1)).isSome) hall (Sp.uses_some hc8)
  intro hc8'
  try simp only [nrm] at hc8'
  refine W_exit (N_K_exit (N_LP_exit (N_B_same (N_K (q2 (pe 4 Z (xc Z2 (l_Clone_c _ _ H.sub _ _ hbytes ) ?_)))))))
  rintro _ _ ⟨_, _, _, g10, rfl, ⟨_, rfl, hchk10⟩, hp10, hq10, hs10⟩
  have H := H.growO g10 hp10 hq10 hs10; obtain ⟨_, _, rfl⟩ := H.accShape (k := 0) rfl
  have hSs := hSs.up g10.le
  refine ⟨_, Z, ?_⟩
  refine o_build bf153 Z Z Z ?_
  obtain ⟨G12, H, hsg12, hsr12⟩ := H.shutL (k := 0) rfl (H.apart (k := 0) (ks := [1]) rfl rfl (by intro b hb; simpa [fpsAt, nth, blk] using hb)) hchk10 aN aN
  have hSs := hSs.up hsg12
  refine o_updS 0 H ⟨(k : Int) + 1, bytes, 1⟩ Z hms hSs underlying121 underlying3 Z Z Z (show heldE G12 ⟨(k : Int) + 1, bytes, 1⟩ _ from ⟨_, _, _, Z, ⟨by first | omega | (dsimp only; omega), by first | omega | (dsimp only; omega)⟩, hsr12, ⟨by first | omega | (dsimp only; omega), by first | omega | (dsimp only; omega)⟩⟩) rfl ?_; intro _ _ _ _ H hm11 hS11
  refine q1 (pe 3 Z (q3 (W_ret (rt2 results250 Z Z ?_))))
  have hfe := Sp.free_eq hall (Sp.uses_none hVs (by simpa using hc8'))
  have hpn := Sp.put_new hVs hB hnl oM
  exact H.retM ⟨_, _, _, _, (k : Int) + 1, congrArg (fun b => Value.tuple #[Value.int .i64 ((k : Int) + 1), Value.bool b]) (by rw [hpn]; rfl), rfl, hm11, (hS11.perm (Sp.put_perm bytes hfe)), Sp.with_valid hVs hB hnl oM, (by rw [hpn]; rfl), oO, fun r hr => by rw [hpn] at hr; cases hr; simp only []; omega⟩
end Go.Proofs.Tst

