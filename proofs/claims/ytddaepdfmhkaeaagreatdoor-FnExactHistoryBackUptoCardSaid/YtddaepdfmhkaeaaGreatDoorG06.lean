/- Part 6 of the proof: the program logic and plain functions. Conditions: none. -/
import Derived.Test.YtddaepdfmhkaeaaGreatDoorProg
import Derived.Test.YtddaepdfmhkaeaaGreatDoorG02
import Derived.Test.YtddaepdfmhkaeaaGreatDoorG03
import Derived.Test.YtddaepdfmhkaeaaGreatDoorG04
import Derived.Test.YtddaepdfmhkaeaaGreatDoorG05
import Derived.Shelf.SlGeneric
import Derived.Shelf.Strings.Search1
import Derived.Shelf.Strings.Search2
import Derived.Shelf.Strings.Count
import Derived.Shelf.SlIterI.Nil
import Derived.Shelf.SortM.Plain
import Derived.Shelf.SortM.SortNone
import Derived.Ground.GgzProg
import Derived.Ground.SlgmProg
import Derived.Conc.MuLone
import Derived.KernelRfl
set_option linter.all false
set_option maxRecDepth 100000
set_option maxHeartbeats 1000000
namespace Go.Proofs.Tst
open Go Fw Tryz
theorem SnapRead_c (w0 : World) (G0 : PH) (hG : PSub G0 w0) (cd : List Value) (d : BDisk) (hd : diskE G0 d cd) (name : Bs) (hname : name.length ≤ 16777216) (path : Bs) (hpath : path.length ≤ 16777216)  :
  Calls Tryz.prog 18 #[.agg cd.toArray, str name, str path] w0 (RetO w0 G0 (fun G v r => ∃ u, v = .tuple #[u, .bool (Sp.SnapRead d name path).isSome] ∧ AccOf intE 1 3 ((Sp.SnapRead d name path).getD []) G u r)) := by
 obtain ⟨a1, m1, c1, a1', m1', c1', a1'', m1'', c1'', rfl, hr1, hr1', hr1''⟩ := hd; have hn_hr1 := hr1.len; have hx_hr1 : _ ≤ 1099511627776 := hr1.lim; have hn_hr1q := hr1'.len; have hx_hr1q : _ ≤ 1099511627776 := hr1'.lim; have hn_hr1qq := hr1''.len; have hx_hr1qq : _ ≤ 1099511627776 := hr1''.lim
 have H := Hp.init hG
 refine calls_of_W (l := [_, str name, str path]) func18 Z ntmps18 Z (q2 (o_box H Z Z Z ?_)); intro b2 w2 hb2 H
 refine aG Z (aG Z (q1 (o_fieldAddr 2 runUnderlying27 Z sizeOf25 Z Z Z (o_load_B 0 H isAgg25 Z Z Z Z (mV Z (o_call call46 Z Z (l12At_c _ _ H.sub _ _ hr1'' _ hname ) ?_))))))
 rintro _ w3 ⟨rfl, ew3⟩; have H := H.step ew3; refine ⟨_, rfl, ?_⟩
 refine aG Z (q3 (W_seq (q2 (o_loadagg_B 0 H isAgg27 sizeOf27 Z Z Z Z Z (o_call call44 Z Z (DiskValid_c _ _ H.sub _ d ⟨_, _, _, _, _, _, _, _, _, Z, hr1, hr1', hr1''⟩ ) ?_)))))
 rintro _ w4 ⟨rfl, ew4⟩; have H := H.step ew4; refine ⟨_, rfl, ?_⟩
 refine o_not Z Z (mV Z ?_)
 refine R_case (t := 17) Z ?_ ?_
 ·intro hc5
  try simp only [nrm] at hc5
  refine rP Z (rP Z (o_pick_t Z Z Z (q3 (W_true Z (q2 (o_buildSlice H underlying33 sizeOf3 (fun w => ⟨_, zeroValue3 w, Z⟩) Z Z Z Z Z Z Z ?_)))))); intro b6 w6 hb6 H
  have H := H.blkAcc 1 (k := 0) (n := 0) rfl rfl (by decide)
  refine aG Z (aG Z (q3 (W_ret (N_K_ret (rt2 results18 Z Z ?_)))))
  have hN : Sp.SnapRead d name path = none := by exact Sp.snapread_nov (by simpa using hc5)
  exact H.retO (k := 0) rfl (by rw [hN]; exact ⟨_, rfl, AccOf.mk aN (Chk.nil (E := intE) (sz := 1) (G := G0))⟩) (acc_nd _ _ _ _ _)
 intro hc5'
 try simp only [nrm] at hc5'
 refine gR Z (mV Z (gR Z (o_lss Z Z Z (o_pick_f Z Z Z (q3 ?_)))))
 refine W_cond Z ?_ ?_
 ·intro hc7
  try simp only [nrm] at hc7
  refine q2 (o_buildSlice H underlying33 sizeOf3 (fun w => ⟨_, zeroValue3 w, Z⟩) Z Z Z Z Z Z Z ?_); intro b8 w8 hb8 H
  have H := H.blkAcc 1 (k := 0) (n := 0) rfl rfl (by decide)
  refine aG Z (aG Z (q3 (W_ret (N_K_ret (rt2 results18 Z Z ?_)))))
  have hN : Sp.SnapRead d name path = none := by exact Sp.snapread_noat (by simpa [Sp.l12At] using hc7)
  exact H.retO (k := 0) rfl (by rw [hN]; exact ⟨_, rfl, AccOf.mk aN (Chk.nil (E := intE) (sz := 1) (G := G0))⟩) (acc_nd _ _ _ _ _)
 intro hc7'
 try simp only [nrm] at hc7'
 obtain ⟨i, x, ia, ib, ic, ie, ig⟩ := Sp.at_nat hc7'
 have ib : Sp.l12At d.snaps name = (i : Int) := ib
 have hat : Sp.atS d.snaps name = some i := ia
 have hdv : Sp.DiskValid d = true := by simpa using hc5'
 refine W_skip (N_K (q2 (o_fieldAddr 2 runUnderlying27 Z sizeOf25 Z Z Z (o_load_B 0 H isAgg25 Z Z Z Z (mV Z (o_index_P i hr1'' underlying25 sizeOf81 Z Z Z ib aN ?_)))))); intro b9 o9 z9 q9 hz9 hE9 hrow9
 obtain ⟨a9, m9, c9, rfl, hi9, hr9⟩ := hE9; have hy_hi9 : _ ≤ 16777216 := hi9; have hn_hr9 := hr9.len; have hx_hr9 : _ ≤ 1099511627776 := hr9.lim
 refine o_fieldAddr 1 runUnderlying81 Z sizeOf24 Z Z Z (o_load_P H isAgg24 Z Z (hrow9 1 _ Z) (mV Z (o_call call56 Z Z (l11Ids_c _ _ H.sub _ _ hr9 _ hpath ) ?_)))
 rintro _ w10 ⟨G10, u10_0, g10, rfl, hr10_0⟩
 have H := H.grow g10
 have hr1 := hr1.up g10.le
 obtain ⟨a10_0, k10_0, rfl⟩ := hr10_0.shape; have hx_hr10_0 : _ ≤ 1099511627776 := hr10_0.lim
 refine ⟨_, Z, ?_⟩
 refine aG Z (q3 (W_seq (q2 (mV Z (o_len_slice underlying24 Z Z (o_eql Z Z Z (q3 ?_)))))))
 refine W_cond Z ?_ ?_
 ·intro hc11
  try simp only [nrm] at hc11
  refine q2 (o_buildSlice H underlying33 sizeOf3 (fun w => ⟨_, zeroValue3 w, Z⟩) Z Z Z Z Z Z Z ?_); intro b12 w12 hb12 H
  have H := H.blkAcc 1 (k := 0) (n := 0) rfl rfl (by decide)
  refine aG Z (aG Z (q3 (W_ret (N_K_ret (rt2 results18 Z Z ?_)))))
  have hN : Sp.SnapRead d name path = none := by exact Sp.snapread_nil hdv hat hz9 oM
  exact H.retO (k := 0) rfl (by rw [hN]; exact ⟨_, rfl, AccOf.mk aN (Chk.nil (E := intE) (sz := 1) (G := G10))⟩) (acc_nd _ _ _ _ _)
 intro hc11'
 try simp only [nrm] at hc11'
 refine W_skip (N_K (W_seq (W_drawK [0] 9 H kR Z ?_))); intro w13 H; have hd13 := PLe.refl G10
 refine RD_t 0 Z kR Z (fun _ hK => v_fieldAddr 0 runUnderlying27 Z sizeOf23 Z Z) (RD_t 1 Z kR Z (fun _ hK => v_load_B 0 hK isAgg23 Z Z Z) (vM 2 Z Z ?_))
 have hl14 := hr10_0.len
 obtain ⟨b14, o14, z14, q14, ha14, hz14, hq14, hE14, hrow14, _⟩ := hr10_0.at (i := 0) oM
 clear hq14
 obtain ⟨a14, m14, c14, rfl, hi14, hr14⟩ := hE14; have hy_hi14 : _ ≤ 16777216 := hi14; have hn_hr14 := hr14.len; have hx_hr14 : _ ≤ 1099511627776 := hr14.lim
 refine RD_t 3 Z kR Z (fun _ hK => v_index_P (i := 0) ha14 underlying24 sizeOf37 Z Z Z oM) (RD_t 4 Z kR Z (fun _ hK => v_fieldAddr 2 runUnderlying37 Z sizeOf33 Z Z) (RD_t 5 Z kR Z (fun _ hK => v_load_P hK isAgg33 Z (hrow14 2 _ Z)) ?_))
 refine RD_run [6] kR Z (RDs.cons Z ?_ RDs.nil)
 refine o_call call57 Z Z (l4Load_c _ _ H.sub _ _ hr1 _ _ hr14 (Sp.snap_ids hdv hz9 hz14) (Sp.dv_store hdv)) ?_
 rintro _ w15 ⟨G15, v15, _, g15, rfl, ⟨cs15, rfl, hchk15⟩, hp15, hq15, hs15⟩
 have H := H.growO g15 hp15 hq15 hs15; obtain ⟨av15, cv15, rfl⟩ := H.accShape (k := 0) rfl
 have hd13 := hd13.trans g15.le
 refine ⟨_, Z, ?_⟩
 refine R_nil (N_DK (Kn.of' H hd13 (SubL.cons 1 Z SubL.nil)) (RD_t 7 Z kR Z (fun _ hK => v_assign Z) (RD_t 8 Z kR Z (fun _ hK => v_assign Z) (RD_done kR (N_K (W_ret (rt2 results18 Z Z ?_)))))))
 have hY : Sp.SnapRead d name path = some (Sp.load d.store z14.ids) := by exact Sp.snapread_one hdv hat hz9 hz14
 exact H.retO (k := 0) rfl (by rw [hY]; exact ⟨_, rfl, AccOf.mk aN hchk15⟩) (acc_nd _ _ _ _ _)
end Go.Proofs.Tst

namespace Go.Proofs.Tst
open Go Fw Tryz
theorem HistoryBack_c (w0 : World) (G0 : PH) (hG : PSub G0 w0) (cd : List Value) (d : BDisk) (hd : diskE G0 d cd) (snap : Bs) (hsnap : snap.length ≤ 16777216) (path : Bs) (hpath : path.length ≤ 16777216)  :
  Calls Tryz.prog 28 #[.agg cd.toArray, str snap, str path] w0 (RetO w0 G0 (fun G val r => ∃ u u1 u2, val = .tuple #[.agg #[u, u1, u2], .bool (Sp.HistoryBack d snap path).isSome] ∧ AccOf snapE 2 81 (((Sp.HistoryBack d snap path).map (·.snaps)).getD []) G u2 r ∧ RdH G u (((Sp.HistoryBack d snap path).map (·.store)).getD []) ∧ RdItems G u1 (((Sp.HistoryBack d snap path).map (·.tree)).getD []))) := by
 obtain ⟨a1, m1, c1, a1', m1', c1', a1'', m1'', c1'', rfl, hr1, hr1', hr1''⟩ := hd; have hn_hr1 := hr1.len; have hx_hr1 : _ ≤ 1099511627776 := hr1.lim; have hn_hr1q := hr1'.len; have hx_hr1q : _ ≤ 1099511627776 := hr1'.lim; have hn_hr1qq := hr1''.len; have hx_hr1qq : _ ≤ 1099511627776 := hr1''.lim
 have H := Hp.init hG
 refine calls_of_W (l := [_, str snap, str path]) func28 Z ntmps28 Z (q2 (o_box H Z Z Z ?_)); intro b2 w2 hb2 H
 refine o_alloc H zeroValue27 Z Z ?_; intro b3 w3 hb3 H
 refine aG Z (q1 (o_loadagg_B 1 H isAgg27 sizeOf27 Z Z Z Z Z (mV Z (mV Z (o_call call18 Z Z (SnapRead_c _ _ H.sub _ d ⟨_, _, _, _, _, _, _, _, _, Z, hr1, hr1', hr1''⟩ _ hsnap _ hpath ) ?_)))))
 rintro _ w4 ⟨G4, _, _, g4, rfl, ⟨u4_0, rfl, ⟨cs4, rfl, hchk4⟩⟩, hp4, hq4, hs4⟩
 have H := H.growO g4 hp4 hq4 hs4; obtain ⟨av4, cv4, rfl⟩ := H.accShape (k := 0) rfl
 have hr1 := hr1.up g4.le
 have hr1' := hr1'.up g4.le
 have hr1'' := hr1''.up g4.le
 refine ⟨_, Z, ?_⟩
 have hbl := Sp.snapread_len d snap path
 refine mV Z (o_extract Z Z Z (o_extract Z Z Z (aG Z (aG Z (q3 (W_seq (q2 (mV Z (o_not Z Z (q3 ?_))))))))))
 refine W_cond Z ?_ ?_
 ·intro hc5
  try simp only [nrm] at hc5
  refine q2 (o_build bf27 Z Z Z (o_store_B 1 H sizeOf27 Z Z Z Z Z Z Z Z ?_)); intro w6 H
  refine aG Z (q3 (W_ret (N_K_ret (ret_gen (rs := [.cell 6 27, .tmp 7]) (vs := [_, _]) results28 ⟨⟨_, Z, load_blk 1 H isAgg27 sizeOf27 Z Z Z⟩, Z, trivial⟩ ?_))))
  have hN : Sp.HistoryBack d snap path = none := by (have hno : Sp.SnapRead d snap path = none := by simpa using hc5); simp [Sp.HistoryBack, hno]
  have H := H.addNil 81 2
  exact H.retO (k := 0) rfl (by rw [hN]; exact ⟨_, _, _, rfl, AccOf.mk rfl Chk.nil, RdS.nil _ _ _, RdS.nil _ _ _⟩) (acc_nd _ _ _ _ _)
 intro hc5'
 try simp only [nrm] at hc5'
 refine W_skip (N_K (q2 (o_loadagg_B 2 H isAgg27 sizeOf27 Z Z Z Z Z (mV Z (mV Z ?_)))))
 obtain ⟨G8, H, hsg8, hsr8⟩ := H.shut' (k := 0) rfl hchk4 aN aN
 have hr1 := hr1.up hsg8
 have hr1' := hr1'.up hsg8
 have hr1'' := hr1''.up hsg8
 refine o_call call22 Z Z (DiskWrite_c _ _ H.sub _ d ⟨_, _, _, _, _, _, _, _, _, Z, hr1, hr1', hr1''⟩ _ hpath _ _ hsr8 ) ?_
 rintro _ w7 ⟨G7, _, _, g7, rfl, ⟨u7_0, u7_1, u7_2, rfl, ⟨cs7, rfl, hchk7⟩, hr7_0, hr7_1⟩, hp7, hq7, hs7⟩
 have H := H.growO g7 hp7 hq7 hs7; obtain ⟨av7, cv7, rfl⟩ := H.accShape (k := 0) rfl
 obtain ⟨a7_0, k7_0, rfl⟩ := hr7_0.shape; have hx_hr7_0 : _ ≤ 1099511627776 := hr7_0.lim
 obtain ⟨a7_1, k7_1, rfl⟩ := hr7_1.shape; have hx_hr7_1 : _ ≤ 1099511627776 := hr7_1.lim
 refine ⟨_, Z, ?_⟩
 refine o_extract Z Z Z (o_extract Z Z Z (o_store_B 1 H sizeOf27 Z Z Z Z Z Z Z Z ?_)); intro w9 H
 refine aG Z (q3 (W_ret (ret_gen (rs := [.cell 6 27, .tmp 7]) (vs := [_, _]) results28 ⟨⟨_, Z, load_blk 1 H isAgg27 sizeOf27 Z Z Z⟩, Z, trivial⟩ ?_)))
 have hY : Sp.HistoryBack d snap path = Sp.DiskWrite d path ((Sp.SnapRead d snap path).getD []) := by (obtain ⟨p, hp⟩ := Option.isSome_iff_exists.1 (show (Sp.SnapRead d snap path).isSome = true by simpa using hc5')); simp [Sp.HistoryBack, hp]
 exact H.retO (k := 0) rfl (by rw [hY]; exact ⟨_, _, _, rfl, AccOf.mk aN hchk7, hr7_0, hr7_1⟩) (acc_nd _ _ _ _ _)
end Go.Proofs.Tst

namespace Go.Proofs.Tst
open Go Fw Tryz
theorem HistoryBackP_c (w0 : World) (G0 : PH) (hG : PSub G0 w0) (cd : List Value) (d : BDisk) (hd : diskE G0 d cd) (snap : Bs) (hsnap : snap.length ≤ 16777216) (path : Bs) (hpath : path.length ≤ 16777216) :
  Calls Tryz.prog 28 #[.agg cd.toArray, str snap, str path] w0 (RetP w0 G0 (fun G val => ∃ cs, val = .tuple #[.agg cs.toArray, .bool (Sp.HistoryBack d snap path).isSome] ∧ diskE G ((Sp.HistoryBack d snap path).getD ⟨[], [], []⟩) cs)) := by
 refine (HistoryBack_c w0 G0 hG cd d hd snap hsnap path hpath).mono ?_
 rintro _ w' ⟨G, v, r, g, rfl, ⟨u, u1, u2, rfl, ⟨cells, rfl, hchk⟩, h1, h2⟩, hp, hq, hs⟩
 have H := (Hp.init hG).growO g hp hq hs
 have hb : (((Sp.HistoryBack d snap path).map (·.snaps)).getD []).length ≤ 6 := Sp.dk_lim (fun d1 h => Sp.hist_valid h)
 obtain ⟨G2, H2, hle, hr⟩ := H.shut' (k := 0) rfl hchk rfl oM
 have e1 : ((Sp.HistoryBack d snap path).map (·.store)).getD [] = ((Sp.HistoryBack d snap path).getD ⟨[], [], []⟩).store := by cases Sp.HistoryBack d snap path <;> rfl
 have e2 : ((Sp.HistoryBack d snap path).map (·.tree)).getD [] = ((Sp.HistoryBack d snap path).getD ⟨[], [], []⟩).tree := by cases Sp.HistoryBack d snap path <;> rfl
 have e3 : ((Sp.HistoryBack d snap path).map (·.snaps)).getD [] = ((Sp.HistoryBack d snap path).getD ⟨[], [], []⟩).snaps := by cases Sp.HistoryBack d snap path <;> rfl
 rw [e1] at h1; rw [e2] at h2; rw [e3] at hr
 obtain ⟨a1, c1, rfl⟩ := h1.shape
 obtain ⟨a2, c2, rfl⟩ := h2.shape
 obtain ⟨a3, c3, rfl⟩ := hr.shape
 exact H2.retP ⟨[_, _, _], Z, _, _, _, _, _, _, _, _, _, Z, h1.up hle, h2.up hle, hr⟩
end Go.Proofs.Tst

namespace Go.Proofs.Tst
open Go Fw Tryz
theorem l_Equal_c (w0 : World) (G0 : PH) (hG : PSub G0 w0) (va : Value) (a : List (Int)) (ha : RdI G0 va a) (vb : Value) (b : List (Int)) (hb : RdI G0 vb b)  :
  Calls Tryz.prog 189 #[va, vb] w0 (Rets w0 (.bool (Sp.l2Same a b))) := by
 obtain ⟨aa, ka, rfl⟩ := ha.shape
 have hlima : a.length ≤ 1099511627776 := ha.lim
 obtain ⟨ab, kb, rfl⟩ := hb.shape
 have hlimb : b.length ≤ 1099511627776 := hb.lim
 have H := Hp.init hG
 refine calls_of_W (l := [.slice aa a.length ka, .slice ab b.length kb]) func189 Z ntmps189 Z (q2 (aG Z (q3 (W_seq (q2 (mV Z (o_len_slice underlying33 Z Z (mV Z (o_len_slice underlying33 Z Z (o_neq Z Z Z (q3 ?_)))))))))))
 refine W_cond Z ?_ ?_
 ·intro hc1
  try simp only [nrm] at hc1
  refine q2 (aG Z (q3 (W_ret (N_K_ret (rt1 results189 Z ?_)))))
  exact H.rets (congrArg Value.bool (by unfold Sp.l2Same; exact Sp.ne_len oM))
 intro hc1'
 try simp only [nrm] at hc1'
 refine W_skip (N_K (W_seq (q2 (mV Z (o_len_slice underlying33 Z Z (mV Z (q3 (W_block ?_))))))))
 refine W_lp (hf := (Sub.cons (t := 0) Z (Sub.cons (t := 1) Z (Sub.cons (t := 12) Z Sub.nil)))) (J := fun M w m => ∃ (k : Nat) (G : PH), M = [(13, .int .i64 (k : Int))] ∧ PLe G0 G ∧ Hp w0 G0 [] w G [] ∧ (k ≤ a.length ∧ a.take k = b.take k) ∧ m = (a.length - k)) (h0 := ⟨0, _, Z, PLe.refl _, H, ?inv, Z⟩) (round := ?round)
 case inv => exact ⟨by omega, by simp⟩
 case round =>
  rintro _ w2 _ ⟨k, G2, rfl, hle2, H, hinv2, rfl⟩
  have ha := ha.up hle2
  have hb := hb.up hle2
  obtain ⟨hk, hall⟩ := hinv2
  refine q2 (o_lss Z Z Z (q3 (W_seq ?_)))
  refine W_cond Z ?_ ?_
  ·intro hc3
   try simp only [nrm] at hc3
   refine W_skip (N_K (W_seq (W_block (q2 (mV Z (aG Z (q3 (W_seq (W_drawK [] 9 H kR Z ?_))))))))); intro w4 H; have hd4 := PLe.refl G2
   refine vM 0 Z Z (vM 1 Z Z ?_)
   have hl5 := ha.len
   obtain ⟨b5, o5, z5, q5, ha5, hz5, hq5, hE5, hrow5, _⟩ := ha.at (i := k) oM
   clear hq5
   obtain ⟨rfl, hi5⟩ := hE5
   refine RD_t 2 Z kR Z (fun _ hK => v_index_P (i := k) ha5 underlying33 sizeOf3 Z Z Z oM) (RD_t 3 Z kR Z (fun _ hK => v_load_P hK isAgg3 Z (hrow5 0 _ Z)) (vM 4 Z Z (vM 5 Z Z ?_)))
   have hl6 := hb.len
   obtain ⟨b6, o6, z6, q6, ha6, hz6, hq6, hE6, hrow6, _⟩ := hb.at (i := k) oM
   clear hq6
   obtain ⟨rfl, hi6⟩ := hE6
   refine RD_t 6 Z kR Z (fun _ hK => v_index_P (i := k) ha6 underlying33 sizeOf3 Z Z Z oM) (RD_t 7 Z kR Z (fun _ hK => v_load_P hK isAgg3 Z (hrow6 0 _ Z)) (RD_t 8 Z kR Z (fun _ hK => v_neq Z Z) (RD_done kR (N_K ?_))))
   refine W_cond Z ?_ ?_
   ·intro hc7
    try simp only [nrm] at hc7
    refine q2 (aG Z (q3 (W_ret (N_B_ret (N_K_ret (N_LP_ret (N_B_ret (N_K_ret (rt1 results189 Z ?_)))))))))
    exact H.rets (congrArg Value.bool (by unfold Sp.l2Same; exact Sp.ne_at hz5 hz6 oM))
   intro hc7'
   try simp only [nrm] at hc7'
   refine W_skip (N_B (N_K (W_region (o_add Z Z Z oO (mV Z (R_nil ?_))))))
   refine N_lp (hJ := ⟨k + 1, _, Z, hle2, H, ?inv, Z⟩) (hm := ?hm)
   case hm => omega
   case inv => exact ⟨by omega, Sp.take_eq hall hz5 (by rw [hz6]; congr 1; omega)⟩
  intro hc3'
  try simp only [nrm] at hc3'
  refine W_exit (N_K_exit (N_LP_exit (N_B_same (N_K (q2 (aG Z (q3 (W_ret (rt1 results189 Z ?_)))))))))
  exact H.rets (congrArg Value.bool (by unfold Sp.l2Same; exact Sp.eq_all hall oM oM))
theorem l_Clone_c (w0 : World) (G0 : PH) (hG : PSub G0 w0) (vl : Value) (l : List (Int)) (hl : RdI G0 vl l)  :
  Calls Tryz.prog 141 #[vl] w0 (RetO w0 G0 (AccOf intE 1 3 l)) := by
 obtain ⟨al, kl, rfl⟩ := hl.shape
 have hliml : l.length ≤ 1099511627776 := hl.lim
 have H := Hp.init hG
 refine calls_of_W (l := [.slice al l.length kl]) func141 Z ntmps141 Z (q2 (aG Z (q3 (W_seq (q2 (mV Z (o_eqnil_slice underlying33 Z Z Z (q3 ?_))))))))
 refine W_cond Z ?_ ?_
 ·intro hc1
  try simp only [nrm] at hc1
  refine q2 (aG Z (q3 (W_ret (N_K_ret (rt1 results141 Z ?_)))))
  obtain rfl : al = none := by simpa using hc1
  obtain rfl : l = [] := by obtain ⟨_, _, h1, _, _, h2⟩ := hl; rcases h2 with h2 | ⟨b, o, h2, _⟩; (· exact h2); simp only [Value.slice.injEq] at h1; rw [← h1.1] at h2; cases h2
  have H := H.addNil 3 1
  exact H.retO (k := 0) Z (AccOf.mk Z Chk.nil) (acc_nd _ _ _ _ _)
 intro hc1'
 try simp only [nrm] at hc1'
 refine W_skip (N_K (q2 (o_buildSlice H underlying33 sizeOf3 (fun w => ⟨_, zeroValue3 w, Z⟩) Z Z Z Z Z Z Z ?_))); intro b2 w2 hb2 H
 have H := H.blkAcc 1 (k := 0) (n := 0) rfl rfl (by decide)
 refine mV Z ?_
 refine o_append_P 0 H hl (by intro z cs hz u hu; obtain ⟨rfl, _⟩ := hz; simp at hu; subst hu; rfl) (sz := 1) (bytes := 8) underlying33 typeInfo3 ⟨_, rfl, rfl⟩ rfl rfl rfl rfl rfl rfl rfl oM rfl ?_; intro v3 w3 css3 hcl3 hcs3 H
 have hchk3 : Chk intE 1 G0 ([] ++ css3.flatten) _ := ⟨css3, rfl, hcl3, hcs3⟩
 obtain ⟨av3, cv3, rfl⟩ := H.accShape (k := 0) rfl
 refine aG Z (q3 (W_ret (rt1 results141 Z ?_)))
 exact H.retO (k := 0) rfl (by skip; exact AccOf.mk aN hchk3) (acc_nd _ _ _ _ _)
theorem i_bytesValid_c (w0 : World) (G0 : PH) (hG : PSub G0 w0) (vbytes : Value) (bytes : List (Int)) (hbytes : RdI G0 vbytes bytes)  :
  Calls Tryz.prog 118 #[vbytes] w0 (Rets w0 (.bool (bytes.all Sp.byteOk))) := by
 obtain ⟨abytes, kbytes, rfl⟩ := hbytes.shape
 have hlimbytes : bytes.length ≤ 1099511627776 := hbytes.lim
 have H := Hp.init hG
 refine calls_of_W (l := [.slice abytes bytes.length kbytes]) func118 Z ntmps118 Z (q2 (aG Z (q3 (W_seq (q2 (mV Z (o_len_slice underlying33 Z Z (mV Z (q3 (W_block ?_))))))))))
 refine W_lp (hf := (Sub.cons (t := 5) Z (Sub.cons (t := 6) Z Sub.nil))) (J := fun M w m => ∃ (k : Nat) (G : PH), M = [(7, .int .i64 (k : Int))] ∧ PLe G0 G ∧ Hp w0 G0 [] w G [] ∧ (k ≤ bytes.length ∧ (bytes.take k).all Sp.byteOk = true) ∧ m = (bytes.length - k)) (h0 := ⟨0, _, Z, PLe.refl _, H, ?inv, Z⟩) (round := ?round)
 case inv => exact ⟨by omega, by simp⟩
 case round =>
  rintro _ w1 _ ⟨k, G1, rfl, hle1, H, hinv1, rfl⟩
  have hbytes := hbytes.up hle1
  obtain ⟨hk, hall⟩ := hinv1
  refine q2 (o_lss Z Z Z (q3 (W_seq ?_)))
  refine W_cond Z ?_ ?_
  ·intro hc2
   try simp only [nrm] at hc2
   refine W_skip (N_K (W_seq (W_block (q2 (o_index_P k hbytes underlying33 sizeOf3 Z Z Z Z aN ?_))))); intro b3 o3 z3 q3 hz3 hE3 hrow3
   obtain ⟨rfl, hi3⟩ := hE3
   refine o_load_P H isAgg3 Z Z (hrow3 0 _ Z) (aG Z (q1 (mV Z (o_lss Z Z Z (mV Z ?_)))))
   refine R_case (t := 13) Z ?_ ?_
   ·intro hc4
    try simp only [nrm] at hc4
    refine rP Z (rP Z (o_pick_t Z Z Z (q3 (W_true Z (q2 (aG Z (q3 (W_ret (N_B_ret (N_K_ret (N_LP_ret (N_B_ret (N_K_ret (rt1 results118 Z ?_))))))))))))))
    exact H.rets (congrArg Value.bool (by rw [Sp.all_false hz3 (by simp [Sp.byteOk, Sp.l6In]; omega)]))
   intro hc4'
   try simp only [nrm] at hc4'
   refine gR Z (mV Z (gR Z (o_gtr Z Z Z (o_pick_f Z Z Z (q3 ?_)))))
   refine W_cond Z ?_ ?_
   ·intro hc5
    try simp only [nrm] at hc5
    refine q2 (aG Z (q3 (W_ret (N_B_ret (N_K_ret (N_LP_ret (N_B_ret (N_K_ret (rt1 results118 Z ?_)))))))))
    exact H.rets (congrArg Value.bool (by rw [Sp.all_false hz3 (by simp [Sp.byteOk, Sp.l6In]; omega)]))
   intro hc5'
   try simp only [nrm] at hc5'
   refine W_skip (N_B (N_K (W_region (o_add Z Z Z oO (mV Z (R_nil ?_))))))
   refine N_lp (hJ := ⟨k + 1, _, Z, hle1, H, ?inv, Z⟩) (hm := ?hm)
   case hm => omega
   case inv => exact ⟨by omega, Sp.all_take hall hz3 (by simp [Sp.byteOk, Sp.l6In]; omega)⟩
  intro hc2'
  try simp only [nrm] at hc2'
  refine W_exit (N_K_exit (N_LP_exit (N_B_same (N_K (q2 (aG Z (q3 (W_ret (rt1 results118 Z ?_)))))))))
  obtain rfl : k = bytes.length := by omega
  rw [List.take_length] at hall
  exact H.rets (congrArg Value.bool (by rw [hall]))
theorem i_BlockValid_c (w0 : World) (G0 : PH) (hG : PSub G0 w0) (vbytes : Value) (bytes : List (Int)) (hbytes : RdI G0 vbytes bytes)  :
  Calls Tryz.prog 188 #[vbytes] w0 (Rets w0 (.bool (Sp.BlockValid bytes))) := by
 obtain ⟨abytes, kbytes, rfl⟩ := hbytes.shape
 have hlimbytes : bytes.length ≤ 1099511627776 := hbytes.lim
 have H := Hp.init hG
 refine calls_of_W (l := [.slice abytes bytes.length kbytes]) func188 Z ntmps188 Z (q2 (aG Z (q1 (mV Z (o_len_slice underlying33 Z Z (o_geq Z Z Z (mV Z ?_)))))))
 refine R_case (t := 6) Z ?_ ?_
 ·intro hc1
  try simp only [nrm] at hc1
  refine gR Z (mV Z (gR Z (o_len_slice underlying33 Z Z (gR Z (o_leq Z Z Z (o_pick_t Z Z Z (mV Z ?_)))))))
  refine R_case (t := 11) Z ?_ ?_
  ·intro hc2
   try simp only [nrm] at hc2
   refine gR Z (mV Z (gR Z (o_call call118 Z Z (i_bytesValid_c _ _ H.sub _ _ hbytes ) ?_)))
   rintro _ w3 ⟨rfl, ew3⟩; have H := H.step ew3; refine ⟨_, rfl, ?_⟩
   refine o_pick_t Z Z Z (aG Z (q3 (W_ret (rt1 results188 Z ?_))))
   exact H.rets (congrArg Value.bool (by unfold Sp.BlockValid Sp.l6In; rw [Bool.eq_iff_iff]; simp; omega))
  intro hc2'
  try simp only [nrm] at hc2'
  refine rP Z (rP Z (o_pick_f Z Z Z (aG Z (q3 (W_ret (rt1 results188 Z ?_))))))
  exact H.rets (congrArg Value.bool (by unfold Sp.BlockValid Sp.l6In; rw [Bool.eq_iff_iff]; simp; omega))
 intro hc1'
 try simp only [nrm] at hc1'
 refine rP Z (rP Z (rP Z (o_pick_f Z Z Z (mV Z (rP Z (rP Z (o_pick_f Z Z Z (aG Z (q3 (W_ret (rt1 results188 Z ?_)))))))))))
 exact H.rets (congrArg Value.bool (by unfold Sp.BlockValid Sp.l6In; rw [Bool.eq_iff_iff]; simp; omega))
theorem i_FileValid_c (w0 : World) (G0 : PH) (hG : PSub G0 w0) (vbytes : Value) (bytes : List (Int)) (hbytes : RdI G0 vbytes bytes)  :
  Calls Tryz.prog 66 #[vbytes] w0 (Rets w0 (.bool (Sp.FileValid bytes))) := by
 obtain ⟨abytes, kbytes, rfl⟩ := hbytes.shape
 have hlimbytes : bytes.length ≤ 1099511627776 := hbytes.lim
 have H := Hp.init hG
 refine calls_of_W (l := [.slice abytes bytes.length kbytes]) func66 Z ntmps66 Z (q2 (aG Z (q1 (mV Z (o_len_slice underlying33 Z Z (o_leq Z Z Z (mV Z ?_)))))))
 refine R_case (t := 6) Z ?_ ?_
 ·intro hc1
  try simp only [nrm] at hc1
  refine gR Z (mV Z (gR Z (o_call call118 Z Z (i_bytesValid_c _ _ H.sub _ _ hbytes ) ?_)))
  rintro _ w2 ⟨rfl, ew2⟩; have H := H.step ew2; refine ⟨_, rfl, ?_⟩
  refine o_pick_t Z Z Z (aG Z (q3 (W_ret (rt1 results66 Z ?_))))
  exact H.rets (congrArg Value.bool (by unfold Sp.FileValid; rw [Bool.eq_iff_iff]; simp; omega))
 intro hc1'
 try simp only [nrm] at hc1'
 refine rP Z (rP Z (o_pick_f Z Z Z (aG Z (q3 (W_ret (rt1 results66 Z ?_))))))
 exact H.rets (congrArg Value.bool (by unfold Sp.FileValid; rw [Bool.eq_iff_iff]; simp; omega))
theorem i_partValid_c (w0 : World) (s : Bs) (hs : s.length ≤ 16777216)  :
  Calls Tryz.prog 92 #[str s] w0 (Rets w0 (.bool (Sp.l1Word s))) := by
 have H := Hp.init0 w0
 refine calls_of_W (l := [str s]) func92 Z ntmps92 Z (q2 (aG Z (q3 (W_seq (q2 (mV Z (o_len_str underlying9 Z Z (o_lss Z Z Z (mV Z ?_)))))))))
 refine R_case (t := 7) Z ?_ ?_
 ·intro hc1
  try simp only [nrm] at hc1
  refine rP Z (rP Z (rP Z (o_pick_t Z Z Z (q3 (W_true Z (q2 (aG Z (q3 (W_ret (N_K_ret (rt1 results92 Z ?_)))))))))))
  exact H.rets (congrArg Value.bool (by unfold Sp.l1Word; rw [Bool.eq_iff_iff]; simp; omega))
 intro hc1'
 try simp only [nrm] at hc1'
 refine gR Z (mV Z (gR Z (o_len_str underlying9 Z Z (gR Z (o_gtr Z Z Z (o_pick_f Z Z Z (q3 ?_)))))))
 refine W_cond Z ?_ ?_
 ·intro hc2
  try simp only [nrm] at hc2
  refine q2 (aG Z (q3 (W_ret (N_K_ret (rt1 results92 Z ?_)))))
  exact H.rets (congrArg Value.bool (by unfold Sp.l1Word; rw [Bool.eq_iff_iff]; simp; omega))
 intro hc2'
 try simp only [nrm] at hc2'
 refine W_skip (N_K (W_seq (q2 (aG Z (q3 (W_block ?_))))))
 refine W_lp (hf := (Sub.cons (t := 0) Z Sub.nil)) (J := fun M w m => ∃ (k : Nat) (G : PH), M = [(3, .int .i64 (k : Int))] ∧ PLe (fun _ => none) G ∧ Hp w0 (fun _ => none) [] w G [] ∧ (k ≤ s.length ∧ (s.take k).all Sp.low = true) ∧ m = (s.length - k)) (h0 := ⟨0, _, Z, PLe.refl _, H, ?inv, Z⟩) (round := ?round)
 case inv => exact ⟨by omega, by simp⟩
 case round =>
  rintro _ w3 _ ⟨k, G3, rfl, hle3, H, hinv3, rfl⟩
  obtain ⟨hk, hall⟩ := hinv3
  refine W_seq (q2 (mV Z (mV Z (o_len_str underlying9 Z Z (o_lss Z Z Z (q3 ?_))))))
  refine W_cond Z ?_ ?_
  ·intro hc4
   try simp only [nrm] at hc4
   refine W_skip (N_K (W_seq (W_block (q2 (mV Z (mV Z (o_index_str underlying9 Z Z Z Z oM ?_))))))); intro ch5 hch5; have hlt5 := ch5.toNat_lt
   refine o_lss Z Z Z (mV Z ?_)
   refine R_case (t := 22) Z ?_ ?_
   ·intro hc6
    try simp only [nrm] at hc6
    refine rP Z (rP Z (rP Z (rP Z (o_pick_t Z Z Z (q3 (W_true Z (q2 (aG Z (q3 (W_ret (N_B_ret (N_K_ret (N_LP_ret (N_B_ret (N_K_ret ?_)))))))))))))))
    refine rt1 results92 Z ?_
    exact H.rets (congrArg Value.bool (by rw [Sp.l1Word, Sp.all_false hch5 (by simp [Sp.low]; omega)]; rfl))
   intro hc6'
   try simp only [nrm] at hc6'
   refine gR Z (mV Z (gR Z (mV Z (gR Z (o_index_str underlying9 Z Z Z Z oM ?_))))); intro ch7 hch7; have hlt7 := ch7.toNat_lt
   obtain rfl : ch7 = ch5 := Option.some.inj (hch7.symm.trans hch5)
   refine gR Z (o_gtr Z Z Z (o_pick_f Z Z Z (q3 ?_)))
   refine W_cond Z ?_ ?_
   ·intro hc8
    try simp only [nrm] at hc8
    refine q2 (aG Z (q3 (W_ret (N_B_ret (N_K_ret (N_LP_ret (N_B_ret (N_K_ret (rt1 results92 Z ?_)))))))))
    exact H.rets (congrArg Value.bool (by rw [Sp.l1Word, Sp.all_false hch7 (by simp [Sp.low]; omega)]; rfl))
   intro hc8'
   try simp only [nrm] at hc8'
   refine W_skip (N_B (N_K (W_region (mV Z (o_add Z Z Z oO (aG Z (R_nil ?_)))))))
   refine N_lp (hJ := ⟨k + 1, _, Z, hle3, H, ?inv, Z⟩) (hm := ?hm)
   case hm => omega
   case inv => exact ⟨by omega, Sp.all_take hall hch7 (by simp [Sp.low]; omega)⟩
  intro hc4'
  try simp only [nrm] at hc4'
  refine W_exit (N_K_exit (N_LP_exit (N_B_same (N_K (q2 (aG Z (q3 (W_ret (rt1 results92 Z ?_)))))))))
  obtain rfl : k = s.length := by omega
  rw [List.take_length] at hall
  exact H.rets (congrArg Value.bool (by simp only [Sp.l1Word, hall]; rw [Bool.eq_iff_iff]; simp; omega))
end Go.Proofs.Tst

namespace Go.Proofs
open Go.Shelf
def Tryz.keysA_ren : Go.Shelf.Ren := ⟨fun | 7 => 165 | 10 => 197 | n => n, fun | 23 => 96 | 26 => 3 | 3 => 105 | 28 => 203 | 0 => 0 | 27 => 202 | 33 => 200 | 4 => 4 | n => n, fun | n => n⟩
theorem Tryz.keysA : Go.Proofs.SlLaysZI.n7 Tryz.prog Tryz.keysA_ren := {
 mixed := by kernel_rfl
 f7 := ⟨Tryz.f165.name, by decide, Tryz.func165.trans (congrArg some (by kernel_rfl))⟩
 f10 := ⟨Tryz.f197.name, by decide, Tryz.func197.trans (congrArg some (by kernel_rfl))⟩
 t0 := Tryz.underlying0
 a0 := Tryz.isAgg0
 z0 := Tryz.sizeOf0
 v0 := Tryz.zeroValue0
 t4 := Tryz.underlying4
 a4 := Tryz.isAgg4
 z4 := Tryz.sizeOf4
 v4 := Tryz.zeroValue4
 t23 := Tryz.underlying96
 a23 := Tryz.isAgg96
 z23 := Tryz.sizeOf96
 v23 := Tryz.zeroValue96
 t26 := Tryz.underlying3
 a26 := Tryz.isAgg3
 z26 := Tryz.sizeOf3
 v26 := Tryz.zeroValue3
 t27 := Tryz.underlying202
 a27 := Tryz.isAgg202
 z27 := Tryz.sizeOf202
 v27 := Tryz.zeroValue202
 t28 := Tryz.underlying203
 a28 := Tryz.isAgg203
 z28 := Tryz.sizeOf203
 v28 := Tryz.zeroValue203
 t33 := Tryz.underlying200
 a33 := Tryz.isAgg200
 z33 := Tryz.sizeOf200
 v33 := Tryz.zeroValue200 }
def Tryz.sortedA_ren : Go.Shelf.Ren := ⟨fun | 6 => 164 | 8 => 195 | 9 => 196 | 11 => 215 | 13 => 217 | 12 => 216 | 23 => 230 | 24 => 231 | 14 => 221 | 15 => 222 | 16 => 223 | 17 => 224 | 18 => 225 | 19 => 226 | 20 => 227 | 21 => 228 | 22 => 229 | 25 => 236 | 26 => 237 | 27 => 238 | 28 => 239 | 29 => 240 | 30 => 241 | 31 => 246 | n => n, fun | 26 => 3 | 28 => 203 | 24 => 33 | 0 => 0 | 3 => 3 | 37 => 228 | 48 => 124 | 50 => 253 | 4 => 4 | 40 => 245 | 39 => 244 | 45 => 197 | 5 => 5 | 9 => 9 | 51 => 256 | 55 => 260 | 57 => 265 | 58 => 266 | 33 => 200 | n => n, fun | n => n⟩
theorem Tryz.sortedA : Go.Proofs.SlLaysZI.n6 Tryz.prog Tryz.sortedA_ren := {
 mixed := by kernel_rfl
 f6 := ⟨Tryz.f164.name, by decide, Tryz.func164.trans (congrArg some (by kernel_rfl))⟩
 f8 := ⟨Tryz.f195.name, by decide, Tryz.func195.trans (congrArg some (by kernel_rfl))⟩
 f11 := ⟨Tryz.f215.name, by decide, Tryz.func215.trans (congrArg some (by kernel_rfl))⟩
 t0 := Tryz.underlying0
 a0 := Tryz.isAgg0
 z0 := Tryz.sizeOf0
 v0 := Tryz.zeroValue0
 t24 := Tryz.underlying33
 a24 := Tryz.isAgg33
 z24 := Tryz.sizeOf33
 v24 := Tryz.zeroValue33
 t26 := Tryz.underlying3
 a26 := Tryz.isAgg3
 z26 := Tryz.sizeOf3
 v26 := Tryz.zeroValue3
 t28 := Tryz.underlying203
 a28 := Tryz.isAgg203
 z28 := Tryz.sizeOf203
 v28 := Tryz.zeroValue203
 i26 := by kernel_rfl }
def Tryz.sortA_ren : Go.Shelf.Ren := ⟨fun | 5 => 196 | 8 => 217 | 7 => 216 | 19 => 230 | 20 => 231 | 10 => 221 | 11 => 222 | 12 => 223 | 13 => 224 | 14 => 225 | 15 => 226 | 16 => 227 | 17 => 228 | 18 => 229 | 30 => 236 | 31 => 237 | 32 => 238 | 33 => 239 | 34 => 240 | 35 => 241 | 40 => 246 | n => n, fun | 23 => 33 | 25 => 3 | 3 => 3 | 32 => 228 | 22 => 33 | 0 => 0 | 44 => 124 | 46 => 253 | 4 => 4 | 36 => 245 | 35 => 244 | 41 => 197 | 5 => 5 | 9 => 9 | 53 => 256 | 57 => 260 | 63 => 265 | 64 => 266 | n => n, fun | n => n⟩
theorem Tryz.sortA : Go.Proofs.SlLaysM.n5 Tryz.prog Tryz.sortA_ren := {
 mixed := by kernel_rfl
 f5 := ⟨Tryz.f196.name, by decide, Tryz.func196.trans (congrArg some (by kernel_rfl))⟩
 f7 := ⟨Tryz.f216.name, by decide, Tryz.func216.trans (congrArg some (by kernel_rfl))⟩
 f8 := Tryz.func217.trans (congrArg some (by kernel_rfl))
 f10 := ⟨Tryz.f221.name, by decide, Tryz.func221.trans (congrArg some (by kernel_rfl))⟩
 f11 := ⟨Tryz.f222.name, by decide, Tryz.func222.trans (congrArg some (by kernel_rfl))⟩
 f12 := ⟨Tryz.f223.name, by decide, Tryz.func223.trans (congrArg some (by kernel_rfl))⟩
 f13 := ⟨Tryz.f224.name, by decide, Tryz.func224.trans (congrArg some (by kernel_rfl))⟩
 f14 := ⟨Tryz.f225.name, by decide, Tryz.func225.trans (congrArg some (by kernel_rfl))⟩
 f15 := ⟨Tryz.f226.name, by decide, Tryz.func226.trans (congrArg some (by kernel_rfl))⟩
 f16 := ⟨Tryz.f227.name, by decide, Tryz.func227.trans (congrArg some (by kernel_rfl))⟩
 f17 := ⟨Tryz.f228.name, by decide, Tryz.func228.trans (congrArg some (by kernel_rfl))⟩
 f18 := ⟨Tryz.f229.name, by decide, Tryz.func229.trans (congrArg some (by kernel_rfl))⟩
 f19 := Tryz.func230.trans (congrArg some (by kernel_rfl))
 f20 := Tryz.func231.trans (congrArg some (by kernel_rfl))
 f30 := ⟨Tryz.f236.name, by decide, Tryz.func236.trans (congrArg some (by kernel_rfl))⟩
 f31 := Tryz.func237.trans (congrArg some (by kernel_rfl))
 f32 := Tryz.func238.trans (congrArg some (by kernel_rfl))
 f33 := ⟨Tryz.f239.name, by decide, Tryz.func239.trans (congrArg some (by kernel_rfl))⟩
 f34 := ⟨Tryz.f240.name, by decide, Tryz.func240.trans (congrArg some (by kernel_rfl))⟩
 f35 := ⟨Tryz.f241.name, by decide, Tryz.func241.trans (congrArg some (by kernel_rfl))⟩
 f40 := ⟨Tryz.f246.name, by decide, Tryz.func246.trans (congrArg some (by kernel_rfl))⟩
 t0 := Tryz.underlying0
 a0 := Tryz.isAgg0
 z0 := Tryz.sizeOf0
 v0 := Tryz.zeroValue0
 t3 := Tryz.underlying3
 a3 := Tryz.isAgg3
 z3 := Tryz.sizeOf3
 v3 := Tryz.zeroValue3
 t4 := Tryz.underlying4
 a4 := Tryz.isAgg4
 z4 := Tryz.sizeOf4
 v4 := Tryz.zeroValue4
 t5 := Tryz.underlying5
 a5 := Tryz.isAgg5
 z5 := Tryz.sizeOf5
 v5 := Tryz.zeroValue5
 t9 := Tryz.underlying9
 a9 := Tryz.isAgg9
 z9 := Tryz.sizeOf9
 v9 := Tryz.zeroValue9
 t22 := Tryz.underlying33
 a22 := Tryz.isAgg33
 z22 := Tryz.sizeOf33
 v22 := Tryz.zeroValue33
 t23 := Tryz.underlying33
 a23 := Tryz.isAgg33
 z23 := Tryz.sizeOf33
 v23 := Tryz.zeroValue33
 t25 := Tryz.underlying3
 a25 := Tryz.isAgg3
 z25 := Tryz.sizeOf3
 v25 := Tryz.zeroValue3
 t32 := Tryz.underlying228
 a32 := Tryz.isAgg228
 z32 := Tryz.sizeOf228
 v32 := Tryz.zeroValue228
 t35 := Tryz.underlying244
 a35 := Tryz.isAgg244
 z35 := Tryz.sizeOf244
 v35 := Tryz.zeroValue244
 t36 := Tryz.underlying245
 a36 := Tryz.isAgg245
 z36 := Tryz.sizeOf245
 v36 := Tryz.zeroValue245
 t41 := Tryz.underlying197
 a41 := Tryz.isAgg197
 z41 := Tryz.sizeOf197
 v41 := Tryz.zeroValue197
 t44 := Tryz.underlying124
 a44 := Tryz.isAgg124
 z44 := Tryz.sizeOf124
 v44 := Tryz.zeroValue124
 t46 := Tryz.underlying253
 a46 := Tryz.isAgg253
 z46 := Tryz.sizeOf253
 v46 := Tryz.zeroValue253
 t53 := Tryz.underlying256
 a53 := Tryz.isAgg256
 z53 := Tryz.sizeOf256
 v53 := Tryz.zeroValue256
 t57 := Tryz.underlying260
 a57 := Tryz.isAgg260
 z57 := Tryz.sizeOf260
 v57 := Tryz.zeroValue260
 t63 := Tryz.underlying265
 a63 := Tryz.isAgg265
 z63 := Tryz.sizeOf265
 v63 := Tryz.zeroValue265
 t64 := Tryz.underlying266
 a64 := Tryz.isAgg266
 z64 := Tryz.sizeOf266
 v64 := Tryz.zeroValue266 }
def Tryz.lays143_ren : Go.Shelf.Ren := ⟨fun | 143 => 235 | 219 => 245 | 217 => 248 | 225 => 249 | 224 => 250 | 267 => 251 | 266 => 252 | 314 => 253 | n => n, fun | 9 => 9 | 3 => 3 | 4 => 4 | 5 => 5 | 46 => 228 | 146 => 272 | 51 => 124 | n => n, fun | 1 => 0 | n => n⟩
theorem Tryz.lays143 : Go.Proofs.Lays.n143 Tryz.prog Tryz.lays143_ren := {
 mixed := by kernel_rfl
 f143 := Tryz.func235.trans (congrArg some (by kernel_rfl))
 f217 := Tryz.func248.trans (congrArg some (by kernel_rfl))
 f219 := Tryz.func245.trans (congrArg some (by kernel_rfl))
 f224 := Tryz.func250.trans (congrArg some (by kernel_rfl))
 f225 := Tryz.func249.trans (congrArg some (by kernel_rfl))
 f266 := Tryz.func252.trans (congrArg some (by kernel_rfl))
 f267 := Tryz.func251.trans (congrArg some (by kernel_rfl))
 f314 := Tryz.func253.trans (congrArg some (by kernel_rfl))
 t3 := Tryz.underlying3
 a3 := Tryz.isAgg3
 z3 := Tryz.sizeOf3
 v3 := Tryz.zeroValue3
 t4 := Tryz.underlying4
 a4 := Tryz.isAgg4
 z4 := Tryz.sizeOf4
 v4 := Tryz.zeroValue4
 t5 := Tryz.underlying5
 a5 := Tryz.isAgg5
 z5 := Tryz.sizeOf5
 v5 := Tryz.zeroValue5
 t9 := Tryz.underlying9
 a9 := Tryz.isAgg9
 z9 := Tryz.sizeOf9
 v9 := Tryz.zeroValue9
 t46 := Tryz.underlying228
 a46 := Tryz.isAgg228
 z46 := Tryz.sizeOf228
 v46 := Tryz.zeroValue228
 t51 := Tryz.underlying124
 a51 := Tryz.isAgg124
 z51 := Tryz.sizeOf124
 v51 := Tryz.zeroValue124
 t146 := Tryz.underlying272
 a146 := Tryz.isAgg272
 z146 := Tryz.sizeOf272
 v146 := Tryz.zeroValue272
 g1 := by kernel_rfl }
def Tryz.lays138_ren : Go.Shelf.Ren := ⟨fun | 138 => 234 | 195 => 242 | 218 => 244 | 143 => 235 | 219 => 245 | 217 => 248 | 225 => 249 | 224 => 250 | 267 => 251 | 266 => 252 | 314 => 253 | n => n, fun | 9 => 9 | 3 => 3 | 4 => 4 | 5 => 5 | 0 => 0 | 46 => 228 | 146 => 272 | 51 => 124 | n => n, fun | 1 => 0 | n => n⟩
theorem Tryz.lays138 : Go.Proofs.Lays.n138 Tryz.prog Tryz.lays138_ren := {
 mixed := by kernel_rfl
 f138 := Tryz.func234.trans (congrArg some (by kernel_rfl))
 f143 := Tryz.func235.trans (congrArg some (by kernel_rfl))
 f195 := Tryz.func242.trans (congrArg some (by kernel_rfl))
 f217 := Tryz.func248.trans (congrArg some (by kernel_rfl))
 f218 := Tryz.func244.trans (congrArg some (by kernel_rfl))
 f219 := Tryz.func245.trans (congrArg some (by kernel_rfl))
 f224 := Tryz.func250.trans (congrArg some (by kernel_rfl))
 f225 := Tryz.func249.trans (congrArg some (by kernel_rfl))
 f266 := Tryz.func252.trans (congrArg some (by kernel_rfl))
 f267 := Tryz.func251.trans (congrArg some (by kernel_rfl))
 f314 := Tryz.func253.trans (congrArg some (by kernel_rfl))
 t0 := Tryz.underlying0
 a0 := Tryz.isAgg0
 z0 := Tryz.sizeOf0
 v0 := Tryz.zeroValue0
 t3 := Tryz.underlying3
 a3 := Tryz.isAgg3
 z3 := Tryz.sizeOf3
 v3 := Tryz.zeroValue3
 t4 := Tryz.underlying4
 a4 := Tryz.isAgg4
 z4 := Tryz.sizeOf4
 v4 := Tryz.zeroValue4
 t5 := Tryz.underlying5
 a5 := Tryz.isAgg5
 z5 := Tryz.sizeOf5
 v5 := Tryz.zeroValue5
 t9 := Tryz.underlying9
 a9 := Tryz.isAgg9
 z9 := Tryz.sizeOf9
 v9 := Tryz.zeroValue9
 t46 := Tryz.underlying228
 a46 := Tryz.isAgg228
 z46 := Tryz.sizeOf228
 v46 := Tryz.zeroValue228
 t51 := Tryz.underlying124
 a51 := Tryz.isAgg124
 z51 := Tryz.sizeOf124
 v51 := Tryz.zeroValue124
 t146 := Tryz.underlying272
 a146 := Tryz.isAgg272
 z146 := Tryz.sizeOf272
 v146 := Tryz.zeroValue272
 g1 := by kernel_rfl }
end Go.Proofs
namespace Fw
open Go Go.RowKit Go.Maps Go.Sort Go.Shelf Go.Proofs
open Go.WideElems (Fit rg)
def unitR : Value → Option (DataW Unit × List MemPlace) := fun _ => some (.agg [], [])
theorem owns_of {P : Program} {k : TypeId} {w : World} {b : Nat} {es : Array MapEntry} {clock : Nat} {xs : List (Int × Value)} (hk : P.underlying k = some (.int .i64)) (hb : w.heap[b]? = some (.map es clock)) (hm : MapIs (Value.int .i64) es clock xs) (hw : ∀ x, x ∈ xs → inI x.1) (hl : xs.length ≤ 1000000) :
  ∃ D : DataW Unit, w.ownsMap P k unitR b xs.length D ∧ (intKeys D).Perm (xs.map (·.1)) ∧ Maps.size D = xs.length := by
 have hsz : es.size = xs.length := by have := congrArg List.length hm.kv; simpa using this
 have hkey : ∀ x, x ∈ es.toList → ∃ y, y ∈ xs ∧ x.key = .int .i64 y.1 := by
  intro x hx
  have : (x.key, x.val) ∈ xs.map (fun y => (Value.int .i64 y.1, y.2)) := by rw [← hm.kv]; exact List.mem_map.2 ⟨x, hx, rfl⟩
  obtain ⟨y, h1, h2⟩ := List.mem_map.1 this
  simp only [Prod.mk.injEq] at h2
  exact ⟨y, h1, h2.1.symm⟩
 have hwf : ∀ a : Int, inI a → (Lit.int .i64 a).wf = true := by
  intro a ha
  unfold inI at ha
  have h1 : IntKind.i64.min = -9223372036854775808 := by decide
  have h2 : IntKind.i64.max = 9223372036854775807 := by decide
  simp only [Lit.wf, h1, h2]
  simp
  omega
 have hrd : ∀ x, x ∈ es.toList → ∃ y, y ∈ xs ∧ x.key = .int .i64 y.1 ∧ Go.WideElems.rd P k unitR x = some (.int .i64 y.1, .agg []) := by
  intro x hx
  obtain ⟨y, h1, h2⟩ := hkey x hx
  refine ⟨y, h1, h2, ?_⟩
  simp only [Go.WideElems.rd, h2, keyOf_int_mk hk (hwf _ (hw y h1)), unitR]
  rfl
 refine ⟨.map ((es.toList.map (rg P k unitR)).foldr DataW.insert []), ⟨es, clock, hb, ⟨?_, ⟨hm.lt, hm.born, ?_⟩, ?_⟩, by omega, rfl⟩, ?_, ?_⟩
 ·simp only [maxLen]; omega
 ·have h1 : es.toList.map (·.key) = xs.map (fun x => Value.int .i64 x.1) := by
   have := congrArg (List.map (·.1)) hm.kv
   rw [List.map_map, List.map_map] at this
   exact this
  rw [h1]
  have : (xs.map (fun x => Value.int .i64 x.1)) = (xs.map (·.1)).map (Value.int .i64) := by simp [List.map_map]
  rw [this, List.nodup_iff_pairwise_ne, List.pairwise_map]
  exact (List.nodup_iff_pairwise_ne.1 hm.nd).imp (fun h e => h (by simpa using e))
 ·intro x hx
  obtain ⟨y, _, _, h3⟩ := hrd x hx
  exact ⟨_, h3⟩
 ·have hp := (WideShapes.sorted_perm (es.toList.map (rg P k unitR))).map (fun p : Lit × DataW Unit => intOf p.1)
  show List.Perm (List.map (fun p : Lit × DataW Unit => intOf p.1) _) _
  refine hp.trans ?_
  rw [List.map_map]
  have key : ∀ (l : List MapEntry) (ys : List (Int × Value)), (∀ x, x ∈ l → ∃ y, y ∈ xs ∧ x.key = .int .i64 y.1 ∧ Go.WideElems.rd P k unitR x = some (.int .i64 y.1, .agg [])) → l.map (fun e => (e.key, e.val)) = ys.map (fun x => (Value.int .i64 x.1, x.2)) → l.map ((fun p : Lit × DataW Unit => intOf p.1) ∘ rg P k unitR) = ys.map (·.1) := by
   intro l
   induction l with
   | nil => intro ys _ h; cases ys <;> simp at h ⊢
   | cons x r ih =>
    intro ys h1 h2
    cases ys with
    | nil => simp at h2
    | cons y t =>
     simp only [List.map_cons, List.cons.injEq, Prod.mk.injEq] at h2 ⊢
     obtain ⟨z, _, h3, h4⟩ := h1 x (by simp)
     rw [h2.1.1] at h3
     simp only [Value.int.injEq, true_and] at h3
     refine ⟨?_, ih t (fun q hq => h1 q (by simp [hq])) h2.2⟩
     simp only [Function.comp, rg, h4, Option.getD_some, Go.intOf]
     exact h3.symm
  rw [key es.toList xs hrd hm.kv]
 ·simp only [Maps.size]
  rw [length_sorted]
  simp [hsz]
theorem sorts_of {G : PH} {xs : List (Int × Value)} {L : List BHeld} (hS : StR G xs L) (hL : Sp.VH L) {ss : List Int} (hp : ss.Perm (xs.map (·.1))) : ss.mergeSort (fun x y => decide (x ≤ y)) = L.map (·.id) := by
 have h1 : (ss.mergeSort (fun x y => decide (x ≤ y))).Perm (L.map (·.id)) := (List.mergeSort_perm _ _).trans (hp.trans hS.keys)
 have h2 : (ss.mergeSort (fun x y => decide (x ≤ y))).Pairwise (fun x y => decide (x ≤ y) = true) := List.pairwise_mergeSort (le := fun x y : Int => decide (x ≤ y)) (fun a b c h1 h2 => by simp at *; omega) (fun a b => by simp; omega) ss
 have h3 : (L.map (·.id)).Pairwise (fun x y => decide (x ≤ y) = true) := by
  rw [List.pairwise_map]
  exact hL.asc.imp (fun h => decide_eq_true (by omega))
 exact h1.eq_of_pairwise (fun a b _ _ h1 h2 => by have := of_decide_eq_true h1; have := of_decide_eq_true h2; omega) h2 h3
theorem owns_acc {w w' : World} {e : TypeId} {v : Value} {n : Nat} {cells : List Value} (h : w'.ownsRow w.heap.size e 1 v n cells) : (acc e 1 v n cells).pred (fun b => w'.heap[b]?) ∧ (∀ b, b ∈ (acc e 1 v n cells).fp → w.heap.size ≤ b) := by
 obtain ⟨h1, h2⟩ := h
 refine ⟨⟨h1, ?_⟩, ?_⟩
 ·rcases h2 with h2 | ⟨g, cap, cur, rfl, _, h3, h4, h5, h6, h7⟩
  ·exact .inl h2
  ·exact .inr ⟨g, cap, cur, rfl, h3, h4, h5, Nat.le_of_eq h6.symm, h7⟩
 ·rcases h2 with ⟨rfl, _⟩ | ⟨g, cap, cur, rfl, h3, _⟩
  ·intro b hb; rw [acc_fp_nil] at hb; cases hb
  ·intro b hb; rw [acc_fp, List.mem_singleton] at hb; rw [hb]; exact h3
end Fw
namespace Go.Proofs.Tst
open Go Fw Go.Proofs Go.Sort Go.Maps Go.Shelf Go.RowKit Tryz
theorem sorts (m : Nat) : AnyZI.SortsIn Tryz.prog Tryz.sortedA_ren Fence.wide m :=
  ⟨fun blk off cap ss W hH hblk hsz => callsIn_wide.2 (AnyM.slices_Sort_int Tryz.sortA blk off cap ss W hH hblk hsz),
   fun p cap W => callsIn_wide.2 (AnyM.slices_Sort_int_none Tryz.sortA p cap W)⟩
theorem keys_c (w0 : World) (G0 : PH) (hG : PSub G0 w0) (b : Nat) : Calls Tryz.prog 165 #[.map (some b)] w0 (fun e w' => ∃ kb, e = .returned (.func (.func 197) #[] #[.pointer (some ⟨kb, 0, none⟩)]) ∧ w0.heap.size ≤ kb ∧ Ext w0 w' ∧ w'.heap[kb]? = some (cl [.map (some b)] 96)) :=
  (callsIn_wide.1 (AnyZI.keys_in Tryz.keysA Fence.wide 5 trivial rfl (some b) w0)).mono fun e w' ⟨h1, h2⟩ => by
    subst h2
    exact ⟨w0.heap.size, h1, Nat.le_refl _, Ext.alloc _ _, alloc_new _ _⟩
set_option maxHeartbeats 1000000 in
theorem sorted_c (w0 : World) (Bm b : Nat) {es : Array MapEntry} {clock : Nat} {xs : List (Int × Value)} {L : List BHeld} {G : PH} (hB : w0.heap[Bm]? = some (cl [.map (some b)] 96)) (hb : w0.heap[b]? = some (.map es clock)) (hm : MapIs (Value.int .i64) es clock xs) (hS : StR G xs L) (hL : Sp.VH L) :
    Calls Tryz.prog 164 #[.func (.func 197) #[] #[.pointer (some ⟨Bm, 0, none⟩)]] w0 (fun e w' => ∃ v, e = .returned v ∧ Ext w0 w' ∧ (acc 3 1 v L.length (L.map (fun h => Value.int .i64 h.id))).pred (fun b => w'.heap[b]?) ∧ (∀ b, b ∈ (acc 3 1 v L.length (L.map (fun h => Value.int .i64 h.id))).fp → w0.heap.size ≤ b)) := by
  have hlen := hS.len
  have hw : ∀ x, x ∈ xs → inI x.1 := by
    intro x hx
    have := hS.keys.mem_iff.1 (List.mem_map.2 ⟨x, hx, rfl⟩)
    obtain ⟨h, hh, e⟩ := List.mem_map.1 this
    have := (hL.ok h hh).1
    rw [← e]
    unfold inI
    omega
  have hl16 := hL.len
  obtain ⟨D, hown, hp, hsz⟩ := owns_of (P := Tryz.prog) (k := 3) (by exact underlying3) hb hm hw oM
  have hBl := (Array.getElem?_eq_some_iff.1 hB).1
  have hseq : SeqGives Fence.wide 2 Tryz.prog 197 #[.pointer (some ⟨Bm, 0, none⟩)] encZ (fun ss => ss.Perm (intKeys D)) (Maps.size D) w0 :=
    AnyZI.keys_gives (ρ := Tryz.keysA_ren) { Tryz.keysA with } Fence.wide _ trivial rfl oM Bm b xs.length D w0 hBl (by simp [World.cell?, hB]) hown
  refine (callsIn_wide.1 (AnyZI.sorted_in Tryz.sortedA Fence.wide 5 trivial trivial trivial trivial Z oM (sorts _) (enters_of func196 kR Z) 197 #[.pointer (some ⟨Bm, 0, none⟩)] trivial (enters_of func197 kR Z) _ _ (by simp only [maxLen]; omega) oM _ hseq)).mono ?_
  rintro e w' ⟨v, ss, rfl, hS1, hrow, hnil, hbel⟩
  have hs := sorts_of hS hL (hS1.trans hp)
  have hn : ss.length = L.length := by have := (hS1.trans (hp.trans hS.keys)).length_eq; simpa using this
  rw [hs, hn] at hrow
  have he : (L.map (·.id)).map encZ = L.map (fun h => Value.int .i64 h.id) := by rw [List.map_map]; rfl
  rw [he] at hrow
  obtain ⟨h1, h2⟩ := owns_acc hrow
  exact ⟨v, Z, Ext.of_below hbel, h1, h2⟩
end Go.Proofs.Tst
namespace Go.Proofs.Tst
open Go Fw Go.Proofs
theorem l_Index_c (w0 : World) (s : Bs) (hs : s.length ≤ 16777216) (c : UInt8) : Calls Tryz.prog 235 #[str s, str [c]] w0 (Rets w0 (.int .i64 (Sp.optI (s.findIdx? (Sp.isC c))))) :=
  (Any.strings_Index_one Tryz.lays143 ⟨s.toArray⟩ c w0).mono fun e w' ⟨h1, h2⟩ => ⟨by rw [h1]; simp [Sp.indexByte_eq], by rw [h2]; exact Ext.refl _⟩
theorem l_Count_c (w0 : World) (s : Bs) (hs : s.length ≤ 16777216) (c : UInt8) : Calls Tryz.prog 234 #[str s, str [c]] w0 (Rets w0 (.int .i64 (s.count c : Int))) :=
  (Any.strings_Count_one Tryz.lays138 ⟨s.toArray⟩ c w0).mono fun e w' ⟨h1, h2⟩ => ⟨by rw [h1]; simp [Lib.countByte], by rw [h2]; exact Ext.refl _⟩
end Go.Proofs.Tst
namespace Go.Proofs.Tst
open Go Fw Go.Proofs
theorem chkIds (G : PH) {L : List BHeld} (h : Sp.VH L) : Chk intE 1 G (L.map (fun h => Value.int .i64 h.id)) (L.map (·.id)) := by
  refine ⟨L.map (fun h => [Value.int .i64 h.id]), ?_, by simp, fun i x hx => ?_⟩
  · clear h
    induction L with
    | nil => rfl
    | cons a r ih => simp only [List.map_cons, List.flatten_cons, ← ih]; rfl
  rw [List.getElem?_map] at hx ⊢
  cases e : L[i]? with
  | none => simp [e] at hx
  | some y =>
    simp only [e, Option.map_some, Option.some.injEq] at hx ⊢
    subst hx
    have := (h.at e).1
    exact ⟨_, rfl, rfl, rfl, by unfold inI; omega⟩
end Go.Proofs.Tst

namespace Go.Proofs.Tst
open Go Fw Tryz
theorem l_genSplit_c (w0 : World) (G0 : PH) (hG : PSub G0 w0) (s : Bs) (hs : s.length ≤ 16777216) (c : UInt8)    :
  Calls Tryz.prog 220 #[str s, str [c], .int .i64 0, .int .i64 (-1)] w0 (RetP w0 G0 (fun G v => RdT G v (Sp.cutAt c s))) := by
 have hcnt := Sp.cnt_le c s
 have H := Hp.init hG
 refine calls_of_W (l := [str s, str [c], .int .i64 0, .int .i64 (-1)]) func220 Z ntmps220 Z (q2 (aG Z (q3 (W_seq (q2 (mV Z (o_eql Z Z Z (q3 ?_))))))))
 refine W_cond Z ?_ ?_
 ·intro hc1
  try simp only [nrm] at hc1
  exact absurd hc1 (by decide)
 intro hc1'
 try simp only [nrm] at hc1'
 refine W_skip (N_K (W_seq (q2 (mV Z (o_seql Z Z Z (q3 ?_))))))
 refine W_cond Z ?_ ?_
 ·intro hc2
  try simp only [nrm] at hc2
  exact absurd hc2 (by simp)
 intro hc2'
 try simp only [nrm] at hc2'
 refine W_skip (N_K (W_seq (q2 (mV Z (o_lss Z Z Z (q3 ?_))))))
 refine W_cond Z ?_ ?_
 ·intro hc3
  try simp only [nrm] at hc3
  refine W_region (mV Z (mV Z (o_call call234 Z Z (l_Count_c _ _ hs _ ) ?_)))
  rintro _ w4 ⟨rfl, ew4⟩; have H := H.step ew4; refine ⟨_, rfl, ?_⟩
  refine o_add Z Z Z oO (aG Z (q1 (mV Z (mV Z (o_len_str underlying9 Z Z (o_add Z Z Z oO (o_min Z Z Z (aG Z (q1 (mV Z (o_makeN (c := (s.count c + 1)) (sz := 1) (bytes := 16) H underlying69 typeInfo9 ⟨_, Z, Z⟩ Z Z Z Z Z Z Z oM oM oM Z ?_))))))))))); intro b7 w7 H
  have hchk7 := Chk.rep (E := strE) (sz := 1) (G := G0) (x0 := []) (⟨rfl, by decide⟩) rfl ((s.count c + 1))
  refine aG Z (q1 (mV Z (o_sub Z Z Z oO (aG Z (q1 (aG Z (q3 (W_seq (W_block ?_)))))))))
  refine W_lp (hf := (Sub.cons (t := 1) Z (Sub.cons (t := 2) Z (Sub.cons (t := 3) Z (Sub.cons (t := 8) Z Sub.nil))))) (J := fun M w m => ∃ (v : Value) (n : Nat) (cs : List Value) (xs : List (Bs)) (r : Bs) (i : Nat) (G : PH), M = [(0, str r), (10, .int .i64 (i : Int)), (9, v)] ∧ PLe G0 G ∧ Hp w0 G0 [] w G [acc 9 1 v n cs] ∧ (Chk strE 1 G cs xs ∧ n = xs.length ∧ i ≤ s.count c ∧ xs.length = s.count c + 1 ∧ r.length ≤ 16777216 ∧ xs.take i ++ Sp.cutAt c r = Sp.cutAt c s ∧ r.count c = s.count c - i) ∧ m = (s.count c + 1 - i)) (h0 := ⟨_, _, _, (List.replicate (s.count c + 1) []), s, 0, _, Z, PLe.refl _, H, ?inv, Z⟩) (round := ?round)
  case inv => exact ⟨hchk7,  by first | rfl | simp | (simp; omega) | omega, (by simp [hs])⟩
  case round =>
   rintro _ w9 _ ⟨v, n, cs, xs, r, i, G9, rfl, hle9, H, hinv9, rfl⟩
   obtain ⟨hchk9_0, hn9_0, hinv9⟩ := hinv9
   obtain ⟨av9_0, cv9_0, rfl⟩ := H.accShape (k := 0) rfl
   obtain ⟨hi, hxl, hrl, hcut, hrc⟩ := hinv9
   refine W_seq (q2 (mV Z (mV Z (o_lss Z Z Z (q3 ?_)))))
   refine W_cond Z ?_ ?_
   ·intro hc10
    try simp only [nrm] at hc10
    refine W_skip (N_K (W_block (q2 (mV Z (mV Z (o_call call235 Z Z (l_Index_c _ _ hrl _ ) ?_))))))
    rintro _ w11 ⟨rfl, ew11⟩; have H := H.step ew11; refine ⟨_, rfl, ?_⟩
    refine aG Z (q3 (W_seq (q2 (mV Z (o_lss Z Z Z (q3 ?_))))))
    refine W_cond Z ?_ ?_
    ·intro hc12
     try simp only [nrm] at hc12
     have hx := Sp.count_none c (Sp.at_none hc12)
     omega
    intro hc12'
    try simp only [nrm] at hc12'
    obtain ⟨m, x, hm1, hm2, hm3, hm4, hm5⟩ := Sp.at_nat hc12'
    have hm6 := Sp.count_some c hm1
    refine W_skip (N_K (q2 (mV Z (mV Z (mV Z (mV Z (mV Z (o_add Z Z Z oO (o_slice_str_to underlying9 Z Z Z oM oM (o_index_A 0 H i Z hchk9_0 underlying69 sizeOf9 Z Z Z Z aN aN ?_)))))))))); intro ba15 z15 q15 hba15 hz15 hE15 hg15; cases hba15
    obtain ⟨rfl, hi15⟩ := hE15; have hy_hi15 : _ ≤ 16777216 := hi15
    have hcl16 := hchk9_0.length
    refine o_store_A 0 H sizeOf9 Z Z Z Z Z (by simp only [vc, List.length_cons, List.length_nil]; omega) ?_; intro w16 H
    have hchk16 := hchk9_0.put (x' := (r.take m)) (off := 0) (vs := [_]) hz15 (fun cs hl hE => by obtain ⟨rfl, _⟩ := hE; exact ⟨congrArg (fun j => [str (List.take j r)]) (show (Sp.optI (List.findIdx? (Sp.isC c) r) + 0).toNat = m by omega), by simp; omega⟩) (by simp only [vc, List.length_cons, List.length_nil]; omega)
    refine q1 (mV Z (mV Z (mV Z (o_len_str underlying9 Z Z ?_))))
    have hll1 : ([c] : Fw.Bs).length = 1 := rfl
    refine o_add Z Z Z oO (o_slice_str_from underlying9 Z Z Z oM oM (aG Z (q3 (W_region (mV Z (o_add Z Z Z oO (aG Z (R_nil (N_B ?_)))))))))
    refine N_lp (hJ := ⟨_, _, _, (xs.set i (r.take m)), (r.drop (Sp.optI (List.findIdx? (Sp.isC c) r) + (([c] : Fw.Bs).length : Int)).toNat), i + 1, _, Z, hle9, H, ?inv, Z⟩) (hm := ?hm)
    case hm => omega
    case inv => exact ⟨hchk16, aN, (by refine ⟨by omega, by simp [hxl], by simp; omega, ?_, ?_⟩; (· rw [show (Sp.optI (List.findIdx? (Sp.isC c) r) + (([c] : Fw.Bs).length : Int)).toNat = m + 1 by omega]; exact Sp.cut_round hcut hm1 oM rfl); (· rw [show (Sp.optI (List.findIdx? (Sp.isC c) r) + (([c] : Fw.Bs).length : Int)).toNat = m + 1 by omega]; omega))⟩
   intro hc10'
   try simp only [nrm] at hc10'
   refine W_exit (N_K_exit (N_LP_exit (N_B_same (N_K (q2 (mV Z (mV Z (mV Z (o_index_A 0 H i Z hchk9_0 underlying69 sizeOf9 Z Z Z Z aN aN ?_))))))))); intro ba20 z20 q20 hba20 hz20 hE20 hg20; cases hba20
   obtain ⟨rfl, hi20⟩ := hE20; have hy_hi20 : _ ≤ 16777216 := hi20
   have hcl21 := hchk9_0.length
   refine o_store_A 0 H sizeOf9 Z Z Z Z Z (by simp only [vc, List.length_cons, List.length_nil]; omega) ?_; intro w21 H
   have hchk21 := hchk9_0.put (x' := r) (off := 0) (vs := [_]) hz20 (fun cs hl hE => by obtain ⟨rfl, _⟩ := hE; exact ⟨rfl, hrl⟩) (by simp only [vc, List.length_cons, List.length_nil]; omega)
   refine q1 ?_
   obtain ⟨G22, H, hsg22, hsr22⟩ := H.shut' (k := 0) rfl hchk21 aN aN
   refine mV Z (mV Z (o_add Z Z Z oO ?_))
   have hcap24 := hsr22.cap; try simp only [List.length_set, List.length_append, List.length_take, List.length_drop, List.length_replicate] at hcap24
   refine o_slice_to (j := (i + 1)) underlying69 sizeOf9 Z Z Z oM oM ?_
   have hsl24 := hsr22.take (j := (i + 1)) aN
   have hsn2 := hsl24.len
   refine aG Z (q3 (W_ret (rt1 results220 Z ?_)))
   obtain rfl : i = s.count c := by omega
   have hcl := Sp.cut_last hcut oM oM
   exact H.retP (by rw [← hcl]; exact hsl24)
 intro hc3'
 try simp only [nrm] at hc3'
 exact absurd hc3' (by decide)
theorem l_Split_c (w0 : World) (G0 : PH) (hG : PSub G0 w0) (s : Bs) (hs : s.length ≤ 16777216) (c : UInt8)  :
  Calls Tryz.prog 214 #[str s, str [c]] w0 (RetP w0 G0 (fun G v => RdT G v (Sp.cutAt c s))) := by
 have H := Hp.init hG
 refine calls_of_W (l := [str s, str [c]]) func214 Z ntmps214 Z (q2 (aG Z (q1 (mV Z (mV Z (o_call call220 Z Z (l_genSplit_c _ _ H.sub _ hs _   ) ?_))))))
 rintro _ w1 ⟨G1, u1_0, g1, rfl, hr1_0⟩
 have H := H.grow g1
 obtain ⟨a1_0, k1_0, rfl⟩ := hr1_0.shape; have hx_hr1_0 : _ ≤ 1099511627776 := hr1_0.lim
 refine ⟨_, Z, ?_⟩
 refine aG Z (q3 (W_ret (rt1 results214 Z ?_)))
 exact H.retP hr1_0
theorem i_parts_c (w0 : World) (G0 : PH) (hG : PSub G0 w0) (p : Bs) (hp : p.length ≤ 16777216)  :
  Calls Tryz.prog 193 #[str p] w0 (RetP w0 G0 (fun G v => RdT G v (Sp.parts p))) := by
 have H := Hp.init hG
 refine calls_of_W (l := [str p]) func193 Z ntmps193 Z (q2 (aG Z (q3 (W_seq (q2 (mV Z (o_len_str underlying191 Z Z (o_gtr Z Z Z (q3 ?_)))))))))
 refine W_cond Z ?_ ?_
 ·intro hc1
  try simp only [nrm] at hc1
  refine q2 (aG Z (q3 (W_ret (N_K_ret (rt1 results193 Z ?_)))))
  exact H.retP (by rw [show Sp.parts p = _ from by exact Sp.parts_long oM]; exact (RdS.nil _ _ _))
 intro hc1'
 try simp only [nrm] at hc1'
 refine W_skip (N_K (q2 (mV Z (o_call call214 Z Z (l_Split_c _ _ H.sub _ hp _ ) ?_))))
 rintro _ w2 ⟨G2, u2_0, g2, rfl, hr2_0⟩
 have H := H.grow g2
 obtain ⟨a2_0, k2_0, rfl⟩ := hr2_0.shape; have hx_hr2_0 : _ ≤ 1099511627776 := hr2_0.lim
 refine ⟨_, Z, ?_⟩
 refine aG Z (q3 (W_seq (q2 (mV Z (o_len_slice underlying69 Z Z (o_gtr Z Z Z (q3 ?_)))))))
 refine W_cond Z ?_ ?_
 ·intro hc3
  try simp only [nrm] at hc3
  refine q2 (aG Z (q3 (W_ret (N_K_ret (rt1 results193 Z ?_)))))
  exact H.retP (by rw [show Sp.parts p = _ from by exact Sp.parts_many (by rw [← Sp.cutAt_47]; omega)]; exact (RdS.nil _ _ _))
 intro hc3'
 try simp only [nrm] at hc3'
 refine W_skip (N_K (W_seq (q2 (mV Z (o_len_slice underlying69 Z Z (mV Z (q3 (W_block ?_))))))))
 refine W_lp (hf := (Sub.cons (t := 3) Z (Sub.cons (t := 14) Z (Sub.cons (t := 15) Z Sub.nil)))) (J := fun M w m => ∃ (k : Nat) (G : PH), M = [(16, .int .i64 (k : Int))] ∧ PLe G2 G ∧ Hp w0 G0 [] w G [] ∧ (k ≤ (Sp.cutAt 47 p).length ∧ ((Sp.cutAt 47 p).take k).all Sp.l1Word = true) ∧ m = ((Sp.cutAt 47 p).length - k)) (h0 := ⟨0, _, Z, PLe.refl _, H, ?inv, Z⟩) (round := ?round)
 case inv => exact ⟨by omega, by simp⟩
 case round =>
  rintro _ w4 _ ⟨k, G4, rfl, hle4, H, hinv4, rfl⟩
  have hr2_0 := hr2_0.up hle4
  obtain ⟨hk, hall⟩ := hinv4
  refine q2 (o_lss Z Z Z (q3 (W_seq ?_)))
  refine W_cond Z ?_ ?_
  ·intro hc5
   try simp only [nrm] at hc5
   refine W_skip (N_K (W_seq (W_block (q2 (o_index_P k hr2_0 underlying69 sizeOf9 Z Z Z Z aN ?_))))); intro b6 o6 z6 q6 hz6 hE6 hrow6
   obtain ⟨rfl, hi6⟩ := hE6; have hy_hi6 : _ ≤ 16777216 := hi6
   refine o_load_P H isAgg9 Z Z (hrow6 0 _ Z) (aG Z (q1 (mV Z (o_call call92 Z Z (i_partValid_c _ _ hi6 ) ?_))))
   rintro _ w7 ⟨rfl, ew7⟩; have H := H.step ew7; refine ⟨_, rfl, ?_⟩
   refine o_not Z Z (q3 ?_)
   refine W_cond Z ?_ ?_
   ·intro hc8
    try simp only [nrm] at hc8
    refine q2 (aG Z (q3 (W_ret (N_B_ret (N_K_ret (N_LP_ret (N_B_ret (N_K_ret (rt1 results193 Z ?_)))))))))
    exact H.retP (by rw [show Sp.parts p = _ from by exact Sp.parts_bad (by rw [← Sp.cutAt_47]; exact hz6) hc8]; exact (RdS.nil _ _ _))
   intro hc8'
   try simp only [nrm] at hc8'
   refine W_skip (N_B (N_K (W_region (o_add Z Z Z oO (mV Z (R_nil ?_))))))
   refine N_lp (hJ := ⟨k + 1, _, Z, hle4, H, ?inv, Z⟩) (hm := ?hm)
   case hm => omega
   case inv => exact ⟨by omega, Sp.all_take hall hz6 (by assumption)⟩
  intro hc5'
  try simp only [nrm] at hc5'
  refine W_exit (N_K_exit (N_LP_exit (N_B_same (N_K (q2 (mV Z (aG Z (q3 (W_ret (rt1 results193 Z ?_))))))))))
  obtain rfl : k = (Sp.cutAt 47 p).length := by omega
  rw [List.take_length] at hall
  have hpo : Sp.parts p = Sp.cutAt 47 p := (Sp.parts_ok (by rw [← Sp.cutAt_47]; exact hall) (by rw [← Sp.cutAt_47]; omega)).trans (Sp.cutAt_47 p).symm
  exact H.retP (by rw [hpo]; exact hr2_0)
theorem i_PathParts_c (w0 : World) (G0 : PH) (hG : PSub G0 w0) (p : Bs) (hp : p.length ≤ 16777216)  :
  Calls Tryz.prog 187 #[str p] w0 (RetP w0 G0 (fun G v => RdT G v (Sp.parts p))) := by
 have H := Hp.init hG
 refine calls_of_W (l := [str p]) func187 Z ntmps187 Z (q2 (aG Z (q1 (mV Z (o_call call193 Z Z (i_parts_c _ _ H.sub _ hp ) ?_)))))
 rintro _ w1 ⟨G1, u1_0, g1, rfl, hr1_0⟩
 have H := H.grow g1
 obtain ⟨a1_0, k1_0, rfl⟩ := hr1_0.shape; have hx_hr1_0 : _ ≤ 1099511627776 := hr1_0.lim
 refine ⟨_, Z, ?_⟩
 refine aG Z (q3 (W_ret (rt1 results187 Z ?_)))
 exact H.retP hr1_0
theorem i_valid_c (w0 : World) (G0 : PH) (hG : PSub G0 w0) (p : Bs) (hp : p.length ≤ 16777216)  :
  Calls Tryz.prog 159 #[str p] w0 (Rets w0 (.bool (Sp.PathValid p))) := by
 have H := Hp.init hG
 refine calls_of_W (l := [str p]) func159 Z ntmps159 Z (q2 (aG Z (q1 (mV Z (o_call call193 Z Z (i_parts_c _ _ H.sub _ hp ) ?_)))))
 rintro _ w1 ⟨G1, u1_0, g1, rfl, hr1_0⟩
 have H := H.grow g1
 obtain ⟨a1_0, k1_0, rfl⟩ := hr1_0.shape; have hx_hr1_0 : _ ≤ 1099511627776 := hr1_0.lim
 refine ⟨_, Z, ?_⟩
 refine o_len_slice underlying69 Z Z (o_gtr Z Z Z (aG Z (q3 (W_ret (rt1 results159 Z ?_)))))
 exact H.rets (congrArg Value.bool (by rw [← Sp.parts_pos, Bool.eq_iff_iff]; simp))
theorem i_PathValid_c (w0 : World) (G0 : PH) (hG : PSub G0 w0) (p : Bs) (hp : p.length ≤ 16777216)  :
  Calls Tryz.prog 119 #[str p] w0 (Rets w0 (.bool (Sp.PathValid p))) := by
 have H := Hp.init hG
 refine calls_of_W (l := [str p]) func119 Z ntmps119 Z (q2 (aG Z (q1 (mV Z (o_call call159 Z Z (i_valid_c _ _ H.sub _ hp ) ?_)))))
 rintro _ w1 ⟨rfl, ew1⟩; have H := H.step ew1; refine ⟨_, rfl, ?_⟩
 refine aG Z (q3 (W_ret (rt1 results119 Z ?_)))
 exact H.rets (congrArg Value.bool (by rfl))
theorem i_itemValid_c (w0 : World) (G0 : PH) (hG : PSub G0 w0) (cx : List Value) (x : BItem) (hx : itemE G0 x cx)  :
  Calls Tryz.prog 149 #[.agg cx.toArray] w0 (Rets w0 (.bool (Sp.l5Item x))) := by
 obtain ⟨a1, m1, c1, rfl, hi1, hr1⟩ := hx; have hy_hi1 : _ ≤ 16777216 := hi1; have hn_hr1 := hr1.len; have hx_hr1 : _ ≤ 1099511627776 := hr1.lim
 have H := Hp.init hG
 refine calls_of_W (l := [_]) func149 Z ntmps149 Z (q2 (o_box H Z Z Z ?_)); intro b2 w2 hb2 H
 refine aG Z (q3 (W_seq (q2 (o_fieldAddr 0 runUnderlying37 Z sizeOf9 Z Z Z (o_load_B 0 H isAgg9 Z Z Z Z (o_call call119 Z Z (i_PathValid_c _ _ H.sub _ hi1 ) ?_))))))
 rintro _ w3 ⟨rfl, ew3⟩; have H := H.step ew3; refine ⟨_, rfl, ?_⟩
 refine o_not Z Z (mV Z ?_)
 refine R_case (t := 9) Z ?_ ?_
 ·intro hc4
  try simp only [nrm] at hc4
  refine rP Z (rP Z (rP Z (rP Z (o_pick_t Z Z Z (mV Z (rP Z (rP Z (rP Z (R_pass Z (yl_un Z Z) (R_pass Z (yl_un Z Z) (R_pass Z (yl_un Z Z) (R_pass Z (yl_un Z Z) (rP Z (o_pick_t Z Z Z (q3 ?_)))))))))))))))
  refine W_true Z (q2 (aG Z (q3 (W_ret (N_K_ret (rt1 results149 Z ?_))))))
  exact H.rets (congrArg Value.bool (by simp [Sp.l5Item, hc4]))
 intro hc4'
 try simp only [nrm] at hc4'
 refine gR Z (o_fieldAddr 2 runUnderlying37 Z sizeOf33 Z Z Z (gR Z (o_load_B 0 H isAgg33 Z Z Z Z (gR Z (o_len_slice underlying33 Z Z (gR Z (o_gtr Z Z Z (o_pick_f Z Z Z (mV Z ?_)))))))))
 refine R_case (t := 15) Z ?_ ?_
 ·intro hc5
  try simp only [nrm] at hc5
  refine rP Z (rP Z (rP Z (R_pass Z (yl_un Z Z) (R_pass Z (yl_un Z Z) (R_pass Z (yl_un Z Z) (R_pass Z (yl_un Z Z) (rP Z (o_pick_t Z Z Z (q3 (W_true Z (q2 (aG Z (q3 (W_ret (N_K_ret ?_)))))))))))))))
  refine rt1 results149 Z ?_
  exact H.rets (congrArg Value.bool (by rw [Sp.l5Item, Bool.eq_iff_iff]; simp; intros; omega))
 intro hc5'
 try simp only [nrm] at hc5'
 refine gR Z (o_fieldAddr 1 runUnderlying37 Z sizeOf4 Z Z Z (gR Z (o_load_B 0 H isAgg4 Z Z Z Z (gR Z (mV Z ?_)))))
 refine R_case (t := 18) Z ?_ ?_
 ·intro hc6
  try simp only [nrm] at hc6
  refine gR Z (o_fieldAddr 2 runUnderlying37 Z sizeOf33 Z Z Z (gR Z (o_load_B 0 H isAgg33 Z Z Z Z (gR Z (o_len_slice underlying33 Z Z (gR Z (o_gtr Z Z Z (gR Z (o_pick_t Z Z Z (o_pick_f Z Z Z (q3 ?_)))))))))))
  refine W_cond Z ?_ ?_
  ·intro hc7
   try simp only [nrm] at hc7
   refine q2 (aG Z (q3 (W_ret (N_K_ret (rt1 results149 Z ?_)))))
   exact H.rets (congrArg Value.bool (by rw [Sp.l5Item, Sp.all_false (c := x.ids[0]) (k := 0) (List.getElem?_eq_getElem oM) (by simp [Sp.idOk, hc6])]; rfl))
  intro hc7'
  try simp only [nrm] at hc7'
  refine W_skip (N_K (W_seq (q2 (o_fieldAddr 2 runUnderlying37 Z sizeOf33 Z Z Z (o_load_B 0 H isAgg33 Z Z Z Z (o_len_slice underlying33 Z Z (mV Z (q3 (W_block ?_)))))))))
  obtain ⟨ln8, hln8, H⟩ := H.name (k := 0) rfl
  refine W_lp (hf := (Sub.cons (t := 26) Z (Sub.cons (t := 27) Z Sub.nil))) (J := fun M w m => ∃ (k : Nat) (G : PH), M = [(28, .int .i64 (k : Int))] ∧ PLe G0 G ∧ Hp w0 G0 [] w G [blk b2 (cl ln8 37)] ∧ (k ≤ x.ids.length ∧ (x.ids.take k).all (Sp.idOk x.dir) = true) ∧ m = (x.ids.length - k)) (h0 := ⟨0, _, Z, PLe.refl _, H, ?inv, Z⟩) (round := ?round)
  case inv => exact ⟨by omega, by simp⟩
  case round =>
   rintro _ w9 _ ⟨k, G9, rfl, hle9, H, hinv9, rfl⟩
   subst hln8
   have hr1 := hr1.up hle9
   obtain ⟨hk, hall⟩ := hinv9
   refine q2 (o_lss Z Z Z (q3 (W_seq ?_)))
   refine W_cond Z ?_ ?_
   ·intro hc10
    try simp only [nrm] at hc10
    refine W_skip (N_K (W_seq (W_block (q2 (o_index_P k hr1 underlying33 sizeOf3 Z Z Z Z aN ?_))))); intro b11 o11 z11 q11 hz11 hE11 hrow11
    obtain ⟨rfl, hi11⟩ := hE11
    refine o_load_P H isAgg3 Z Z (hrow11 0 _ Z) (aG Z (q1 (mV Z (o_lss Z Z Z (mV Z ?_)))))
    refine R_case (t := 34) Z ?_ ?_
    ·intro hc12
     try simp only [nrm] at hc12
     refine rP Z (rP Z (o_pick_t Z Z Z (q3 (W_true Z (q2 (aG Z (q3 (W_ret (N_B_ret (N_K_ret (N_LP_ret (N_B_ret (N_K_ret (rt1 results149 Z ?_))))))))))))))
     exact H.rets (congrArg Value.bool (by rw [Sp.l5Item, Sp.all_false hz11 (by first | (exfalso; omega) | (simp [Sp.idOk, Sp.l6In, *]; done) | (simp [Sp.idOk, Sp.l6In, *]; omega))]; rfl))
    intro hc12'
    try simp only [nrm] at hc12'
    refine gR Z (mV Z (gR Z (o_gtr Z Z Z (o_pick_f Z Z Z (q3 ?_)))))
    refine W_cond Z ?_ ?_
    ·intro hc13
     try simp only [nrm] at hc13
     refine q2 (aG Z (q3 (W_ret (N_B_ret (N_K_ret (N_LP_ret (N_B_ret (N_K_ret (rt1 results149 Z ?_)))))))))
     exact H.rets (congrArg Value.bool (by rw [Sp.l5Item, Sp.all_false hz11 (by first | (exfalso; omega) | (simp [Sp.idOk, Sp.l6In, *]; done) | (simp [Sp.idOk, Sp.l6In, *]; omega))]; rfl))
    intro hc13'
    try simp only [nrm] at hc13'
    refine W_skip (N_B (N_K (W_region (o_add Z Z Z oO (mV Z (R_nil ?_))))))
    refine N_lp (hJ := ⟨k + 1, _, Z, hle9, H, ?inv, Z⟩) (hm := ?hm)
    case hm => omega
    case inv => exact ⟨by omega, Sp.all_take hall hz11 (by first | (exfalso; omega) | (simp [Sp.idOk, Sp.l6In, *]; done) | (simp [Sp.idOk, Sp.l6In, *]; omega))⟩
   intro hc10'
   try simp only [nrm] at hc10'
   refine W_exit (N_K_exit (N_LP_exit (N_B_same (N_K (q2 (aG Z (q3 (W_ret (rt1 results149 Z ?_)))))))))
   obtain rfl : k = x.ids.length := by omega
   rw [List.take_length] at hall
   exact H.rets (congrArg Value.bool (by rw [Sp.l5Item, hall, Bool.eq_iff_iff]; simp [hc4']; omega))
 intro hc6'
 try simp only [nrm] at hc6'
 refine rP Z (rP Z (rP Z (rP Z (gR Z (o_pick_f Z Z Z (o_pick_f Z Z Z (q3 (W_false Z (W_skip (N_K (W_seq (q2 (o_fieldAddr 2 runUnderlying37 Z sizeOf33 Z Z Z (o_load_B 0 H isAgg33 Z Z Z Z (o_len_slice underlying33 Z Z ?_)))))))))))))))
 refine mV Z (q3 (W_block ?_))
 obtain ⟨ln15, hln15, H⟩ := H.name (k := 0) rfl
 refine W_lp (hf := (Sub.cons (t := 26) Z (Sub.cons (t := 27) Z Sub.nil))) (J := fun M w m => ∃ (k : Nat) (G : PH), M = [(28, .int .i64 (k : Int))] ∧ PLe G0 G ∧ Hp w0 G0 [] w G [blk b2 (cl ln15 37)] ∧ (k ≤ x.ids.length ∧ (x.ids.take k).all (Sp.idOk x.dir) = true) ∧ m = (x.ids.length - k)) (h0 := ⟨0, _, Z, PLe.refl _, H, ?inv, Z⟩) (round := ?round)
 case inv => exact ⟨by omega, by simp⟩
 case round =>
  rintro _ w16 _ ⟨k, G16, rfl, hle16, H, hinv16, rfl⟩
  subst hln15
  have hr1 := hr1.up hle16
  obtain ⟨hk, hall⟩ := hinv16
  refine q2 (o_lss Z Z Z (q3 (W_seq ?_)))
  refine W_cond Z ?_ ?_
  ·intro hc17
   try simp only [nrm] at hc17
   refine W_skip (N_K (W_seq (W_block (q2 (o_index_P k hr1 underlying33 sizeOf3 Z Z Z Z aN ?_))))); intro b18 o18 z18 q18 hz18 hE18 hrow18
   obtain ⟨rfl, hi18⟩ := hE18
   refine o_load_P H isAgg3 Z Z (hrow18 0 _ Z) (aG Z (q1 (mV Z (o_lss Z Z Z (mV Z ?_)))))
   refine R_case (t := 34) Z ?_ ?_
   ·intro hc19
    try simp only [nrm] at hc19
    refine rP Z (rP Z (o_pick_t Z Z Z (q3 (W_true Z (q2 (aG Z (q3 (W_ret (N_B_ret (N_K_ret (N_LP_ret (N_B_ret (N_K_ret (rt1 results149 Z ?_))))))))))))))
    exact H.rets (congrArg Value.bool (by rw [Sp.l5Item, Sp.all_false hz18 (by first | (exfalso; omega) | (simp [Sp.idOk, Sp.l6In, *]; done) | (simp [Sp.idOk, Sp.l6In, *]; omega))]; rfl))
   intro hc19'
   try simp only [nrm] at hc19'
   refine gR Z (mV Z (gR Z (o_gtr Z Z Z (o_pick_f Z Z Z (q3 ?_)))))
   refine W_cond Z ?_ ?_
   ·intro hc20
    try simp only [nrm] at hc20
    refine q2 (aG Z (q3 (W_ret (N_B_ret (N_K_ret (N_LP_ret (N_B_ret (N_K_ret (rt1 results149 Z ?_)))))))))
    exact H.rets (congrArg Value.bool (by rw [Sp.l5Item, Sp.all_false hz18 (by first | (exfalso; omega) | (simp [Sp.idOk, Sp.l6In, *]; done) | (simp [Sp.idOk, Sp.l6In, *]; omega))]; rfl))
   intro hc20'
   try simp only [nrm] at hc20'
   refine W_skip (N_B (N_K (W_region (o_add Z Z Z oO (mV Z (R_nil ?_))))))
   refine N_lp (hJ := ⟨k + 1, _, Z, hle16, H, ?inv, Z⟩) (hm := ?hm)
   case hm => omega
   case inv => exact ⟨by omega, Sp.all_take hall hz18 (by first | (exfalso; omega) | (simp [Sp.idOk, Sp.l6In, *]; done) | (simp [Sp.idOk, Sp.l6In, *]; omega))⟩
  intro hc17'
  try simp only [nrm] at hc17'
  refine W_exit (N_K_exit (N_LP_exit (N_B_same (N_K (q2 (aG Z (q3 (W_ret (rt1 results149 Z ?_)))))))))
  obtain rfl : k = x.ids.length := by omega
  rw [List.take_length] at hall
  exact H.rets (congrArg Value.bool (by rw [Sp.l5Item, hall, Bool.eq_iff_iff]; simp [hc4']; omega))
end Go.Proofs.Tst

namespace Go.Proofs.Tst
open Go Fw Tryz
theorem l_isNaN_c (w0 : World) (x : Bs) (hx : x.length ≤ 16777216)  :
  Calls Tryz.prog 218 #[str x] w0 (Rets w0 (.bool false)) := by
 have H := Hp.init0 w0
 refine calls_of_W (l := [str x]) func218 Z ntmps218 Z (q2 (aG Z (q1 (mV Z (mV Z (o_sneq Z Z Z (aG Z (q3 (W_ret (rt1 results218 Z ?_))))))))))
 exact H.rets (congrArg Value.bool (by simp))
theorem l_Compare_c (w0 : World) (x : Bs) (hx : x.length ≤ 16777216) (y : Bs) (hy : y.length ≤ 16777216)  :
  Calls Tryz.prog 211 #[str x, str y] w0 (Rets w0 (.int .i64 (Sp.cmpB x y))) := by
 have H := Hp.init0 w0
 refine calls_of_W (l := [str x, str y]) func211 Z ntmps211 Z (q2 (aG Z (q1 (mV Z (o_call call218 Z Z (l_isNaN_c _ _ hx ) ?_)))))
 rintro _ w1 ⟨rfl, ew1⟩; have H := H.step ew1; refine ⟨_, rfl, ?_⟩
 refine aG Z (q1 (mV Z (o_call call218 Z Z (l_isNaN_c _ _ hy ) ?_)))
 rintro _ w2 ⟨rfl, ew2⟩; have H := H.step ew2; refine ⟨_, rfl, ?_⟩
 refine aG Z (q3 (W_seq (q2 (mV Z (q3 (W_false Z (W_skip (N_K (W_seq (q2 (mV Z (q3 (W_false Z (W_skip (N_K ?_)))))))))))))))
 refine W_seq (q2 (mV Z (mV Z (o_slss Z Z Z (q3 ?_)))))
 refine W_cond Z ?_ ?_
 ·intro hc3
  try simp only [nrm] at hc3
  refine q2 (aG Z (q3 (W_ret (N_K_ret (rt1 results211 Z ?_)))))
  exact H.rets (congrArg (Value.int .i64) (by unfold Sp.cmpB; simp_all))
 intro hc3'
 try simp only [nrm] at hc3'
 refine W_skip (N_K (W_seq (q2 (mV Z (mV Z (o_sgtr Z Z Z (q3 ?_)))))))
 refine W_cond Z ?_ ?_
 ·intro hc4
  try simp only [nrm] at hc4
  refine q2 (aG Z (q3 (W_ret (N_K_ret (rt1 results211 Z ?_)))))
  exact H.rets (congrArg (Value.int .i64) (by unfold Sp.cmpB; simp_all))
 intro hc4'
 try simp only [nrm] at hc4'
 refine W_skip (N_K (q2 (aG Z (q3 (W_ret (rt1 results211 Z ?_))))))
 exact H.rets (congrArg (Value.int .i64) (by unfold Sp.cmpB; simp_all))
theorem i_place1_c (w0 : World) (G0 : PH) (hG : PSub G0 w0) (t : Nd) (hndt : RdN G0 t) (nm : Bs) (hnm : nm.length ≤ 16777216)  :
  Calls Tryz.prog 210 #[.pointer (some ⟨t.b, 0, none⟩), str nm] w0 (Rets w0 (.int .i64 (Sp.cmpB t.name nm))) := by
 obtain ⟨hnlt, nat, nmt, nct, nAt, nMt, nCt, hprt, hrit, hrkt⟩ := hndt.open
 have hn_hrit := hrit.len; have hx_hrit : _ ≤ 1099511627776 := hrit.lim
 have hn_hrkt := hrkt.len; have hx_hrkt : _ ≤ 1099511627776 := hrkt.lim
 have H := Hp.init hG
 refine calls_of_W (l := [.pointer (some ⟨t.b, 0, none⟩), str nm]) func210 Z ntmps210 Z (q2 (aG Z (q1 (mV Z (o_nilCheck Z Z (o_fieldAddr 0 runUnderlying149 Z sizeOf9 Z Z Z (o_load_P H isAgg9 Z Z (hprt 0 _ Z) (mV Z (o_call call211 Z Z (l_Compare_c _ _ hnlt _ hnm ) ?_)))))))))
 rintro _ w1 ⟨rfl, ew1⟩; have H := H.step ew1; refine ⟨_, rfl, ?_⟩
 refine aG Z (q3 (W_ret (rt1 results210 Z ?_)))
 exact H.rets (congrArg (Value.int .i64) (by rfl))
theorem l_Search_c (w0 : World) (G0 : PH) (hG : PSub G0 w0) (vkids : Value) (kids : List (Nd)) (hkids : RdNd G0 vkids kids) (nm : Bs) (hnm : nm.length ≤ 16777216) (hsk : Sp.srt kids)  :
  Calls Tryz.prog 209 #[vkids, str nm, .func (.func 210) #[] #[]] w0 (Rets w0 (.tuple #[.int .i64 (Sp.pl kids nm : Nat), .bool (Sp.fd kids nm).isSome])) := by
 obtain ⟨akids, kkids, rfl⟩ := hkids.shape
 have hlimkids : kids.length ≤ 1099511627776 := hkids.lim
 have H := Hp.init hG
 refine calls_of_W (l := [.slice akids kids.length kkids, str nm, .func (.func 210) #[] #[]]) func209 Z ntmps209 Z (q2 (aG Z (aG Z (q1 (mV Z (o_len_slice underlying147 Z Z (aG Z (q1 (mV Z (aG Z (aG Z (q3 (W_seq (W_block ?_))))))))))))))
 refine W_lp (hf := (Sub.cons (t := 0) Z (Sub.cons (t := 1) Z (Sub.cons (t := 2) Z (Sub.cons (t := 6) Z (Sub.cons (t := 7) Z (Sub.cons (t := 8) Z Sub.nil))))))) (J := fun M w m => ∃ (i j : Nat) (G : PH), M = [(9, .int .i64 (i : Int)), (10, .int .i64 (j : Int))] ∧ PLe G0 G ∧ Hp w0 G0 [] w G [] ∧ (i ≤ j ∧ j ≤ kids.length ∧ (∀ (k : Nat) (x : Nd), k < i → kids[k]? = some x → Sp.lt x.name nm = true) ∧ (∀ (k : Nat) (x : Nd), j ≤ k → kids[k]? = some x → Sp.lt x.name nm = false)) ∧ m = (j - i)) (h0 := ⟨0, kids.length, _, Z, PLe.refl _, H, ?inv, Z⟩) (round := ?round)
 case inv => exact ⟨by omega, by omega, fun k x hk => by omega, fun k x hk hx => by have := (List.getElem?_eq_some_iff.1 hx).1; omega⟩
 case round =>
  rintro _ w1 _ ⟨i, j, G1, rfl, hle1, H, hinv1, rfl⟩
  have hkids := hkids.up hle1
  obtain ⟨hij, hjl, hlo, hhi⟩ := hinv1
  refine W_seq (q2 (mV Z (mV Z (o_lss Z Z Z (q3 ?_)))))
  refine W_cond Z ?_ ?_
  ·intro hc2
   try simp only [nrm] at hc2
   refine W_skip (N_K (W_block (q2 (mV Z (mV Z (o_add Z Z Z oO (o_conv (by simp [underlying3]) underlying228 Z Z (wrap_u64 oO) (o_shr1 Z Z Z (by decide) (o_conv (by simp [underlying228]) underlying3 Z Z (wrap_i64 oO) (aG Z (q1 (mV Z (mV Z (mV Z (o_index_P ((i + j) / 2) hkids underlying147 sizeOf97 Z Z Z oM aN ?_))))))))))))))); intro b4 o4 z4 q4 hz4 hE4 hrow4
   obtain ⟨rfl, hnd4⟩ := hE4; obtain ⟨hnl4, na4, nm4, nc4, nA4, nM4, nC4, hpr4, hri4, hrk4⟩ := hnd4.open; have hn_hri4 := hri4.len; have hx_hri4 : _ ≤ 1099511627776 := hri4.lim; have hn_hrk4 := hrk4.len; have hx_hrk4 : _ ≤ 1099511627776 := hrk4.lim
   refine o_load_P H isAgg97 Z Z (hrow4 0 _ Z) (mV Z (o_callv call210 Z Z Z (i_place1_c _ _ H.sub _ hnd4 _ hnm ) ?_))
   rintro _ w5 ⟨rfl, ew5⟩; have H := H.step ew5; refine ⟨_, rfl, ?_⟩
   refine o_lss Z Z Z (q3 ?_)
   refine W_cond Z ?_ ?_
   ·intro hc6
    try simp only [nrm] at hc6
    refine W_region (mV Z (o_add Z Z Z oO (aG Z (R_nil (N_B ?_)))))
    refine N_lp (hJ := ⟨((i + j) / 2 + 1), j, _, Z, hle1, H, ?inv, Z⟩) (hm := ?hm)
    case hm => omega
    case inv => exact ⟨by omega, by omega, Sp.pw_lt hsk hz4 ((Sp.cmpB_lt _ _).1 hc6), hhi⟩
   intro hc6'
   try simp only [nrm] at hc6'
   refine W_region (mV Z (aG Z (R_nil (N_B ?_))))
   refine N_lp (hJ := ⟨i, ((i + j) / 2), _, Z, hle1, H, ?inv, Z⟩) (hm := ?hm)
   case hm => omega
   case inv => exact ⟨by omega, by omega, hlo, Sp.pw_ge hsk hz4 (by cases hlt : Sp.lt z4.name nm with | false => rfl | true => exact absurd ((Sp.cmpB_lt _ _).2 hlt) oM)⟩
  intro hc2'
  try simp only [nrm] at hc2'
  refine W_exit (N_K_exit (N_LP_exit (N_B_same (N_K (q2 (mV Z (mV Z (mV Z (o_lss Z Z Z (mV Z ?_))))))))))
  refine R_case (t := 39) Z ?_ ?_
  ·intro hc8
   try simp only [nrm] at hc8
   refine gR Z (mV Z (gR Z (mV Z (gR Z (mV Z (gR Z (o_index_P i hkids underlying147 sizeOf97 Z Z Z Z aN ?_))))))); intro b9 o9 z9 q9 hz9 hE9 hrow9
   obtain ⟨rfl, hnd9⟩ := hE9; obtain ⟨hnl9, na9, nm9, nc9, nA9, nM9, nC9, hpr9, hri9, hrk9⟩ := hnd9.open; have hn_hri9 := hri9.len; have hx_hri9 : _ ≤ 1099511627776 := hri9.lim; have hn_hrk9 := hrk9.len; have hx_hrk9 : _ ≤ 1099511627776 := hrk9.lim
   refine gR Z (o_load_P H isAgg97 Z Z (hrow9 0 _ Z) (gR Z (mV Z (gR Z (o_callv call210 Z Z Z (i_place1_c _ _ H.sub _ hnd9 _ hnm ) ?_)))))
   rintro _ w10 ⟨rfl, ew10⟩; have H := H.step ew10; refine ⟨_, rfl, ?_⟩
   refine gR Z (o_eql Z Z Z (o_pick_t Z Z Z (aG Z (aG Z (q3 (W_ret (rt2 results209 Z Z ?_)))))))
   obtain rfl : i = j := by omega
   have hpl := Sp.pl_of oM hlo hhi
   obtain ⟨hfd, _⟩ := Sp.fd_at hsk hz9 hlo hhi
   exact H.rets (by rw [hpl, hfd]; simp only [Sp.cmpB_eq]; rfl)
  intro hc8'
  try simp only [nrm] at hc8'
  refine rP Z (rP Z (rP Z (rP Z (rP Z (rP Z (rP Z (rP Z (o_pick_f Z Z Z (aG Z (aG Z (q3 (W_ret (rt2 results209 Z Z ?_)))))))))))))
  obtain rfl : i = j := by omega
  have hpl := Sp.pl_of oM hlo hhi
  have hfd := Sp.fd_end (nm := nm) (ks := kids) (fun k x hk hx => hlo k x oM hx)
  exact H.rets (by rw [hpl, hfd]; rfl)
theorem i_place_c (w0 : World) (G0 : PH) (hG : PSub G0 w0) (t : Nd) (hndt : RdN G0 t) (nm : Bs) (hnm : nm.length ≤ 16777216) (hwt : t.wf) :
  Calls Tryz.prog 185 #[.pointer (some ⟨t.b, 0, none⟩), str nm] w0 (Rets w0 (.tuple #[.int .i64 (Sp.pl t.kids nm : Nat), .bool (Sp.fd t.kids nm).isSome])) := by
 obtain ⟨hnlt, nat, nmt, nct, nAt, nMt, nCt, hprt, hrit, hrkt⟩ := hndt.open
 have hn_hrit := hrit.len; have hx_hrit : _ ≤ 1099511627776 := hrit.lim
 have hn_hrkt := hrkt.len; have hx_hrkt : _ ≤ 1099511627776 := hrkt.lim
 have H := Hp.init hG
 refine calls_of_W (l := [.pointer (some ⟨t.b, 0, none⟩), str nm]) func185 Z ntmps185 Z (q2 (aG Z (aG Z (q1 (mV Z (o_nilCheck Z Z (o_fieldAddr 3 runUnderlying149 Z sizeOf147 Z Z Z (o_load_P H isAgg147 Z Z (hprt 3 _ Z) (mV Z (o_call call209 Z Z (l_Search_c _ _ H.sub _ _ hrkt _ hnm ((Nd.wf_iff _).1 hwt).1 ) ?_))))))))))
 rintro _ w1 ⟨rfl, ew1⟩; have H := H.step ew1; refine ⟨_, rfl, ?_⟩
 refine o_extract Z Z Z (o_extract Z Z Z (aG Z (aG Z (q3 (W_ret (rt2 results185 Z Z ?_))))))
 exact H.rets Z
theorem i_at_c (w0 : World) (G0 : PH) (hG : PSub G0 w0) (t : Nd) (hndt : RdN G0 t) (vps : Value) (ps : List (Bs)) (hps : RdT G0 vps ps) (hwt : t.wf) :
  Calls Tryz.prog 152 #[.pointer (some ⟨t.b, 0, none⟩), vps] w0 (RetV w0 (fun v => (t.at_ ps = none ∧ v = .pointer none) ∨ (∃ d, t.at_ ps = some d ∧ v = .pointer (some ⟨d.b, 0, none⟩)))) := by
 obtain ⟨hnlt, nat, nmt, nct, nAt, nMt, nCt, hprt, hrit, hrkt⟩ := hndt.open
 have hn_hrit := hrit.len; have hx_hrit : _ ≤ 1099511627776 := hrit.lim
 have hn_hrkt := hrkt.len; have hx_hrkt : _ ≤ 1099511627776 := hrkt.lim
 obtain ⟨aps, kps, rfl⟩ := hps.shape
 have hlimps : ps.length ≤ 1099511627776 := hps.lim
 have H := Hp.init hG
 refine calls_of_W (l := [.pointer (some ⟨t.b, 0, none⟩), .slice aps ps.length kps]) func152 Z ntmps152 Z (q2 (aG Z (q3 (W_seq (q2 (mV Z (o_len_slice underlying69 Z Z (mV Z (q3 (W_block ?_))))))))))
 refine W_lp (hf := (Sub.cons (t := 9) Z (Sub.cons (t := 10) Z Sub.nil))) (J := fun M w m => ∃ (k : Nat) (d : Nd) (G : PH), M = [(11, .int .i64 (k : Int)), (0, .pointer (some ⟨d.b, 0, none⟩))] ∧ PLe G0 G ∧ Hp w0 G0 [] w G [] ∧ (k ≤ ps.length ∧ RdN G d ∧ d.wf ∧ t.at_ (ps.take k) = some d) ∧ m = (ps.length - k)) (h0 := ⟨0, t, _, Z, PLe.refl _, H, ?inv, Z⟩) (round := ?round)
 case inv => exact ⟨by omega, hndt, hwt, rfl⟩
 case round =>
  rintro _ w1 _ ⟨k, d, G1, rfl, hle1, H, hinv1, rfl⟩
  have hps := hps.up hle1
  obtain ⟨hk, hnd0, hwd, hat⟩ := hinv1; obtain ⟨hnl0, na0, nm0, nc0, nA0, nM0, nC0, hpr0, hri0, hrk0⟩ := hnd0.open; have hn_hrk0 := hrk0.len
  refine q2 (o_lss Z Z Z (q3 (W_seq ?_)))
  refine W_cond Z ?_ ?_
  ·intro hc2
   try simp only [nrm] at hc2
   refine W_skip (N_K (W_seq (W_block (q2 (o_index_P k hps underlying69 sizeOf9 Z Z Z Z aN ?_))))); intro b3 o3 z3 q3 hz3 hE3 hrow3
   obtain ⟨rfl, hi3⟩ := hE3; have hy_hi3 : _ ≤ 16777216 := hi3
   refine o_load_P H isAgg9 Z Z (hrow3 0 _ Z) (aG Z (q1 (mV Z (mV Z (o_call call185 Z Z (i_place_c _ _ H.sub _ hnd0 _ hi3 hwd) ?_)))))
   rintro _ w4 ⟨rfl, ew4⟩; have H := H.step ew4; refine ⟨_, rfl, ?_⟩
   refine mV Z (o_extract Z Z Z (o_extract Z Z Z (aG Z (aG Z (q3 (W_seq (q2 (mV Z (o_not Z Z (q3 ?_))))))))))
   refine W_cond Z ?_ ?_
   ·intro hc5
    try simp only [nrm] at hc5
    refine q2 (aG Z (q3 (W_ret (N_K_ret (N_B_ret (N_K_ret (N_LP_ret (N_B_ret (N_K_ret (rt1 results152 Z ?_))))))))))
    exact H.retV (.inl ⟨Nd.at_stop hz3 hat (by simpa [Sp.fd, Nd.kid] using hc5), rfl⟩)
   intro hc5'
   try simp only [nrm] at hc5'
   obtain ⟨q, hq⟩ := Option.isSome_iff_exists.1 hc5'
   have hpl : d.kids[Sp.pl d.kids z3]? = some q := Nd.place_some hwd hq
   have hlt : Sp.pl d.kids z3 < d.kids.length := (List.getElem?_eq_some_iff.1 hpl).1
   refine W_skip (N_K (W_region (mV Z (o_nilCheck Z Z (o_fieldAddr 3 runUnderlying149 Z sizeOf147 Z Z Z (o_load_P H isAgg147 Z Z (hpr0 3 _ Z) (mV Z (o_index_P (Sp.pl d.kids z3) hrk0 underlying147 sizeOf97 Z Z Z Z aN ?_)))))))); intro b6 o6 z6 q6 hz6 hE6 hrow6
   obtain ⟨rfl, hnd6⟩ := hE6; obtain ⟨hnl6, na6, nm6, nc6, nA6, nM6, nC6, hpr6, hri6, hrk6⟩ := hnd6.open; have hn_hri6 := hri6.len; have hx_hri6 : _ ≤ 1099511627776 := hri6.lim; have hn_hrk6 := hrk6.len; have hx_hrk6 : _ ≤ 1099511627776 := hrk6.lim
   have hkid : Nd.kid d z3 = some z6 := by (show Sp.fd _ _ = _); rw [hq]; exact hpl.symm.trans hz6
   refine o_load_P H isAgg97 Z Z (hrow6 0 _ Z) (aG Z (R_nil (N_B (N_K (W_region (o_add Z Z Z oO (mV Z (R_nil ?_))))))))
   refine N_lp (hJ := ⟨k + 1, z6, _, Z, hle1, H, ?inv, Z⟩) (hm := ?hm)
   case hm => omega
   case inv => exact ⟨by omega, hnd6, (((Nd.wf_iff _).1 hwd).2 _ (List.mem_of_getElem? hz6)).2, by rw [Nd.at_step hz3 hat]; exact hkid⟩
  intro hc2'
  try simp only [nrm] at hc2'
  refine W_exit (N_K_exit (N_LP_exit (N_B_same (N_K (q2 (mV Z (aG Z (q3 (W_ret (rt1 results152 Z ?_))))))))))
  exact H.retV (.inr ⟨d, by rw [← hat, List.take_of_length_le oM], rfl⟩)
theorem i_dirOf_c (w0 : World) (G0 : PH) (hG : PSub G0 w0) (t : Nd) (hndt : RdN G0 t) (path : Bs) (hpath : path.length ≤ 16777216) (hwt : t.wf) :
  Calls Tryz.prog 151 #[.pointer (some ⟨t.b, 0, none⟩), str path] w0 (RetV w0 (fun v => (t.dirOf path = none ∧ v = .tuple #[.pointer none, str []]) ∨ (∃ d nm, t.dirOf path = some (d, nm) ∧ v = .tuple #[.pointer (some ⟨d.b, 0, none⟩), str nm]))) := by
 obtain ⟨hnlt, nat, nmt, nct, nAt, nMt, nCt, hprt, hrit, hrkt⟩ := hndt.open
 have hn_hrit := hrit.len; have hx_hrit : _ ≤ 1099511627776 := hrit.lim
 have hn_hrkt := hrkt.len; have hx_hrkt : _ ≤ 1099511627776 := hrkt.lim
 have H := Hp.init hG
 refine calls_of_W (l := [.pointer (some ⟨t.b, 0, none⟩), str path]) func151 Z ntmps151 Z (q2 (aG Z (aG Z (q1 (mV Z (o_call call187 Z Z (i_PathParts_c _ _ H.sub _ hpath ) ?_))))))
 rintro _ w1 ⟨G1, u1_0, g1, rfl, hr1_0⟩
 have H := H.grow g1
 have hndt := hndt.up g1.le
 obtain ⟨a1_0, k1_0, rfl⟩ := hr1_0.shape; have hx_hr1_0 : _ ≤ 1099511627776 := hr1_0.lim
 refine ⟨_, Z, ?_⟩
 refine aG Z (q3 (W_seq (q2 (mV Z (o_len_slice underlying69 Z Z (o_eql Z Z Z (q3 ?_)))))))
 refine W_cond Z ?_ ?_
 ·intro hc2
  try simp only [nrm] at hc2
  refine q2 (aG Z (aG Z (q3 (W_ret (N_K_ret (rt2 results151 Z Z ?_))))))
  exact H.retV (.inl ⟨Nd.dirOf_nil oM, Z⟩)
 intro hc2'
 try simp only [nrm] at hc2'
 refine W_skip (N_K (q2 (mV Z (o_len_slice underlying69 Z Z (o_sub Z Z Z oO (aG Z (q1 (mV Z (mV Z (mV Z ?_))))))))))
 have hcap4 := hr1_0.cap; try simp only [List.length_set, List.length_append, List.length_take, List.length_drop, List.length_replicate] at hcap4
 refine o_slice_to (j := ((Sp.parts path).length - 1)) underlying69 sizeOf9 Z Z Z oM oM ?_
 have hsl4 := hr1_0.take (j := ((Sp.parts path).length - 1)) aN
 have hsn1 := hsl4.len
 refine o_call call152 Z Z (i_at_c _ _ H.sub _ hndt _ _ hsl4 hwt) ?_
 rintro _ w5 ⟨_, rfl, ew5, ⟨hat5, rfl⟩ | ⟨d5, hat5, rfl⟩⟩
 ·skip
  have H := H.step ew5; refine ⟨_, rfl, ?_⟩
  refine aG Z (q3 (W_seq (q2 (mV Z (o_eqnil_ptr underlying97 Z Z Z (mV Z (rP Z (rP Z (rP Z (rP Z (rP Z (o_pick_t Z Z Z (q3 (W_true Z (q2 ?_)))))))))))))))
  refine aG Z (aG Z (q3 (W_ret (N_K_ret (rt2 results151 Z Z ?_)))))
  exact H.retV (.inl ⟨Nd.dirOf_no oM hat5, Z⟩)
 skip
 have H := H.step ew5; refine ⟨_, rfl, ?_⟩
 have hnd5 := hndt.at hat5; obtain ⟨hnl5, na5, nm5, nc5, nA5, nM5, nC5, hpr5, hri5, hrk5⟩ := hnd5.open
 have hn_hri5 := hri5.len; have hx_hri5 : _ ≤ 1099511627776 := hri5.lim
 have hn_hrk5 := hrk5.len; have hx_hrk5 : _ ≤ 1099511627776 := hrk5.lim
 refine aG Z (q3 (W_seq (q2 (mV Z (o_eqnil_ptr underlying97 Z Z Z (mV Z (gR Z (mV Z (gR Z (o_nilCheck Z Z (gR Z (o_fieldAddr 1 runUnderlying149 Z sizeOf4 Z Z Z (gR Z (o_load_P H isAgg4 Z Z (hpr5 1 _ Z) (gR Z ?_)))))))))))))))
 refine o_not Z Z (o_pick_f Z Z Z (q3 ?_))
 refine W_cond Z ?_ ?_
 ·intro hc6
  try simp only [nrm] at hc6
  refine q2 (aG Z (aG Z (q3 (W_ret (N_K_ret (rt2 results151 Z Z ?_))))))
  exact H.retV (.inl ⟨Nd.dirOf_nodir oM hat5 (by simpa using hc6), rfl⟩)
 intro hc6'
 try simp only [nrm] at hc6'
 refine W_skip (N_K (W_seq (W_drawK [] 7 H kR Z ?_))); intro w7 H; have hd7 := PLe.refl G1
 refine vM 0 Z Z (vM 1 Z Z (vM 2 Z Z ?_))
 have hl8 := hr1_0.len
 obtain ⟨b8, o8, z8, q8, ha8, hz8, hq8, hE8, hrow8, _⟩ := hr1_0.at (i := ((Sp.parts path).length - 1)) oM
 clear hq8
 obtain ⟨rfl, hi8⟩ := hE8; have hy_hi8 : _ ≤ 16777216 := hi8
 refine RD_t 3 Z kR Z (fun _ hK => v_index_P (i := ((Sp.parts path).length - 1)) ha8 underlying69 sizeOf9 Z Z oM oM) (RD_t 4 Z kR Z (fun _ hK => v_load_P hK isAgg9 Z (hrow8 0 _ Z)) (RD_t 5 Z kR Z (fun _ hK => v_assign Z) (RD_t 6 Z kR Z (fun _ hK => v_assign Z) (RD_done kR (N_K (W_ret (rt2 results151 Z Z ?_)))))))
 exact H.retV (.inr ⟨_, _, Nd.dirOf_yes oM hz8 hat5 (by simpa using hc6'), rfl⟩)
theorem i_find_n_c (w0 : World) (G0 : PH) (hG : PSub G0 w0) (t : Nd) (hndt : RdN G0 t) (path : Bs) (hpath : path.length ≤ 16777216) (hwt : t.wf) :
  Calls Tryz.prog 106 #[.pointer (some ⟨t.b, 0, none⟩), str path] w0 (RetV w0 (fun v => (t.find path = none ∧ v = .pointer none) ∨ (∃ d, t.find path = some d ∧ v = .pointer (some ⟨d.b, 0, none⟩)))) := by
 obtain ⟨hnlt, nat, nmt, nct, nAt, nMt, nCt, hprt, hrit, hrkt⟩ := hndt.open
 have hn_hrit := hrit.len; have hx_hrit : _ ≤ 1099511627776 := hrit.lim
 have hn_hrkt := hrkt.len; have hx_hrkt : _ ≤ 1099511627776 := hrkt.lim
 have H := Hp.init hG
 refine calls_of_W (l := [.pointer (some ⟨t.b, 0, none⟩), str path]) func106 Z ntmps106 Z (q2 (aG Z (q1 (mV Z (mV Z (o_call call151 Z Z (i_dirOf_c _ _ H.sub _ hndt _ hpath hwt) ?_))))))
 rintro _ w1 ⟨_, rfl, ew1, ⟨hdf1, rfl⟩ | ⟨d1, nm1, hdf1, rfl⟩⟩
 ·skip
  have H := H.step ew1; refine ⟨_, rfl, ?_⟩
  refine mV Z (o_extract Z Z Z (o_extract Z Z Z (aG Z (aG Z (q3 (W_seq (q2 (mV Z (o_eqnil_ptr underlying97 Z Z Z (q3 (W_true Z (q2 (aG Z (q3 (W_ret ?_)))))))))))))))
  refine N_K_ret (rt1 results106 Z ?_)
  exact H.retV (.inl ⟨Nd.find_no hdf1, Z⟩)
 skip
 have H := H.step ew1; refine ⟨_, rfl, ?_⟩
 have hnml1 := Nd.dir_len hdf1
 have hnd1 := hndt.at (Nd.dirOf_some hdf1).2.2.1; obtain ⟨hnl1, na1, nm1, nc1, nA1, nM1, nC1, hpr1, hri1, hrk1⟩ := hnd1.open
 have hn_hri1 := hri1.len; have hx_hri1 : _ ≤ 1099511627776 := hri1.lim
 have hn_hrk1 := hrk1.len; have hx_hrk1 : _ ≤ 1099511627776 := hrk1.lim
 refine mV Z (o_extract Z Z Z (o_extract Z Z Z (aG Z (aG Z (q3 (W_seq (q2 (mV Z (o_eqnil_ptr underlying97 Z Z Z (q3 (W_false Z (W_skip (N_K (q2 (mV Z ?_)))))))))))))))
 refine mV Z (o_buildSlice H underlying69 sizeOf9 (fun w => ⟨_, zeroValue9 w, Z⟩) Z Z Z Z Z Z Z ?_); intro b2 w2 hb2 H
 have H := H.blkAcc 1 (k := 0) (n := 1) rfl rfl (by decide)
 have hchk4 := ((Chk.nil (E := strE) (sz := 1) (G := G0)).snoc (show strE _ _ _ from ⟨rfl, hnml1⟩) rfl)
 refine o_call call152 Z Z (i_at_c _ _ (H.lendSubL [0]) _ (hnd1.up (PPlus.le _ _ _)) _ _ (H.lendRdL (k := 0) (ks := [0]) Z Z hchk4 aN aN) (Nd.dir_wf hwt hdf1)) ?_
 rintro _ w3 ⟨_, rfl, ew3, ⟨hat3, rfl⟩ | ⟨d3, hat3, rfl⟩⟩
 ·skip
  have H := H.step ew3; refine ⟨_, rfl, ?_⟩
  refine aG Z (q3 (W_ret (rt1 results106 Z ?_)))
  exact H.retV (.inl ⟨(Nd.find_yes hdf1).trans hat3, Z⟩)
 skip
 have H := H.step ew3; refine ⟨_, rfl, ?_⟩
 have hnd3 := hnd1.at hat3; obtain ⟨hnl3, na3, nm3, nc3, nA3, nM3, nC3, hpr3, hri3, hrk3⟩ := hnd3.open
 have hn_hri3 := hri3.len; have hx_hri3 : _ ≤ 1099511627776 := hri3.lim
 have hn_hrk3 := hrk3.len; have hx_hrk3 : _ ≤ 1099511627776 := hrk3.lim
 refine aG Z (q3 (W_ret (rt1 results106 Z ?_)))
 exact H.retV (.inr ⟨_, (Nd.find_yes hdf1).trans hat3, Z⟩)
end Go.Proofs.Tst

namespace Go.Proofs.Tst
open Go Fw Tryz
theorem l_Insert_c (w0 : World) (G0 : PH) (hG : PSub G0 w0) (vkids : Value) (kids : List Nd) (i : Nat) (hi : i ≤ kids.length) (hkl : kids.length ≤ 1099511627776) (vbk : Nat) (k : Nd) (hLent : Lent w0 G0 [acc 97 1 vkids kids.length (ptrs kids), blk vbk (cl [ptr k.b] 97)])  :
  Calls Tryz.prog 186 #[vkids, .int .i64 (i : Int), .slice (some ⟨vbk, 0, none⟩) 1 1] w0 (RetM w0 G0 (fps [acc 97 1 vkids kids.length (ptrs kids), blk vbk (cl [ptr k.b] 97)]) (fun G' v Bs => ∃ (c : List Value), Bs = [acc 97 1 v (kids.length + 1) c] ∧ c = ptrs (kids.take i ++ k :: kids.drop i))) := by
 have H : Hp w0 G0 (fps [acc 97 1 vkids kids.length (ptrs kids), blk vbk (cl [ptr k.b] 97)]) w0 G0 [acc 97 1 vkids kids.length (ptrs kids), blk vbk (cl [ptr k.b] 97)] := hLent.hp
 obtain ⟨akids, ckids, rfl⟩ := H.accShape (k := 0) rfl
 refine calls_of_W (l := [.slice akids kids.length ckids, .int .i64 (i : Int), .slice (some ⟨vbk, 0, none⟩) 1 1]) func186 Z ntmps186 Z (q2 (aG Z (q1 (mV Z (mV Z ?_)))))
 have hac1 := H.accCap (k := 0) rfl
 refine o_slice_from (i := i) underlying147 sizeOf97 Z Z Z Z oM (q1 (mV Z (o_len_slice underlying147 Z Z (aG Z (q3 (W_seq (q2 (mV Z (o_eql Z Z Z (q3 ?_))))))))))
 refine W_cond Z ?_ ?_
 ·intro hc2
  try simp only [nrm] at hc2
  exact absurd hc2 (by decide)
 intro hc2'
 try simp only [nrm] at hc2'
 refine W_skip (N_K (q2 (mV Z (o_len_slice underlying147 Z Z (aG Z (q3 (W_seq (q2 (mV Z (mV Z (o_eql Z Z Z (q3 ?_))))))))))))
 refine W_cond Z ?_ ?_
 ·intro hc3
  try simp only [nrm] at hc3
  refine q2 (mV Z (mV Z ?_))
  refine o_append 0 H underlying147 typeInfo97 ⟨_, Z, Z⟩ Z Z Z Z Z Z Z (news := [ptr k.b]) Z (fun j u hu => by (rw [Nat.zero_add]); exact blk_cell (k := 1) H rfl (by simpa using hu)) (by simp [ptr, Value.oneCell']) oM (by decide) ?_; intro nv w4 H
  refine aG Z (q3 (W_ret (N_K_ret (rt1 results186 Z ?_))))
  have H := H.del (k := 1) rfl
  exact H.retM ⟨_, rfl, by (obtain rfl : i = kids.length := by omega); (rw [List.take_length, List.drop_length]); simp [ptrs]⟩
 intro hc3'
 try simp only [nrm] at hc3'
 obtain ⟨b0, c0, C0, hv0, _⟩ := H.accBlk (k := 0) (i := i) rfl oM; cases hv0
 have hvk : vbk ≠ b0 := fun e => by subst e; have := H.nd; simp [fps, acc_fp, blk] at this
 have hcc := H.accCap (k := 0) rfl
 have hcm := H.accMax (k := 0) rfl
 refine W_skip (N_K (W_seq (q2 (mV Z (mV Z (o_add Z Z Z oO (mV Z (o_cap underlying147 Z Z (o_gtr Z Z Z (q3 ?_))))))))))
 refine W_cond Z ?_ ?_
 ·intro hc6
  try simp only [nrm] at hc6
  refine q2 (mV Z (mV Z ?_))
  have hac7 := H.accCap (k := 0) rfl
  refine o_slice_to (j := i) underlying147 sizeOf97 Z Z Z Z oM (mV Z (mV Z (o_add Z Z Z oO (mV Z (o_sub Z Z Z oO (o_appmk 0 H (kids.length + 1 - i) underlying147 underlying3 typeInfo97 Z Z Z Z Z Z Z Z oM Z oM oM oM oM ?_)))))); intro nb nc w10 H hnb hnc
  refine aG Z (q1 (mV Z (mV Z (o_slice_from1 (i := i) underlying147 sizeOf97 Z Z Z oM oM oM (mV Z ?_)))))
  refine o_copy 0 H ([ptr k.b]) underlying147 typeInfo97 Z Z Z Z Z (by simp [Nat.min_def] <;> (try split) <;> omega) (fun j v hj => by (rw [Addr.add_lit, Nat.zero_add]); exact blk_cell (k := 2) H rfl (by simpa using hj)) (by intro v hv; first | exact ptrs_one v (List.mem_of_mem_drop hv) | (simp at hv; subst hv; rfl)) (by simp; try omega) ?_; intro w11 H
  refine q3 (W_seq (W_drawK [2] 9 H kR Z ?_)); intro w12 H; have hd12 := PLe.refl G0
  refine vM 0 Z Z (vM 1 Z Z (vM 2 Z Z (RD_t 3 Z kR Z (fun _ hK => v_add Z Z oO) (RD_t 4 Z kR Z (fun _ hK => v_slice_from1 (i := (i + 1)) underlying147 sizeOf97 Z Z oM oM oM) (vM 5 Z Z (vM 6 Z Z (RD_t 7 Z kR Z (fun _ hK => v_slice_from1 (i := i) underlying147 sizeOf97 Z Z oM oM oM) ?_)))))))
  refine RD_run [8] kR Z (RDs.cons Z ?_ RDs.nil)
  refine o_copy 0 H ((ptrs kids).drop i) underlying147 typeInfo97 Z Z Z Z Z (by simp [Nat.min_def] <;> (try split) <;> omega) (fun j v hj => by (rw [Addr.add_lit]); (rw [List.getElem?_drop] at hj); exact acc_cell (k := 1) H rfl (by first | exact hj | (rw [List.getElem?_append_left (List.getElem?_eq_some_iff.1 hj).1]; exact hj))) (by intro v hv; first | exact ptrs_one v (List.mem_of_mem_drop hv) | (simp at hv; subst hv; rfl)) (by simp; try omega) ?_; intro w14 H
  refine R_nil (N_DK (Kn.of' H hd12 (SubL.cons 2 Z SubL.nil)) (RD_done kR (N_K (q2 (mV Z (aG Z (q3 (W_ret (N_K_ret (rt1 results186 Z ?_))))))))))
  have H := H.del (k := 1) rfl
  have H := H.del (k := 1) rfl
  have hcx := (insC2 (x := ptr k.b) (z := .pointer none) (i := i) (r := kids.length + 1 - i) (c := ptrs kids) (by simp; omega) (by simp; omega)).trans (ptrs_ins kids k i)
  exact H.retM ⟨_, acc_1 oM, hcx⟩
 intro hc6'
 try simp only [nrm] at hc6'
 refine W_skip (N_K (q2 (mV Z (mV Z (mV Z (o_add Z Z Z oO (o_slice_to (j := kids.length + 1) underlying147 sizeOf97 Z Z Z oM oM ?_)))))))
 obtain ⟨zz, H⟩ := H.accMore (k := 0) rfl oM
 refine aG Z (q3 (W_seq (q2 (mV Z (mV Z (mV Z (mV Z (o_add Z Z Z oO (o_slice_from1 (i := (i + 1)) underlying147 sizeOf97 Z Z Z oM oM oM (o_overlaps 0 1 H (fun args w => run_callFunc_extern func212 kR kR kR (e := Extern.SlicesOverlaps.overlaps #[147, 147] #[4]) kR args w) underlying147 sizeOf97 Z Z Z Z hvk oM (o_not Z Z (q3 (W_true Z (W_seq (W_drawK [1] 9 H kR Z ?_))))))))))))))); intro w17 H; have hd17 := PLe.refl G0
 refine vM 0 Z Z (vM 1 Z Z (vM 2 Z Z (RD_t 3 Z kR Z (fun _ hK => v_add Z Z oO) (RD_t 4 Z kR Z (fun _ hK => v_slice_from1 (i := (i + 1)) underlying147 sizeOf97 Z Z oM oM oM) (vM 5 Z Z (vM 6 Z Z (RD_t 7 Z kR Z (fun _ hK => v_slice_from1 (i := i) underlying147 sizeOf97 Z Z oM oM oM) ?_)))))))
 refine RD_run [8] kR Z (RDs.cons Z ?_ RDs.nil)
 refine o_copy 0 H ((ptrs kids).drop i) underlying147 typeInfo97 Z Z Z Z Z (by simp [Nat.min_def] <;> (try split) <;> omega) (fun j v hj => by (rw [Addr.add_lit]); (rw [List.getElem?_drop] at hj); exact acc_cell (k := 0) H rfl (by first | exact hj | (rw [List.getElem?_append_left (List.getElem?_eq_some_iff.1 hj).1]; exact hj))) (by intro v hv; first | exact ptrs_one v (List.mem_of_mem_drop hv) | (simp at hv; subst hv; rfl)) (by simp; try omega) ?_; intro w19 H
 refine R_nil (N_DK (Kn.of' H hd17 (SubL.cons 1 Z SubL.nil)) (RD_done kR (N_K (q2 (mV Z (mV Z (o_slice_from1 (i := i) underlying147 sizeOf97 Z Z Z oM oM oM (mV Z ?_))))))))
 refine o_copy 0 H ([ptr k.b]) underlying147 typeInfo97 Z Z Z Z Z (by simp [Nat.min_def] <;> (try split) <;> omega) (fun j v hj => by (rw [Addr.add_lit, Nat.zero_add]); exact blk_cell (k := 1) H rfl (by simpa using hj)) (by intro v hv; first | exact ptrs_one v (List.mem_of_mem_drop hv) | (simp at hv; subst hv; rfl)) (by simp; try omega) ?_; intro w20 H
 refine q1 (mV Z (aG Z (q3 (W_ret (N_K_ret (rt1 results186 Z ?_))))))
 have H := H.del (k := 1) rfl
 exact H.retM ⟨_, rfl, (insC (by simp; omega)).trans (ptrs_ins kids k i)⟩
end Go.Proofs.Tst

namespace Go.Proofs.Tst
open Go Fw Tryz
theorem i_insert_c (w0 : World) (G0 : PH) (hG : PSub G0 w0) (Ft : Fr) (t : Nd) (hNt : NdO 149 97 G0 t Ft) (cx : List Value) (x : BItem) (hx : itemE G0 x cx) (hLent : Lent w0 G0 [frag Ft]) (hwt : t.wf) (hct : t.cnt ≤ 1000) :
  Calls Tryz.prog 150 #[.pointer (some ⟨t.b, 0, none⟩), .agg cx.toArray] w0 (RetM w0 G0 (fps [frag Ft]) (fun G' v Bs => ∃ (nb : Nat) (F' : Fr) (t' : Nd), v = .bool (t.ins x nb).isSome ∧ Bs = [frag F'] ∧ NdO 149 97 G' t' F' ∧ t'.b = t.b ∧ (t.ins x nb).getD t = t')) := by
 obtain ⟨a1, m1, c1, rfl, hi1, hr1⟩ := hx; have hy_hi1 : _ ≤ 16777216 := hi1; have hn_hr1 := hr1.len; have hx_hr1 : _ ≤ 1099511627776 := hr1.lim
 have H : Hp w0 G0 (fps [frag Ft]) w0 G0 [frag Ft] := hLent.hp
 refine calls_of_W (l := [.pointer (some ⟨t.b, 0, none⟩), _]) func150 Z ntmps150 Z (q2 (o_box H Z Z Z ?_)); intro b2 w2 hb2 H
 refine aG Z (q1 (mV Z (o_fieldAddr 0 runUnderlying37 Z sizeOf9 Z Z Z (o_load_B 0 H isAgg9 Z Z Z Z (o_call call151 Z Z (i_dirOf_c _ _ (H.lendSubL [1]) _ ((H.lendN (k := 1) (ks := [1]) Z Z hNt).at (show Nd.at_ t [] = some t from Z)) _ hi1 hwt) ?_)))))
 rintro _ w3 ⟨_, rfl, ew3, ⟨hdf3, rfl⟩ | ⟨d3, nm3, hdf3, rfl⟩⟩
 ·skip
  have H := H.step ew3; refine ⟨_, rfl, ?_⟩
  refine mV Z (o_extract Z Z Z (o_extract Z Z Z (aG Z (aG Z (q3 (W_seq (q2 (mV Z (o_eqnil_ptr underlying97 Z Z Z (q3 (W_true Z (q2 (aG Z (q3 (W_ret ?_)))))))))))))))
  refine N_K_ret (rt1 results150 Z ?_)
  have H := H.del (k := 0) rfl
  exact H.retM ⟨0, _, _, by (rw [(Nd.ins_no1 hdf3)]; rfl), rfl, hNt, rfl, by (rw [(Nd.ins_no1 hdf3)]; rfl)⟩
 skip
 have H := H.step ew3; refine ⟨_, rfl, ?_⟩
 have hnml3 := Nd.dir_len hdf3
 refine mV Z (o_extract Z Z Z (o_extract Z Z Z (aG Z (aG Z (q3 (W_seq (q2 (mV Z (o_eqnil_ptr underlying97 Z Z Z (q3 (W_false Z (W_skip (N_K (q2 (mV Z ?_)))))))))))))))
 refine mV Z (o_call call185 Z Z (i_place_c _ _ (H.lendSubL [1]) _ ((H.lendN (k := 1) (ks := [1]) Z Z hNt).at (Nd.dirOf_some hdf3).2.2.1) _ hnml3 (Nd.dir_wf hwt hdf3)) ?_)
 rintro _ w4 ⟨rfl, ew4⟩; have H := H.step ew4; refine ⟨_, rfl, ?_⟩
 refine mV Z (o_extract Z Z Z (o_extract Z Z Z (aG Z (aG Z (q3 (W_seq (q2 (mV Z (q3 ?_)))))))))
 refine W_cond Z ?_ ?_
 ·intro hc5
  try simp only [nrm] at hc5
  refine q2 (aG Z (q3 (W_ret (N_K_ret (rt1 results150 Z ?_)))))
  have H := H.del (k := 0) rfl
  exact H.retM ⟨0, _, _, by (rw [(Nd.ins_no2 hdf3 (by simpa using hc5))]; rfl), rfl, hNt, rfl, by (rw [(Nd.ins_no2 hdf3 (by simpa using hc5))]; rfl)⟩
 intro hc5'
 try simp only [nrm] at hc5'
 have H := H.toFront (k := 1) rfl
 obtain ⟨oa, om, oc, okv, oFs, oR, H, ohri, ohNs, ohnl, ohkl, hcov, hclose⟩ := Hp.openNode H hNt (Nd.dirOf_some hdf3).2.2.1
 obtain ⟨oak, ock, rfl⟩ := H.accShape (k := 1) rfl; have hdo := PLe.refl G0; have hn_ohri := ohri.len
 refine W_skip (N_K (W_seq (W_drawK [3] 19 H kR Z ?_))); intro w6 H; have hd6 := PLe.refl G0
 refine vM 0 Z Z (vM 1 Z Z (RD_t 2 Z kR Z (fun _ hK => v_nilCheck Z) (RD_t 3 Z kR Z (fun _ hK => v_fieldAddr 3 runUnderlying149 Z sizeOf147 Z Z) (vM 5 Z Z (vM 6 Z Z (RD_t 7 Z kR Z (fun _ hK => v_fieldAddr 1 runUnderlying37 Z sizeOf4 Z Z) (RD_t 8 Z kR Z (fun _ hK => v_load_B 0 hK isAgg4 Z Z Z) (RD_t 9 Z kR Z (fun _ hK => v_fieldAddr 2 runUnderlying37 Z sizeOf33 Z Z) (RD_t 10 Z kR Z (fun _ hK => v_load_B 0 hK isAgg33 Z Z Z) ?_)))))))))
 refine RD_run [4, 11] kR Z (RDs.cons Z ?_ (RDs.cons Z ?_ RDs.nil))
 ·skip
  refine o_load_B 0 H isAgg147 Z Z Z Z (R_nil (N_DK (Kn.of' H hd6 (SubL.cons 3 Z SubL.nil)) ?_))
  refine RD_run [11] kR Z (RDs.cons Z ?_ RDs.nil)
  refine o_call call141 Z Z (l_Clone_c _ _ H.sub _ _ hr1 ) ?_
  rintro _ w7 ⟨G7, v7, _, g7, rfl, ⟨cs7, rfl, hchk7⟩, hp7, hq7, hs7⟩
  have H := H.growO g7 hp7 hq7 hs7; obtain ⟨av7, cv7, rfl⟩ := H.accShape (k := 0) rfl
  have ohri := ohri.up g7.le
  have ohNs := ohNs.up g7.le
  have hdo := hdo.trans g7.le
  have hd6 := hd6.trans g7.le
  refine ⟨_, Z, ?_⟩
  obtain ⟨G8, H, hsg8, hsr8⟩ := H.shutL (k := 0) rfl (H.apart (k := 0) (ks := [1, 2, 3]) rfl rfl (by intro b hb; rcases hcov b hb with h | h | h; (· exact fpsAt_mem (k := 1) rfl rfl b (by simp [blk, h])); (· exact fpsAt_mem (k := 2) rfl rfl b h); (· exact fpsAt_mem (k := 3) rfl rfl b h))) hchk7 aN aN
  have ohri := ohri.up hsg8
  have ohNs := ohNs.up hsg8
  have hdo := hdo.trans hsg8
  have hd6 := hd6.trans hsg8
  refine R_nil (N_DK (Kn.of' H hd6 (SubL.cons 3 Z SubL.nil)) (RD_t 12 Z kR Z (fun _ hK => v_build bf149 Z Z) ?_))
  refine RD_run [13] kR Z (RDs.cons Z ?_ RDs.nil)
  refine o_box H Z Z Z ?_; intro b9 w9 hb9 H
  refine R_nil (N_DK (Kn.of' H hd6 (SubL.cons 4 Z SubL.nil)) ?_)
  refine RD_run [14] kR Z (RDs.cons Z ?_ RDs.nil)
  refine o_buildSlice H underlying147 sizeOf97 (fun w => ⟨_, zeroValue97 w, Z⟩) Z Z Z Z Z Z Z ?_; intro b10 w10 hb10 H
  refine R_nil (N_DK (Kn.of' H hd6 (SubL.cons 5 Z SubL.nil)) ?_)
  refine RD_run [15] kR Z (RDs.cons Z ?_ RDs.nil)
  have H := H.toFront (k := 3) rfl
  refine o_call call186 Z Z (l_Insert_c _ _ H.sub _ _ _ (Sp.pl_le d3.kids nm3) oM _ (Nd.mk b9 nm3 x.dir x.ids []) H.lent2 ) ?_
  rintro _ w11 ⟨G11, _, _, rfl, H11', ⟨c11, rfl, rfl⟩⟩
  have ohri := ohri.up H11'.le
  have ohNs := ohNs.up H11'.le
  have hsr8 := hsr8.up H11'.le
  have hdo := hdo.trans H11'.le
  have hd6 := hd6.trans H11'.le
  have H := H.borrow2 H11'
  obtain ⟨avAk, cvAk, rfl⟩ := H.accShape (k := 0) rfl
  refine ⟨_, Z, ?_⟩
  refine R_nil (N_DK (Kn.of' H hd6 (SubL.cons 4 Z SubL.nil)) (RD_t 16 Z kR Z (fun _ hK => v_nilCheck Z) (RD_t 17 Z kR Z (fun _ hK => v_fieldAddr 3 runUnderlying149 Z sizeOf147 Z Z) ?_)))
  refine RD_run [18] kR Z (RDs.cons Z ?_ RDs.nil)
  refine o_store_B 2 H sizeOf147 Z Z Z Z Z Z Z Z ?_; intro w12 H
  refine R_nil (N_DK (Kn.of' H hd6 (SubL.cons 4 Z SubL.nil)) (RD_done kR (N_K (q2 (aG Z (q3 (W_ret (rt1 results150 Z ?_))))))))
  have H := H.del (k := 4) rfl
  have H := H.toFront (k := 2) rfl
  have H := H.toFront (k := 3) rfl
  have H := H.toFront (k := 3) rfl
  have H := H.inF
  have H := H.toFront (k := 2) rfl
  have H := H.toFront (k := 2) rfl
  obtain ⟨Fs2, hp2, hN2⟩ := NdsO.ins (k := Nd.mk b9 nm3 x.dir x.ids []) (Sp.pl d3.kids nm3) ohNs (NdO.new hnml3 hsr8)
  have hcd := Nd.at_cnt (Nd.dirOf_some hdf3).2.2.1; have hcl := Nd.kids_le d3; have hpl := Sp.pl_le d3.kids nm3
  have hkl : (d3.kids.take (Sp.pl d3.kids nm3) ++ Nd.mk b9 nm3 x.dir x.ids [] :: d3.kids.drop (Sp.pl d3.kids nm3)).length = d3.kids.length + 1 := by (simp; omega)
  obtain ⟨F2, H, hN3, hb3⟩ := hclose (kids' := (d3.kids.take (Sp.pl d3.kids nm3) ++ Nd.mk b9 nm3 x.dir x.ids [] :: d3.kids.drop (Sp.pl d3.kids nm3))) (Fs' := Fs2) (by (rw [hkl]); exact H) (by (refine List.Perm.trans ?_ (List.Perm.append_right oR hp2.symm)); simp) hdo ohri hN2 oM
  have hins := Nd.ins_yes (nb := b9) hdf3 (by simpa using hc5')
  exact H.retM ⟨b9, _, _, by (rw [hins]; rfl), rfl, hN3, hb3, by (rw [hins]; rfl)⟩
 skip
 refine o_call call141 Z Z (l_Clone_c _ _ H.sub _ _ hr1 ) ?_
 rintro _ w13 ⟨G13, v13, _, g13, rfl, ⟨cs13, rfl, hchk13⟩, hp13, hq13, hs13⟩
 have H := H.growO g13 hp13 hq13 hs13; obtain ⟨av13, cv13, rfl⟩ := H.accShape (k := 0) rfl
 have ohri := ohri.up g13.le
 have ohNs := ohNs.up g13.le
 have hdo := hdo.trans g13.le
 have hd6 := hd6.trans g13.le
 refine ⟨_, Z, ?_⟩
 obtain ⟨G14, H, hsg14, hsr14⟩ := H.shutL (k := 0) rfl (H.apart (k := 0) (ks := [1, 2, 3]) rfl rfl (by intro b hb; rcases hcov b hb with h | h | h; (· exact fpsAt_mem (k := 1) rfl rfl b (by simp [blk, h])); (· exact fpsAt_mem (k := 2) rfl rfl b h); (· exact fpsAt_mem (k := 3) rfl rfl b h))) hchk13 aN aN
 have ohri := ohri.up hsg14
 have ohNs := ohNs.up hsg14
 have hdo := hdo.trans hsg14
 have hd6 := hd6.trans hsg14
 refine R_nil (N_DK (Kn.of' H hd6 (SubL.cons 3 Z SubL.nil)) (RD_t 12 Z kR Z (fun _ hK => v_build bf149 Z Z) ?_))
 refine RD_run [4, 13] kR Z (RDs.cons Z ?_ (RDs.cons Z ?_ RDs.nil))
 ·skip
  refine o_load_B 0 H isAgg147 Z Z Z Z (R_nil (N_DK (Kn.of' H hd6 (SubL.cons 3 Z SubL.nil)) ?_))
  refine RD_run [13] kR Z (RDs.cons Z ?_ RDs.nil)
  refine o_box H Z Z Z ?_; intro b15 w15 hb15 H
  refine R_nil (N_DK (Kn.of' H hd6 (SubL.cons 4 Z SubL.nil)) ?_)
  refine RD_run [14] kR Z (RDs.cons Z ?_ RDs.nil)
  refine o_buildSlice H underlying147 sizeOf97 (fun w => ⟨_, zeroValue97 w, Z⟩) Z Z Z Z Z Z Z ?_; intro b16 w16 hb16 H
  refine R_nil (N_DK (Kn.of' H hd6 (SubL.cons 5 Z SubL.nil)) ?_)
  refine RD_run [15] kR Z (RDs.cons Z ?_ RDs.nil)
  have H := H.toFront (k := 3) rfl
  refine o_call call186 Z Z (l_Insert_c _ _ H.sub _ _ _ (Sp.pl_le d3.kids nm3) oM _ (Nd.mk b15 nm3 x.dir x.ids []) H.lent2 ) ?_
  rintro _ w17 ⟨G17, _, _, rfl, H17', ⟨c17, rfl, rfl⟩⟩
  have ohri := ohri.up H17'.le
  have ohNs := ohNs.up H17'.le
  have hsr14 := hsr14.up H17'.le
  have hdo := hdo.trans H17'.le
  have hd6 := hd6.trans H17'.le
  have H := H.borrow2 H17'
  obtain ⟨avAk, cvAk, rfl⟩ := H.accShape (k := 0) rfl
  refine ⟨_, Z, ?_⟩
  refine R_nil (N_DK (Kn.of' H hd6 (SubL.cons 4 Z SubL.nil)) (RD_t 16 Z kR Z (fun _ hK => v_nilCheck Z) (RD_t 17 Z kR Z (fun _ hK => v_fieldAddr 3 runUnderlying149 Z sizeOf147 Z Z) ?_)))
  refine RD_run [18] kR Z (RDs.cons Z ?_ RDs.nil)
  refine o_store_B 2 H sizeOf147 Z Z Z Z Z Z Z Z ?_; intro w18 H
  refine R_nil (N_DK (Kn.of' H hd6 (SubL.cons 4 Z SubL.nil)) (RD_done kR (N_K (q2 (aG Z (q3 (W_ret (rt1 results150 Z ?_))))))))
  have H := H.del (k := 4) rfl
  have H := H.toFront (k := 2) rfl
  have H := H.toFront (k := 3) rfl
  have H := H.toFront (k := 3) rfl
  have H := H.inF
  have H := H.toFront (k := 2) rfl
  have H := H.toFront (k := 2) rfl
  obtain ⟨Fs2, hp2, hN2⟩ := NdsO.ins (k := Nd.mk b15 nm3 x.dir x.ids []) (Sp.pl d3.kids nm3) ohNs (NdO.new hnml3 hsr14)
  have hcd := Nd.at_cnt (Nd.dirOf_some hdf3).2.2.1; have hcl := Nd.kids_le d3; have hpl := Sp.pl_le d3.kids nm3
  have hkl : (d3.kids.take (Sp.pl d3.kids nm3) ++ Nd.mk b15 nm3 x.dir x.ids [] :: d3.kids.drop (Sp.pl d3.kids nm3)).length = d3.kids.length + 1 := by (simp; omega)
  obtain ⟨F2, H, hN3, hb3⟩ := hclose (kids' := (d3.kids.take (Sp.pl d3.kids nm3) ++ Nd.mk b15 nm3 x.dir x.ids [] :: d3.kids.drop (Sp.pl d3.kids nm3))) (Fs' := Fs2) (by (rw [hkl]); exact H) (by (refine List.Perm.trans ?_ (List.Perm.append_right oR hp2.symm)); simp) hdo ohri hN2 oM
  have hins := Nd.ins_yes (nb := b15) hdf3 (by simpa using hc5')
  exact H.retM ⟨b15, _, _, by (rw [hins]; rfl), rfl, hN3, hb3, by (rw [hins]; rfl)⟩
 skip
 refine o_box H Z Z Z ?_; intro b19 w19 hb19 H
 refine R_nil (N_DK (Kn.of' H hd6 (SubL.cons 4 Z SubL.nil)) ?_)
 refine RD_run [4, 14] kR Z (RDs.cons Z ?_ (RDs.cons Z ?_ RDs.nil))
 ·skip
  refine o_load_B 1 H isAgg147 Z Z Z Z (R_nil (N_DK (Kn.of' H hd6 (SubL.cons 4 Z SubL.nil)) ?_))
  refine RD_run [14] kR Z (RDs.cons Z ?_ RDs.nil)
  refine o_buildSlice H underlying147 sizeOf97 (fun w => ⟨_, zeroValue97 w, Z⟩) Z Z Z Z Z Z Z ?_; intro b20 w20 hb20 H
  refine R_nil (N_DK (Kn.of' H hd6 (SubL.cons 5 Z SubL.nil)) ?_)
  refine RD_run [15] kR Z (RDs.cons Z ?_ RDs.nil)
  have H := H.toFront (k := 3) rfl
  refine o_call call186 Z Z (l_Insert_c _ _ H.sub _ _ _ (Sp.pl_le d3.kids nm3) oM _ (Nd.mk b19 nm3 x.dir x.ids []) H.lent2 ) ?_
  rintro _ w21 ⟨G21, _, _, rfl, H21', ⟨c21, rfl, rfl⟩⟩
  have ohri := ohri.up H21'.le
  have ohNs := ohNs.up H21'.le
  have hsr14 := hsr14.up H21'.le
  have hdo := hdo.trans H21'.le
  have hd6 := hd6.trans H21'.le
  have H := H.borrow2 H21'
  obtain ⟨avAk, cvAk, rfl⟩ := H.accShape (k := 0) rfl
  refine ⟨_, Z, ?_⟩
  refine R_nil (N_DK (Kn.of' H hd6 (SubL.cons 4 Z SubL.nil)) (RD_t 16 Z kR Z (fun _ hK => v_nilCheck Z) (RD_t 17 Z kR Z (fun _ hK => v_fieldAddr 3 runUnderlying149 Z sizeOf147 Z Z) ?_)))
  refine RD_run [18] kR Z (RDs.cons Z ?_ RDs.nil)
  refine o_store_B 2 H sizeOf147 Z Z Z Z Z Z Z Z ?_; intro w22 H
  refine R_nil (N_DK (Kn.of' H hd6 (SubL.cons 4 Z SubL.nil)) (RD_done kR (N_K (q2 (aG Z (q3 (W_ret (rt1 results150 Z ?_))))))))
  have H := H.del (k := 4) rfl
  have H := H.toFront (k := 2) rfl
  have H := H.toFront (k := 3) rfl
  have H := H.toFront (k := 3) rfl
  have H := H.inF
  have H := H.toFront (k := 2) rfl
  have H := H.toFront (k := 2) rfl
  obtain ⟨Fs2, hp2, hN2⟩ := NdsO.ins (k := Nd.mk b19 nm3 x.dir x.ids []) (Sp.pl d3.kids nm3) ohNs (NdO.new hnml3 hsr14)
  have hcd := Nd.at_cnt (Nd.dirOf_some hdf3).2.2.1; have hcl := Nd.kids_le d3; have hpl := Sp.pl_le d3.kids nm3
  have hkl : (d3.kids.take (Sp.pl d3.kids nm3) ++ Nd.mk b19 nm3 x.dir x.ids [] :: d3.kids.drop (Sp.pl d3.kids nm3)).length = d3.kids.length + 1 := by (simp; omega)
  obtain ⟨F2, H, hN3, hb3⟩ := hclose (kids' := (d3.kids.take (Sp.pl d3.kids nm3) ++ Nd.mk b19 nm3 x.dir x.ids [] :: d3.kids.drop (Sp.pl d3.kids nm3))) (Fs' := Fs2) (by (rw [hkl]); exact H) (by (refine List.Perm.trans ?_ (List.Perm.append_right oR hp2.symm)); simp) hdo ohri hN2 oM
  have hins := Nd.ins_yes (nb := b19) hdf3 (by simpa using hc5')
  exact H.retM ⟨b19, _, _, by (rw [hins]; rfl), rfl, hN3, hb3, by (rw [hins]; rfl)⟩
 skip
 refine o_buildSlice H underlying147 sizeOf97 (fun w => ⟨_, zeroValue97 w, Z⟩) Z Z Z Z Z Z Z ?_; intro b23 w23 hb23 H
 refine R_nil (N_DK (Kn.of' H hd6 (SubL.cons 5 Z SubL.nil)) ?_)
 refine RD_run [4] kR Z (RDs.cons Z ?_ RDs.nil)
 refine o_load_B 2 H isAgg147 Z Z Z Z (R_nil (N_DK (Kn.of' H hd6 (SubL.cons 5 Z SubL.nil)) ?_))
 refine RD_run [15] kR Z (RDs.cons Z ?_ RDs.nil)
 have H := H.toFront (k := 3) rfl
 refine o_call call186 Z Z (l_Insert_c _ _ H.sub _ _ _ (Sp.pl_le d3.kids nm3) oM _ (Nd.mk b19 nm3 x.dir x.ids []) H.lent2 ) ?_
 rintro _ w24 ⟨G24, _, _, rfl, H24', ⟨c24, rfl, rfl⟩⟩
 have ohri := ohri.up H24'.le
 have ohNs := ohNs.up H24'.le
 have hsr14 := hsr14.up H24'.le
 have hdo := hdo.trans H24'.le
 have hd6 := hd6.trans H24'.le
 have H := H.borrow2 H24'
 obtain ⟨avAk, cvAk, rfl⟩ := H.accShape (k := 0) rfl
 refine ⟨_, Z, ?_⟩
 refine R_nil (N_DK (Kn.of' H hd6 (SubL.cons 4 Z SubL.nil)) (RD_t 16 Z kR Z (fun _ hK => v_nilCheck Z) (RD_t 17 Z kR Z (fun _ hK => v_fieldAddr 3 runUnderlying149 Z sizeOf147 Z Z) ?_)))
 refine RD_run [18] kR Z (RDs.cons Z ?_ RDs.nil)
 refine o_store_B 2 H sizeOf147 Z Z Z Z Z Z Z Z ?_; intro w25 H
 refine R_nil (N_DK (Kn.of' H hd6 (SubL.cons 4 Z SubL.nil)) (RD_done kR (N_K (q2 (aG Z (q3 (W_ret (rt1 results150 Z ?_))))))))
 have H := H.del (k := 4) rfl
 have H := H.toFront (k := 2) rfl
 have H := H.toFront (k := 3) rfl
 have H := H.toFront (k := 3) rfl
 have H := H.inF
 have H := H.toFront (k := 2) rfl
 have H := H.toFront (k := 2) rfl
 obtain ⟨Fs2, hp2, hN2⟩ := NdsO.ins (k := Nd.mk b19 nm3 x.dir x.ids []) (Sp.pl d3.kids nm3) ohNs (NdO.new hnml3 hsr14)
 have hcd := Nd.at_cnt (Nd.dirOf_some hdf3).2.2.1; have hcl := Nd.kids_le d3; have hpl := Sp.pl_le d3.kids nm3
 have hkl : (d3.kids.take (Sp.pl d3.kids nm3) ++ Nd.mk b19 nm3 x.dir x.ids [] :: d3.kids.drop (Sp.pl d3.kids nm3)).length = d3.kids.length + 1 := by (simp; omega)
 obtain ⟨F2, H, hN3, hb3⟩ := hclose (kids' := (d3.kids.take (Sp.pl d3.kids nm3) ++ Nd.mk b19 nm3 x.dir x.ids [] :: d3.kids.drop (Sp.pl d3.kids nm3))) (Fs' := Fs2) (by (rw [hkl]); exact H) (by (refine List.Perm.trans ?_ (List.Perm.append_right oR hp2.symm)); simp) hdo ohri hN2 oM
 have hins := Nd.ins_yes (nb := b19) hdf3 (by simpa using hc5')
 exact H.retM ⟨b19, _, _, by (rw [hins]; rfl), rfl, hN3, hb3, by (rw [hins]; rfl)⟩
end Go.Proofs.Tst

namespace Go.Proofs.Tst
open Go Fw Tryz
theorem i_openTree_c (w0 : World) (G0 : PH) (hG : PSub G0 w0) (vlist : Value) (list : List (BItem)) (hlist : RdItems G0 vlist list) (hLent : Lent w0 G0 [])  :
  Calls Tryz.prog 105 #[vlist] w0 (RetM w0 G0 [] (fun G' v Bs => (v = .tuple #[.pointer none, .bool false] ∧ Bs = [] ∧ Sp.TreeValid list = false) ∨ (∃ (T : Nd) (F : Fr), v = .tuple #[.pointer (some ⟨T.b, 0, none⟩), .bool true] ∧ Bs = [frag F] ∧ NdO 149 97 G' T F ∧ Nd.TOK T list ∧ Sp.TreeValid list = true))) := by
 obtain ⟨alist, klist, rfl⟩ := hlist.shape
 have hlimlist : list.length ≤ 1099511627776 := hlist.lim
 have H : Hp w0 G0 [] w0 G0 [] := hLent.hp
 refine calls_of_W (l := [.slice alist list.length klist]) func105 Z ntmps105 Z (q2 (aG Z (aG Z (q3 (W_seq (q2 (mV Z (o_len_slice underlying24 Z Z (o_gtr Z Z Z (q3 ?_))))))))))
 refine W_cond Z ?_ ?_
 ·intro hc1
  try simp only [nrm] at hc1
  refine q2 (aG Z (aG Z (q3 (W_ret (N_K_ret (rt2 results105 Z Z ?_))))))
  exact H.retM (.inl ⟨Z, Z, Nd.tv_long oM⟩)
 intro hc1'
 try simp only [nrm] at hc1'
 refine W_skip (N_K (q2 (o_build bf149 Z Z Z (o_box H Z Z Z ?_)))); intro b2 w2 hb2 H
 refine aG Z (q1 (aG Z (q3 (W_seq (q2 (mV Z (o_len_slice underlying24 Z Z (mV Z (q3 (W_block ?_))))))))))
 have H := H.addF
 have H := H.toFront (k := 1) rfl
 have H := H.inF
 have hN0 : NdO 149 97 G0 (Nd.mk b2 [] true [] []) _ := NdO.new (by simp) (RdS.nil _ _ _)
 refine W_lp (hf := (Sub.cons (t := 13) Z (Sub.cons (t := 14) Z Sub.nil))) (J := fun M w m => ∃ (k : Nat) (la : Bs) (T : Nd) (FT : Fr) (G : PH), M = [(15, .int .i64 (k : Int)), (5, str la), (4, .pointer (some ⟨T.b, 0, none⟩))] ∧ PLe G0 G ∧ Hp w0 G0 [] w G [frag FT] ∧ (k ≤ list.length ∧ la = Nd.lastPath list k ∧ la.length ≤ 16777216 ∧ NdO 149 97 G T FT ∧ Nd.TOK T (list.take k)) ∧ m = (list.length - k)) (h0 := ⟨0, [], (Nd.mk b2 [] true [] []), _, _, Z, PLe.refl _, H, ?inv, Z⟩) (round := ?round)
 case inv => exact ⟨by omega, rfl, by simp, hN0, Nd.tok_root _⟩
 case round =>
  rintro _ w3 _ ⟨k, la, T, FT, G3, rfl, hle3, H, hinv3, rfl⟩
  have hlist := hlist.up hle3
  obtain ⟨hk, hla, hlp, hNT, hTok⟩ := hinv3
  refine q2 (o_lss Z Z Z (q3 (W_seq ?_)))
  refine W_cond Z ?_ ?_
  ·intro hc4
   try simp only [nrm] at hc4
   refine W_skip (N_K (W_seq (W_block (q2 (o_index_P k hlist underlying24 sizeOf37 Z Z Z Z aN ?_))))); intro b5 o5 z5 q5 hz5 hE5 hrow5
   obtain ⟨a5, m5, c5, rfl, hi5, hr5⟩ := hE5; have hy_hi5 : _ ≤ 16777216 := hi5; have hn_hr5 := hr5.len; have hx_hr5 : _ ≤ 1099511627776 := hr5.lim
   refine o_loadagg_P H isAgg37 sizeOf37 Z Z hrow5 Z (o_alloc H zeroValue37 Z Z ?_); intro b6 w6 hb6 H
   refine o_store_B 0 H sizeOf37 Z Z Z Z Z Z Z Z ?_; intro w7 H
   refine q3 (W_seq (q2 (o_fieldAddr 0 runUnderlying37 Z sizeOf9 Z Z Z (o_load_B 0 H isAgg9 Z Z Z Z (mV Z (o_sleq Z Z Z (mV Z ?_)))))))
   refine R_case (t := 23) Z ?_ ?_
   ·intro hc8
    try simp only [nrm] at hc8
    refine rP Z (rP Z (rP Z (o_pick_t Z Z Z (mV Z (rP Z (rP Z (rP Z (rP Z (o_pick_t Z Z Z (q3 (W_true Z (q2 (aG Z (aG Z (q3 ?_)))))))))))))))
    refine W_ret (N_K_ret (N_B_ret (N_K_ret (N_LP_ret (N_B_ret (N_K_ret (rt2 results105 Z Z ?_)))))))
    have H := H.del (k := 0) rfl
    have H := H.del (k := 0) rfl
    exact H.retM (.inl ⟨rfl, rfl, Nd.tv_false 0 hTok hz5 (.inl (by (rw [← hla]); exact Nd.leq_no (by first | simpa using hc8 | (simp at hc8; exact hc8.symm))))⟩)
   intro hc8'
   try simp only [nrm] at hc8'
   refine gR Z (o_loadagg_B 0 H isAgg37 sizeOf37 Z Z Z Z Z (gR Z (o_call call149 Z Z (i_itemValid_c _ _ H.sub _ _ ⟨_, _, _, Z, hi5, hr5⟩ ) ?_)))
   rintro _ w9 ⟨rfl, ew9⟩; have H := H.step ew9; refine ⟨_, rfl, ?_⟩
   refine gR Z (o_not Z Z (o_pick_f Z Z Z (mV Z ?_)))
   refine R_case (t := 28) Z ?_ ?_
   ·intro hc10
    try simp only [nrm] at hc10
    refine rP Z (rP Z (rP Z (rP Z (o_pick_t Z Z Z (q3 (W_true Z (q2 (aG Z (aG Z (q3 (W_ret (N_K_ret (N_B_ret (N_K_ret (N_LP_ret ?_)))))))))))))))
    refine N_B_ret (N_K_ret (rt2 results105 Z Z ?_))
    have H := H.del (k := 0) rfl
    have H := H.del (k := 0) rfl
    exact H.retM (.inl ⟨rfl, rfl, Nd.tv_false 0 hTok hz5 (.inr (.inl (by simpa using hc10)))⟩)
   intro hc10'
   try simp only [nrm] at hc10'
   refine gR Z (mV Z (gR Z (o_loadagg_B 0 H isAgg37 sizeOf37 Z Z Z Z Z (gR Z ?_))))
   have H := H.toFront (k := 1) rfl
   refine o_call call150 Z Z (i_insert_c _ _ H.sub _ _ hNT _ _ ⟨_, _, _, Z, hi5, hr5⟩ H.lent1 hTok.wf (by have := hTok.cnt; simp at this; omega)) ?_
   rintro _ w11 ⟨G11, _, _, rfl, H11', ⟨nb11, F11, t11, rfl, rfl, hN11, hb11, ht11⟩⟩
   have hle3 := hle3.trans H11'.le
   have H := H.borrow1 H11'
   try rw [← hb11]
   refine ⟨_, Z, ?_⟩
   refine gR Z (o_not Z Z (o_pick_f Z Z Z (q3 ?_)))
   refine W_cond Z ?_ ?_
   ·intro hc12
    try simp only [nrm] at hc12
    refine q2 (aG Z (aG Z (q3 (W_ret (N_K_ret (N_B_ret (N_K_ret (N_LP_ret (N_B_ret (N_K_ret (rt2 results105 Z Z ?_)))))))))))
    have H := H.del (k := 0) rfl
    have H := H.del (k := 0) rfl
    exact H.retM (.inl ⟨rfl, rfl, Nd.tv_false nb11 hTok hz5 (.inr (.inr (by simpa using hc12)))⟩)
   intro hc12'
   try simp only [nrm] at hc12'
   refine W_skip (N_K (W_region (o_fieldAddr 0 runUnderlying37 Z sizeOf9 Z Z Z (o_load_B 1 H isAgg9 Z Z Z Z (aG Z (R_nil (N_B (N_K (W_region (o_add Z Z Z oO (mV Z (R_nil ?_))))))))))))
   have H := H.del (k := 1) rfl
   refine N_lp (hJ := ⟨k + 1, z5.path, t11, F11, _, Z, hle3, H, ?inv, Z⟩) (hm := ?hm)
   case hm => omega
   case inv => exact ⟨by omega, (Nd.lastPath_succ hz5).symm, by assumption, hN11, Nd.open_step hTok hz5 oM (by (rw [← hla]); exact Nd.leq_yes hc8'.1 hc8'.2) (by simpa using hc10') (Nd.getD_some ht11 (by simpa using hc12'))⟩
  intro hc4'
  try simp only [nrm] at hc4'
  refine W_exit (N_K_exit (N_LP_exit (N_B_same (N_K (q2 (mV Z (aG Z (aG Z (q3 (W_ret (rt2 results105 Z Z ?_)))))))))))
  have hTl : Nd.TOK T list := by (have h9 := hTok; rw [List.take_of_length_le oM] at h9; exact h9)
  exact H.retM (.inr ⟨T, _, Z, Z, hNT, hTl, hTl.valid⟩)
end Go.Proofs.Tst

namespace Go.Proofs.Tst
open Go Fw Tryz
theorem i_keep_c (w0 : World) (G0 : PH) (hG : PSub G0 w0) (mbs : Nat) (ess : Array MapEntry) (cks : Nat) (xss : List (Int × Value)) (Ls : List BHeld) (hms : MapIs (Value.int .i64) ess cks xss) (hSs : StR G0 xss Ls) (hVs : Sp.VH Ls) (id : Int) (hLent : Lent w0 G0 [blk mbs (.map ess cks)])  :
  Calls Tryz.prog 182 #[.map (some mbs), .int .i64 id] w0 (RetM w0 G0 [mbs] (fun G' v Bs => ∃ (es' : Array MapEntry) (ck' : Nat) (xs' : List (Int × Value)) (L' : List BHeld), v = .bool (Sp.StoreKeep Ls id).isSome ∧ Bs = [blk mbs (.map es' ck')] ∧ MapIs (Value.int .i64) es' ck' xs' ∧ StR G' xs' L' ∧ Sp.VH L' ∧ L' = (Sp.StoreKeep Ls id).getD Ls)) := by
 have H : Hp w0 G0 [mbs] w0 G0 [blk mbs (.map ess cks)] := hLent.hp
 refine calls_of_W (l := [.map (some mbs), .int .i64 id]) func182 Z ntmps182 Z (q2 (aG Z (q1 (mV Z (mV Z (o_lookS2 (H.at (k := 0) Z) hms hSs underlying96 underlying3 zeroValue105 Z Z Z ?_)))))); intro q1 hE1
 obtain ⟨a1, m1, c1, rfl, hi1, hr1, hj1⟩ := hE1; have hn_hr1 := hr1.len; have hx_hr1 : _ ≤ 1099511627776 := hr1.lim
 have hfnd : True := trivial
 refine mV Z (o_extract Z Z Z (o_extract Z Z Z (o_alloc H zeroValue105 Z Z ?_))); intro b2 w2 hb2 H
 refine o_store_B 0 H sizeOf105 Z Z Z Z Z Z Z Z ?_; intro w3 H
 refine aG Z (q3 (W_seq (q2 (mV Z (o_not Z Z (mV Z ?_))))))
 refine R_case (t := 15) Z ?_ ?_
 ·intro hc4
  try simp only [nrm] at hc4
  refine rP Z (rP Z (rP Z (o_pick_t Z Z Z (q3 (W_true Z (q2 (aG Z (q3 (W_ret (N_K_ret (rt1 results182 Z ?_)))))))))))
  have H := H.del (k := 0) rfl
  exact H.retM ⟨_, _, _, _, congrArg Value.bool (by rw [Sp.keep_no hVs (.inl (by simpa using hc4))]; rfl), rfl, hms, hSs, hVs, by rw [Sp.keep_no hVs (.inl (by simpa using hc4))]; rfl⟩
 intro hc4'
 try simp only [nrm] at hc4'
 have hfd : (Sp.atH Ls id).isSome = true := by simpa using hc4'
 have hgo := Sp.get_ok hVs hfd
 refine gR Z (o_fieldAddr 2 runUnderlying105 Z sizeOf3 Z Z Z (gR Z (o_load_B 0 H isAgg3 Z Z Z Z (gR Z (o_geq Z Z Z (o_pick_f Z Z Z (q3 ?_)))))))
 refine W_cond Z ?_ ?_
 ·intro hc5
  try simp only [nrm] at hc5
  refine q2 (aG Z (q3 (W_ret (N_K_ret (rt1 results182 Z ?_)))))
  have H := H.del (k := 0) rfl
  exact H.retM ⟨_, _, _, _, congrArg Value.bool (by rw [Sp.keep_no hVs (.inr oM)]; rfl), rfl, hms, hSs, hVs, by rw [Sp.keep_no hVs (.inr oM)]; rfl⟩
 intro hc5'
 try simp only [nrm] at hc5'
 have hkg := Sp.keep_get hVs hfd oM
 refine W_skip (N_K (q2 (o_fieldAddr 2 runUnderlying105 Z sizeOf3 Z Z Z (o_load_B 0 H isAgg3 Z Z Z Z (o_add Z Z Z oO (o_fieldAddr 2 runUnderlying105 Z sizeOf3 Z Z Z (o_store_B 0 H sizeOf3 Z Z Z Z Z Z Z Z ?_))))))); intro w7 H
 refine q1 (mV Z (mV Z (o_loadagg_B 0 H isAgg105 sizeOf105 Z Z Z Z Z ?_)))
 refine o_updS 1 H ⟨(getH Ls id).id, (getH Ls id).bytes, (getH Ls id).uses + 1⟩ Z hms hSs underlying96 underlying3 Z Z Z (show heldE G0 ⟨(getH Ls id).id, (getH Ls id).bytes, (getH Ls id).uses + 1⟩ _ from ⟨_, _, _, Z, ⟨by first | omega | (dsimp only; omega), by first | omega | (dsimp only; omega)⟩, hr1, ⟨by first | omega | (dsimp only; omega), by first | omega | (dsimp only; omega)⟩⟩) (by exact Sp.get_id hfd) ?_; intro es8 ck8 xs8 w8 H hm8 hS8
 refine q1 (aG Z (q3 (W_ret (rt1 results182 Z ?_))))
 have H := H.del (k := 0) rfl
 exact H.retM ⟨_, _, _, _, congrArg Value.bool (by rw [hkg.1]; rfl), rfl, hm8, hS8, hkg.2, by rw [hkg.1]; rfl⟩
theorem i_drop_c (w0 : World) (G0 : PH) (hG : PSub G0 w0) (mbs : Nat) (ess : Array MapEntry) (cks : Nat) (xss : List (Int × Value)) (Ls : List BHeld) (hms : MapIs (Value.int .i64) ess cks xss) (hSs : StR G0 xss Ls) (hVs : Sp.VH Ls) (id : Int) (hLent : Lent w0 G0 [blk mbs (.map ess cks)])  :
  Calls Tryz.prog 163 #[.map (some mbs), .int .i64 id] w0 (RetM w0 G0 [mbs] (fun G' v Bs => ∃ (es' : Array MapEntry) (ck' : Nat) (xs' : List (Int × Value)) (L' : List BHeld), v = .bool (Sp.StoreDrop Ls id).isSome ∧ Bs = [blk mbs (.map es' ck')] ∧ MapIs (Value.int .i64) es' ck' xs' ∧ StR G' xs' L' ∧ Sp.VH L' ∧ L' = (Sp.StoreDrop Ls id).getD Ls)) := by
 have H : Hp w0 G0 [mbs] w0 G0 [blk mbs (.map ess cks)] := hLent.hp
 refine calls_of_W (l := [.map (some mbs), .int .i64 id]) func163 Z ntmps163 Z (q2 (aG Z (q1 (mV Z (mV Z (o_lookS2 (H.at (k := 0) Z) hms hSs underlying96 underlying3 zeroValue105 Z Z Z ?_)))))); intro q1 hE1
 obtain ⟨a1, m1, c1, rfl, hi1, hr1, hj1⟩ := hE1; have hn_hr1 := hr1.len; have hx_hr1 : _ ≤ 1099511627776 := hr1.lim
 refine mV Z (o_extract Z Z Z (o_extract Z Z Z (o_alloc H zeroValue105 Z Z ?_))); intro b2 w2 hb2 H
 refine o_store_B 0 H sizeOf105 Z Z Z Z Z Z Z Z ?_; intro w3 H
 refine aG Z (q3 (W_seq (q2 (mV Z (o_not Z Z (q3 ?_))))))
 refine W_cond Z ?_ ?_
 ·intro hc4
  try simp only [nrm] at hc4
  refine q2 (aG Z (q3 (W_ret (N_K_ret (rt1 results163 Z ?_)))))
  have H := H.del (k := 0) rfl
  exact H.retM ⟨_, _, _, _, congrArg Value.bool (by rw [Sp.drop_no (by simpa using hc4)]; rfl), rfl, hms, hSs, hVs, by rw [Sp.drop_no (by simpa using hc4)]; rfl⟩
 intro hc4'
 try simp only [nrm] at hc4'
 have hfd : (Sp.atH Ls id).isSome = true := by simpa using hc4'
 have hgo := Sp.get_ok hVs hfd
 refine W_skip (N_K (W_seq (q2 (o_fieldAddr 2 runUnderlying105 Z sizeOf3 Z Z Z (o_load_B 0 H isAgg3 Z Z Z Z (o_eql Z Z Z (q3 ?_)))))))
 refine W_cond Z ?_ ?_
 ·intro hc5
  try simp only [nrm] at hc5
  have hkg := Sp.drop_get1 hVs hfd hc5
  refine q2 (mV Z (mV Z (o_delS 1 H Z hms hSs underlying96 underlying3 Z Z ?_))); intro es6 ck6 xs6 w6 H hm6 hS6
  refine q1 (aG Z (q3 (W_ret (N_K_ret (rt1 results163 Z ?_)))))
  have H := H.del (k := 0) rfl
  exact H.retM ⟨_, _, _, _, congrArg Value.bool (by rw [hkg.1]; rfl), rfl, hm6, hS6, hkg.2, by rw [hkg.1]; rfl⟩
 intro hc5'
 try simp only [nrm] at hc5'
 have hkg := Sp.drop_get2 hVs hfd hc5'
 refine W_skip (N_K (q2 (o_fieldAddr 2 runUnderlying105 Z sizeOf3 Z Z Z (o_load_B 0 H isAgg3 Z Z Z Z (o_sub Z Z Z oO (o_fieldAddr 2 runUnderlying105 Z sizeOf3 Z Z Z (o_store_B 0 H sizeOf3 Z Z Z Z Z Z Z Z ?_))))))); intro w8 H
 refine q1 (mV Z (mV Z (o_loadagg_B 0 H isAgg105 sizeOf105 Z Z Z Z Z ?_)))
 refine o_updS 1 H ⟨(getH Ls id).id, (getH Ls id).bytes, (getH Ls id).uses - 1⟩ Z hms hSs underlying96 underlying3 Z Z Z (show heldE G0 ⟨(getH Ls id).id, (getH Ls id).bytes, (getH Ls id).uses - 1⟩ _ from ⟨_, _, _, Z, ⟨by first | omega | (dsimp only; omega), by first | omega | (dsimp only; omega)⟩, hr1, ⟨by first | omega | (dsimp only; omega), by first | omega | (dsimp only; omega)⟩⟩) (by exact Sp.get_id hfd) ?_; intro es9 ck9 xs9 w9 H hm9 hS9
 refine q1 (aG Z (q3 (W_ret (rt1 results163 Z ?_))))
 have H := H.del (k := 0) rfl
 exact H.retM ⟨_, _, _, _, congrArg Value.bool (by rw [hkg.1]; rfl), rfl, hm9, hS9, hkg.2, by rw [hkg.1]; rfl⟩
theorem i_find_c (w0 : World) (G0 : PH) (hG : PSub G0 w0) (mbs : Nat) (ess : Array MapEntry) (cks : Nat) (xss : List (Int × Value)) (Ls : List BHeld) (hbs : MapAt G0 mbs ess cks) (hms : MapIs (Value.int .i64) ess cks xss) (hSs : StR G0 xss Ls) (hVs : Sp.VH Ls) (vbytes : Value) (bytes : List (Int)) (hbytes : RdI G0 vbytes bytes)  :
  Calls Tryz.prog 194 #[.map (some mbs), vbytes] w0 (Rets w0 (.int .i64 (Sp.findId Ls bytes))) := by
 obtain ⟨abytes, kbytes, rfl⟩ := hbytes.shape
 have hlimbytes : bytes.length ≤ 1099511627776 := hbytes.lim
 have H := Hp.init hG
 refine calls_of_W (l := [.map (some mbs), .slice abytes bytes.length kbytes]) func194 Z ntmps194 Z (q2 (aG Z (q3 (W_seq (q2 (mV Z ?_))))))
 have hmb1 := (hbs.at H.sub); refine o_range H hmb1 underlying96 rfl rfl ?_; intro r1 w1 hr1 H _; have hne1 : r1 ≠ mbs := fun e => by have := (Array.getElem?_eq_some_iff.1 hmb1).1; omega
 refine q3 (W_block ?_)
 refine W_lp (hf := (Sub.cons (t := 1) Z (Sub.cons (t := 8) Z Sub.nil))) (J := fun M w m => ∃  (sn : Array Nat) (G : PH), M = [] ∧ PLe G0 G ∧ Hp w0 G0 [] w G [blk r1 (.mapIter (some mbs) cks sn cks)] ∧ (∀ y, y ∈ Ls → seenH ess sn y → Sp.l2Same y.bytes bytes = false) ∧ m = ((leftOf ess sn).size)) (h0 := ⟨#[], _, Z, PLe.refl _, H, ?inv, Z⟩) (round := ?round)
 case inv => rintro y hy ⟨e, _, _, he⟩; simp at he
 case round =>
  rintro _ w2 _ ⟨sn, G2, rfl, hle2, H, hinv2, rfl⟩
  have hSs := hSs.up hle2
  have hbs := hbs.up hle2
  have hbytes := hbytes.up hle2
  have hsn := hinv2
  refine q2 ?_
  refine o_next 0 H (hbs.at H.sub) hms hSs Z hne1 Z Z ?_ ?_
  ·intro hall3
   refine o_extract Z Z Z (q3 (W_seq (W_false Z (W_exit (N_K_exit (N_LP_exit (N_B_same (N_K (q2 (aG Z (q3 (W_ret (rt1 results194 Z ?_)))))))))))))
   exact H.rets (congrArg (Value.int .i64) (by rw [Sp.findId_none (fun y hy => hsn y hy (hall3 y hy))]))
  intro e3 y3 q3 w3 he3 hk3 hv3 hy3 hE3 _ hless3 H
  obtain ⟨a3, m3, c3, rfl, hi3, hr3, hj3⟩ := hE3; have hn_hr3 := hr3.len; have hx_hr3 : _ ≤ 1099511627776 := hr3.lim
  refine o_extract Z Z Z (q3 (W_seq (W_true Z (W_skip (N_K (W_block (q2 (o_entry 0 H (hbs.at H.sub) hms Z he3 hk3 hv3 Z Z (o_extract Z Z Z (o_extract Z Z Z (o_alloc H zeroValue105 Z Z ?_))))))))))); intro b4 w4 hb4 H
  refine aG Z (o_store_B 0 H sizeOf105 Z Z Z Z Z Z Z Z ?_); intro w5 H
  refine q1 (o_fieldAddr 1 runUnderlying105 Z sizeOf33 Z Z Z (o_load_B 0 H isAgg33 Z Z Z Z (mV Z (o_call call189 Z Z (l_Equal_c _ _ H.sub _ _ hr3 _ _ hbytes ) ?_))))
  rintro _ w6 ⟨rfl, ew6⟩; have H := H.step ew6; refine ⟨_, rfl, ?_⟩
  refine q3 ?_
  refine W_cond Z ?_ ?_
  ·intro hc7
   try simp only [nrm] at hc7
   refine q2 (mV Z (aG Z (q3 (W_ret (N_B_ret (N_LP_ret (N_B_ret (N_K_ret (rt1 results194 Z ?_)))))))))
   exact H.rets (congrArg (Value.int .i64) (by rw [Sp.findId_some hVs hy3 hc7]))
  intro hc7'
  try simp only [nrm] at hc7'
  refine W_skip (N_B ?_)
  have H := H.del (k := 0) rfl
  refine N_lp (hJ := ⟨_, _, Z, hle2, H, ?inv, Z⟩) (hm := ?hm)
  case hm => exact hless3
  case inv => intro y hy hs; rcases seenH_push hms (hSs.nd hms) he3 hk3 hy3 hy hs with rfl | h; (· exact hc7'); exact hsn y hy h
theorem i_put_c (w0 : World) (G0 : PH) (hG : PSub G0 w0) (mbs : Nat) (ess : Array MapEntry) (cks : Nat) (xss : List (Int × Value)) (Ls : List BHeld) (hms : MapIs (Value.int .i64) ess cks xss) (hSs : StR G0 xss Ls) (hVs : Sp.VH Ls) (vbytes : Value) (bytes : List (Int)) (hbytes : RdI G0 vbytes bytes) (hLent : Lent w0 G0 [blk mbs (.map ess cks)]) (hB : Sp.BlockValid bytes = true) :
  Calls Tryz.prog 161 #[.map (some mbs), vbytes] w0 (RetM w0 G0 [mbs] (fun G' v Bs => ∃ (es' : Array MapEntry) (ck' : Nat) (xs' : List (Int × Value)) (L' : List BHeld) (i : Int), v = .tuple #[.int .i64 i, .bool (Sp.StorePut Ls bytes).isSome] ∧ Bs = [blk mbs (.map es' ck')] ∧ MapIs (Value.int .i64) es' ck' xs' ∧ StR G' xs' L' ∧ Sp.VH L' ∧ L' = ((Sp.StorePut Ls bytes).map (·.1)).getD Ls ∧ inI i ∧ ∀ r, Sp.StorePut Ls bytes = some r → r.2 = i)) := by
 obtain ⟨abytes, kbytes, rfl⟩ := hbytes.shape
 have hlimbytes : bytes.length ≤ 1099511627776 := hbytes.lim
 have hfin := Sp.findId_in hVs bytes
 have H : Hp w0 G0 [mbs] w0 G0 [blk mbs (.map ess cks)] := hLent.hp
 refine calls_of_W (l := [.map (some mbs), .slice abytes bytes.length kbytes]) func161 Z ntmps161 Z (q2 (aG Z (aG Z (q3 (W_seq (q2 (mV Z (mV Z (o_call call194 Z Z (i_find_c _ _ (H.lendSubL [0]) _ _ _ _ _ (H.lendPredL (k := 0) (ks := [0]) Z Z) hms (hSs.up (PPlus.le _ _ _)) hVs _ _ (hbytes.up (PPlus.le _ _ _)) ) ?_)))))))))
 rintro _ w1 ⟨rfl, ew1⟩; have H := H.step ew1; refine ⟨_, rfl, ?_⟩
 refine aG Z (q1 (mV Z (o_neq Z Z Z (q3 ?_))))
 refine W_cond Z ?_ ?_
 ·intro hc2
  try simp only [nrm] at hc2
  obtain ⟨pi, px, hp1, hp2, hp3⟩ := Sp.findId_ne hVs hc2
  have hpo := Sp.put_old hVs hB hp1 hp2
  rw [← hp3] at hpo
  refine q2 (mV Z (mV Z (mV Z (o_call call182 Z Z (i_keep_c _ _ H.sub _ _ _ _ _ hms hSs hVs _ H.lent1 ) ?_))))
  rintro _ w3 ⟨G3, _, _, rfl, H3', ⟨es3, ck3, xs3, L3, rfl, rfl, hm3, hS3, hV3, hL3⟩⟩
  have H := H.borrow1 H3'
  refine ⟨_, Z, ?_⟩
  refine aG Z (aG Z (q3 (W_ret (N_K_ret (rt2 results161 Z Z ?_)))))
  exact H.retM ⟨_, _, _, _, Sp.findId Ls bytes, congrArg (fun b => Value.tuple #[Value.int .i64 (Sp.findId Ls bytes), Value.bool b]) (by rw [hpo, Option.isSome_map]), rfl, hm3, hS3, hV3, (by rw [hL3, hpo]; cases Sp.StoreKeep Ls (Sp.findId Ls bytes) <;> rfl), oO, fun r hr => by rw [hpo] at hr; cases hk : Sp.StoreKeep Ls (Sp.findId Ls bytes) with | none => rw [hk] at hr; cases hr | some l => (rw [hk] at hr; cases hr; rfl)⟩
 intro hc2'
 try simp only [nrm] at hc2'
 have hnl := Sp.findId_eq hVs hc2'
 refine W_skip (N_K (W_seq (q2 (mV Z ?_))))
 have hml4 := hSs.len
 refine o_lenM (H.at (k := 0) Z) hms underlying96 Z Z (o_geq Z Z Z (q3 ?_))
 refine W_cond Z ?_ ?_
 ·intro hc5
  try simp only [nrm] at hc5
  refine q2 (aG Z (aG Z (q3 (W_ret (N_K_ret (rt2 results161 Z Z ?_))))))
  exact H.retM ⟨_, _, _, _, 0, congrArg (fun b => Value.tuple #[Value.int .i64 (0), Value.bool b]) (by rw [Sp.put_full hnl oM]; rfl), rfl, hms, hSs, hVs, (by rw [Sp.put_full hnl oM]; rfl), by decide, fun r hr => by rw [Sp.put_full hnl oM] at hr; cases hr⟩
 intro hc5'
 try simp only [nrm] at hc5'
 refine W_skip (N_K (q2 (aG Z (q3 (W_seq (W_block ?_))))))
 refine W_lp (hf := (Sub.cons (t := 0) Z (Sub.cons (t := 1) Z (Sub.cons (t := 4) Z (Sub.cons (t := 5) Z Sub.nil))))) (J := fun M w m => ∃ (k : Nat) (G : PH), M = [(7, .int .i64 ((k : Int) + 1))] ∧ PLe G0 G ∧ Hp w0 G0 [mbs] w G [blk mbs (.map ess cks)] ∧ (∀ j : Nat, j < k → (Sp.atH Ls ((j : Int) + 1)).isSome = true) ∧ m = (Ls.length + 1 - k)) (h0 := ⟨0, _, Z, PLe.refl _, H, ?inv, Z⟩) (round := ?round)
 case inv => exact fun j hj => by omega
 case round =>
  rintro _ w6 _ ⟨k, G6, rfl, hle6, H, hinv6, rfl⟩
  have hSs := hSs.up hle6
  have hbytes := hbytes.up hle6
  have hall := hinv6; have hkl := Sp.free_le hall; have hv16 := hVs.len
  refine W_seq (q2 (mV Z (mV Z (o_lookS (H.at (k := 0) Z) hms hSs underlying96 underlying3 zeroValue105 Z Z Z ?_)))); intro q7 hE7
  obtain ⟨a7, m7, c7, rfl, hi7, hr7, hj7⟩ := hE7; have hn_hr7 := hr7.len; have hx_hr7 : _ ≤ 1099511627776 := hr7.lim
  refine o_field 2 runUnderlying105 Z Z Z isAgg3 Z Z Z (o_neq Z Z Z (q3 ?_))
  refine W_cond Z ?_ ?_
  ·intro hc8
   try simp only [nrm] at hc8
   refine W_skip (N_K (W_block (W_region (mV Z (o_add Z Z Z oO (aG Z (R_nil (N_B ?_))))))))
   refine N_lp (hJ := ⟨k + 1, _, Z, hle6, H, ?inv, Z⟩) (hm := ?hm)
   case hm => omega
   case inv => exact Sp.upto_succ (p := fun j : Nat => (Sp.atH Ls ((j : Int) + 1)).isSome) hall (Sp.uses_some hc8)
  intro hc8'
  try simp only [nrm] at hc8'
  refine W_exit (N_K_exit (N_LP_exit (N_B_same (N_K (q2 (mV Z (mV Z (mV Z (mV Z (o_call call141 Z Z (l_Clone_c _ _ H.sub _ _ hbytes ) ?_))))))))))
  rintro _ w10 ⟨G10, v10, _, g10, rfl, ⟨cs10, rfl, hchk10⟩, hp10, hq10, hs10⟩
  have H := H.growO g10 hp10 hq10 hs10; obtain ⟨av10, cv10, rfl⟩ := H.accShape (k := 0) rfl
  have hSs := hSs.up g10.le
  refine ⟨_, Z, ?_⟩
  refine o_build bf105 Z Z Z ?_
  obtain ⟨G12, H, hsg12, hsr12⟩ := H.shutL (k := 0) rfl (H.apart (k := 0) (ks := [1]) rfl rfl (by intro b hb; simpa [fpsAt, nth, blk] using hb)) hchk10 aN aN
  have hSs := hSs.up hsg12
  refine o_updS 0 H ⟨(k : Int) + 1, bytes, 1⟩ Z hms hSs underlying96 underlying3 Z Z Z (show heldE G12 ⟨(k : Int) + 1, bytes, 1⟩ _ from ⟨_, _, _, Z, ⟨by first | omega | (dsimp only; omega), by first | omega | (dsimp only; omega)⟩, hsr12, ⟨by first | omega | (dsimp only; omega), by first | omega | (dsimp only; omega)⟩⟩) rfl ?_; intro es11 ck11 xs11 w11 H hm11 hS11
  refine q1 (mV Z (aG Z (aG Z (q3 (W_ret (rt2 results161 Z Z ?_))))))
  have hfe := Sp.free_eq hall (Sp.uses_none hVs (by simpa using hc8'))
  have hpn := Sp.put_new hVs hB hnl oM
  exact H.retM ⟨_, _, _, _, (k : Int) + 1, congrArg (fun b => Value.tuple #[Value.int .i64 ((k : Int) + 1), Value.bool b]) (by rw [hpn]; rfl), rfl, hm11, (hS11.perm (Sp.put_perm bytes hfe)), Sp.with_valid hVs hB hnl oM, (by rw [hpn]; rfl), oO, fun r hr => by rw [hpn] at hr; cases hr; simp only []; omega⟩
end Go.Proofs.Tst

namespace Go.Proofs.Tst
open Go Fw Tryz
theorem i_fileIds_c (w0 : World) (G0 : PH) (hG : PSub G0 w0) (mbs : Nat) (ess : Array MapEntry) (cks : Nat) (xss : List (Int × Value)) (Ls : List BHeld) (hbs : MapAt G0 mbs ess cks) (hms : MapIs (Value.int .i64) ess cks xss) (hSs : StR G0 xss Ls) (hVs : Sp.VH Ls) (vids : Value) (ids : List (Int)) (hids : RdI G0 vids ids)  :
  Calls Tryz.prog 154 #[.map (some mbs), vids] w0 (Rets w0 (.bool (Sp.l4Ids Ls ids))) := by
 obtain ⟨aids, kids, rfl⟩ := hids.shape
 have hlimids : ids.length ≤ 1099511627776 := hids.lim
 have H := Hp.init hG
 refine calls_of_W (l := [.map (some mbs), .slice aids ids.length kids]) func154 Z ntmps154 Z (q2 (aG Z (q3 (W_seq (q2 (mV Z (o_len_slice underlying33 Z Z (o_gtr Z Z Z (q3 ?_)))))))))
 refine W_cond Z ?_ ?_
 ·intro hc1
  try simp only [nrm] at hc1
  refine q2 (aG Z (q3 (W_ret (N_K_ret (rt1 results154 Z ?_)))))
  exact H.rets (congrArg Value.bool (by rw [Sp.ids_long oM]))
 intro hc1'
 try simp only [nrm] at hc1'
 refine W_skip (N_K (W_seq (q2 (mV Z (o_len_slice underlying33 Z Z (mV Z (q3 (W_block ?_))))))))
 refine W_lp (hf := (Sub.cons (t := 0) Z (Sub.cons (t := 1) Z (Sub.cons (t := 12) Z (Sub.cons (t := 13) Z Sub.nil))))) (J := fun M w m => ∃ (k : Nat) (G : PH), M = [(14, .int .i64 (k : Int))] ∧ PLe G0 G ∧ Hp w0 G0 [] w G [] ∧ (k ≤ ids.length ∧ ∀ j, j < k → Sp.idsOk Ls ids j = true) ∧ m = (ids.length - k)) (h0 := ⟨0, _, Z, PLe.refl _, H, ?inv, Z⟩) (round := ?round)
 case inv => exact ⟨by omega, fun j hj => by omega⟩
 case round =>
  rintro _ w2 _ ⟨k, G2, rfl, hle2, H, hinv2, rfl⟩
  have hSs := hSs.up hle2
  have hbs := hbs.up hle2
  have hids := hids.up hle2
  obtain ⟨hk, hall⟩ := hinv2
  refine q2 (o_lss Z Z Z (q3 (W_seq ?_)))
  refine W_cond Z ?_ ?_
  ·intro hc3
   try simp only [nrm] at hc3
   refine W_skip (N_K (W_seq (W_block (q2 (mV Z (o_index_P k hids underlying33 sizeOf3 Z Z Z Z aN ?_)))))); intro b4 o4 z4 q4 hz4 hE4 hrow4
   obtain ⟨rfl, hi4⟩ := hE4
   refine o_load_P H isAgg3 Z Z (hrow4 0 _ Z) (aG Z (aG Z (q1 (mV Z (mV Z (o_lookS2 (hbs.at H.sub) hms hSs underlying96 underlying3 zeroValue105 Z Z Z ?_)))))); intro q5 hE5
   obtain ⟨a5, m5, c5, rfl, hi5, hr5, hj5⟩ := hE5; have hn_hr5 := hr5.len; have hx_hr5 : _ ≤ 1099511627776 := hr5.lim
   refine mV Z (o_extract Z Z Z (o_extract Z Z Z (o_alloc H zeroValue105 Z Z ?_))); intro b6 w6 hb6 H
   refine o_store_B 0 H sizeOf105 Z Z Z Z Z Z Z Z ?_; intro w7 H
   refine aG Z (q1 (mV Z (o_not Z Z (mV Z ?_))))
   refine R_case (t := 27) Z ?_ ?_
   ·intro hc8
    try simp only [nrm] at hc8
    refine rP Z (rP Z (rP Z (rP Z (rP Z (rP Z (R_pass Z (yl_un Z Z) (R_pass Z (yl_un Z Z) (R_pass Z (yl_un Z Z) (R_pass Z (yl_un Z Z) (rP Z (o_pick_t Z Z Z (q3 (W_true Z (q2 (aG Z ?_)))))))))))))))
    refine q3 (W_ret (N_B_ret (N_K_ret (N_LP_ret (N_B_ret (N_K_ret (rt1 results154 Z ?_)))))))
    exact H.rets (congrArg Value.bool (by rw [Sp.ids_false (k := k) oM (by exact Sp.idsOk_no hz4 (by simpa using hc8))]))
   intro hc8'
   try simp only [nrm] at hc8'
   have hfd : (Sp.atH Ls z4).isSome = true := by simpa using hc8'
   have hbl := Sp.bv_len (Sp.get_ok hVs hfd).2.1
   have hio := Sp.idsOk_get hz4 hfd
   refine gR Z (mV Z (gR Z (mV Z (gR Z (o_len_slice underlying33 Z Z (gR Z (o_sub Z Z Z oO (gR Z (o_lss Z Z Z (gR Z (mV Z ?_)))))))))))
   refine R_case (t := 33) Z ?_ ?_
   ·intro hc10
    try simp only [nrm] at hc10
    refine gR Z (o_fieldAddr 1 runUnderlying105 Z sizeOf33 Z Z Z (gR Z (o_load_B 0 H isAgg33 Z Z Z Z (gR Z (o_len_slice underlying33 Z Z (gR Z (o_neq Z Z Z (gR Z (o_pick_t Z Z Z (o_pick_f Z Z Z (q3 ?_)))))))))))
    refine W_cond Z ?_ ?_
    ·intro hc11
     try simp only [nrm] at hc11
     refine q2 (aG Z (q3 (W_ret (N_B_ret (N_K_ret (N_LP_ret (N_B_ret (N_K_ret (rt1 results154 Z ?_)))))))))
     exact H.rets (congrArg Value.bool (by rw [Sp.ids_false (k := k) oM (by rw [hio]; simp; omega)]))
    intro hc11'
    try simp only [nrm] at hc11'
    refine W_skip (N_B (N_K (W_region (o_add Z Z Z oO (mV Z (R_nil ?_))))))
    have H := H.del (k := 0) rfl
    refine N_lp (hJ := ⟨k + 1, _, Z, hle2, H, ?inv, Z⟩) (hm := ?hm)
    case hm => omega
    case inv => exact ⟨by omega, Sp.upto_succ hall (by rw [hio]; simp; omega)⟩
   intro hc10'
   try simp only [nrm] at hc10'
   refine rP Z (rP Z (rP Z (rP Z (gR Z (o_pick_f Z Z Z (o_pick_f Z Z Z (q3 (W_false Z (W_skip (N_B (N_K (W_region (o_add Z Z Z oO (mV Z (R_nil ?_)))))))))))))))
   have H := H.del (k := 0) rfl
   refine N_lp (hJ := ⟨k + 1, _, Z, hle2, H, ?inv, Z⟩) (hm := ?hm)
   case hm => omega
   case inv => exact ⟨by omega, Sp.upto_succ hall (by rw [hio]; simp; omega)⟩
  intro hc3'
  try simp only [nrm] at hc3'
  refine W_exit (N_K_exit (N_LP_exit (N_B_same (N_K (q2 (aG Z (q3 (W_ret (rt1 results154 Z ?_)))))))))
  exact H.rets (congrArg Value.bool (by rw [Sp.ids_true (fun j hj => hall j oM) oM]))
theorem i_loadFile_c (w0 : World) (G0 : PH) (hG : PSub G0 w0) (mbs : Nat) (ess : Array MapEntry) (cks : Nat) (xss : List (Int × Value)) (Ls : List BHeld) (hbs : MapAt G0 mbs ess cks) (hms : MapIs (Value.int .i64) ess cks xss) (hSs : StR G0 xss Ls) (hVs : Sp.VH Ls) (vids : Value) (ids : List (Int)) (hids : RdI G0 vids ids)  :
  Calls Tryz.prog 108 #[.map (some mbs), vids] w0 (RetN w0 G0 (fun v Bs => ∃ (u : Value) (c : List Value) (xs : List Int), v = .tuple #[u, .bool (Sp.l4Ids Ls ids)] ∧ Bs = [acc 3 1 u xs.length c] ∧ Chk intE 1 (fun _ => none) c xs ∧ xs.length ≤ 1000 ∧ (Sp.l4Ids Ls ids = true → xs = Sp.load Ls ids) ∧ (Sp.l4Ids Ls ids = false → xs = []))) := by
 obtain ⟨aids, kids, rfl⟩ := hids.shape
 have hlimids : ids.length ≤ 1099511627776 := hids.lim
 have H := Hp.init hG
 refine calls_of_W (l := [.map (some mbs), .slice aids ids.length kids]) func108 Z ntmps108 Z (q2 (aG Z (aG Z (q3 (W_seq (q2 (mV Z (mV Z (o_call call154 Z Z (i_fileIds_c _ _ H.sub _ _ _ _ _ hbs hms hSs hVs _ _ hids ) ?_)))))))))
 rintro _ w1 ⟨rfl, ew1⟩; have H := H.step ew1; refine ⟨_, rfl, ?_⟩
 refine o_not Z Z (q3 ?_)
 refine W_cond Z ?_ ?_
 ·intro hc2
  try simp only [nrm] at hc2
  refine q2 (aG Z (aG Z (q3 (W_ret (N_K_ret (rt2 results108 Z Z ?_))))))
  have H := H.addNil 3 1
  have H := H.forget hG (by simp)
  exact ⟨_, _, rfl, H, _, _, _, congrArg (fun b => Value.tuple #[_, Value.bool b]) (show _ = Sp.l4Ids Ls ids by rw [hc2]), acc_1 aN, chkI ((Chk.nil (E := intE) (sz := 1) (G := G0))), by simp, fun h => (by rw [hc2] at h; cases h), fun _ => rfl⟩
 intro hc2'
 try simp only [nrm] at hc2'
 have hi4 := Sp.ids_le (by simpa using hc2')
 refine W_skip (N_K (q2 (aG Z (q3 (W_seq (q2 (mV Z (o_len_slice underlying33 Z Z (mV Z (q3 (W_block ?_)))))))))))
 have H := H.addNil 3 1
 refine W_lp (hf := (Sub.cons (t := 0) Z (Sub.cons (t := 4) Z (Sub.cons (t := 5) Z (Sub.cons (t := 13) Z (Sub.cons (t := 14) Z Sub.nil)))))) (J := fun M w m => ∃ (v : Value) (n : Nat) (cs : List Value) (xs : List (Int)) (k : Nat) (G : PH), M = [(15, .int .i64 (k : Int)), (6, v)] ∧ PLe G0 G ∧ Hp w0 G0 [] w G [acc 3 1 v n cs] ∧ (Chk intE 1 G cs xs ∧ n = xs.length ∧ k ≤ ids.length ∧ xs = Sp.load Ls (ids.take k) ∧ xs.length ≤ 8 * k) ∧ m = (ids.length - k)) (h0 := ⟨_, _, _, [], 0, _, Z, PLe.refl _, H, ?inv, Z⟩) (round := ?round)
 case inv => exact ⟨(Chk.nil (E := intE) (sz := 1) (G := G0)),  by first | rfl | simp | (simp; omega) | omega, (by simp [Sp.load])⟩
 case round =>
  rintro _ w4 _ ⟨v, n, cs, xs, k, G4, rfl, hle4, H, hinv4, rfl⟩
  have hSs := hSs.up hle4
  have hbs := hbs.up hle4
  have hids := hids.up hle4
  obtain ⟨hchk4_0, hn4_0, hinv4⟩ := hinv4
  obtain ⟨av4_0, cv4_0, rfl⟩ := H.accShape (k := 0) rfl
  obtain ⟨hk, hxs, hxl⟩ := hinv4
  refine q2 (o_lss Z Z Z (q3 (W_seq ?_)))
  refine W_cond Z ?_ ?_
  ·intro hc5
   try simp only [nrm] at hc5
   refine W_skip (N_K (W_seq (W_block (q2 (o_index_P k hids underlying33 sizeOf3 Z Z Z Z aN ?_))))); intro b6 o6 z6 q6 hz6 hE6 hrow6
   obtain ⟨rfl, hi6⟩ := hE6
   refine o_load_P H isAgg3 Z Z (hrow6 0 _ Z) (aG Z (q3 (W_region (mV Z (mV Z (mV Z (o_lookS (hbs.at H.sub) hms hSs underlying96 underlying3 zeroValue105 Z Z Z ?_))))))); intro q7 hE7
   obtain ⟨a7, m7, c7, rfl, hi7, hr7, hj7⟩ := hE7; have hn_hr7 := hr7.len; have hx_hr7 : _ ≤ 1099511627776 := hr7.lim
   have hgb := Sp.get_len hVs z6
   refine o_field 1 runUnderlying105 Z Z Z isAgg33 Z Z Z ?_
   refine o_append_P 0 H hr7 (by intro z cs hz u hu; obtain ⟨rfl, _⟩ := hz; simp at hu; subst hu; rfl) (sz := 1) (bytes := 8) underlying33 typeInfo3 ⟨_, rfl, rfl⟩ rfl rfl rfl rfl rfl rfl rfl oM rfl ?_; intro v8 w8 css8 hcl8 hcs8 H
   have hchk8 := hchk4_0.app (show Chk _ _ _ _ _ from ⟨css8, rfl, hcl8, hcs8⟩)
   obtain ⟨av8, cv8, rfl⟩ := H.accShape (k := 0) rfl
   refine aG Z (R_nil (N_B (N_K (W_region (o_add Z Z Z oO (mV Z (R_nil ?_)))))))
   refine N_lp (hJ := ⟨_, _, _, (xs ++ (getH Ls z6).bytes), k + 1, _, Z, hle4, H, ?inv, Z⟩) (hm := ?hm)
   case hm => omega
   case inv => exact ⟨hchk8, aN, (by exact ⟨by omega, by rw [Sp.load_succ hz6, hxs], by have := Sp.load_len hVs (ids.take (k + 1)); rw [Sp.load_succ hz6, ← hxs] at this; simp at this ⊢; omega⟩)⟩
  intro hc5'
  try simp only [nrm] at hc5'
  refine W_exit (N_K_exit (N_LP_exit (N_B_same (N_K (q2 (mV Z (aG Z (aG Z (q3 (W_ret (rt2 results108 Z Z ?_)))))))))))
  have H := H.forget hG (by simp)
  exact ⟨_, _, rfl, H, _, _, _, congrArg (fun b => Value.tuple #[_, Value.bool b]) (show _ = Sp.l4Ids Ls ids by rw [hc2']), acc_1 aN, chkI (hchk4_0), by omega, fun _ => by rw [hxs, List.take_of_length_le oM], fun h => by rw [hc2'] at h; cases h⟩
theorem i_freeFile_c (w0 : World) (G0 : PH) (hG : PSub G0 w0) (mbs : Nat) (ess : Array MapEntry) (cks : Nat) (xss : List (Int × Value)) (Ls : List BHeld) (hms : MapIs (Value.int .i64) ess cks xss) (hSs : StR G0 xss Ls) (hVs : Sp.VH Ls) (vids : Value) (ids : List (Int)) (hids : RdI G0 vids ids) (hLent : Lent w0 G0 [blk mbs (.map ess cks)])  :
  Calls Tryz.prog 122 #[.map (some mbs), vids] w0 (RetM w0 G0 [mbs] (fun G' v Bs => ∃ (es' : Array MapEntry) (ck' : Nat) (xs' : List (Int × Value)) (L' : List BHeld), v = .bool (Sp.FileFree Ls ids).isSome ∧ Bs = [blk mbs (.map es' ck')] ∧ MapIs (Value.int .i64) es' ck' xs' ∧ StR G' xs' L' ∧ Sp.VH L' ∧ ∀ l, Sp.FileFree Ls ids = some l → L' = l)) := by
 obtain ⟨aids, kids, rfl⟩ := hids.shape
 have hlimids : ids.length ≤ 1099511627776 := hids.lim
 have H : Hp w0 G0 [mbs] w0 G0 [blk mbs (.map ess cks)] := hLent.hp
 refine calls_of_W (l := [.map (some mbs), .slice aids ids.length kids]) func122 Z ntmps122 Z (q2 (aG Z (q3 (W_seq (q2 (mV Z (mV Z (o_call call154 Z Z (i_fileIds_c _ _ (H.lendSubL [0]) _ _ _ _ _ (H.lendPredL (k := 0) (ks := [0]) Z Z) hms (hSs.up (PPlus.le _ _ _)) hVs _ _ (hids.up (PPlus.le _ _ _)) ) ?_))))))))
 rintro _ w1 ⟨rfl, ew1⟩; have H := H.step ew1; refine ⟨_, rfl, ?_⟩
 refine o_not Z Z (q3 ?_)
 refine W_cond Z ?_ ?_
 ·intro hc2
  try simp only [nrm] at hc2
  refine q2 (aG Z (q3 (W_ret (N_K_ret (rt1 results122 Z ?_)))))
  have hno : Sp.FileFree Ls ids = none := by simp [Sp.FileFree, hc2]
  exact H.retM ⟨_, _, _, _, congrArg Value.bool (by rw [hno]; rfl), rfl, hms, hSs, hVs, fun l hl => by rw [hno] at hl; cases hl⟩
 intro hc2'
 try simp only [nrm] at hc2'
 refine W_skip (N_K (W_seq (q2 (mV Z (o_len_slice underlying33 Z Z (mV Z (q3 (W_block ?_))))))))
 refine W_lp (hf := (Sub.cons (t := 0) Z (Sub.cons (t := 11) Z (Sub.cons (t := 12) Z Sub.nil)))) (J := fun M w m => ∃ (esm0 : Array MapEntry) (ckm0 : Nat) (xsm0 : List (Int × Value)) (Lm0 : List BHeld) (k : Nat) (G : PH), M = [(13, .int .i64 (k : Int))] ∧ PLe G0 G ∧ Hp w0 G0 [mbs] w G [blk mbs (.map esm0 ckm0)] ∧ (MapIs (Value.int .i64) esm0 ckm0 xsm0 ∧ StR G xsm0 Lm0 ∧ Sp.VH Lm0 ∧ k ≤ ids.length ∧ Sp.foldB Sp.StoreDrop (ids.take k) (some Ls) = some Lm0) ∧ m = (ids.length - k)) (h0 := ⟨_, _, xss, Ls, 0, _, Z, PLe.refl _, H, ?inv, Z⟩) (round := ?round)
 case inv => exact ⟨hms, hSs, hVs, (by simp [Sp.foldB])⟩
 case round =>
  rintro _ w3 _ ⟨esm0, ckm0, xsm0, Lm0, k, G3, rfl, hle3, H, hinv3, rfl⟩
  have hids := hids.up hle3
  obtain ⟨hm3_m0, hS3_m0, hV3_m0, hinv3⟩ := hinv3
  obtain ⟨hk, hf⟩ := hinv3
  refine q2 (o_lss Z Z Z (q3 (W_seq ?_)))
  refine W_cond Z ?_ ?_
  ·intro hc4
   try simp only [nrm] at hc4
   refine W_skip (N_K (W_seq (W_block (q2 (o_index_P k hids underlying33 sizeOf3 Z Z Z Z aN ?_))))); intro b5 o5 z5 q5 hz5 hE5 hrow5
   obtain ⟨rfl, hi5⟩ := hE5
   refine o_load_P H isAgg3 Z Z (hrow5 0 _ Z) (aG Z (q1 (mV Z (mV Z (o_call call163 Z Z (i_drop_c _ _ H.sub _ _ _ _ _ hm3_m0 hS3_m0 hV3_m0 _ H.lent1 ) ?_)))))
   rintro _ w6 ⟨G6, _, _, rfl, H6', ⟨es6, ck6, xs6, L6, rfl, rfl, hm6, hS6, hV6, hL6⟩⟩
   have hle3 := hle3.trans H6'.le
   have H := H.borrow1 H6'
   refine ⟨_, Z, ?_⟩
   refine o_not Z Z (q3 ?_)
   refine W_cond Z ?_ ?_
   ·intro hc7
    try simp only [nrm] at hc7
    refine q2 (aG Z (q3 (W_ret (N_B_ret (N_K_ret (N_LP_ret (N_B_ret (N_K_ret (rt1 results122 Z ?_)))))))))
    have hno : Sp.FileFree Ls ids = none := by (have hno : Sp.StoreDrop Lm0 z5 = none := by simpa using hc7); simp only [Sp.FileFree, Sp.valid_iff.2 hVs, hc2', Bool.and_self, if_true]; exact Sp.foldB_stop hf hz5 hno
    exact H.retM ⟨_, _, _, _, congrArg Value.bool (by rw [hno]; rfl), rfl, hm6, hS6, hV6, fun l hl => by rw [hno] at hl; cases hl⟩
   intro hc7'
   try simp only [nrm] at hc7'
   obtain ⟨p, hsp⟩ := Option.isSome_iff_exists.1 hc7'
   have hLp : L6 = p := by rw [hL6, hsp]; rfl
   subst hLp
   refine W_skip (N_B (N_K (W_region (o_add Z Z Z oO (mV Z (R_nil ?_))))))
   refine N_lp (hJ := ⟨_, _, xs6, L6, k + 1, _, Z, hle3, H, ?inv, Z⟩) (hm := ?hm)
   case hm => omega
   case inv => exact ⟨hm6, hS6, hV6, (by exact ⟨by omega, Sp.foldB_succ hf hz5 hsp⟩)⟩
  intro hc4'
  try simp only [nrm] at hc4'
  refine W_exit (N_K_exit (N_LP_exit (N_B_same (N_K (q2 (aG Z (q3 (W_ret (rt1 results122 Z ?_)))))))))
  have hyes : Sp.FileFree Ls ids = some Lm0 := by simp only [Sp.FileFree, Sp.valid_iff.2 hVs, hc2', Bool.and_self, if_true]; exact Sp.foldB_all hf oM
  exact H.retM ⟨_, _, _, _, congrArg Value.bool (by rw [hyes]; rfl), rfl, hm3_m0, hS3_m0, hV3_m0, fun l hl => by rw [hyes] at hl; cases hl; rfl⟩
end Go.Proofs.Tst

namespace Go.Proofs.Tst
open Go Fw Tryz
theorem i_listIn_r : ∀ (N : Nat) (w0 : World) (G0 : PH) (hG : PSub G0 w0) (t : Nd) (hndt : RdN G0 t) (s : Bs) (hs : s.length ≤ 16777216) (hwt : t.wf) (hsl : s.length + 6 * t.cnt ≤ 100000) (hsz : t.size ≤ N),
  Calls Tryz.prog 166 #[.pointer (some ⟨t.b, 0, none⟩), str s] w0 (RetN w0 G0 (fun v Bs => ∃ (F : Fr), Bs = [frag F] ∧ OIs F v (t.flat s))) := by
 intro N
 induction N with
 | zero => intro w0 G0 hG t hndt s hs hwt hsl hsz; exact absurd (Nd.size_pos t) oM
 | succ N ih =>
 intro w0 G0 hG t hndt s hs hwt hsl hsz
 obtain ⟨hnlt, nat, nmt, nct, nAt, nMt, nCt, hprt, hrit, hrkt⟩ := hndt.open
 have hn_hrit := hrit.len; have hx_hrit : _ ≤ 1099511627776 := hrit.lim
 have hn_hrkt := hrkt.len; have hx_hrkt : _ ≤ 1099511627776 := hrkt.lim
 have H := Hp.init hG
 refine calls_of_W (l := [.pointer (some ⟨t.b, 0, none⟩), str s]) func166 Z ntmps166 Z (q2 (aG Z (q1 (aG Z (q3 (W_seq (q2 (mV Z (o_nilCheck Z Z (o_fieldAddr 3 runUnderlying149 Z sizeOf147 Z Z Z (o_load_P H isAgg147 Z Z (hprt 3 _ Z) (o_len_slice underlying147 Z Z (mV Z (q3 (W_block ?_)))))))))))))))
 have H := H.addNil 37 3
 have H := H.addF
 refine W_lp (hf := (Sub.cons (t := 1) Z (Sub.cons (t := 4) Z (Sub.cons (t := 12) Z (Sub.cons (t := 13) Z Sub.nil))))) (J := fun M w m => ∃ (v : Value) (n : Nat) (cs : List Value) (xs : List (BItem)) (F : Fr) (k : Nat) (G : PH), M = [(14, .int .i64 (k : Int)), (5, v)] ∧ PLe G0 G ∧ Hp w0 G0 [] w G [frag F, acc 37 3 v n cs] ∧ (ChkF itemO 3 cs xs F ∧ n = xs.length ∧ k ≤ t.kids.length ∧ xs = Nd.flats s (t.kids.take k)) ∧ m = (t.kids.length - k)) (h0 := ⟨_, _, _, [], [], 0, _, Z, PLe.refl _, H, ?inv, Z⟩) (round := ?round)
 case inv => exact ⟨ChkF.nil,  by first | rfl | simp | (simp; omega) | omega, (by simp [Nd.flats])⟩
 case round =>
  rintro _ w2 _ ⟨v, n, cs, xs, F, k, G2, rfl, hle2, H, hinv2, rfl⟩
  have hrkt := hrkt.up hle2
  obtain ⟨hchk2_0, hn2_0, hinv2⟩ := hinv2
  obtain ⟨av2_0, cv2_0, rfl⟩ := H.accShape (k := 1) rfl
  obtain ⟨hk, hxs⟩ := hinv2; have hxl : xs.length ≤ 100000 := by (have := Nd.flats_len s (t.kids.take k); have := Nd.cnts_take t.kids k; have := Nd.cnt_eq t; rw [hxs]; omega)
  refine q2 (o_lss Z Z Z (q3 (W_seq ?_)))
  refine W_cond Z ?_ ?_
  ·intro hc3
   try simp only [nrm] at hc3
   refine W_skip (N_K (W_seq (W_block (q2 (o_index_P k hrkt underlying147 sizeOf97 Z Z Z Z aN ?_))))); intro b4 o4 z4 q4 hz4 hE4 hrow4
   obtain ⟨rfl, hnd4⟩ := hE4; obtain ⟨hnl4, na4, nm4, nc4, nA4, nM4, nC4, hpr4, hri4, hrk4⟩ := hnd4.open; have hn_hri4 := hri4.len; have hx_hri4 : _ ≤ 1099511627776 := hri4.lim; have hn_hrk4 := hrk4.len; have hx_hrk4 : _ ≤ 1099511627776 := hrk4.lim
   have hzm := List.mem_of_getElem? hz4; have hzc := Nd.kid_cnt hzm; have hzs := Nd.size_kid hzm; have hzw := ((Nd.wf_iff _).1 hwt).2 _ hzm; have hzn := Nd.word_le hzw.1; have hzf := Nd.flat_len (s ++ z4.name ++ [47]) z4
   refine o_load_P H isAgg97 Z Z (hrow4 0 _ Z) (aG Z (q1 (mV Z (mV Z (o_nilCheck Z Z (o_fieldAddr 0 runUnderlying149 Z sizeOf9 Z Z Z (o_load_P H isAgg9 Z Z (hpr4 0 _ Z) ?_)))))))
   refine o_sadd Z Z Z (by simp only [LIM, List.length_append, List.length_cons, List.length_nil] at *; omega) ?_
   refine aG Z (q3 (W_seq (W_drawK [] 15 H kR Z ?_))); intro w5 H; have hd5 := PLe.refl G2
   refine vM 0 Z Z (vM 1 Z Z (vM 2 Z Z (RD_t 3 Z kR Z (fun _ hK => v_nilCheck Z) (RD_t 4 Z kR Z (fun _ hK => v_fieldAddr 1 runUnderlying149 Z sizeOf4 Z Z) (RD_t 5 Z kR Z (fun _ hK => v_load_P hK isAgg4 Z (hpr4 1 _ Z)) (vM 6 Z Z (RD_t 7 Z kR Z (fun _ hK => v_nilCheck Z) (RD_t 8 Z kR Z (fun _ hK => v_fieldAddr 2 runUnderlying149 Z sizeOf33 Z Z) (RD_t 9 Z kR Z (fun _ hK => v_load_P hK isAgg33 Z (hpr4 2 _ Z)) ?_)))))))))
   refine RD_run [10] kR Z (RDs.cons Z ?_ RDs.nil)
   refine o_call call141 Z Z (l_Clone_c _ _ H.sub _ _ hri4 ) ?_
   rintro _ w6 ⟨G6, v6, _, g6, rfl, ⟨cs6, rfl, hchk6⟩, hp6, hq6, hs6⟩
   have H := H.growO g6 hp6 hq6 hs6; obtain ⟨av6, cv6, rfl⟩ := H.accShape (k := 0) rfl
   have hnd4 := hnd4.up g6.le
   have hle2 := hle2.trans g6.le
   have hd5 := hd5.trans g6.le
   refine ⟨_, Z, ?_⟩
   refine R_nil (N_DK (Kn.of' H hd5 SubL.nil) (RD_t 11 Z kR Z (fun _ hK => v_build bf37 Z Z) ?_))
   refine RD_run [12] kR Z (RDs.cons Z ?_ RDs.nil)
   refine o_buildSlice H underlying24 sizeOf37 (fun w => ⟨_, zeroValue37 w, Z⟩) Z Z Z Z Z Z Z ?_; intro b7 w7 hb7 H
   refine R_nil (N_DK (Kn.of' H hd5 SubL.nil) ?_)
   refine RD_run [13] kR Z (RDs.cons Z ?_ RDs.nil)
   refine o_append1 2 H (sz := 3) (bytes := 48) underlying24 typeInfo37 ⟨_, Z, Z⟩ Z Z Z Z Z Z Z Z Z Z oM Z ?_; intro v8 w8 H
   obtain ⟨Fi2, H, hOI2⟩ := H.ownI (k := 0) rfl hchk6 aN aN
   have hchk8 := hchk2_0.snoc (show itemO Fi2 ⟨s ++ z4.name, z4.dir, z4.ids⟩ _ from ⟨_, _, _, rfl, (by (first | assumption | (refine Sp.l5Parent_lim ?_; assumption) | (simp; done) | (simp; omega) | omega)), hOI2⟩) rfl
   have H := H.toFront (k := 1) rfl
   have H := H.mergeF
   obtain ⟨av8, cv8, rfl⟩ := H.accShape (k := 1) rfl
   refine R_nil (N_DK (Kn.of' H hd5 SubL.nil) (RD_t 14 Z kR Z (fun _ hK => v_assign Z) (RD_done kR (N_K (W_region (mV Z (mV Z (mV Z ?_))))))))
   refine o_sadd Z Z Z (by simp only [LIM, List.length_append, List.length_cons, List.length_nil] at *; omega) ?_
   refine o_call call166 Z Z (ih _ _ H.sub _ hnd4 _ (by (first | assumption | (refine Sp.l5Parent_lim ?_; assumption) | (simp; done) | (simp; omega) | omega)) hzw.2 (by simp; omega) oM) ?_
   rintro _ w9 ⟨_, _, rfl, H9', ⟨F9, rfl, hO9⟩⟩
   have H := H.readers (fp := []) (by simp) (PLe.refl _) H9'
   obtain ⟨e29, hP9⟩ := hO9
   obtain ⟨sa9, sc9, rfl⟩ := OwnS.shape hP9
   have hO9 := OIs.mk hP9
   refine ⟨_, Z, ?_⟩
   refine o_append_F 1 H hP9 (by intro F x cs hx u hu; obtain ⟨_, _, _, rfl, _⟩ := hx; simp at hu; rcases hu with rfl | rfl | rfl <;> rfl) (sz := 3) (bytes := 48) underlying24 typeInfo37 ⟨_, rfl, rfl⟩ rfl rfl rfl rfl rfl rfl rfl oM rfl ?_; intro v10 w10 cs10 F10_ H hck10 hmm10
   have hchk10 := hchk8.app hck10
   have H := H.toFront (k := 1) rfl
   have H := H.mergeF
   obtain ⟨av10, cv10, rfl⟩ := H.accShape (k := 1) rfl
   refine aG Z (R_nil (N_B (N_K (W_region (o_add Z Z Z oO (mV Z (R_nil ?_)))))))
   refine N_lp (hJ := ⟨_, _, _, ((xs ++ [⟨s ++ z4.name, z4.dir, z4.ids⟩]) ++ (z4.flat (s ++ z4.name ++ [47]))), ((F ++ Fi2) ++ F10_), k + 1, _, Z, hle2, H, ?inv, Z⟩) (hm := ?hm)
   case hm => omega
   case inv => exact ⟨hchk10, aN, (by exact ⟨by omega, by (rw [Nd.flats_succ hz4, hxs]; simp)⟩)⟩
  intro hc3'
  try simp only [nrm] at hc3'
  refine W_exit (N_K_exit (N_LP_exit (N_B_same (N_K (q2 (mV Z (aG Z (q3 (W_ret (rt1 results166 Z ?_))))))))))
  have H := H.toFront (k := 1) rfl
  obtain ⟨Fo3, H, hOw3⟩ := H.ownF hchk2_0 aN aN
  have hX : xs = t.flat s := by rw [hxs, List.take_of_length_le oM, Nd.flat_eq]
  have H := H.forget hG (by simp)
  exact ⟨_, _, Z, H, _, Z, hX ▸ ⟨_, hOw3⟩⟩
theorem i_listIn_c (w0 : World) (G0 : PH) (hG : PSub G0 w0) (t : Nd) (hndt : RdN G0 t) (s : Bs) (hs : s.length ≤ 16777216) (hwt : t.wf) (hsl : s.length + 6 * t.cnt ≤ 100000) :
  Calls Tryz.prog 166 #[.pointer (some ⟨t.b, 0, none⟩), str s] w0 (RetN w0 G0 (fun v Bs => ∃ (F : Fr), Bs = [frag F] ∧ OIs F v (t.flat s))) := i_listIn_r _ w0 G0 hG t hndt s hs hwt hsl (Nat.le_refl _)
theorem i_tlist_c (w0 : World) (G0 : PH) (hG : PSub G0 w0) (t : Nd) (hndt : RdN G0 t) (hwt : t.wf) (hct : t.cnt ≤ 1000) :
  Calls Tryz.prog 124 #[.pointer (some ⟨t.b, 0, none⟩)] w0 (RetN w0 G0 (fun v Bs => ∃ (F : Fr), Bs = [frag F] ∧ OIs F v (t.flat []))) := by
 obtain ⟨hnlt, nat, nmt, nct, nAt, nMt, nCt, hprt, hrit, hrkt⟩ := hndt.open
 have hn_hrit := hrit.len; have hx_hrit : _ ≤ 1099511627776 := hrit.lim
 have hn_hrkt := hrkt.len; have hx_hrkt : _ ≤ 1099511627776 := hrkt.lim
 have H := Hp.init hG
 refine calls_of_W (l := [.pointer (some ⟨t.b, 0, none⟩)]) func124 Z ntmps124 Z (q2 (aG Z (q1 (mV Z ?_))))
 refine o_call call166 Z Z (i_listIn_c _ _ H.sub _ hndt _ (by (first | assumption | (refine Sp.l5Parent_lim ?_; assumption) | (simp; done) | (simp; omega) | omega)) hwt (by simp; omega)) ?_
 rintro _ w1 ⟨_, _, rfl, H1', ⟨F1, rfl, hO1⟩⟩
 have H := H.readers (fp := []) (by simp) (PLe.refl _) H1'
 obtain ⟨e21, hP1⟩ := hO1
 obtain ⟨sa1, sc1, rfl⟩ := OwnS.shape hP1
 have hO1 := OIs.mk hP1
 refine ⟨_, Z, ?_⟩
 refine aG Z (q3 (W_ret (rt1 results124 Z ?_)))
 have H := H.forget hG (by simp)
 exact ⟨_, _, Z, H, _, Z, hO1⟩
end Go.Proofs.Tst

namespace Go.Proofs.Tst
open Go Fw Tryz
theorem i_usedBy_c (w0 : World) (G0 : PH) (hG : PSub G0 w0) (mbs : Nat) (ess : Array MapEntry) (cks : Nat) (xss : List (Int × Value)) (Ls : List BHeld) (hbs : MapAt G0 mbs ess cks) (hms : MapIs (Value.int .i64) ess cks xss) (hSs : StR G0 xss Ls) (hVs : Sp.VH Ls) (vtrees : Value) (trees : List (Nd)) (htrees : RdNd G0 vtrees trees) (htl : trees.length ≤ 7) (htw : ∀ t, t ∈ trees → t.wf ∧ t.cnt ≤ 12) :
  Calls Tryz.prog 110 #[.map (some mbs), vtrees] w0 (Rets w0 (.bool (trees.all (fun t => (t.flat []).all (fun x => Sp.l4Ids Ls x.ids)) && Ls.all (fun h => decide ((Sp.cntT trees h.id : Int) = h.uses))))) := by
 obtain ⟨atrees, ktrees, rfl⟩ := htrees.shape
 have hlimtrees : trees.length ≤ 1099511627776 := htrees.lim
 have H := Hp.init hG
 refine calls_of_W (l := [.map (some mbs), .slice atrees trees.length ktrees]) func110 Z ntmps110 Z (q2 (aG Z (q1 (o_makeMap H Z ?_)))); intro b1 w1 hb1 H
 have hm1 := MapIs.empty (key := Value.int .i64) 0
 have hS1 := UsR.nil
 refine aG Z (q3 (W_seq (q2 (mV Z (o_len_slice underlying147 Z Z (mV Z (q3 (W_block ?_))))))))
 refine W_lp (hf := (Sub.cons (t := 0) Z (Sub.cons (t := 5) Z (Sub.cons (t := 15) Z (Sub.cons (t := 16) Z Sub.nil))))) (J := fun M w m => ∃ (esm0 : Array MapEntry) (ckm0 : Nat) (xsm0 : List (Int × Value)) (fm0 : Int → Nat) (i : Nat) (G : PH), M = [(17, .int .i64 (i : Int))] ∧ PLe G0 G ∧ Hp w0 G0 [] w G [blk b1 (.map esm0 ckm0)] ∧ (MapIs (Value.int .i64) esm0 ckm0 xsm0 ∧ UsR xsm0 fm0 ∧ i ≤ trees.length ∧ (∀ a, fm0 a = Sp.cntT (trees.take i) a ∧ fm0 a ≤ 48 * i) ∧ (trees.take i).all (fun t => (t.flat []).all (fun x => Sp.l4Ids Ls x.ids)) = true) ∧ m = (trees.length - i)) (h0 := ⟨_, _, [], (fun _ => 0), 0, _, Z, PLe.refl _, H, ?inv, Z⟩) (round := ?round)
 case inv => exact ⟨hm1, hS1, (by simp [Sp.cntT])⟩
 case round =>
  rintro _ w2 _ ⟨esm0, ckm0, xsm0, fm0, i, G2, rfl, hle2, H, hinv2, rfl⟩
  have hSs := hSs.up hle2
  have hbs := hbs.up hle2
  have htrees := htrees.up hle2
  obtain ⟨hm2_m0, hS2_m0, hinv2⟩ := hinv2
  obtain ⟨hi, hf, hok⟩ := hinv2
  refine q2 (o_lss Z Z Z (q3 (W_seq ?_)))
  refine W_cond Z ?_ ?_
  ·intro hc3
   try simp only [nrm] at hc3
   refine W_skip (N_K (W_seq (W_block (q2 (o_index_P i htrees underlying147 sizeOf97 Z Z Z Z aN ?_))))); intro b4 o4 z4 q4 hz4 hE4 hrow4
   obtain ⟨rfl, hnd4⟩ := hE4; obtain ⟨hnl4, na4, nm4, nc4, nA4, nM4, nC4, hpr4, hri4, hrk4⟩ := hnd4.open; have hn_hri4 := hri4.len; have hx_hri4 : _ ≤ 1099511627776 := hri4.lim; have hn_hrk4 := hrk4.len; have hx_hrk4 : _ ≤ 1099511627776 := hrk4.lim
   try (have hzw := htw z4 (List.mem_of_getElem? hz4); have hzf := Nd.flat_len [] z4)
   refine o_load_P H isAgg97 Z Z (hrow4 0 _ Z) (aG Z (q1 (mV Z (o_call call124 Z Z (i_tlist_c _ _ H.sub _ hnd4 hzw.1 oM) ?_))))
   rintro _ w5 ⟨_, _, rfl, H5', ⟨F5, rfl, hO5⟩⟩
   have H := H.readers (fp := []) (by simp) (PLe.refl _) H5'
   obtain ⟨e25, hP5⟩ := hO5
   obtain ⟨sa5, sc5, rfl⟩ := OwnS.shape hP5
   have hO5 := OIs.mk hP5
   refine ⟨_, Z, ?_⟩
   have hdm1 := dm_nodup H (k := 0) rfl; obtain ⟨Gk1, H, hkl1, hks1⟩ := H.keepF (k := 0) rfl (fun b _ hb => by simp at hb)
   have hrk1 := hO5.rd hks1 hdm1
   have hSs := hSs.up hkl1
   have hbs := hbs.up hkl1
   have hle2 := hle2.trans hkl1
   have hn_hrk1 := hrk1.len
   refine o_len_slice underlying24 Z Z (mV Z (q3 (W_block ?_)))
   refine W_lp (hf := (Sub.cons (t := 0) Z (Sub.cons (t := 5) Z (Sub.cons (t := 15) Z (Sub.cons (t := 16) Z (Sub.cons (t := 17) Z (Sub.cons (t := 22) Z (Sub.cons (t := 23) Z Sub.nil)))))))) (J := fun M w m => ∃ (esm0 : Array MapEntry) (ckm0 : Nat) (xsm0 : List (Int × Value)) (fm0 : Int → Nat) (jj : Nat) (G : PH), M = [(24, .int .i64 (jj : Int))] ∧ PLe Gk1 G ∧ Hp w0 G0 [] w G [blk b1 (.map esm0 ckm0)] ∧ (MapIs (Value.int .i64) esm0 ckm0 xsm0 ∧ UsR xsm0 fm0 ∧ jj ≤ (z4.flat []).length ∧ (∀ a, fm0 a = Sp.cntT (trees.take i) a + Sp.cntU (z4.flat []) a jj ∧ fm0 a ≤ 48 * i + 4 * jj) ∧ ((z4.flat []).take jj).all (fun x => Sp.l4Ids Ls x.ids) = true) ∧ m = ((z4.flat []).length - jj)) (h0 := ⟨_, _, xsm0, fm0, 0, _, Z, PLe.refl _, H, ?inv, Z⟩) (round := ?round)
   case inv => exact ⟨hm2_m0, hS2_m0, (by exact ⟨by omega, fun a => (by have := hf a; simp [Sp.cntU]; omega), by simp⟩)⟩
   case round =>
    rintro _ w6 _ ⟨esm0, ckm0, xsm0, fm0, jj, G6, rfl, hle6, H, hinv6, rfl⟩
    have hSs := hSs.up hle6
    have hbs := hbs.up hle6
    have hrk1 := hrk1.up hle6
    have hle2 := hle2.trans hle6
    obtain ⟨hm6_m0, hS6_m0, hinv6⟩ := hinv6
    obtain ⟨hjl, hf2, hok2⟩ := hinv6
    refine q2 (o_lss Z Z Z (q3 (W_seq ?_)))
    refine W_cond Z ?_ ?_
    ·intro hc7
     try simp only [nrm] at hc7
     refine W_skip (N_K (W_seq (W_block (q2 (o_index_P jj hrk1 underlying24 sizeOf37 Z Z Z Z aN ?_))))); intro b8 o8 z8 q8 hz8 hE8 hrow8
     obtain ⟨a8, m8, c8, rfl, hi8, hr8⟩ := hE8; have hy_hi8 : _ ≤ 16777216 := hi8; have hn_hr8 := hr8.len; have hx_hr8 : _ ≤ 1099511627776 := hr8.lim
     try (have hzw := htw z8 (List.mem_of_getElem? hz8); have hzf := Nd.flat_len [] z8)
     refine o_loadagg_P H isAgg37 sizeOf37 Z Z hrow8 Z (o_alloc H zeroValue37 Z Z ?_); intro b9 w9 hb9 H
     refine o_store_B 0 H sizeOf37 Z Z Z Z Z Z Z Z ?_; intro w10 H
     refine q3 (W_seq (q2 (mV Z (o_fieldAddr 2 runUnderlying37 Z sizeOf33 Z Z Z (o_load_B 0 H isAgg33 Z Z Z Z (o_call call154 Z Z (i_fileIds_c _ _ H.sub _ _ _ _ _ hbs hms hSs hVs _ _ hr8 ) ?_))))))
     rintro _ w11 ⟨rfl, ew11⟩; have H := H.step ew11; refine ⟨_, rfl, ?_⟩
     refine o_not Z Z (q3 ?_)
     refine W_cond Z ?_ ?_
     ·intro hc12
      try simp only [nrm] at hc12
      refine q2 (aG Z (q3 (W_ret (N_K_ret (N_B_ret (N_K_ret (N_LP_ret (N_B_ret (N_B_ret (N_K_ret (N_LP_ret (N_B_ret (N_K_ret (rt1 results110 Z ?_))))))))))))))
      exact H.rets (congrArg Value.bool (by rw [Sp.all_false hz4 (Sp.all_false hz8 (by simpa using hc12)), Bool.false_and]))
     intro hc12'
     try simp only [nrm] at hc12'
     have hio : Sp.l4Ids Ls z8.ids = true := by simpa using hc12'
     have hil := Sp.ids_le hio
     refine W_skip (N_K (q2 (o_fieldAddr 2 runUnderlying37 Z sizeOf33 Z Z Z (o_load_B 0 H isAgg33 Z Z Z Z (o_len_slice underlying33 Z Z (mV Z (q3 (W_block ?_))))))))
     obtain ⟨ln13, hln13, H⟩ := H.name (k := 0) rfl
     refine W_lp (hf := (Sub.cons (t := 0) Z (Sub.cons (t := 5) Z (Sub.cons (t := 15) Z (Sub.cons (t := 16) Z (Sub.cons (t := 17) Z (Sub.cons (t := 22) Z (Sub.cons (t := 23) Z (Sub.cons (t := 24) Z (Sub.cons (t := 34) Z (Sub.cons (t := 35) Z Sub.nil))))))))))) (J := fun M w m => ∃ (esm0 : Array MapEntry) (ckm0 : Nat) (xsm0 : List (Int × Value)) (fm0 : Int → Nat) (kk : Nat) (G : PH), M = [(36, .int .i64 (kk : Int))] ∧ PLe G6 G ∧ Hp w0 G0 [] w G [blk b9 (cl ln13 37), blk b1 (.map esm0 ckm0)] ∧ (MapIs (Value.int .i64) esm0 ckm0 xsm0 ∧ UsR xsm0 fm0 ∧ kk ≤ z8.ids.length ∧ (∀ a, fm0 a = Sp.cntT (trees.take i) a + Sp.cntU (z4.flat []) a jj + Sp.cnt1 a (z8.ids.take kk) ∧ fm0 a ≤ 48 * i + 4 * jj + kk)) ∧ m = (z8.ids.length - kk)) (h0 := ⟨_, _, xsm0, fm0, 0, _, Z, PLe.refl _, H, ?inv, Z⟩) (round := ?round)
     case inv => exact ⟨hm6_m0, hS6_m0, (by exact ⟨by omega, fun a => (by have := hf2 a; simp [Sp.cnt1]; omega)⟩)⟩
     case round =>
      rintro _ w14 _ ⟨esm0, ckm0, xsm0, fm0, kk, G14, rfl, hle14, H, hinv14, rfl⟩
      subst hln13
      have hr8 := hr8.up hle14
      have hle6 := hle6.trans hle14
      obtain ⟨hm14_m0, hS14_m0, hinv14⟩ := hinv14
      obtain ⟨hkl, hf3⟩ := hinv14; have hb3 := fun a => (hf3 a).2
      refine q2 (o_lss Z Z Z (q3 (W_seq ?_)))
      refine W_cond Z ?_ ?_
      ·intro hc15
       try simp only [nrm] at hc15
       refine W_skip (N_K (W_seq (W_block (q2 (o_index_P kk hr8 underlying33 sizeOf3 Z Z Z Z aN ?_))))); intro b16 o16 z16 q16 hz16 hE16 hrow16
       obtain ⟨rfl, hi16⟩ := hE16
       refine o_load_P H isAgg3 Z Z (hrow16 0 _ Z) (aG Z (q3 (W_region (mV Z (mV Z (o_lookU (H.at (k := 1) Z) hm14_m0 hS14_m0 underlying185 underlying3 zeroValue3 Z Z Z ?_))))))
       try (have h7 := hb3 z16)
       refine o_add Z Z Z oO (o_updU 1 H (fm0 z16 + 1) Z hm14_m0 hS14_m0 underlying185 underlying3 Z Z Z oM ?_); intro es19 ck19 xs19 w19 H hm19 hS19
       refine R_nil (N_B (N_K (W_region (o_add Z Z Z oO (mV Z (R_nil ?_))))))
       refine N_lp (hJ := ⟨_, _, xs19, (fun a => if a = z16 then (fm0 z16 + 1) else fm0 a), kk + 1, _, Z, hle14, H, ?inv, Z⟩) (hm := ?hm)
       case hm => omega
       case inv => exact ⟨hm19, hS19, (by exact ⟨by omega, fun a => (by have h9 := hf3 a; have h7 := hf3 z16; (rw [Sp.cnt1_succ hz16]); by_cases e : a = z16; (· subst e; simp; omega); (· have e2 : ¬ z16 = a := fun h => e h.symm; simp only [e, e2, if_false]; omega))⟩)⟩
      intro hc15'
      try simp only [nrm] at hc15'
      refine W_exit (N_K_exit (N_LP_exit (N_B_same (N_B (N_K (W_region (o_add Z Z Z oO (mV Z (R_nil ?_)))))))))
      have H := H.del (k := 0) rfl
      refine N_lp (hJ := ⟨_, _, xsm0, fm0, jj + 1, _, Z, hle6, H, ?inv, Z⟩) (hm := ?hm)
      case hm => omega
      case inv => exact ⟨hm14_m0, hS14_m0, (by exact ⟨by omega, fun a => (by have h9 := hf3 a; (rw [Sp.cntU_succ hz8]); (rw [List.take_of_length_le (l := z8.ids) oM] at h9); omega), Sp.all_take hok2 hz8 hio⟩)⟩
    intro hc7'
    try simp only [nrm] at hc7'
    refine W_exit (N_K_exit (N_LP_exit (N_B_same (N_B (N_K (W_region (o_add Z Z Z oO (mV Z (R_nil ?_)))))))))
    refine N_lp (hJ := ⟨_, _, xsm0, fm0, i + 1, _, Z, hle2, H, ?inv, Z⟩) (hm := ?hm)
    case hm => omega
    case inv => exact ⟨hm6_m0, hS6_m0, (by exact ⟨by omega, fun a => (by have h9 := hf2 a; have h10 := Sp.cntT_succ (id := a) hz4; have h8 : (z4.flat []).length = jj := oM; (rw [h8] at h10); omega), Sp.all_take hok hz4 (by (rw [List.take_of_length_le (l := z4.flat []) oM] at hok2); exact hok2)⟩)⟩
  intro hc3'
  try simp only [nrm] at hc3'
  refine W_exit (N_K_exit (N_LP_exit (N_B_same (N_K (W_seq (q2 (mV Z ?_)))))))
  have hmb23 := (hbs.at H.sub); refine o_range H hmb23 underlying96 rfl rfl ?_; intro r23 w23 hr23 H _; have hne23 : r23 ≠ mbs := fun e => by have := (Array.getElem?_eq_some_iff.1 hmb23).1; omega
  refine q3 (W_block ?_)
  refine W_lp (hf := (Sub.cons (t := 5) Z (Sub.cons (t := 48) Z Sub.nil))) (J := fun M w m => ∃  (sn : Array Nat) (G : PH), M = [] ∧ PLe G2 G ∧ Hp w0 G0 [] w G [blk r23 (.mapIter (some mbs) cks sn cks), blk b1 (.map esm0 ckm0)] ∧ (∀ y, y ∈ Ls → seenH ess sn y → (Sp.cntT trees y.id : Int) = y.uses) ∧ m = ((leftOf ess sn).size)) (h0 := ⟨#[], _, Z, PLe.refl _, H, ?inv, Z⟩) (round := ?round)
  case inv => rintro y hy ⟨e, _, _, he⟩; simp at he
  case round =>
   rintro _ w24 _ ⟨sn, G24, rfl, hle24, H, hinv24, rfl⟩
   have hSs := hSs.up hle24
   have hbs := hbs.up hle24
   have hsn := hinv24
   refine q2 ?_
   refine o_next 0 H (hbs.at H.sub) hms hSs Z hne23 Z Z ?_ ?_
   ·intro hall25
    refine o_extract Z Z Z (q3 (W_seq (W_false Z (W_exit (N_K_exit (N_LP_exit (N_B_same (N_K (q2 (aG Z (q3 (W_ret (rt1 results110 Z ?_)))))))))))))
    have hot := hok; rw [List.take_of_length_le oM] at hot
    exact H.rets (congrArg Value.bool (by (rw [hot, Bool.true_and]); symm; (rw [List.all_eq_true]); intro y hy; simp only [decide_eq_true_eq]; exact hsn y hy (hall25 y hy)))
   intro e25 y25 q25 w25 he25 hk25 hv25 hy25 hE25 _ hless25 H
   obtain ⟨a25, m25, c25, rfl, hi25, hr25, hj25⟩ := hE25; have hn_hr25 := hr25.len; have hx_hr25 : _ ≤ 1099511627776 := hr25.lim
   refine o_extract Z Z Z (q3 (W_seq (W_true Z (W_skip (N_K (W_block (q2 (o_entry 0 H (hbs.at H.sub) hms Z he25 hk25 hv25 Z Z (o_extract Z Z Z (o_extract Z Z Z (o_alloc H zeroValue105 Z Z ?_))))))))))); intro b26 w26 hb26 H
   refine aG Z (o_store_B 0 H sizeOf105 Z Z Z Z Z Z Z Z ?_); intro w27 H
   refine q1 (mV Z (mV Z (o_lookU (H.at (k := 2) Z) hm2_m0 hS2_m0 underlying185 underlying3 zeroValue3 Z Z Z (o_fieldAddr 2 runUnderlying105 Z sizeOf3 Z Z Z (o_load_B 0 H isAgg3 Z Z Z Z (o_neq Z Z Z (q3 ?_)))))))
   refine W_cond Z ?_ ?_
   ·intro hc29
    try simp only [nrm] at hc29
    refine q2 (aG Z (q3 (W_ret (N_B_ret (N_LP_ret (N_B_ret (N_K_ret (rt1 results110 Z ?_))))))))
    have hft : ∀ a, fm0 a = Sp.cntT trees a := fun a => (by have h9 := (hf a).1; (rw [List.take_of_length_le oM] at h9); exact h9)
    have hot := hok; rw [List.take_of_length_le oM] at hot
    exact H.rets (congrArg Value.bool (by (rw [hot, Bool.true_and]); symm; (rw [List.all_eq_false]); exact ⟨_, hy25, by simp only [decide_eq_true_eq]; (rw [← hft]); first | exact hc29 | (simpa using hc29) | omega⟩))
   intro hc29'
   try simp only [nrm] at hc29'
   refine W_skip (N_B ?_)
   have H := H.del (k := 0) rfl
   refine N_lp (hJ := ⟨_, _, Z, hle24, H, ?inv, Z⟩) (hm := ?hm)
   case hm => exact hless25
   case inv => intro y hy hs; rcases seenH_push hms (hSs.nd hms) he25 hk25 hy25 hy hs with rfl | h; (· (have h9 := (hf y.id).1; (rw [List.take_of_length_le oM] at h9); (rw [← h9]); first | exact hc29' | (simpa using hc29') | omega)); exact hsn y hy h
end Go.Proofs.Tst

namespace Go.Proofs.Tst
open Go Fw Tryz
theorem i_StoreValid_c (w0 : World) (G0 : PH) (hG : PSub G0 w0) (vlist : Value) (list : List (BHeld)) (hlist : RdH G0 vlist list)  :
  Calls Tryz.prog 153 #[vlist] w0 (Rets w0 (.bool (Sp.StoreValid list))) := by
 obtain ⟨alist, klist, rfl⟩ := hlist.shape
 have hlimlist : list.length ≤ 1099511627776 := hlist.lim
 have H := Hp.init hG
 refine calls_of_W (l := [.slice alist list.length klist]) func153 Z ntmps153 Z (q2 (aG Z (q3 (W_seq (q2 (mV Z (o_len_slice underlying23 Z Z (o_gtr Z Z Z (q3 ?_)))))))))
 refine W_cond Z ?_ ?_
 ·intro hc1
  try simp only [nrm] at hc1
  refine q2 (aG Z (q3 (W_ret (N_K_ret (rt1 results153 Z ?_)))))
  exact H.rets (congrArg Value.bool (by rw [Sp.sv_long oM]))
 intro hc1'
 try simp only [nrm] at hc1'
 refine W_skip (N_K (q2 (aG Z (q3 (W_seq (q2 (mV Z (o_len_slice underlying23 Z Z (mV Z (q3 (W_block ?_)))))))))))
 refine W_lp (hf := (Sub.cons (t := 0) Z (Sub.cons (t := 11) Z (Sub.cons (t := 12) Z Sub.nil)))) (J := fun M w m => ∃ (k : Nat) (la : Int) (G : PH), M = [(13, .int .i64 (k : Int)), (3, .int .i64 la)] ∧ PLe G0 G ∧ Hp w0 G0 [] w G [] ∧ (k ≤ list.length ∧ la = Sp.lastId list k ∧ (∀ j, j < k → Sp.okH list j = true) ∧ inI la) ∧ m = (list.length - k)) (h0 := ⟨0, 0, _, Z, PLe.refl _, H, ?inv, Z⟩) (round := ?round)
 case inv => exact ⟨by omega, rfl, fun j hj => by omega, by decide⟩
 case round =>
  rintro _ w2 _ ⟨k, la, G2, rfl, hle2, H, hinv2, rfl⟩
  have hlist := hlist.up hle2
  obtain ⟨hk, hla, hall, hlai⟩ := hinv2
  refine q2 (o_lss Z Z Z (q3 (W_seq ?_)))
  refine W_cond Z ?_ ?_
  ·intro hc3
   try simp only [nrm] at hc3
   refine W_skip (N_K (W_seq (W_block (q2 (mV Z (o_index_P k hlist underlying23 sizeOf105 Z Z Z Z aN ?_)))))); intro b4 o4 z4 q4 hz4 hE4 hrow4
   obtain ⟨a4, m4, c4, rfl, hi4, hr4, hj4⟩ := hE4; have hn_hr4 := hr4.len; have hx_hr4 : _ ≤ 1099511627776 := hr4.lim
   refine o_loadagg_P H isAgg105 sizeOf105 Z Z hrow4 Z (o_alloc H zeroValue105 Z Z ?_); intro b5 w5 hb5 H
   refine aG Z (o_store_B 0 H sizeOf105 Z Z Z Z Z Z Z Z ?_); intro w6 H
   refine q3 (W_seq (q2 (o_fieldAddr 0 runUnderlying105 Z sizeOf3 Z Z Z (o_load_B 0 H isAgg3 Z Z Z Z (mV Z (o_leq Z Z Z (mV Z ?_)))))))
   refine R_case (t := 22) Z ?_ ?_
   ·intro hc7
    try simp only [nrm] at hc7
    refine rP Z (rP Z (rP Z (o_pick_t Z Z Z (mV Z (rP Z (rP Z (rP Z (o_pick_t Z Z Z (mV Z (rP Z (rP Z (rP Z (o_pick_t Z Z Z (mV Z (rP Z ?_)))))))))))))))
    refine rP Z (rP Z (rP Z (o_pick_t Z Z Z (q3 (W_true Z (q2 (aG Z (q3 (W_ret (N_K_ret (N_B_ret (N_K_ret (N_LP_ret (N_B_ret (N_K_ret ?_)))))))))))))))
    refine rt1 results153 Z ?_
    exact H.rets (congrArg Value.bool (by rw [Sp.sv_false (k := k) oM (Sp.okH_last hz4 oM)]))
   intro hc7'
   try simp only [nrm] at hc7'
   refine gR Z (o_fieldAddr 0 runUnderlying105 Z sizeOf3 Z Z Z (gR Z (o_load_B 0 H isAgg3 Z Z Z Z (gR Z (o_gtr Z Z Z (o_pick_f Z Z Z (mV Z ?_)))))))
   refine R_case (t := 27) Z ?_ ?_
   ·intro hc8
    try simp only [nrm] at hc8
    refine rP Z (rP Z (rP Z (o_pick_t Z Z Z (mV Z (rP Z (rP Z (rP Z (o_pick_t Z Z Z (mV Z (rP Z (rP Z (rP Z (rP Z (o_pick_t Z Z Z (q3 ?_)))))))))))))))
    refine W_true Z (q2 (aG Z (q3 (W_ret (N_K_ret (N_B_ret (N_K_ret (N_LP_ret (N_B_ret (N_K_ret (rt1 results153 Z ?_)))))))))))
    exact H.rets (congrArg Value.bool (by rw [Sp.sv_false (k := k) oM (Sp.okH_id hz4 oM)]))
   intro hc8'
   try simp only [nrm] at hc8'
   refine gR Z (o_fieldAddr 2 runUnderlying105 Z sizeOf3 Z Z Z (gR Z (o_load_B 0 H isAgg3 Z Z Z Z (gR Z (o_lss Z Z Z (o_pick_f Z Z Z (mV Z ?_)))))))
   refine R_case (t := 32) Z ?_ ?_
   ·intro hc9
    try simp only [nrm] at hc9
    refine rP Z (rP Z (rP Z (o_pick_t Z Z Z (mV Z (rP Z (rP Z (rP Z (rP Z (o_pick_t Z Z Z (q3 (W_true Z (q2 (aG Z (q3 (W_ret ?_)))))))))))))))
    refine N_K_ret (N_B_ret (N_K_ret (N_LP_ret (N_B_ret (N_K_ret (rt1 results153 Z ?_))))))
    exact H.rets (congrArg Value.bool (by rw [Sp.sv_false (k := k) oM (Sp.okH_id hz4 oM)]))
   intro hc9'
   try simp only [nrm] at hc9'
   refine gR Z (o_fieldAddr 2 runUnderlying105 Z sizeOf3 Z Z Z (gR Z (o_load_B 0 H isAgg3 Z Z Z Z (gR Z (o_gtr Z Z Z (o_pick_f Z Z Z (mV Z ?_)))))))
   refine R_case (t := 37) Z ?_ ?_
   ·intro hc10
    try simp only [nrm] at hc10
    refine rP Z (rP Z (rP Z (rP Z (o_pick_t Z Z Z (q3 (W_true Z (q2 (aG Z (q3 (W_ret (N_K_ret (N_B_ret (N_K_ret (N_LP_ret (N_B_ret ?_)))))))))))))))
    refine N_K_ret (rt1 results153 Z ?_)
    exact H.rets (congrArg Value.bool (by rw [Sp.sv_false (k := k) oM (Sp.okH_id hz4 oM)]))
   intro hc10'
   try simp only [nrm] at hc10'
   refine gR Z (o_fieldAddr 1 runUnderlying105 Z sizeOf33 Z Z Z (gR Z (o_load_B 0 H isAgg33 Z Z Z Z (gR Z (o_call call188 Z Z (i_BlockValid_c _ _ H.sub _ _ hr4 ) ?_)))))
   rintro _ w11 ⟨rfl, ew11⟩; have H := H.step ew11; refine ⟨_, rfl, ?_⟩
   refine gR Z (o_not Z Z (o_pick_f Z Z Z (q3 ?_)))
   refine W_cond Z ?_ ?_
   ·intro hc12
    try simp only [nrm] at hc12
    refine q2 (aG Z (q3 (W_ret (N_K_ret (N_B_ret (N_K_ret (N_LP_ret (N_B_ret (N_K_ret (rt1 results153 Z ?_))))))))))
    exact H.rets (congrArg Value.bool (by rw [Sp.sv_false (k := k) oM (Sp.okH_id hz4 (by exact .inr (.inr (.inr (by simpa using hc12)))))]))
   intro hc12'
   try simp only [nrm] at hc12'
   refine W_skip (N_K (W_seq (q2 (mV Z (mV Z ?_)))))
   have hcap13 := hlist.cap; try simp only [List.length_set, List.length_append, List.length_take, List.length_drop, List.length_replicate] at hcap13
   refine o_slice_to (j := k) underlying23 sizeOf105 Z Z Z oM oM ?_
   have hsl13 := hlist.take (j := k) aN
   have hsn1 := hsl13.len
   refine o_len_slice underlying23 Z Z (mV Z (q3 (W_block ?_)))
   obtain ⟨ln14, hln14, H⟩ := H.name (k := 0) rfl
   refine W_lp (hf := (Sub.cons (t := 0) Z (Sub.cons (t := 3) Z (Sub.cons (t := 5) Z (Sub.cons (t := 11) Z (Sub.cons (t := 12) Z (Sub.cons (t := 13) Z (Sub.cons (t := 45) Z (Sub.cons (t := 46) Z Sub.nil))))))))) (J := fun M w m => ∃ (j : Nat) (G : PH), M = [(47, .int .i64 (j : Int))] ∧ PLe G2 G ∧ Hp w0 G0 [] w G [blk b5 (cl ln14 105)] ∧ (j ≤ k ∧ (list.take j).all (fun g => !Sp.l2Same g.bytes z4.bytes) = true) ∧ m = (k - j)) (h0 := ⟨0, _, Z, PLe.refl _, H, ?inv, Z⟩) (round := ?round)
   case inv => exact ⟨by omega, by simp⟩
   case round =>
    rintro _ w15 _ ⟨j, G15, rfl, hle15, H, hinv15, rfl⟩
    subst hln14
    have hr4 := hr4.up hle15
    have hsl13 := hsl13.up hle15
    have hle2 := hle2.trans hle15
    obtain ⟨hj, hall2⟩ := hinv15
    refine q2 (o_lss Z Z Z (q3 (W_seq ?_)))
    refine W_cond Z ?_ ?_
    ·intro hc16
     try simp only [nrm] at hc16
     refine W_skip (N_K (W_seq (W_block (q2 (o_index_P j hsl13 underlying23 sizeOf105 Z Z Z Z aN ?_))))); intro b17 o17 z17 q17 hz17 hE17 hrow17
     obtain ⟨a17, m17, c17, rfl, hi17, hr17, hj17⟩ := hE17; have hn_hr17 := hr17.len; have hx_hr17 : _ ≤ 1099511627776 := hr17.lim
     rw [List.getElem?_take, if_pos oM] at hz17
     refine o_loadagg_P H isAgg105 sizeOf105 Z Z hrow17 Z (o_alloc H zeroValue105 Z Z ?_); intro b18 w18 hb18 H
     refine o_store_B 0 H sizeOf105 Z Z Z Z Z Z Z Z ?_; intro w19 H
     refine q1 (o_fieldAddr 1 runUnderlying105 Z sizeOf33 Z Z Z (o_load_B 0 H isAgg33 Z Z Z Z (o_fieldAddr 1 runUnderlying105 Z sizeOf33 Z Z Z (o_load_B 1 H isAgg33 Z Z Z Z (o_call call189 Z Z (l_Equal_c _ _ H.sub _ _ hr17 _ _ hr4 ) ?_)))))
     rintro _ w20 ⟨rfl, ew20⟩; have H := H.step ew20; refine ⟨_, rfl, ?_⟩
     refine q3 ?_
     refine W_cond Z ?_ ?_
     ·intro hc21
      try simp only [nrm] at hc21
      refine q2 (aG Z (q3 (W_ret (N_B_ret (N_K_ret (N_LP_ret (N_B_ret (N_K_ret (N_B_ret (N_K_ret (N_LP_ret (N_B_ret (N_K_ret (rt1 results153 Z ?_))))))))))))))
      exact H.rets (congrArg Value.bool (by rw [Sp.sv_false (k := k) oM (Sp.okH_dup hz4 oM hz17 hc21)]))
     intro hc21'
     try simp only [nrm] at hc21'
     refine W_skip (N_B (N_K (W_region (o_add Z Z Z oO (mV Z (R_nil ?_))))))
     have H := H.del (k := 0) rfl
     refine N_lp (hJ := ⟨j + 1, _, Z, hle15, H, ?inv, Z⟩) (hm := ?hm)
     case hm => omega
     case inv => exact ⟨by omega, Sp.all_take hall2 hz17 (by simp [hc21'])⟩
    intro hc16'
    try simp only [nrm] at hc16'
    refine W_exit (N_K_exit (N_LP_exit (N_B_same (N_K (W_region (o_fieldAddr 0 runUnderlying105 Z sizeOf3 Z Z Z (o_load_B 0 H isAgg3 Z Z Z Z (aG Z (R_nil (N_B (N_K (W_region (o_add Z Z Z oO (mV Z (R_nil ?_)))))))))))))))
    have H := H.del (k := 0) rfl
    refine N_lp (hJ := ⟨k + 1, z4.id, _, Z, hle2, H, ?inv, Z⟩) (hm := ?hm)
    case hm => omega
    case inv => (obtain rfl : j = k := by omega); exact ⟨by omega, (Sp.lastId_succ hz4).symm, Sp.upto_succ hall (Sp.okH_mk hz4 hall oM oM (by simpa using hc12') oM hall2), hi4⟩
  intro hc3'
  try simp only [nrm] at hc3'
  refine W_exit (N_K_exit (N_LP_exit (N_B_same (N_K (q2 (aG Z (q3 (W_ret (rt1 results153 Z ?_)))))))))
  exact H.rets (congrArg Value.bool (by rw [Sp.sv_true (fun j hj => hall j oM) oM]))
end Go.Proofs.Tst

namespace Go.Proofs.Tst
open Go Fw Tryz
theorem i_openStore_c (w0 : World) (G0 : PH) (hG : PSub G0 w0) (vlist : Value) (list : List (BHeld)) (hlist : RdH G0 vlist list) (hLent : Lent w0 G0 [])  :
  Calls Tryz.prog 107 #[vlist] w0 (RetM w0 G0 [] (fun G' v Bs => (Sp.StoreValid list = false ∧ v = .tuple #[.map none, .bool false] ∧ Bs = []) ∨ (Sp.VH list ∧ ∃ (mb : Nat) (es' : Array MapEntry) (ck' : Nat) (xs' : List (Int × Value)), v = .tuple #[.map (some mb), .bool true] ∧ Bs = [blk mb (.map es' ck')] ∧ MapIs (Value.int .i64) es' ck' xs' ∧ StR G' xs' list))) := by
 obtain ⟨alist, klist, rfl⟩ := hlist.shape
 have hlimlist : list.length ≤ 1099511627776 := hlist.lim
 have H : Hp w0 G0 [] w0 G0 [] := hLent.hp
 refine calls_of_W (l := [.slice alist list.length klist]) func107 Z ntmps107 Z (q2 (aG Z (aG Z (q3 (W_seq (q2 (mV Z (o_call call153 Z Z (i_StoreValid_c _ _ H.sub _ _ hlist ) ?_))))))))
 rintro _ w1 ⟨rfl, ew1⟩; have H := H.step ew1; refine ⟨_, rfl, ?_⟩
 refine o_not Z Z (q3 ?_)
 refine W_cond Z ?_ ?_
 ·intro hc2
  try simp only [nrm] at hc2
  refine q2 (aG Z (aG Z (q3 (W_ret (N_K_ret (rt2 results107 Z Z ?_))))))
  exact H.retM (.inl ⟨by simpa using hc2, rfl, rfl⟩)
 intro hc2'
 try simp only [nrm] at hc2'
 have hVl := Sp.valid_iff.1 (by simpa using hc2' : Sp.StoreValid list = true)
 refine W_skip (N_K (q2 (o_makeMap H Z ?_))); intro b3 w3 hb3 H
 have hm3 := MapIs.empty (key := Value.int .i64) 0
 have hS3 := StR.nil G0
 refine aG Z (q3 (W_seq (q2 (mV Z (o_len_slice underlying23 Z Z (mV Z (q3 (W_block ?_))))))))
 refine W_lp (hf := (Sub.cons (t := 2) Z (Sub.cons (t := 3) Z (Sub.cons (t := 4) Z (Sub.cons (t := 11) Z (Sub.cons (t := 12) Z Sub.nil)))))) (J := fun M w m => ∃ (esm0 : Array MapEntry) (ckm0 : Nat) (xsm0 : List (Int × Value)) (Lm0 : List BHeld) (k : Nat) (G : PH), M = [(13, .int .i64 (k : Int))] ∧ PLe G0 G ∧ Hp w0 G0 [] w G [blk b3 (.map esm0 ckm0)] ∧ (MapIs (Value.int .i64) esm0 ckm0 xsm0 ∧ StR G xsm0 Lm0 ∧ Sp.VH Lm0 ∧ k ≤ list.length ∧ Lm0 = list.take k) ∧ m = (list.length - k)) (h0 := ⟨_, _, [], [], 0, _, Z, PLe.refl _, H, ?inv, Z⟩) (round := ?round)
 case inv => exact ⟨hm3, hS3, Sp.VH_nil, (by simp)⟩
 case round =>
  rintro _ w4 _ ⟨esm0, ckm0, xsm0, Lm0, k, G4, rfl, hle4, H, hinv4, rfl⟩
  have hlist := hlist.up hle4
  obtain ⟨hm4_m0, hS4_m0, hV4_m0, hinv4⟩ := hinv4
  obtain ⟨hk, rfl⟩ := hinv4
  refine q2 (o_lss Z Z Z (q3 (W_seq ?_)))
  refine W_cond Z ?_ ?_
  ·intro hc5
   try simp only [nrm] at hc5
   refine W_skip (N_K (W_seq (W_block (q2 (o_index_P k hlist underlying23 sizeOf105 Z Z Z Z aN ?_))))); intro b6 o6 z6 q6 hz6 hE6 hrow6
   obtain ⟨a6, m6, c6, rfl, hi6, hr6, hj6⟩ := hE6; have hn_hr6 := hr6.len; have hx_hr6 : _ ≤ 1099511627776 := hr6.lim
   refine o_loadagg_P H isAgg105 sizeOf105 Z Z hrow6 Z (o_alloc H zeroValue105 Z Z ?_); intro b7 w7 hb7 H
   refine o_store_B 0 H sizeOf105 Z Z Z Z Z Z Z Z ?_; intro w8 H
   refine q3 (W_drawK [0] 12 H kR Z ?_); intro w9 H; have hd9 := PLe.refl G4
   refine vM 0 Z Z (RD_t 1 Z kR Z (fun _ hK => v_fieldAddr 0 runUnderlying105 Z sizeOf3 Z Z) (RD_t 2 Z kR Z (fun _ hK => v_load_B 0 hK isAgg3 Z Z Z) (RD_t 3 Z kR Z (fun _ hK => v_fieldAddr 0 runUnderlying105 Z sizeOf3 Z Z) (RD_t 4 Z kR Z (fun _ hK => v_load_B 0 hK isAgg3 Z Z Z) (RD_t 5 Z kR Z (fun _ hK => v_fieldAddr 1 runUnderlying105 Z sizeOf33 Z Z) (RD_t 6 Z kR Z (fun _ hK => v_load_B 0 hK isAgg33 Z Z Z) (RD_t 8 Z kR Z (fun _ hK => v_fieldAddr 2 runUnderlying105 Z sizeOf3 Z Z) (RD_t 9 Z kR Z (fun _ hK => v_load_B 0 hK isAgg3 Z Z Z) ?_))))))))
   refine RD_run [7] kR Z (RDs.cons Z ?_ RDs.nil)
   refine o_call call141 Z Z (l_Clone_c _ _ H.sub _ _ hr6 ) ?_
   rintro _ w10 ⟨G10, v10, _, g10, rfl, ⟨cs10, rfl, hchk10⟩, hp10, hq10, hs10⟩
   have H := H.growO g10 hp10 hq10 hs10; obtain ⟨av10, cv10, rfl⟩ := H.accShape (k := 0) rfl
   have hS4_m0 := hS4_m0.up g10.le
   have hle4 := hle4.trans g10.le
   have hd9 := hd9.trans g10.le
   refine ⟨_, Z, ?_⟩
   refine R_nil (N_DK (Kn.of' H hd9 (SubL.cons 1 Z SubL.nil)) (RD_t 10 Z kR Z (fun _ hK => v_build bf105 Z Z) ?_))
   refine RD_run [11] kR Z (RDs.cons Z ?_ RDs.nil)
   obtain ⟨G12, H, hsg12, hsr12⟩ := H.shutL (k := 0) rfl (H.apart (k := 0) (ks := []) rfl rfl (by intro b hb; simpa [fpsAt, nth, blk] using hb)) hchk10 aN aN
   have hS4_m0 := hS4_m0.up hsg12
   have hle4 := hle4.trans hsg12
   refine o_updS 1 H z6 Z hm4_m0 hS4_m0 underlying96 underlying3 Z Z Z (show heldE G12 z6 _ from ⟨_, _, _, Z, ⟨by first | omega | (dsimp only; omega), by first | omega | (dsimp only; omega)⟩, hsr12, ⟨by first | omega | (dsimp only; omega), by first | omega | (dsimp only; omega)⟩⟩) rfl ?_; intro es11 ck11 xs11 w11 H hm11 hS11
   refine R_nil (N_DKlast kR kR (N_B (N_K (W_region ?_))))
   rw [Sp.upd_take hVl hz6] at hS11
   refine o_add Z Z Z oO (mV Z (R_nil ?_))
   have H := H.del (k := 0) rfl
   refine N_lp (hJ := ⟨_, _, xs11, (list.take (k + 1)), k + 1, _, Z, hle4, H, ?inv, Z⟩) (hm := ?hm)
   case hm => omega
   case inv => exact ⟨hm11, hS11, (hVl.take (k + 1)), (by exact ⟨by omega, rfl⟩)⟩
  intro hc5'
  try simp only [nrm] at hc5'
  refine W_exit (N_K_exit (N_LP_exit (N_B_same (N_K (q2 (mV Z (aG Z (aG Z (q3 (W_ret (rt2 results107 Z Z ?_)))))))))))
  rw [List.take_of_length_le oM] at hS4_m0
  exact H.retM (.inr ⟨hVl, _, _, _, _, Z, Z, hm4_m0, hS4_m0⟩)
theorem i_slist_c (w0 : World) (G0 : PH) (hG : PSub G0 w0) (mbs : Nat) (ess : Array MapEntry) (cks : Nat) (xss : List (Int × Value)) (Ls : List BHeld) (hbs : MapAt G0 mbs ess cks) (hms : MapIs (Value.int .i64) ess cks xss) (hSs : StR G0 xss Ls) (hVs : Sp.VH Ls)  :
  Calls Tryz.prog 123 #[.map (some mbs)] w0 (RetN w0 G0 (fun v Bs => ∃ (F : Fr), Bs = [frag F] ∧ OHs F v Ls)) := by
 have hl16 := hVs.len
 have H := Hp.init hG
 refine calls_of_W (l := [.map (some mbs)]) func123 Z ntmps123 Z (q2 (aG Z (q1 (mV Z ?_))))
 have hml1 := hSs.len
 refine o_lenM (hbs.at H.sub) hms underlying96 Z Z (o_make0 (c := Ls.length) (sz := 3) (bytes := 40) H underlying23 typeInfo105 ⟨_, Z, Z⟩ Z Z Z Z Z Z oM oM Z ?_); intro b2 w2 H
 refine aG Z (q3 (W_seq (q2 (mV Z (o_call call165 Z Z (keys_c _ _ H.sub _) ?_))))); rintro _ w3 ⟨kb3, rfl, hkb3, ek3, hkc3⟩; have H := H.step ek3; refine ⟨_, rfl, ?_⟩
 refine o_call call164 Z Z (sorted_c _ _ _ hkc3 (hbs.at H.sub) hms hSs hVs) ?_; rintro _ w4 ⟨v4, rfl, ek4, hp4, hf4⟩; have H := H.add ek4 _ hp4 hf4 (acc_nd _ _ _ _ _)
 have hchk4 := chkIds G0 hVs; obtain ⟨av4, cv4, rfl⟩ := H.accShape (k := 0) rfl; refine ⟨_, rfl, ?_⟩
 refine o_len_slice underlying33 Z Z (mV Z (q3 (W_block ?_)))
 obtain ⟨G5, H, hsg5, hsr5⟩ := H.shut' (k := 0) rfl hchk4 aN aN
 have hSs := hSs.up hsg5
 have hbs := hbs.up hsg5
 have H := H.addF
 refine W_lp (hf := (Sub.cons (t := 0) Z (Sub.cons (t := 2) Z (Sub.cons (t := 12) Z (Sub.cons (t := 13) Z Sub.nil))))) (J := fun M w m => ∃ (v : Value) (n : Nat) (cs : List Value) (xs : List (BHeld)) (F : Fr) (k : Nat) (G : PH), M = [(14, .int .i64 (k : Int)), (3, v)] ∧ PLe G5 G ∧ Hp w0 G0 [] w G [frag F, acc 105 3 v n cs] ∧ (ChkF heldO 3 cs xs F ∧ n = xs.length ∧ k ≤ Ls.length ∧ xs = Ls.take k) ∧ m = (Ls.length - k)) (h0 := ⟨_, _, _, [], [], 0, _, Z, PLe.refl _, H, ?inv, Z⟩) (round := ?round)
 case inv => exact ⟨ChkF.nil,  by first | rfl | simp | (simp; omega) | omega, (by simp)⟩
 case round =>
  rintro _ w6 _ ⟨v, n, cs, xs, F, k, G6, rfl, hle6, H, hinv6, rfl⟩
  have hSs := hSs.up hle6
  have hbs := hbs.up hle6
  have hsr5 := hsr5.up hle6
  obtain ⟨hchk6_0, hn6_0, hinv6⟩ := hinv6
  obtain ⟨av6_0, cv6_0, rfl⟩ := H.accShape (k := 1) rfl
  obtain ⟨hk, hxs⟩ := hinv6; have hxl : xs.length ≤ 16 := by rw [hxs]; simp; omega
  refine q2 (o_lss Z Z Z (q3 (W_seq ?_)))
  refine W_cond Z ?_ ?_
  ·intro hc7
   try simp only [nrm] at hc7
   refine W_skip (N_K (W_seq (W_block (q2 (o_index_P k hsr5 underlying33 sizeOf3 Z Z Z Z aN ?_))))); intro b8 o8 z8 q8 hz8 hE8 hrow8
   obtain ⟨rfl, hi8⟩ := hE8
   refine o_load_P H isAgg3 Z Z (hrow8 0 _ Z) (aG Z (q1 (mV Z (mV Z (o_lookS (hbs.at H.sub) hms hSs underlying96 underlying3 zeroValue105 Z Z Z ?_))))); intro q9 hE9
   obtain ⟨a9, m9, c9, rfl, hi9, hr9, hj9⟩ := hE9; have hn_hr9 := hr9.len; have hx_hr9 : _ ≤ 1099511627776 := hr9.lim
   have hgb := Sp.get_len hVs z8
   have hat := Sp.get_at hVs hz8
   refine o_alloc H zeroValue105 Z Z ?_; intro b10 w10 hb10 H
   refine o_store_B 0 H sizeOf105 Z Z Z Z Z Z Z Z ?_; intro w11 H
   refine q3 (W_drawK [0] 11 H kR Z ?_); intro w12 H; have hd12 := PLe.refl G6
   refine vM 0 Z Z (vM 1 Z Z (RD_t 2 Z kR Z (fun _ hK => v_fieldAddr 1 runUnderlying105 Z sizeOf33 Z Z) (RD_t 3 Z kR Z (fun _ hK => v_load_B 0 hK isAgg33 Z Z Z) (RD_t 5 Z kR Z (fun _ hK => v_fieldAddr 2 runUnderlying105 Z sizeOf3 Z Z) (RD_t 6 Z kR Z (fun _ hK => v_load_B 0 hK isAgg3 Z Z Z) ?_)))))
   refine RD_run [4] kR Z (RDs.cons Z ?_ RDs.nil)
   refine o_call call141 Z Z (l_Clone_c _ _ H.sub _ _ hr9 ) ?_
   rintro _ w13 ⟨G13, v13, _, g13, rfl, ⟨cs13, rfl, hchk13⟩, hp13, hq13, hs13⟩
   have H := H.growO g13 hp13 hq13 hs13; obtain ⟨av13, cv13, rfl⟩ := H.accShape (k := 0) rfl
   have hle6 := hle6.trans g13.le
   have hd12 := hd12.trans g13.le
   refine ⟨_, Z, ?_⟩
   refine R_nil (N_DK (Kn.of' H hd12 (SubL.cons 1 Z SubL.nil)) (RD_t 7 Z kR Z (fun _ hK => v_build bf105 Z Z) ?_))
   refine RD_run [8] kR Z (RDs.cons Z ?_ RDs.nil)
   refine o_buildSlice H underlying23 sizeOf105 (fun w => ⟨_, zeroValue105 w, Z⟩) Z Z Z Z Z Z Z ?_; intro b14 w14 hb14 H
   refine R_nil (N_DK (Kn.of' H hd12 (SubL.cons 2 Z SubL.nil)) ?_)
   refine RD_run [9] kR Z (RDs.cons Z ?_ RDs.nil)
   refine o_append1 3 H (sz := 3) (bytes := 40) underlying23 typeInfo105 ⟨_, Z, Z⟩ Z Z Z Z Z Z Z Z Z Z oM Z ?_; intro v15 w15 H
   obtain ⟨Fi2, H, hOI2⟩ := H.ownI (k := 0) rfl hchk13 aN aN
   have hchk15 := hchk6_0.snoc (show heldO Fi2 ⟨z8, (getH Ls z8).bytes, (getH Ls z8).uses⟩ _ from ⟨_, _, _, rfl, ⟨by first | omega | (dsimp only; omega), by first | omega | (dsimp only; omega)⟩, hOI2, ⟨by first | omega | (dsimp only; omega), by first | omega | (dsimp only; omega)⟩⟩) rfl
   have H := H.toFront (k := 2) rfl
   have H := H.mergeF
   obtain ⟨av15, cv15, rfl⟩ := H.accShape (k := 2) rfl
   refine R_nil (N_DK (Kn.of' H hd12 (SubL.cons 1 Z SubL.nil)) (RD_t 10 Z kR Z (fun _ hK => v_assign Z) (RD_done kR (N_B (N_K (W_region (o_add Z Z Z oO (mV Z (R_nil ?_)))))))))
   have H := H.del (k := 1) rfl
   refine N_lp (hJ := ⟨_, _, _, (xs ++ [⟨z8, (getH Ls z8).bytes, (getH Ls z8).uses⟩]), (F ++ Fi2), k + 1, _, Z, hle6, H, ?inv, Z⟩) (hm := ?hm)
   case hm => omega
   case inv => exact ⟨hchk15, aN, (by exact ⟨by omega, by rw [Sp.take_succ' hat, hxs]⟩)⟩
  intro hc7'
  try simp only [nrm] at hc7'
  refine W_exit (N_K_exit (N_LP_exit (N_B_same (N_K (q2 (mV Z (aG Z (q3 (W_ret (rt1 results123 Z ?_))))))))))
  have H := H.toFront (k := 1) rfl
  obtain ⟨Fo3, H, hOw3⟩ := H.ownF hchk6_0 aN aN
  have hX : xs = Ls := by rw [hxs, List.take_of_length_le oM]
  have H := H.forget hG (by simp)
  exact ⟨_, _, Z, H, _, Z, hX ▸ ⟨_, hOw3⟩⟩
end Go.Proofs.Tst

namespace Go.Proofs.Tst
open Go Fw Tryz
theorem i_newVolume_c (w0 : World) (G0 : PH) (hG : PSub G0 w0) (vstore : Value) (store : List (BHeld)) (hstore : RdH G0 vstore store) (vtree : Value) (tree : List (BItem)) (htree : RdItems G0 vtree tree) (hLent : Lent w0 G0 [])  :
  Calls Tryz.prog 109 #[vstore, vtree] w0 (RetM w0 G0 [] (fun G' v Bs => (v = .tuple #[.agg #[.map none, .pointer none], .bool false] ∧ Bs = [] ∧ (Sp.StoreValid store && Sp.TreeValid tree) = false) ∨ (∃ (mb : Nat) (es : Array MapEntry) (ck : Nat) (xs : List (Int × Value)) (T : Nd) (F : Fr), v = .tuple #[.agg #[.map (some mb), .pointer (some ⟨T.b, 0, none⟩)], .bool true] ∧ Bs = [blk mb (.map es ck), frag F] ∧ MapIs (Value.int .i64) es ck xs ∧ StR G' xs store ∧ Sp.VH store ∧ NdO 149 97 G' T F ∧ Nd.TOK T tree ∧ Sp.TreeValid tree = true))) := by
 obtain ⟨astore, kstore, rfl⟩ := hstore.shape
 have hlimstore : store.length ≤ 1099511627776 := hstore.lim
 obtain ⟨atree, ktree, rfl⟩ := htree.shape
 have hlimtree : tree.length ≤ 1099511627776 := htree.lim
 have H : Hp w0 G0 [] w0 G0 [] := hLent.hp
 refine calls_of_W (l := [.slice astore store.length kstore, .slice atree tree.length ktree]) func109 Z ntmps109 Z (q2 (o_alloc H zeroValue99 Z Z ?_)); intro b1 w1 hb1 H
 refine aG Z (q1 (mV Z (o_call call107 Z Z (i_openStore_c _ _ H.sub _ _ hstore H.lent0 ) ?_)))
 rintro _ w2 ⟨G2, _, _, rfl, H2', ⟨hnv2, rfl, rfl⟩ | ⟨hV2, mb2, es2, ck2, xs2, rfl, rfl, hm2, hS2⟩⟩
 ·skip
  have H := H.borrow0 H2'
  refine ⟨_, Z, ?_⟩
  refine mV Z (o_extract Z Z Z (o_extract Z Z Z (aG Z (aG Z (q3 (W_seq (q2 (mV Z (o_not Z Z (q3 (W_true Z (q2 (o_build bf99 Z Z Z (o_store_B 0 H sizeOf99 Z Z Z Z Z Z Z Z ?_)))))))))))))); intro w3 H
  refine aG Z (q3 (W_ret (N_K_ret (ret_gen (rs := [.cell 4 99, .tmp 5]) (vs := [_, _]) results109 ⟨⟨_, Z, load_blk 0 H isAgg99 sizeOf99 Z Z Z⟩, Z, trivial⟩ ?_))))
  have H := H.del (k := 0) rfl
  exact H.retM (.inl ⟨rfl, rfl, by simp_all⟩)
 skip
 have htree := htree.up H2'.le
 have H := H.borrow0 H2'
 refine ⟨_, Z, ?_⟩
 refine mV Z (o_extract Z Z Z (o_extract Z Z Z (aG Z (aG Z (q3 (W_seq (q2 (mV Z (o_not Z Z (q3 (W_false Z (W_skip (N_K (q2 (mV Z ?_)))))))))))))))
 refine o_call call105 Z Z (i_openTree_c _ _ H.sub _ _ htree H.lent0 ) ?_
 rintro _ w4 ⟨G4, _, _, rfl, H4', ⟨rfl, rfl, hv4⟩ | ⟨T4, F4, rfl, rfl, hN4, hT4, hv4⟩⟩
 ·skip
  have H := H.borrow0 H4'
  refine ⟨_, Z, ?_⟩
  refine mV Z (o_extract Z Z Z (o_extract Z Z Z (aG Z (aG Z (q3 (W_seq (q2 (mV Z (o_not Z Z (q3 (W_true Z (q2 (o_build bf99 Z Z Z (o_store_B 1 H sizeOf99 Z Z Z Z Z Z Z Z ?_)))))))))))))); intro w5 H
  refine aG Z (q3 (W_ret (N_K_ret (ret_gen (rs := [.cell 4 99, .tmp 5]) (vs := [_, _]) results109 ⟨⟨_, Z, load_blk 1 H isAgg99 sizeOf99 Z Z Z⟩, Z, trivial⟩ ?_))))
  have H := H.del (k := 0) rfl
  have H := H.del (k := 0) rfl
  exact H.retM (.inl ⟨rfl, rfl, by simp_all⟩)
 skip
 have hS2 := hS2.up H4'.le
 have H := H.borrow0 H4'
 refine ⟨_, Z, ?_⟩
 refine mV Z (o_extract Z Z Z (o_extract Z Z Z (aG Z (aG Z (q3 (W_seq (q2 (mV Z (o_not Z Z (q3 (W_false Z (W_skip (N_K (q2 (mV Z ?_)))))))))))))))
 refine mV Z (o_build bf99 Z Z Z (o_store_B 2 H sizeOf99 Z Z Z Z Z Z Z Z ?_)); intro w6 H
 refine aG Z (q3 (W_ret (ret_gen (rs := [.cell 4 99, .tmp 5]) (vs := [_, _]) results109 ⟨⟨_, Z, load_blk 2 H isAgg99 sizeOf99 Z Z Z⟩, Z, trivial⟩ ?_)))
 have H := H.del (k := 2) rfl
 have H := H.toFront (k := 1) rfl
 exact H.retM (.inr ⟨_, _, _, _, _, _, Z, Z, hm2, hS2, hV2, hN4, hT4, hv4⟩)
end Go.Proofs.Tst

namespace Go.Proofs.Tst
open Go Fw Tryz
theorem i_snapAt_c (w0 : World) (G0 : PH) (hG : PSub G0 w0) (db : Nat) (m1 m2 v1 v2 vs : Value) (sn : List (Bs × Nd)) (hdk : PRow G0 db 0 [m1, m2, v1, v2, vs]) (hsn : RdS LIM osE 2 G0 vs sn) (nm : Bs) (hnm : nm.length ≤ 16777216)  :
  Calls Tryz.prog 93 #[.pointer (some ⟨db, 0, none⟩), str nm] w0 (Rets w0 (.int .i64 (Sp.optI (sn.findIdx? (fun x => decide (x.1 = nm)))))) := by
 obtain ⟨asn, ksn, rfl⟩ := hsn.shape; have hlimsn : sn.length ≤ 1099511627776 := hsn.lim
 have H := Hp.init hG
 refine calls_of_W (l := [.pointer (some ⟨db, 0, none⟩), str nm]) func93 Z ntmps93 Z (q2 (aG Z (q3 (W_seq (q2 (mV Z (o_nilCheck Z Z (o_fieldAddr 4 runUnderlying131 Z sizeOf129 Z Z Z (o_load_P H isAgg129 Z Z (hdk 4 _ Z) (o_len_slice underlying129 Z Z (mV Z (q3 (W_block ?_)))))))))))))
 refine W_lp (hf := (Sub.cons (t := 1) Z (Sub.cons (t := 10) Z (Sub.cons (t := 11) Z Sub.nil)))) (J := fun M w m => ∃ (k : Nat) (G : PH), M = [(12, .int .i64 (k : Int))] ∧ PLe G0 G ∧ Hp w0 G0 [] w G [] ∧ (k ≤ sn.length ∧ ∀ (j : Nat) (x : Bs × Nd), j < k → sn[j]? = some x → decide (x.1 = nm) = false) ∧ m = (sn.length - k)) (h0 := ⟨0, _, Z, PLe.refl _, H, ?inv, Z⟩) (round := ?round)
 case inv => exact ⟨by omega, fun j x hj => by omega⟩
 case round =>
  rintro _ w1 _ ⟨k, G1, rfl, hle1, H, hinv1, rfl⟩
  have hsn := hsn.up hle1
  obtain ⟨hk, hno⟩ := hinv1
  refine q2 (o_lss Z Z Z (q3 (W_seq ?_)))
  refine W_cond Z ?_ ?_
  ·intro hc2
   try simp only [nrm] at hc2
   refine W_skip (N_K (W_seq (W_block (q2 (mV Z (o_index_P k hsn underlying129 sizeOf135 Z Z Z Z aN ?_)))))); intro b3 o3 z3 q3 hz3 hE3 hrow3
   obtain ⟨rfl, hi3⟩ := hE3; have hy_hi3 : _ ≤ 16777216 := hi3
   refine o_loadagg_P H isAgg135 sizeOf135 Z Z hrow3 Z (o_alloc H zeroValue135 Z Z ?_); intro b4 w4 hb4 H
   refine aG Z (o_store_B 0 H sizeOf135 Z Z Z Z Z Z Z Z ?_); intro w5 H
   refine q1 (o_fieldAddr 0 runUnderlying135 Z sizeOf9 Z Z Z (o_load_B 0 H isAgg9 Z Z Z Z (mV Z (o_seql Z Z Z (q3 ?_)))))
   refine W_cond Z ?_ ?_
   ·intro hc6
    try simp only [nrm] at hc6
    refine q2 (mV Z (aG Z (q3 (W_ret (N_B_ret (N_K_ret (N_LP_ret (N_B_ret (N_K_ret (rt1 results93 Z ?_))))))))))
    exact H.rets (congrArg (Value.int .i64) (by rw [Sp.fidx_some (p := fun x : Bs × Nd => decide (x.1 = nm)) hno hz3 (by simpa using hc6)]; rfl))
   intro hc6'
   try simp only [nrm] at hc6'
   refine W_skip (N_B (N_K (W_region (o_add Z Z Z oO (mV Z (R_nil ?_))))))
   have H := H.del (k := 0) rfl
   refine N_lp (hJ := ⟨k + 1, _, Z, hle1, H, ?inv, Z⟩) (hm := ?hm)
   case hm => omega
   case inv => exact ⟨by omega, Sp.fidx_step hno hz3 (by simpa using hc6')⟩
  intro hc2'
  try simp only [nrm] at hc2'
  refine W_exit (N_K_exit (N_LP_exit (N_B_same (N_K (q2 (aG Z (q3 (W_ret (rt1 results93 Z ?_)))))))))
  exact H.rets (congrArg (Value.int .i64) (by rw [Sp.fidx_none (p := fun x : Bs × Nd => decide (x.1 = nm)) (fun j x hj => hno j x oM)]; rfl))
end Go.Proofs.Tst

namespace Go.Proofs.Tst
open Go Fw Tryz
theorem i_newDisk_c (w0 : World) (G0 : PH) (hG : PSub G0 w0) (cd : List Value) (d : BDisk) (hd : diskE G0 d cd) (hLent : Lent w0 G0 [])  :
  Calls Tryz.prog 52 #[.agg cd.toArray] w0 (RetM w0 G0 [] (fun G' v Bs => (v = .tuple #[.pointer none, .bool false] ∧ Bs = [] ∧ Sp.DiskValid d = false) ∨ (∃ (db mb : Nat) (es : Array MapEntry) (ck : Nat) (xs : List (Int × Value)) (T : Nd) (F : Fr) (sv : Value) (sn : List (Fw.Bs × Nd)) (c : List Value) (FSq : Fr), v = .tuple #[.pointer (some ⟨db, 0, none⟩), .bool true] ∧ Bs = [blk db (cl [.int .i32 0, .int .u32 0, .map (some mb), .pointer (some ⟨T.b, 0, none⟩), sv] 131), blk mb (.map es ck), frag F, acc 135 2 sv sn.length c, frag FSq] ∧ MapIs (Value.int .i64) es ck xs ∧ StR G' xs d.store ∧ NdO 149 97 G' T F ∧ Nd.TOK T d.tree ∧ Chk osE 2 G' c sn ∧ NdsO 149 97 G' (sn.map (·.2)) FSq ∧ SnOK sn d.snaps ∧ Sp.DiskValid d = true))) := by
 obtain ⟨a1, m1, c1, a1', m1', c1', a1'', m1'', c1'', rfl, hr1, hr1', hr1''⟩ := hd; have hn_hr1 := hr1.len; have hx_hr1 : _ ≤ 1099511627776 := hr1.lim; have hn_hr1q := hr1'.len; have hx_hr1q : _ ≤ 1099511627776 := hr1'.lim; have hn_hr1qq := hr1''.len; have hx_hr1qq : _ ≤ 1099511627776 := hr1''.lim
 have H : Hp w0 G0 [] w0 G0 [] := hLent.hp
 refine calls_of_W (l := [_]) func52 Z ntmps52 Z (q2 (o_box H Z Z Z ?_)); intro b2 w2 hb2 H
 refine aG Z (aG Z (q1 (o_fieldAddr 0 runUnderlying27 Z sizeOf23 Z Z Z (o_load_B 0 H isAgg23 Z Z Z Z (o_fieldAddr 1 runUnderlying27 Z sizeOf24 Z Z Z (o_load_B 0 H isAgg24 Z Z Z Z (o_call call109 Z Z (i_newVolume_c _ _ H.sub _ _ hr1 _ _ hr1' H.lent0 ) ?_)))))))
 rintro _ w3 ⟨G3, _, _, rfl, H3', ⟨rfl, rfl, hnv3⟩ | ⟨mb3, es3, ck3, xs3, T3, F3, rfl, rfl, hm3, hS3, hV3, hN3, hT3, hv3⟩⟩
 ·skip
  have H := H.borrow0 H3'
  refine ⟨_, Z, ?_⟩
  refine mV Z (o_extract Z Z Z (o_extract Z Z Z (o_alloc H zeroValue99 Z Z ?_))); intro b4 w4 hb4 H
  refine o_store_B 0 H sizeOf99 Z Z Z Z Z Z Z Z ?_; intro w5 H
  refine aG Z (q3 (W_seq (q2 (mV Z (o_not Z Z (mV Z (rP Z (rP Z (rP Z (rP Z (o_pick_t Z Z Z (q3 (W_true Z (q2 (aG Z ?_)))))))))))))))
  refine aG Z (q3 (W_ret (N_K_ret (rt2 results52 Z Z ?_))))
  have H := H.del (k := 0) rfl
  have H := H.del (k := 0) rfl
  exact H.retM (.inl ⟨rfl, rfl, Sp.dv_no (fun hh => by simp [hh.1, hh.2.1] at hnv3)⟩)
 skip
 have hr1'' := hr1''.up H3'.le
 have H := H.borrow0 H3'
 refine ⟨_, Z, ?_⟩
 refine mV Z (o_extract Z Z Z (o_extract Z Z Z (o_alloc H zeroValue99 Z Z ?_))); intro b6 w6 hb6 H
 refine o_store_B 0 H sizeOf99 Z Z Z Z Z Z Z Z ?_; intro w7 H
 refine aG Z (q3 (W_seq (q2 (mV Z (o_not Z Z (mV Z (gR Z (o_fieldAddr 2 runUnderlying27 Z sizeOf25 Z Z Z (gR Z (o_load_B 3 H isAgg25 Z Z Z Z (gR Z (o_len_slice underlying25 Z Z (gR Z (o_gtr Z Z Z (o_pick_f Z Z Z ?_)))))))))))))))
 refine q3 ?_
 refine W_cond Z ?_ ?_
 ·intro hc8
  try simp only [nrm] at hc8
  refine q2 (aG Z (aG Z (q3 (W_ret (N_K_ret (rt2 results52 Z Z ?_))))))
  have H := H.del (k := 0) rfl
  have H := H.del (k := 0) rfl
  have H := H.del (k := 0) rfl
  have H := H.del (k := 0) rfl
  exact H.retM (.inl ⟨rfl, rfl, Sp.dv_no (fun hh => by have := hh.2.2.1; omega)⟩)
 intro hc8'
 try simp only [nrm] at hc8'
 refine W_skip (N_K (q2 (o_loadagg_B 0 H isAgg99 sizeOf99 Z Z Z Z Z (o_build bf131 Z Z Z (o_box H Z Z Z ?_))))); intro b9 w9 hb9 H
 refine aG Z (q1 (o_fieldAddr 1 runUnderlying99 Z sizeOf97 Z Z Z (o_load_B 1 H isAgg97 Z Z Z Z (o_buildSlice H underlying147 sizeOf97 (fun w => ⟨_, zeroValue97 w, Z⟩) Z Z Z Z Z Z Z ?_)))); intro b10 w10 hb10 H
 refine aG Z (q3 (W_seq (q2 (o_fieldAddr 2 runUnderlying27 Z sizeOf25 Z Z Z (o_load_B 5 H isAgg25 Z Z Z Z (o_len_slice underlying25 Z Z (mV Z (q3 (W_block ?_)))))))))
 have H := H.blkAcc 1 (k := 0) (n := 1) rfl rfl (by decide)
 have H := H.addF
 have H := H.addNil 135 2
 obtain ⟨ln12, hln12, H⟩ := H.nameAt (k := 3) (off := 4) rfl rfl
 obtain ⟨ln13, hln13, H⟩ := H.name (k := 4) rfl
 obtain ⟨ln14, hln14, H⟩ := H.name (k := 7) rfl
 refine W_lp (hf := (Sub.cons (t := 4) Z (Sub.cons (t := 6) Z (Sub.cons (t := 35) Z (Sub.cons (t := 36) Z Sub.nil))))) (J := fun M w m => ∃ (v : Value) (n : Nat) (cs : List Value) (xs : List (Bs × Nd)) (v1 : Value) (n1 : Nat) (cs1 : List Value) (xs1 : List (Nd)) (k : Nat) (FSq : Fr) (G : PH), M = [(37, .int .i64 (k : Int)), (7, v1)] ∧ PLe G3 G ∧ Hp w0 G0 [] w G [acc 135 2 v n cs, frag FSq, acc 97 1 v1 n1 cs1, blk b9 (cl (setN ln12 4 v) 131), blk b6 (cl ln13 99), blk mb3 (.map es3 ck3), frag F3, blk b2 (cl ln14 27)] ∧ (Chk osE 2 G cs xs ∧ n = xs.length ∧ Chk kdE 1 G cs1 xs1 ∧ n1 = xs1.length ∧ k ≤ d.snaps.length ∧ xs1 = T3 :: xs.map (·.2) ∧ NdsO 149 97 G (xs.map (·.2)) FSq ∧ SnOK xs (d.snaps.take k) ∧ ∀ (j : Nat) (s : BSnap), j < k → d.snaps[j]? = some s → Sp.l1Word s.name = true ∧ (j : Int) ≤ Sp.l12At d.snaps s.name) ∧ m = (d.snaps.length - k)) (h0 := ⟨_, _, _, [], _, _, _, [T3], 0, [], _, Z, PLe.refl _, H, ?inv, Z⟩) (round := ?round)
 case inv => exact ⟨(Chk.nil (E := osE) (sz := 2) (G := G3)), (by first | rfl | simp | (simp; omega) | omega), (chkK [T3]),  by first | rfl | simp | (simp; omega) | omega, (by exact ⟨by omega, rfl, by simp [NdsO], .nil, fun j s hj => by omega⟩)⟩
 case round =>
  rintro _ w15 _ ⟨v, n, cs, xs, v1, n1, cs1, xs1, k, FSq, G15, rfl, hle15, H, hinv15, rfl⟩
  subst hln12
  subst hln13
  subst hln14
  have hr1'' := hr1''.up hle15
  have hS3 := hS3.up hle15
  have hN3 := hN3.up hle15
  obtain ⟨hchk15_0, hn15_0, hinv15⟩ := hinv15
  obtain ⟨av15_0, cv15_0, rfl⟩ := H.accShape (k := 0) rfl
  obtain ⟨hchk15_1, hn15_1, hinv15⟩ := hinv15
  obtain ⟨av15_1, cv15_1, rfl⟩ := H.accShape (k := 2) rfl
  obtain ⟨hk, hx1, hNs, hSn, hw⟩ := hinv15; have hsl := hSn.len; have hxl6 : xs.length ≤ 6 := (by simp at hsl; omega); have hx1l : xs1.length = xs.length + 1 := by simp [hx1]
  refine q2 (o_lss Z Z Z (q3 (W_seq ?_)))
  refine W_cond Z ?_ ?_
  ·intro hc16
   try simp only [nrm] at hc16
   refine W_skip (N_K (W_seq (W_block (q2 (o_index_P k hr1'' underlying25 sizeOf81 Z Z Z Z aN ?_))))); intro b17 o17 z17 q17 hz17 hE17 hrow17
   obtain ⟨a17, m17, c17, rfl, hi17, hr17⟩ := hE17; have hy_hi17 : _ ≤ 16777216 := hi17; have hn_hr17 := hr17.len; have hx_hr17 : _ ≤ 1099511627776 := hr17.lim
   refine o_loadagg_P H isAgg81 sizeOf81 Z Z hrow17 Z (o_alloc H zeroValue81 Z Z ?_); intro b18 w18 hb18 H
   refine o_store_B 0 H sizeOf81 Z Z Z Z Z Z Z Z ?_; intro w19 H
   refine q1 (o_fieldAddr 1 runUnderlying81 Z sizeOf24 Z Z Z (o_load_B 0 H isAgg24 Z Z Z Z (o_call call105 Z Z (i_openTree_c _ _ H.sub _ _ hr17 H.lent0 ) ?_)))
   rintro _ w20 ⟨G20, _, _, rfl, H20', ⟨rfl, rfl, hv20⟩ | ⟨T20, F20, rfl, rfl, hN20, hT20, hv20⟩⟩
   ·skip
    have H := H.borrow0 H20'
    refine ⟨_, Z, ?_⟩
    refine mV Z (o_extract Z Z Z (o_extract Z Z Z (aG Z (aG Z (q3 (W_seq (q2 (mV Z (o_not Z Z (mV Z (rP Z (rP Z (rP Z (rP Z (o_pick_t Z Z Z ?_)))))))))))))))
    refine mV Z (rP Z (rP Z (rP Z (rP Z (rP Z (o_pick_t Z Z Z (q3 (W_true Z (q2 (aG Z (aG Z (q3 (W_ret (N_K_ret (N_B_ret ?_)))))))))))))))
    refine N_K_ret (N_LP_ret (N_B_ret (N_K_ret (rt2 results52 Z Z ?_))))
    have H := H.del (k := 0) rfl
    have H := H.del (k := 0) rfl
    have H := H.del (k := 0) rfl
    have H := H.del (k := 0) rfl
    have H := H.del (k := 0) rfl
    have H := H.del (k := 0) rfl
    have H := H.del (k := 0) rfl
    have H := H.del (k := 0) rfl
    have H := H.del (k := 0) rfl
    exact H.retM (.inl ⟨rfl, rfl, Sp.dv_no (fun hh => by (rw [(hh.2.2.2 k _ hz17).2.2] at hv20); cases hv20)⟩)
   skip
   have hchk15_0 := hchk15_0.up H20'.le
   have hchk15_1 := hchk15_1.up H20'.le
   have hNs := hNs.up H20'.le
   have hle15 := hle15.trans H20'.le
   have H := H.borrow0 H20'
   refine ⟨_, Z, ?_⟩
   refine mV Z (o_extract Z Z Z (o_extract Z Z Z (aG Z (aG Z (q3 (W_seq (q2 (mV Z (o_not Z Z (mV Z (gR Z (o_fieldAddr 0 runUnderlying81 Z sizeOf9 Z Z Z (gR Z (o_load_B 1 H isAgg9 Z Z Z Z (gR Z ?_)))))))))))))))
   refine o_call call92 Z Z (i_partValid_c _ _ hi17 ) ?_
   rintro _ w21 ⟨rfl, ew21⟩; have H := H.step ew21; refine ⟨_, rfl, ?_⟩
   refine gR Z (o_not Z Z (o_pick_f Z Z Z (mV Z ?_)))
   refine R_case (t := 55) Z ?_ ?_
   ·intro hc22
    try simp only [nrm] at hc22
    refine rP Z (rP Z (rP Z (rP Z (rP Z (o_pick_t Z Z Z (q3 (W_true Z (q2 (aG Z (aG Z (q3 (W_ret (N_K_ret (N_B_ret (N_K_ret ?_)))))))))))))))
    refine N_LP_ret (N_B_ret (N_K_ret (rt2 results52 Z Z ?_)))
    have H := H.del (k := 0) rfl
    have H := H.del (k := 0) rfl
    have H := H.del (k := 0) rfl
    have H := H.del (k := 0) rfl
    have H := H.del (k := 0) rfl
    have H := H.del (k := 0) rfl
    have H := H.del (k := 0) rfl
    have H := H.del (k := 0) rfl
    have H := H.del (k := 0) rfl
    have H := H.del (k := 0) rfl
    exact H.retM (.inl ⟨rfl, rfl, Sp.dv_no (fun hh => by have h9 := (hh.2.2.2 k _ hz17).1; simp_all)⟩)
   intro hc22'
   try simp only [nrm] at hc22'
   refine gR Z (mV Z (gR Z (o_fieldAddr 0 runUnderlying81 Z sizeOf9 Z Z Z (gR Z (o_load_B 1 H isAgg9 Z Z Z Z (gR Z (o_call call93 Z Z (i_snapAt_c _ _ (H.lendSubL [2, 5]) _ _ _ _ _ _ _ (prow_blk (H.lendPredL (k := 5) (ks := [2, 5]) Z Z)) (H.lendRdL (k := 2) (ks := [2, 5]) Z Z hchk15_0 aN aN) _ hi17 ) ?_)))))))
   rintro _ w23 ⟨rfl, ew23⟩; have H := H.step ew23; refine ⟨_, rfl, ?_⟩
   refine gR Z (o_geq Z Z Z (o_pick_f Z Z Z (q3 ?_)))
   refine W_cond Z ?_ ?_
   ·intro hc24
    try simp only [nrm] at hc24
    refine q2 (aG Z (aG Z (q3 (W_ret (N_K_ret (N_B_ret (N_K_ret (N_LP_ret (N_B_ret (N_K_ret (rt2 results52 Z Z ?_)))))))))))
    have H := H.del (k := 0) rfl
    have H := H.del (k := 0) rfl
    have H := H.del (k := 0) rfl
    have H := H.del (k := 0) rfl
    have H := H.del (k := 0) rfl
    have H := H.del (k := 0) rfl
    have H := H.del (k := 0) rfl
    have H := H.del (k := 0) rfl
    have H := H.del (k := 0) rfl
    have H := H.del (k := 0) rfl
    exact H.retM (.inl ⟨rfl, rfl, Sp.dv_no (fun hh => by have h9 := (Sp.at_take hz17).1 (hh.2.2.2 k _ hz17).2.1; (rw [← Sp.sn_find hSn] at h9); omega)⟩)
   intro hc24'
   try simp only [nrm] at hc24'
   refine W_skip (N_K (W_seq (W_drawK [1, 6, 9] 14 H kR Z ?_))); intro w25 H; have hd25 := PLe.refl G20
   refine vM 0 Z Z (vM 1 Z Z (RD_t 2 Z kR Z (fun _ hK => v_nilCheck Z) (RD_t 3 Z kR Z (fun _ hK => v_fieldAddr 4 runUnderlying131 Z sizeOf129 Z Z) (RD_t 5 Z kR Z (fun _ hK => v_fieldAddr 0 runUnderlying81 Z sizeOf9 Z Z) (RD_t 6 Z kR Z (fun _ hK => v_load_B 0 hK isAgg9 Z Z Z) (vM 7 Z Z (RD_t 8 Z kR Z (fun _ hK => v_build bf135 Z Z) ?_)))))))
   refine RD_run [4, 9] kR Z (RDs.cons Z ?_ (RDs.cons Z ?_ RDs.nil))
   ·skip
    refine o_load_B 5 H isAgg129 Z Z Z Z (R_nil (N_DK (Kn.of' H hd25 (SubL.cons 1 Z (SubL.cons 6 Z (SubL.cons 9 Z SubL.nil)))) ?_))
    refine RD_run [9] kR Z (RDs.cons Z ?_ RDs.nil)
    refine o_buildSlice H underlying129 sizeOf135 (fun w => ⟨_, zeroValue135 w, Z⟩) Z Z Z Z Z Z Z ?_; intro b26 w26 hb26 H
    refine R_nil (N_DK (Kn.of' H hd25 (SubL.cons 2 Z (SubL.cons 7 Z (SubL.cons 10 Z SubL.nil)))) ?_)
    refine RD_run [10] kR Z (RDs.cons Z ?_ RDs.nil)
    refine o_append1 2 H (sz := 2) (bytes := 24) underlying129 typeInfo135 ⟨_, Z, Z⟩ Z Z Z Z Z Z Z Z Z Z oM Z ?_; intro v27 w27 H
    have hchk27 := hchk15_0.snoc (show osE _ (z17.name, T20) _ from ⟨rfl, hi17⟩) rfl
    obtain ⟨av27, cv27, rfl⟩ := H.accShape (k := 2) rfl
    refine R_nil (N_DK (Kn.of' H hd25 (SubL.cons 1 Z (SubL.cons 6 Z (SubL.cons 9 Z SubL.nil)))) (RD_t 11 Z kR Z (fun _ hK => v_nilCheck Z) (RD_t 12 Z kR Z (fun _ hK => v_fieldAddr 4 runUnderlying131 Z sizeOf129 Z Z) ?_)))
    refine RD_run [13] kR Z (RDs.cons Z ?_ RDs.nil)
    have H := H.toFront (k := 3) rfl
    have H := H.mergeF
    refine o_store_B 4 H sizeOf129 Z Z Z Z Z Z Z Z ?_; intro w28 H
    refine R_nil (N_DK (Kn.of' H hd25 (SubL.cons 1 Z (SubL.cons 5 Z (SubL.cons 8 Z SubL.nil)))) (RD_done kR (N_K (W_region (mV Z (mV Z (o_buildSlice H underlying147 sizeOf97 (fun w => ⟨_, zeroValue97 w, Z⟩) Z Z Z Z Z Z Z ?_))))))); intro b29 w29 hb29 H
    refine o_append1 3 H (sz := 1) (bytes := 8) underlying147 typeInfo97 ⟨_, Z, Z⟩ Z Z Z Z Z Z Z Z Z Z oM Z ?_; intro v30 w30 H
    have hchk30 := hchk15_1.snoc (show kdE _ T20 _ from rfl) rfl
    obtain ⟨av30, cv30, rfl⟩ := H.accShape (k := 3) rfl
    refine aG Z (R_nil (N_B (N_K (W_region (o_add Z Z Z oO (mV Z (R_nil ?_)))))))
    have H := H.del (k := 1) rfl
    have H := H.toFront (k := 7) rfl
    have H := H.toFront (k := 7) rfl
    have H := H.toFront (k := 7) rfl
    have H := H.toFront (k := 7) rfl
    have H := H.toFront (k := 7) rfl
    have H := H.toFront (k := 7) rfl
    have H := H.toFront (k := 6) rfl
    have H := H.toFront (k := 7) rfl
    refine N_lp (hJ := ⟨_, _, _, (xs ++ [(z17.name, T20)]), _, _, _, (xs1 ++ [T20]), k + 1, (FSq ++ F20), _, Z, hle15, H, ?inv, Z⟩) (hm := ?hm)
    case hm => omega
    case inv => exact ⟨hchk27, aN, hchk30, aN, (by exact ⟨by omega, by simp [hx1], by simpa using hNs.snoc hN20, hSn.snoc2 hz17 rfl hT20 hv20, names_step hw hz17 (by simpa using hc22') hSn oM⟩)⟩
   skip
   refine o_buildSlice H underlying129 sizeOf135 (fun w => ⟨_, zeroValue135 w, Z⟩) Z Z Z Z Z Z Z ?_; intro b32 w32 hb32 H
   refine R_nil (N_DK (Kn.of' H hd25 (SubL.cons 2 Z (SubL.cons 7 Z (SubL.cons 10 Z SubL.nil)))) ?_)
   refine RD_run [4] kR Z (RDs.cons Z ?_ RDs.nil)
   refine o_load_B 6 H isAgg129 Z Z Z Z (R_nil (N_DK (Kn.of' H hd25 (SubL.cons 2 Z (SubL.cons 7 Z (SubL.cons 10 Z SubL.nil)))) ?_))
   refine RD_run [10] kR Z (RDs.cons Z ?_ RDs.nil)
   refine o_append1 2 H (sz := 2) (bytes := 24) underlying129 typeInfo135 ⟨_, Z, Z⟩ Z Z Z Z Z Z Z Z Z Z oM Z ?_; intro v33 w33 H
   have hchk33 := hchk15_0.snoc (show osE _ (z17.name, T20) _ from ⟨rfl, hi17⟩) rfl
   obtain ⟨av33, cv33, rfl⟩ := H.accShape (k := 2) rfl
   refine R_nil (N_DK (Kn.of' H hd25 (SubL.cons 1 Z (SubL.cons 6 Z (SubL.cons 9 Z SubL.nil)))) (RD_t 11 Z kR Z (fun _ hK => v_nilCheck Z) (RD_t 12 Z kR Z (fun _ hK => v_fieldAddr 4 runUnderlying131 Z sizeOf129 Z Z) ?_)))
   refine RD_run [13] kR Z (RDs.cons Z ?_ RDs.nil)
   have H := H.toFront (k := 3) rfl
   have H := H.mergeF
   refine o_store_B 4 H sizeOf129 Z Z Z Z Z Z Z Z ?_; intro w34 H
   refine R_nil (N_DK (Kn.of' H hd25 (SubL.cons 1 Z (SubL.cons 5 Z (SubL.cons 8 Z SubL.nil)))) (RD_done kR (N_K (W_region (mV Z (mV Z (o_buildSlice H underlying147 sizeOf97 (fun w => ⟨_, zeroValue97 w, Z⟩) Z Z Z Z Z Z Z ?_))))))); intro b35 w35 hb35 H
   refine o_append1 3 H (sz := 1) (bytes := 8) underlying147 typeInfo97 ⟨_, Z, Z⟩ Z Z Z Z Z Z Z Z Z Z oM Z ?_; intro v36 w36 H
   have hchk36 := hchk15_1.snoc (show kdE _ T20 _ from rfl) rfl
   obtain ⟨av36, cv36, rfl⟩ := H.accShape (k := 3) rfl
   refine aG Z (R_nil (N_B (N_K (W_region (o_add Z Z Z oO (mV Z (R_nil ?_)))))))
   have H := H.del (k := 1) rfl
   have H := H.toFront (k := 7) rfl
   have H := H.toFront (k := 7) rfl
   have H := H.toFront (k := 7) rfl
   have H := H.toFront (k := 7) rfl
   have H := H.toFront (k := 7) rfl
   have H := H.toFront (k := 7) rfl
   have H := H.toFront (k := 6) rfl
   have H := H.toFront (k := 7) rfl
   refine N_lp (hJ := ⟨_, _, _, (xs ++ [(z17.name, T20)]), _, _, _, (xs1 ++ [T20]), k + 1, (FSq ++ F20), _, Z, hle15, H, ?inv, Z⟩) (hm := ?hm)
   case hm => omega
   case inv => exact ⟨hchk33, aN, hchk36, aN, (by exact ⟨by omega, by simp [hx1], by simpa using hNs.snoc hN20, hSn.snoc2 hz17 rfl hT20 hv20, names_step hw hz17 (by simpa using hc22') hSn oM⟩)⟩
  intro hc16'
  try simp only [nrm] at hc16'
  refine W_exit (N_K_exit (N_LP_exit (N_B_same (N_K (W_seq (q2 (o_fieldAddr 0 runUnderlying99 Z sizeOf96 Z Z Z (o_load_B 4 H isAgg96 Z Z Z Z (mV Z ?_)))))))))
  refine o_call call110 Z Z (i_usedBy_c _ _ (H.lendSubL [1, 2, 5, 6]) _ _ _ _ _ (H.lendPredL (k := 5) (ks := [1, 2, 5, 6]) Z Z) hm3 (hS3.up (PPlus.le _ _ _)) hV3 _ _ (RdS.withN (H.lendRdL (k := 2) (ks := [1, 2, 5, 6]) Z Z hchk15_1 aN aN) (fun t ht => by (rw [hx1] at ht); rcases List.mem_cons.1 ht with rfl | ht; (· exact H.lendN (k := 6) rfl rfl hN3); (· exact H.lendNs (k := 1) rfl rfl hNs t ht))) oM (fun t ht => by (rw [hx1] at ht); rcases List.mem_cons.1 ht with rfl | ht; (· exact ⟨hT3.wf, by have := hT3.cnt; have := Sp.tree_len hv3; omega⟩); (· exact sn_ok hSn t ht))) ?_
  rintro _ w38 ⟨rfl, ew38⟩; have H := H.step ew38; refine ⟨_, rfl, ?_⟩
  refine o_not Z Z (q3 ?_)
  refine W_cond Z ?_ ?_
  ·intro hc39
   try simp only [nrm] at hc39
   refine q2 (aG Z (aG Z (q3 (W_ret (N_K_ret (rt2 results52 Z Z ?_))))))
   have H := H.del (k := 0) rfl
   have H := H.del (k := 0) rfl
   have H := H.del (k := 0) rfl
   have H := H.del (k := 0) rfl
   have H := H.del (k := 0) rfl
   have H := H.del (k := 0) rfl
   have H := H.del (k := 0) rfl
   have H := H.del (k := 0) rfl
   have hkk : k = d.snaps.length := by omega
   have hSnf : SnOK xs d.snaps := by (rw [hkk, List.take_length] at hSn; exact hSn)
   have hwf : ∀ (j : Nat) (s : BSnap), d.snaps[j]? = some s → Sp.l1Word s.name = true ∧ (j : Int) ≤ Sp.l12At d.snaps s.name := fun j s hs => hw j s (by have := (List.getElem?_eq_some_iff.1 hs).1; omega) hs
   exact H.retM (.inl ⟨rfl, rfl, (by (rw [Sp.dv_use (Sp.valid_iff.2 hV3) hT3 oM hSnf hwf, ← hx1]; unfold Sp.useOK; rw [Bool.and_eq_false_iff]; exact hc39))⟩)
  intro hc39'
  try simp only [nrm] at hc39'
  refine W_skip (N_K (q2 (mV Z (aG Z (aG Z (q3 (W_ret (rt2 results52 Z Z ?_))))))))
  have H := H.del (k := 2) rfl
  have H := H.del (k := 3) rfl
  have H := H.del (k := 5) rfl
  have H := H.toFront (k := 1) rfl
  have H := H.toFront (k := 1) rfl
  have H := H.toFront (k := 4) rfl
  have H := H.toFront (k := 4) rfl
  have H := H.toFront (k := 4) rfl
  have hkk : k = d.snaps.length := by omega
  have hSnf : SnOK xs d.snaps := by (rw [hkk, List.take_length] at hSn; exact hSn)
  have hwf : ∀ (j : Nat) (s : BSnap), d.snaps[j]? = some s → Sp.l1Word s.name = true ∧ (j : Int) ≤ Sp.l12At d.snaps s.name := fun j s hs => hw j s (by have := (List.getElem?_eq_some_iff.1 hs).1; omega) hs
  have hdv : Sp.DiskValid d = true := by (rw [Sp.dv_use (Sp.valid_iff.2 hV3) hT3 oM hSnf hwf, ← hx1]; unfold Sp.useOK; simpa using hc39')
  obtain rfl : n = xs.length := by assumption
  exact H.retM (.inr ⟨_, _, _, _, _, _, _, _, xs, _, _, Z, Z, hm3, hS3, hN3, hT3, hchk15_0, hNs, hSnf, hdv⟩)
end Go.Proofs.Tst

namespace Go.Proofs.Tst
open Go
abbrev muLink : Go.Conc.Locks.MuLink := { lock := 90, unlock := 91, ilock := 139, iunlock := 140, lockSlow := 178, unlockSlow := 181, disable := 174, enable := 176, acquire := 177, relMerge := 179, cas32 := 175, add32 := 180, tMutex := 128, tIMutex := 126, tPMutex := 178, tPIMutex := 208, tPI32 := 210, tUP := 212, tNoCopy := 123, tU32 := 124 }
theorem muLib : Go.Conc.Locks.MuLib Tryz.prog muLink where
 f_lock := by kernel_rfl
 f_unlock := by kernel_rfl
 f_ilock := by kernel_rfl
 f_iunlock := by kernel_rfl
 f_disable := by kernel_rfl
 f_enable := by kernel_rfl
 f_acquire := by kernel_rfl
 f_relMerge := by kernel_rfl
 f_cas32 := by kernel_rfl
 f_add32 := by kernel_rfl
 underlying_tIMutex := Tryz.underlying126
 runUnderlying_tIMutex := Tryz.runUnderlying126
 sizeOf_tIMutex := Tryz.sizeOf126
 isAgg_tIMutex := Tryz.isAgg126
 zeroValue_tIMutex := Tryz.zeroValue126
 underlying_tMutex := Tryz.underlying128
 runUnderlying_tMutex := Tryz.runUnderlying128
 sizeOf_tMutex := Tryz.sizeOf128
 isAgg_tMutex := Tryz.isAgg128
 zeroValue_tMutex := Tryz.zeroValue128
 underlying_tPMutex := Tryz.underlying178
 runUnderlying_tPMutex := Tryz.runUnderlying178
 sizeOf_tPMutex := Tryz.sizeOf178
 isAgg_tPMutex := Tryz.isAgg178
 zeroValue_tPMutex := Tryz.zeroValue178
 underlying_tPIMutex := Tryz.underlying208
 runUnderlying_tPIMutex := Tryz.runUnderlying208
 sizeOf_tPIMutex := Tryz.sizeOf208
 isAgg_tPIMutex := Tryz.isAgg208
 zeroValue_tPIMutex := Tryz.zeroValue208
 underlying_tPI32 := Tryz.underlying210
 runUnderlying_tPI32 := Tryz.runUnderlying210
 sizeOf_tPI32 := Tryz.sizeOf210
 isAgg_tPI32 := Tryz.isAgg210
 zeroValue_tPI32 := Tryz.zeroValue210
 underlying_tUP := Tryz.underlying212
 runUnderlying_tUP := Tryz.runUnderlying212
 sizeOf_tUP := Tryz.sizeOf212
 isAgg_tUP := Tryz.isAgg212
 zeroValue_tUP := Tryz.zeroValue212
 underlying_tNoCopy := Tryz.underlying123
 runUnderlying_tNoCopy := Tryz.runUnderlying123
 sizeOf_tNoCopy := Tryz.sizeOf123
 isAgg_tNoCopy := Tryz.isAgg123
 zeroValue_tNoCopy := Tryz.zeroValue123
 underlying_t21 := Tryz.underlying21
 runUnderlying_t21 := Tryz.runUnderlying21
 sizeOf_t21 := Tryz.sizeOf21
 isAgg_t21 := Tryz.isAgg21
 zeroValue_t21 := Tryz.zeroValue21
 room_tIMutex := by kernel_rfl
end Go.Proofs.Tst

