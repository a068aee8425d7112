/- Part 5 of the proof: the program logic and plain functions. Conditions: none. -/
import Derived.Test.YtndbaapcenjhdaaGreatDoorProg
import Derived.Test.YtndbaapcenjhdaaGreatDoorG00
import Derived.Test.YtndbaapcenjhdaaGreatDoorG04
import Derived.Test.YtndbaapcenjhdaaGreatDoorG01
import Derived.Test.YtndbaapcenjhdaaGreatDoorG03
import Derived.WideKeyArgs
import Derived.ChangeArms
import Derived.DataElems
import Derived.ChangeSame
set_option linter.all false
set_option maxRecDepth 100000
set_option maxHeartbeats 1000000
namespace Go.Proofs.Tst
open Go Fw
theorem DiskValid_c (w0 : World) (G0 : PH) (hG : PSub G0 w0) (cd : List Value) (d : BDisk) (hd : diskE G0 d cd)  :
  Calls Tryz.prog 52 #[.agg cd.toArray] w0 (Rets w0 (.bool (Sp.DiskValid d))) := by
 obtain ⟨a1, m1, c1, a1', m1', c1', a1'', m1'', c1'', rfl, hr1, hr1', hr1''⟩ := hd; have hn_hr1 := hr1.len; have hx_hr1 : _ ≤ 1099511627776 := hr1.lim; have hn_hr1q := hr1'.len; have hx_hr1q : _ ≤ 1099511627776 := hr1'.lim; have hn_hr1qq := hr1''.len; have hx_hr1qq : _ ≤ 1099511627776 := hr1''.lim
 have H := Hp.init hG
 refine calls_of_W (l := [_]) Tryz.func52 rfl Tryz.ntmps52 rfl ?_
 refine q2 ?_
 refine o_box H rfl rfl rfl ?_; intro b2 w2 hb2 H
 refine o_assign rfl rfl ?_
 refine q3 ?_
 refine W_seq ?_
 refine q2 ?_
 refine o_fieldAddr 0 Tryz.runUnderlying53 rfl Tryz.sizeOf23 rfl rfl rfl ?_
 refine o_load_B 0 H Tryz.isAgg23 rfl rfl rfl rfl ?_
 refine o_call Tryz.call83 rfl rfl (StoreValid_c _ _ H.sub _ _ hr1 ) ?_
 rintro _ w3 ⟨rfl, ew3⟩; have H := H.step ew3; refine ⟨_, rfl, ?_⟩
 refine o_not rfl rfl ?_
 refine o_move rfl rfl ?_
 refine R_case (t := 8) rfl ?_ ?_
 ·intro hc4
  try simp only [nrm] at hc4
  refine R_pass rfl (yl_ne rfl rfl rfl) ?_
  refine R_pass rfl (yl_ne rfl rfl rfl) ?_
  refine R_pass rfl (yl_ne rfl rfl rfl) ?_
  refine R_pass rfl (yl_ne rfl rfl rfl) ?_
  refine o_pick_t rfl rfl rfl ?_
  refine o_move rfl rfl ?_
  refine R_pass rfl (yl_ne rfl rfl rfl) ?_
  refine R_pass rfl (yl_ne rfl rfl rfl) ?_
  refine R_pass rfl (yl_ne rfl rfl rfl) ?_
  refine R_pass rfl (yl_ne rfl rfl rfl) ?_
  refine R_pass rfl (yl_ne rfl rfl rfl) ?_
  refine R_pass rfl (yl_ne rfl rfl rfl) ?_
  refine o_pick_t rfl rfl rfl ?_
  refine o_move rfl rfl ?_
  refine R_pass rfl (yl_ne rfl rfl rfl) ?_
  refine R_pass rfl (yl_ne rfl rfl rfl) ?_
  refine R_pass rfl (yl_ne rfl rfl rfl) ?_
  refine o_pick_t rfl rfl rfl ?_
  refine q3 ?_
  refine W_true rfl ?_
  refine q2 ?_
  refine o_assign rfl rfl ?_
  refine q3 ?_
  refine W_ret ?_
  refine N_K_ret ?_
  refine ret_gen (rs := [.tmp 2]) (vs := [_]) Tryz.results52 ⟨rfl, trivial⟩ ?_
  exact H.rets (congrArg Value.bool (by simp [Sp.DiskValid, hc4]))
 intro hc4'
 try simp only [nrm] at hc4'
 refine R_guard (yl rfl rfl) ?_
 refine o_fieldAddr 1 Tryz.runUnderlying53 rfl Tryz.sizeOf24 rfl rfl rfl ?_
 refine R_guard (yl rfl rfl) ?_
 refine o_load_B 0 H Tryz.isAgg24 rfl rfl rfl rfl ?_
 refine R_guard (yl rfl rfl) ?_
 refine o_call Tryz.call84 rfl rfl (TreeValid_c _ _ H.sub _ _ hr1' ) ?_
 rintro _ w5 ⟨rfl, ew5⟩; have H := H.step ew5; refine ⟨_, rfl, ?_⟩
 refine R_guard (yl rfl rfl) ?_
 refine o_not rfl rfl ?_
 refine o_pick_f rfl rfl rfl ?_
 refine o_move rfl rfl ?_
 refine R_case (t := 14) rfl ?_ ?_
 ·intro hc6
  try simp only [nrm] at hc6
  refine R_pass rfl (yl_ne rfl rfl rfl) ?_
  refine R_pass rfl (yl_ne rfl rfl rfl) ?_
  refine R_pass rfl (yl_ne rfl rfl rfl) ?_
  refine R_pass rfl (yl_ne rfl rfl rfl) ?_
  refine R_pass rfl (yl_ne rfl rfl rfl) ?_
  refine R_pass rfl (yl_ne rfl rfl rfl) ?_
  refine o_pick_t rfl rfl rfl ?_
  refine o_move rfl rfl ?_
  refine R_pass rfl (yl_ne rfl rfl rfl) ?_
  refine R_pass rfl (yl_ne rfl rfl rfl) ?_
  refine R_pass rfl (yl_ne rfl rfl rfl) ?_
  refine o_pick_t rfl rfl rfl ?_
  refine q3 ?_
  refine W_true rfl ?_
  refine q2 ?_
  refine o_assign rfl rfl ?_
  refine q3 ?_
  refine W_ret ?_
  refine N_K_ret ?_
  refine ret_gen (rs := [.tmp 2]) (vs := [_]) Tryz.results52 ⟨rfl, trivial⟩ ?_
  exact H.rets (congrArg Value.bool (by simp [Sp.DiskValid, hc6]))
 intro hc6'
 try simp only [nrm] at hc6'
 refine R_guard (yl rfl rfl) ?_
 refine o_fieldAddr 0 Tryz.runUnderlying53 rfl Tryz.sizeOf23 rfl rfl rfl ?_
 refine R_guard (yl rfl rfl) ?_
 refine o_load_B 0 H Tryz.isAgg23 rfl rfl rfl rfl ?_
 refine R_guard (yl rfl rfl) ?_
 refine o_fieldAddr 1 Tryz.runUnderlying53 rfl Tryz.sizeOf24 rfl rfl rfl ?_
 refine R_guard (yl rfl rfl) ?_
 refine o_load_B 0 H Tryz.isAgg24 rfl rfl rfl rfl ?_
 refine R_guard (yl rfl rfl) ?_
 refine o_call Tryz.call85 rfl rfl (l11Files_c _ _ H.sub _ _ hr1 _ _ hr1' ) ?_
 rintro _ w7 ⟨rfl, ew7⟩; have H := H.step ew7; refine ⟨_, rfl, ?_⟩
 refine R_guard (yl rfl rfl) ?_
 refine o_not rfl rfl ?_
 refine o_pick_f rfl rfl rfl ?_
 refine o_move rfl rfl ?_
 refine R_case (t := 22) rfl ?_ ?_
 ·intro hc8
  try simp only [nrm] at hc8
  refine R_pass rfl (yl_ne rfl rfl rfl) ?_
  refine R_pass rfl (yl_ne rfl rfl rfl) ?_
  refine R_pass rfl (yl_ne rfl rfl rfl) ?_
  refine o_pick_t rfl rfl rfl ?_
  refine q3 ?_
  refine W_true rfl ?_
  refine q2 ?_
  refine o_assign rfl rfl ?_
  refine q3 ?_
  refine W_ret ?_
  refine N_K_ret ?_
  refine ret_gen (rs := [.tmp 2]) (vs := [_]) Tryz.results52 ⟨rfl, trivial⟩ ?_
  exact H.rets (congrArg Value.bool (by simp [Sp.DiskValid, hc8]))
 intro hc8'
 try simp only [nrm] at hc8'
 refine R_guard (yl rfl rfl) ?_
 refine o_loadagg_B 0 H Tryz.isAgg53 Tryz.sizeOf53 rfl rfl rfl rfl rfl ?_
 refine R_guard (yl rfl rfl) ?_
 refine o_call Tryz.call105 rfl rfl (l12Snaps_c _ _ H.sub _ _ ⟨_, _, _, _, _, _, _, _, _, rfl, hr1, hr1', hr1''⟩ ) ?_
 rintro _ w9 ⟨rfl, ew9⟩; have H := H.step ew9; refine ⟨_, rfl, ?_⟩
 refine R_guard (yl rfl rfl) ?_
 refine o_not rfl rfl ?_
 refine o_pick_f rfl rfl rfl ?_
 refine q3 ?_
 refine W_cond rfl ?_ ?_
 ·intro hc10
  try simp only [nrm] at hc10
  refine q2 ?_
  refine o_assign rfl rfl ?_
  refine q3 ?_
  refine W_ret ?_
  refine N_K_ret ?_
  refine ret_gen (rs := [.tmp 2]) (vs := [_]) Tryz.results52 ⟨rfl, trivial⟩ ?_
  exact H.rets (congrArg Value.bool (by simp [Sp.DiskValid, hc10]))
 intro hc10'
 try simp only [nrm] at hc10'
 refine W_skip ?_
 refine N_K ?_
 refine W_seq ?_
 refine q2 ?_
 refine o_assign rfl rfl ?_
 refine q3 ?_
 refine W_block ?_
 obtain ⟨ln11, hln11, H⟩ := H.name (k := 0) rfl
 refine W_loop (hf := (Sub.cons (t := 1) rfl Sub.nil)) (J := fun M w m => ∃ (k : Nat) (G : PH), M = [(3, .int .i64 (k : Int))] ∧ PLe G0 G ∧ Hp w0 G0 [] w G [blk b2 (cl ln11 53)] ∧ (k ≤ d.store.length ∧ (d.store.take k).all (Sp.usesD d) = true) ∧ m = (d.store.length - k)) (h0 := ⟨0, _, rfl, PLe.refl _, H, ?inv, rfl⟩) (hM := ?hM) (round := ?round)
 case hM => (repeat (first | exact Sub.nil | refine Sub.cons rfl ?_))
 case inv => exact ⟨by omega, by simp⟩
 case round =>
  rintro _ w12 _ ⟨k, G12, rfl, hle12, H, hinv12, rfl⟩
  subst hln11
  have hr1 := hr1.up hle12
  have hr1' := hr1'.up hle12
  have hr1'' := hr1''.up hle12
  obtain ⟨hk, hall⟩ := hinv12
  refine W_seq ?_
  refine q2 ?_
  refine o_move rfl rfl ?_
  refine o_fieldAddr 0 Tryz.runUnderlying53 rfl Tryz.sizeOf23 rfl rfl rfl ?_
  refine o_load_B 0 H Tryz.isAgg23 rfl rfl rfl rfl ?_
  refine o_len_slice Tryz.underlying23 rfl rfl ?_
  refine o_lss rfl rfl rfl ?_
  refine q3 ?_
  refine W_cond rfl ?_ ?_
  ·intro hc13
   try simp only [nrm] at hc13
   refine W_skip ?_
   refine N_K ?_
   refine W_seq ?_
   refine W_block ?_
   refine W_seq ?_
   refine W_drawK [0] 15 H (by kernel_rfl) rfl ?_; intro w14 H; have hd14 := PLe.refl G12
   refine RD_t 0 rfl (by kernel_rfl) rfl (fun _ hK => v_loadagg_B 0 hK Tryz.isAgg53 Tryz.sizeOf53 rfl rfl rfl rfl) ?_
   refine RD_t 1 rfl (by kernel_rfl) rfl (fun _ hK => v_fieldAddr 0 Tryz.runUnderlying53 rfl Tryz.sizeOf23 rfl rfl) ?_
   refine RD_t 2 rfl (by kernel_rfl) rfl (fun _ hK => v_load_B 0 hK Tryz.isAgg23 rfl rfl rfl) ?_
   refine RD_t 3 rfl (by kernel_rfl) rfl (fun _ hK => v_move rfl) ?_
   have hl15 := hr1.len
   obtain ⟨b15, o15, z15, q15, ha15, hz15, hq15, hE15, hrow15, _⟩ := hr1.at (i := k) (by omega)
   clear hq15
   obtain ⟨a15, m15, c15, rfl, hi15, hr15, hj15⟩ := hE15; have hn_hr15 := hr15.len; have hx_hr15 : _ ≤ 1099511627776 := hr15.lim
   refine RD_t 4 rfl (by kernel_rfl) rfl (fun _ hK => v_index_P (i := k) ha15 Tryz.underlying23 Tryz.sizeOf117 rfl rfl rfl (by omega)) ?_
   refine RD_t 5 rfl (by kernel_rfl) rfl (fun _ hK => v_fieldAddr 0 Tryz.runUnderlying117 rfl Tryz.sizeOf3 rfl rfl) ?_
   refine RD_t 6 rfl (by kernel_rfl) rfl (fun _ hK => v_load_P hK Tryz.isAgg3 rfl (hrow15 0 _ rfl)) ?_
   refine RD_t 8 rfl (by kernel_rfl) rfl (fun _ hK => v_fieldAddr 0 Tryz.runUnderlying53 rfl Tryz.sizeOf23 rfl rfl) ?_
   refine RD_t 9 rfl (by kernel_rfl) rfl (fun _ hK => v_load_B 0 hK Tryz.isAgg23 rfl rfl rfl) ?_
   refine RD_t 10 rfl (by kernel_rfl) rfl (fun _ hK => v_move rfl) ?_
   have hl16 := hr1.len
   obtain ⟨b16, o16, z16, q16, ha16, hz16, hq16, hE16, hrow16, _⟩ := hr1.at (i := k) (by omega)
   clear hq16
   obtain ⟨a16, m16, c16, rfl, hi16, hr16, hj16⟩ := hE16; have hn_hr16 := hr16.len; have hx_hr16 : _ ≤ 1099511627776 := hr16.lim
   have hzz16 : z15 = z16 := Option.some.inj (hz15.symm.trans hz16)
   subst hzz16
   refine RD_t 11 rfl (by kernel_rfl) rfl (fun _ hK => v_index_P (i := k) ha16 Tryz.underlying23 Tryz.sizeOf117 rfl rfl rfl (by omega)) ?_
   refine RD_t 12 rfl (by kernel_rfl) rfl (fun _ hK => v_fieldAddr 2 Tryz.runUnderlying117 rfl Tryz.sizeOf3 rfl rfl) ?_
   refine RD_t 13 rfl (by kernel_rfl) rfl (fun _ hK => v_load_P hK Tryz.isAgg3 rfl (hrow16 2 _ rfl)) ?_
   refine RD_run [7] (by kernel_rfl) rfl (RDs.cons rfl ?_ RDs.nil)
   refine o_call Tryz.call106 rfl rfl (l12Count_c _ _ H.sub _ _ ⟨_, _, _, _, _, _, _, _, _, rfl, hr1, hr1', hr1''⟩ _ hc6' hc10') ?_
   rintro _ w17 ⟨rfl, ew17⟩; have H := H.step ew17; refine ⟨_, rfl, ?_⟩
   refine R_nil ?_
   refine N_DK (Kn.of' H hd14 (SubL.cons 0 rfl SubL.nil)) ?_
   refine RD_t 14 rfl (by kernel_rfl) rfl (fun _ hK => v_neq rfl rfl) ?_
   refine RD_done (by kernel_rfl) ?_
   refine N_K ?_
   refine W_cond rfl ?_ ?_
   ·intro hc18
    try simp only [nrm] at hc18
    refine q2 ?_
    refine o_assign rfl rfl ?_
    refine q3 ?_
    refine W_ret ?_
    refine N_B_ret ?_
    refine N_K_ret ?_
    refine N_LP_ret ?_
    refine N_B_ret ?_
    refine N_K_ret ?_
    refine ret_gen (rs := [.tmp 2]) (vs := [_]) Tryz.results52 ⟨rfl, trivial⟩ ?_
    exact H.rets (congrArg Value.bool (by rw [Sp.DiskValid, Sp.all_false hz15 (by simp [Sp.usesD, *])]; rfl))
   intro hc18'
   try simp only [nrm] at hc18'
   refine W_skip ?_
   refine N_B ?_
   refine N_K ?_
   refine W_region ?_
   refine o_move rfl rfl ?_
   refine o_add rfl rfl rfl ⟨by omega, by omega⟩ ?_
   refine o_assign rfl rfl ?_
   refine R_nil ?_
   refine N_LP (hJ := ⟨k + 1, _, rfl, hle12, H, ?inv, rfl⟩) (hM := ?hM) (hf := ?hf) (hm := ?hm)
   case hM => (repeat (first | exact Sub.nil | refine Sub.cons rfl ?_))
   case hf => (repeat (first | exact Sub.nil | refine Sub.cons rfl ?_))
   case hm => omega
   case inv => exact ⟨by omega, Sp.all_take hall hz15 (by simp [Sp.usesD, *])⟩
  intro hc13'
  try simp only [nrm] at hc13'
  refine W_exit ?_
  refine N_K_exit ?_
  refine N_LP_exit ?_
  refine N_B_same ?_
  refine N_K ?_
  refine q2 ?_
  refine o_assign rfl rfl ?_
  refine q3 ?_
  refine W_ret ?_
  refine ret_gen (rs := [.tmp 2]) (vs := [_]) Tryz.results52 ⟨rfl, trivial⟩ ?_
  obtain rfl : k = d.store.length := by omega
  rw [List.take_length] at hall
  exact H.rets (congrArg Value.bool (by simp [Sp.DiskValid, hall, hc4', hc6', hc8', hc10']))
end Go.Proofs.Tst

namespace Go.Proofs.Tst
open Go Fw
theorem l12Copy_c (w0 : World) (G0 : PH) (hG : PSub G0 w0) (cd : List Value) (d : BDisk) (hd : diskE G0 d cd)  :
  Calls Tryz.prog 56 #[.agg cd.toArray] w0 (RetO w0 G0 (fun G val r => ∃ u u1 u2, val = .agg #[u, u1, u2] ∧ AccOf snapE 2 102 d.snaps G u2 r ∧ RdH G u d.store ∧ RdItems G u1 d.tree)) := by
 obtain ⟨a1, m1, c1, a1', m1', c1', a1'', m1'', c1'', rfl, hr1, hr1', hr1''⟩ := hd; have hn_hr1 := hr1.len; have hx_hr1 : _ ≤ 1099511627776 := hr1.lim; have hn_hr1q := hr1'.len; have hx_hr1q : _ ≤ 1099511627776 := hr1'.lim; have hn_hr1qq := hr1''.len; have hx_hr1qq : _ ≤ 1099511627776 := hr1''.lim
 have H := Hp.init hG
 refine calls_of_W (l := [_]) Tryz.func56 rfl Tryz.ntmps56 rfl ?_
 refine q2 ?_
 refine o_box H rfl rfl rfl ?_; intro b2 w2 hb2 H
 refine o_alloc H Tryz.zeroValue53 rfl rfl ?_; intro b3 w3 hb3 H
 refine q3 ?_
 refine W_seq ?_
 refine W_drawK [0, 1] 10 H (by kernel_rfl) rfl ?_; intro w4 H; have hd4 := PLe.refl G0
 refine RD_t 0 rfl (by kernel_rfl) rfl (fun _ hK => v_fieldAddr 0 Tryz.runUnderlying53 rfl Tryz.sizeOf23 rfl rfl) ?_
 refine RD_t 1 rfl (by kernel_rfl) rfl (fun _ hK => v_load_B 1 hK Tryz.isAgg23 rfl rfl rfl) ?_
 refine RD_t 3 rfl (by kernel_rfl) rfl (fun _ hK => v_fieldAddr 1 Tryz.runUnderlying53 rfl Tryz.sizeOf24 rfl rfl) ?_
 refine RD_t 4 rfl (by kernel_rfl) rfl (fun _ hK => v_load_B 1 hK Tryz.isAgg24 rfl rfl rfl) ?_
 refine RD_run [2, 6, 8] (by kernel_rfl) rfl (RDs.cons rfl ?_ (RDs.cons rfl ?_ (RDs.cons rfl ?_ RDs.nil)))
 ·skip
  refine o_call Tryz.call48 rfl rfl (l3Copy_c _ _ H.sub _ _ hr1 ) ?_
  rintro _ w5 ⟨G5, v5, _, g5, rfl, ⟨cs5, rfl, hchk5⟩, hp5, hq5, hs5⟩
  have H := H.growO g5 hp5 hq5 hs5; obtain ⟨av5, cv5, rfl⟩ := H.accShape (k := 0) rfl
  have hr1 := hr1.up g5.le
  have hr1' := hr1'.up g5.le
  have hr1'' := hr1''.up g5.le
  have hd4 := hd4.trans g5.le
  refine ⟨_, rfl, ?_⟩
  refine R_nil ?_
  refine N_DK (Kn.of' H hd4 (SubL.cons 1 rfl (SubL.cons 2 rfl SubL.nil))) ?_
  refine RD_run [5, 6, 8] (by kernel_rfl) rfl (RDs.cons rfl ?_ (RDs.cons rfl ?_ (RDs.cons rfl ?_ RDs.nil)))
  ·skip
   refine o_call Tryz.call57 rfl rfl (l5All_c _ _ H.sub _ _ hr1' ) ?_
   rintro _ w6 ⟨G6, v6, _, g6, rfl, ⟨cs6, rfl, hchk6⟩, hp6, hq6, hs6⟩
   have H := H.growO g6 hp6 hq6 hs6; obtain ⟨av6, cv6, rfl⟩ := H.accShape (k := 0) rfl
   have hr1 := hr1.up g6.le
   have hr1' := hr1'.up g6.le
   have hr1'' := hr1''.up g6.le
   have hchk5 := hchk5.up g6.le
   have hd4 := hd4.trans g6.le
   refine ⟨_, rfl, ?_⟩
   refine R_nil ?_
   refine N_DK (Kn.of' H hd4 (SubL.cons 2 rfl (SubL.cons 3 rfl SubL.nil))) ?_
   refine RD_run [6, 8] (by kernel_rfl) rfl (RDs.cons rfl ?_ (RDs.cons rfl ?_ RDs.nil))
   ·skip
    refine o_buildSlice H Tryz.underlying51 Tryz.sizeOf102 (fun w => ⟨_, Tryz.zeroValue102 w, rfl⟩) rfl rfl rfl rfl rfl rfl rfl ?_; intro b7 w7 hb7 H
    have H := H.blkAcc 2 (k := 0) (n := 0) rfl rfl (by decide)
    refine R_nil ?_
    refine N_DK (Kn.of' H hd4 (SubL.cons 3 rfl (SubL.cons 4 rfl SubL.nil))) ?_
    refine RD_t 7 rfl (by kernel_rfl) rfl (fun _ hK => v_build bf53 rfl rfl) ?_
    refine RD_run [8] (by kernel_rfl) rfl (RDs.cons rfl ?_ RDs.nil)
    refine o_alloc H Tryz.zeroValue53 rfl rfl ?_; intro b8 w8 hb8 H
    refine R_nil ?_
    refine N_DK (Kn.of' H hd4 (SubL.cons 4 rfl (SubL.cons 5 rfl SubL.nil))) ?_
    refine RD_run [9] (by kernel_rfl) rfl (RDs.cons rfl ?_ RDs.nil)
    refine o_store_B 0 H Tryz.sizeOf53 rfl rfl rfl rfl rfl rfl rfl rfl ?_; intro w9 H
    refine R_nil ?_
    refine N_DKlast (by kernel_rfl) (by kernel_rfl) ?_
    refine N_K ?_
    refine W_seq ?_
    refine q2 ?_
    refine o_assign rfl rfl ?_
    refine q3 ?_
    refine W_block ?_
    obtain ⟨G10, H, hsg10, hsr10⟩ := H.shut' (k := 3) rfl hchk5 (by first | assumption | (simp; done) | (simp; omega) | omega) (by first | assumption | (simp; done) | (simp; omega) | omega)
    have hr1 := hr1.up hsg10
    have hr1' := hr1'.up hsg10
    have hr1'' := hr1''.up hsg10
    have hchk5 := hchk5.up hsg10
    have hchk6 := hchk6.up hsg10
    obtain ⟨G11, H, hsg11, hsr11⟩ := H.shut' (k := 2) rfl hchk6 (by first | assumption | (simp; done) | (simp; omega) | omega) (by first | assumption | (simp; done) | (simp; omega) | omega)
    have hr1 := hr1.up hsg11
    have hr1' := hr1'.up hsg11
    have hr1'' := hr1''.up hsg11
    have hchk5 := hchk5.up hsg11
    have hchk6 := hchk6.up hsg11
    have hsr10 := hsr10.up hsg11
    obtain ⟨ln12, hln12, H⟩ := H.nameAt (k := 0) (off := 2) rfl rfl
    obtain ⟨ln13, hln13, H⟩ := H.name (k := 2) rfl
    obtain ⟨ln14, hln14, H⟩ := H.name (k := 3) rfl
    refine W_loop (hf := (Sub.cons (t := 1) rfl (Sub.cons (t := 2) rfl (Sub.cons (t := 3) rfl Sub.nil)))) (J := fun M w m => ∃ (v : Value) (n : Nat) (cs : List Value) (xs : List (BSnap)) (k : Nat) (G : PH), M = [(4, .int .i64 (k : Int))] ∧ PLe G11 G ∧ Hp w0 G0 [] w G [blk b8 (cl (setN ln12 2 v) 53), acc 102 2 v n cs, blk b3 (cl ln13 53), blk b2 (cl ln14 53)] ∧ (Chk snapE 2 G cs xs ∧ n = xs.length ∧ k ≤ d.snaps.length ∧ xs.length = k ∧ xs = d.snaps.take k) ∧ m = (d.snaps.length - k)) (h0 := ⟨_, _, _, [], 0, _, rfl, PLe.refl _, H, ?inv, rfl⟩) (hM := ?hM) (round := ?round)
    case hM => (repeat (first | exact Sub.nil | refine Sub.cons rfl ?_))
    case inv => exact ⟨(Chk.nil (E := snapE) (sz := 2) (G := G11)),  by first | rfl | simp | (simp; omega) | omega, (by simp)⟩
    case round =>
     rintro _ w15 _ ⟨v, n, cs, xs, k, G15, rfl, hle15, H, hinv15, rfl⟩
     subst hln12
     subst hln13
     subst hln14
     have hr1 := hr1.up hle15
     have hr1' := hr1'.up hle15
     have hr1'' := hr1''.up hle15
     have hchk5 := hchk5.up hle15
     have hchk6 := hchk6.up hle15
     have hsr10 := hsr10.up hle15
     have hsr11 := hsr11.up hle15
     obtain ⟨hchk15_0, hn15_0, hinv15⟩ := hinv15
     obtain ⟨av15_0, cv15_0, rfl⟩ := H.accShape (k := 1) rfl
     obtain ⟨hk, hxl, hxs⟩ := hinv15
     refine W_seq ?_
     refine q2 ?_
     refine o_move rfl rfl ?_
     refine o_fieldAddr 2 Tryz.runUnderlying53 rfl Tryz.sizeOf51 rfl rfl rfl ?_
     refine o_load_B 3 H Tryz.isAgg51 rfl rfl rfl rfl ?_
     refine o_len_slice Tryz.underlying51 rfl rfl ?_
     refine o_lss rfl rfl rfl ?_
     refine q3 ?_
     refine W_cond rfl ?_ ?_
     ·intro hc16
      try simp only [nrm] at hc16
      refine W_skip ?_
      refine N_K ?_
      refine W_seq ?_
      refine W_block ?_
      refine W_drawK [0, 2, 3] 20 H (by kernel_rfl) rfl ?_; intro w17 H; have hd17 := PLe.refl G15
      refine RD_t 0 rfl (by kernel_rfl) rfl (fun _ hK => v_fieldAddr 2 Tryz.runUnderlying53 rfl Tryz.sizeOf51 rfl rfl) ?_
      refine RD_t 1 rfl (by kernel_rfl) rfl (fun _ hK => v_load_B 0 hK Tryz.isAgg51 rfl rfl rfl) ?_
      refine RD_t 2 rfl (by kernel_rfl) rfl (fun _ hK => v_fieldAddr 2 Tryz.runUnderlying53 rfl Tryz.sizeOf51 rfl rfl) ?_
      refine RD_t 3 rfl (by kernel_rfl) rfl (fun _ hK => v_load_B 2 hK Tryz.isAgg51 rfl rfl rfl) ?_
      refine RD_t 4 rfl (by kernel_rfl) rfl (fun _ hK => v_move rfl) ?_
      have hl18 := hr1''.len
      obtain ⟨b18, o18, z18, q18, ha18, hz18, hq18, hE18, hrow18, _⟩ := hr1''.at (i := k) (by omega)
      clear hq18
      obtain ⟨a18, m18, c18, rfl, hi18, hr18⟩ := hE18; have hy_hi18 : _ ≤ 16777216 := hi18; have hn_hr18 := hr18.len; have hx_hr18 : _ ≤ 1099511627776 := hr18.lim
      refine RD_t 5 rfl (by kernel_rfl) rfl (fun _ hK => v_index_P (i := k) ha18 Tryz.underlying51 Tryz.sizeOf102 rfl rfl rfl (by omega)) ?_
      refine RD_t 6 rfl (by kernel_rfl) rfl (fun _ hK => v_fieldAddr 0 Tryz.runUnderlying102 rfl Tryz.sizeOf9 rfl rfl) ?_
      refine RD_t 7 rfl (by kernel_rfl) rfl (fun _ hK => v_load_P hK Tryz.isAgg9 rfl (hrow18 0 _ rfl)) ?_
      refine RD_t 8 rfl (by kernel_rfl) rfl (fun _ hK => v_fieldAddr 2 Tryz.runUnderlying53 rfl Tryz.sizeOf51 rfl rfl) ?_
      refine RD_t 9 rfl (by kernel_rfl) rfl (fun _ hK => v_load_B 2 hK Tryz.isAgg51 rfl rfl rfl) ?_
      refine RD_t 10 rfl (by kernel_rfl) rfl (fun _ hK => v_move rfl) ?_
      have hl19 := hr1''.len
      obtain ⟨b19, o19, z19, q19, ha19, hz19, hq19, hE19, hrow19, _⟩ := hr1''.at (i := k) (by omega)
      clear hq19
      obtain ⟨a19, m19, c19, rfl, hi19, hr19⟩ := hE19; have hy_hi19 : _ ≤ 16777216 := hi19; have hn_hr19 := hr19.len; have hx_hr19 : _ ≤ 1099511627776 := hr19.lim
      have hzz19 : z18 = z19 := Option.some.inj (hz18.symm.trans hz19)
      subst hzz19
      refine RD_t 11 rfl (by kernel_rfl) rfl (fun _ hK => v_index_P (i := k) ha19 Tryz.underlying51 Tryz.sizeOf102 rfl rfl rfl (by omega)) ?_
      refine RD_t 12 rfl (by kernel_rfl) rfl (fun _ hK => v_fieldAddr 1 Tryz.runUnderlying102 rfl Tryz.sizeOf24 rfl rfl) ?_
      refine RD_t 13 rfl (by kernel_rfl) rfl (fun _ hK => v_load_P hK Tryz.isAgg24 rfl (hrow19 1 _ rfl)) ?_
      refine RD_run [14] (by kernel_rfl) rfl (RDs.cons rfl ?_ RDs.nil)
      refine o_call Tryz.call57 rfl rfl (l5All_c _ _ H.sub _ _ hr19 ) ?_
      rintro _ w20 ⟨G20, v20, _, g20, rfl, ⟨cs20, rfl, hchk20⟩, hp20, hq20, hs20⟩
      have H := H.growO g20 hp20 hq20 hs20; obtain ⟨av20, cv20, rfl⟩ := H.accShape (k := 0) rfl
      have hr1 := hr1.up g20.le
      have hr1' := hr1'.up g20.le
      have hr1'' := hr1''.up g20.le
      have hchk5 := hchk5.up g20.le
      have hchk6 := hchk6.up g20.le
      have hsr10 := hsr10.up g20.le
      have hsr11 := hsr11.up g20.le
      have hchk15_0 := hchk15_0.up g20.le
      have hr18 := hr18.up g20.le
      have hrow18 := hrow18.up g20.le
      have hr19 := hr19.up g20.le
      have hrow19 := hrow19.up g20.le
      have hle15 := hle15.trans g20.le
      have hd17 := hd17.trans g20.le
      refine ⟨_, rfl, ?_⟩
      refine R_nil ?_
      refine N_DK (Kn.of' H hd17 (SubL.cons 1 rfl (SubL.cons 3 rfl (SubL.cons 4 rfl SubL.nil)))) ?_
      refine RD_t 15 rfl (by kernel_rfl) rfl (fun _ hK => v_build bf102 rfl rfl) ?_
      refine RD_run [16] (by kernel_rfl) rfl (RDs.cons rfl ?_ RDs.nil)
      refine o_buildSlice H Tryz.underlying51 Tryz.sizeOf102 (fun w => ⟨_, Tryz.zeroValue102 w, rfl⟩) rfl rfl rfl rfl rfl rfl rfl ?_; intro b21 w21 hb21 H
      refine R_nil ?_
      refine N_DK (Kn.of' H hd17 (SubL.cons 2 rfl (SubL.cons 4 rfl (SubL.cons 5 rfl SubL.nil)))) ?_
      refine RD_run [17] (by kernel_rfl) rfl (RDs.cons rfl ?_ RDs.nil)
      refine o_append1 2 H (sz := 2) (bytes := 40) Tryz.underlying51 Tryz.typeInfo102 ⟨_, rfl, rfl⟩ rfl rfl rfl rfl rfl rfl rfl rfl rfl rfl (by omega) rfl ?_; intro v22 w22 H
      obtain ⟨G23, H, hsg23, hsr23⟩ := H.shut' (k := 0) rfl hchk20 (by first | assumption | (simp; done) | (simp; omega) | omega) (by first | assumption | (simp; done) | (simp; omega) | omega)
      have hr1 := hr1.up hsg23
      have hr1' := hr1'.up hsg23
      have hr1'' := hr1''.up hsg23
      have hchk5 := hchk5.up hsg23
      have hchk6 := hchk6.up hsg23
      have hsr10 := hsr10.up hsg23
      have hsr11 := hsr11.up hsg23
      have hchk15_0 := hchk15_0.up hsg23
      have hr18 := hr18.up hsg23
      have hrow18 := hrow18.up hsg23
      have hr19 := hr19.up hsg23
      have hrow19 := hrow19.up hsg23
      have hchk20 := hchk20.up hsg23
      have hle15 := hle15.trans hsg23
      have hd17 := hd17.trans hsg23
      have hchk22 := hchk15_0.snoc (show snapE _ ⟨z18.name, z18.tree⟩ _ from ⟨_, _, _, rfl, hi18, hsr23⟩) rfl
      obtain ⟨av22, cv22, rfl⟩ := H.accShape (k := 1) rfl
      refine R_nil ?_
      refine N_DK (Kn.of' H hd17 (SubL.cons 0 rfl (SubL.cons 2 rfl (SubL.cons 3 rfl SubL.nil)))) ?_
      refine RD_t 18 rfl (by kernel_rfl) rfl (fun _ hK => v_fieldAddr 2 Tryz.runUnderlying53 rfl Tryz.sizeOf51 rfl rfl) ?_
      refine RD_run [19] (by kernel_rfl) rfl (RDs.cons rfl ?_ RDs.nil)
      refine o_store_B 0 H Tryz.sizeOf51 rfl rfl rfl rfl rfl rfl rfl rfl ?_; intro w24 H
      refine R_nil ?_
      refine N_DKlast (by kernel_rfl) (by kernel_rfl) ?_
      refine N_B ?_
      refine N_K ?_
      refine W_region ?_
      refine o_move rfl rfl ?_
      refine o_add rfl rfl rfl ⟨by omega, by omega⟩ ?_
      refine o_assign rfl rfl ?_
      refine R_nil ?_
      refine N_LP (hJ := ⟨_, _, _, (xs ++ [⟨z18.name, z18.tree⟩]), k + 1, _, rfl, hle15, H, ?inv, rfl⟩) (hM := ?hM) (hf := ?hf) (hm := ?hm)
      case hM => (repeat (first | exact Sub.nil | refine Sub.cons rfl ?_))
      case hf => (repeat (first | exact Sub.nil | refine Sub.cons rfl ?_))
      case hm => omega
      case inv => exact ⟨hchk22, (by first | assumption | (simp; omega) | omega), (by exact ⟨by omega, by simp [hxl], by rw [Sp.take_succ' hz18, hxs]⟩)⟩
     intro hc16'
     try simp only [nrm] at hc16'
     refine W_exit ?_
     refine N_K_exit ?_
     refine N_LP_exit ?_
     refine N_B_same ?_
     refine N_K ?_
     refine q2 ?_
     refine o_loadagg_B 0 H Tryz.isAgg53 Tryz.sizeOf53 rfl rfl rfl rfl rfl ?_
     refine o_store_B 2 H Tryz.sizeOf53 rfl rfl rfl rfl rfl rfl rfl rfl ?_; intro w26 H
     refine q3 ?_
     refine W_ret ?_
     refine ret_gen (rs := [.cell 2 53]) (vs := [_]) Tryz.results56 ⟨⟨_, rfl, load_blk 2 H Tryz.isAgg53 Tryz.sizeOf53 rfl rfl rfl⟩, trivial⟩ ?_
     obtain rfl : k = d.snaps.length := by omega
     rw [List.take_length] at hxs
     subst hxs
     exact H.retO (k := 1) rfl ⟨_, _, _, rfl, AccOf.mk (by first | rfl | assumption | (simp; done) | (simp; omega) | omega) hchk15_0, hsr10, hsr11⟩ (acc_nd _ _ _ _ _)
   skip
   refine o_alloc H Tryz.zeroValue53 rfl rfl ?_; intro b27 w27 hb27 H
   refine R_nil ?_
   refine N_DK (Kn.of' H hd4 (SubL.cons 3 rfl (SubL.cons 4 rfl SubL.nil))) ?_
   refine RD_run [6] (by kernel_rfl) rfl (RDs.cons rfl ?_ RDs.nil)
   refine o_buildSlice H Tryz.underlying51 Tryz.sizeOf102 (fun w => ⟨_, Tryz.zeroValue102 w, rfl⟩) rfl rfl rfl rfl rfl rfl rfl ?_; intro b28 w28 hb28 H
   have H := H.blkAcc 2 (k := 0) (n := 0) rfl rfl (by decide)
   refine R_nil ?_
   refine N_DK (Kn.of' H hd4 (SubL.cons 4 rfl (SubL.cons 5 rfl SubL.nil))) ?_
   refine RD_t 7 rfl (by kernel_rfl) rfl (fun _ hK => v_build bf53 rfl rfl) ?_
   refine RD_run [9] (by kernel_rfl) rfl (RDs.cons rfl ?_ RDs.nil)
   refine o_store_B 1 H Tryz.sizeOf53 rfl rfl rfl rfl rfl rfl rfl rfl ?_; intro w29 H
   refine R_nil ?_
   refine N_DKlast (by kernel_rfl) (by kernel_rfl) ?_
   refine N_K ?_
   refine W_seq ?_
   refine q2 ?_
   refine o_assign rfl rfl ?_
   refine q3 ?_
   refine W_block ?_
   obtain ⟨G30, H, hsg30, hsr30⟩ := H.shut' (k := 3) rfl hchk5 (by first | assumption | (simp; done) | (simp; omega) | omega) (by first | assumption | (simp; done) | (simp; omega) | omega)
   have hr1 := hr1.up hsg30
   have hr1' := hr1'.up hsg30
   have hr1'' := hr1''.up hsg30
   have hchk5 := hchk5.up hsg30
   have hchk6 := hchk6.up hsg30
   obtain ⟨G31, H, hsg31, hsr31⟩ := H.shut' (k := 2) rfl hchk6 (by first | assumption | (simp; done) | (simp; omega) | omega) (by first | assumption | (simp; done) | (simp; omega) | omega)
   have hr1 := hr1.up hsg31
   have hr1' := hr1'.up hsg31
   have hr1'' := hr1''.up hsg31
   have hchk5 := hchk5.up hsg31
   have hchk6 := hchk6.up hsg31
   have hsr30 := hsr30.up hsg31
   obtain ⟨ln32, hln32, H⟩ := H.nameAt (k := 1) (off := 2) rfl rfl
   obtain ⟨ln33, hln33, H⟩ := H.name (k := 2) rfl
   obtain ⟨ln34, hln34, H⟩ := H.name (k := 3) rfl
   refine W_loop (hf := (Sub.cons (t := 1) rfl (Sub.cons (t := 2) rfl (Sub.cons (t := 3) rfl Sub.nil)))) (J := fun M w m => ∃ (v : Value) (n : Nat) (cs : List Value) (xs : List (BSnap)) (k : Nat) (G : PH), M = [(4, .int .i64 (k : Int))] ∧ PLe G31 G ∧ Hp w0 G0 [] w G [acc 102 2 v n cs, blk b27 (cl (setN ln32 2 v) 53), blk b3 (cl ln33 53), blk b2 (cl ln34 53)] ∧ (Chk snapE 2 G cs xs ∧ n = xs.length ∧ k ≤ d.snaps.length ∧ xs.length = k ∧ xs = d.snaps.take k) ∧ m = (d.snaps.length - k)) (h0 := ⟨_, _, _, [], 0, _, rfl, PLe.refl _, H, ?inv, rfl⟩) (hM := ?hM) (round := ?round)
   case hM => (repeat (first | exact Sub.nil | refine Sub.cons rfl ?_))
   case inv => exact ⟨(Chk.nil (E := snapE) (sz := 2) (G := G31)),  by first | rfl | simp | (simp; omega) | omega, (by simp)⟩
   case round =>
    rintro _ w35 _ ⟨v, n, cs, xs, k, G35, rfl, hle35, H, hinv35, rfl⟩
    subst hln32
    subst hln33
    subst hln34
    have hr1 := hr1.up hle35
    have hr1' := hr1'.up hle35
    have hr1'' := hr1''.up hle35
    have hchk5 := hchk5.up hle35
    have hchk6 := hchk6.up hle35
    have hsr30 := hsr30.up hle35
    have hsr31 := hsr31.up hle35
    obtain ⟨hchk35_0, hn35_0, hinv35⟩ := hinv35
    obtain ⟨av35_0, cv35_0, rfl⟩ := H.accShape (k := 0) rfl
    obtain ⟨hk, hxl, hxs⟩ := hinv35
    refine W_seq ?_
    refine q2 ?_
    refine o_move rfl rfl ?_
    refine o_fieldAddr 2 Tryz.runUnderlying53 rfl Tryz.sizeOf51 rfl rfl rfl ?_
    refine o_load_B 3 H Tryz.isAgg51 rfl rfl rfl rfl ?_
    refine o_len_slice Tryz.underlying51 rfl rfl ?_
    refine o_lss rfl rfl rfl ?_
    refine q3 ?_
    refine W_cond rfl ?_ ?_
    ·intro hc36
     try simp only [nrm] at hc36
     refine W_skip ?_
     refine N_K ?_
     refine W_seq ?_
     refine W_block ?_
     refine W_drawK [1, 2, 3] 20 H (by kernel_rfl) rfl ?_; intro w37 H; have hd37 := PLe.refl G35
     refine RD_t 0 rfl (by kernel_rfl) rfl (fun _ hK => v_fieldAddr 2 Tryz.runUnderlying53 rfl Tryz.sizeOf51 rfl rfl) ?_
     refine RD_t 1 rfl (by kernel_rfl) rfl (fun _ hK => v_load_B 0 hK Tryz.isAgg51 rfl rfl rfl) ?_
     refine RD_t 2 rfl (by kernel_rfl) rfl (fun _ hK => v_fieldAddr 2 Tryz.runUnderlying53 rfl Tryz.sizeOf51 rfl rfl) ?_
     refine RD_t 3 rfl (by kernel_rfl) rfl (fun _ hK => v_load_B 2 hK Tryz.isAgg51 rfl rfl rfl) ?_
     refine RD_t 4 rfl (by kernel_rfl) rfl (fun _ hK => v_move rfl) ?_
     have hl38 := hr1''.len
     obtain ⟨b38, o38, z38, q38, ha38, hz38, hq38, hE38, hrow38, _⟩ := hr1''.at (i := k) (by omega)
     clear hq38
     obtain ⟨a38, m38, c38, rfl, hi38, hr38⟩ := hE38; have hy_hi38 : _ ≤ 16777216 := hi38; have hn_hr38 := hr38.len; have hx_hr38 : _ ≤ 1099511627776 := hr38.lim
     refine RD_t 5 rfl (by kernel_rfl) rfl (fun _ hK => v_index_P (i := k) ha38 Tryz.underlying51 Tryz.sizeOf102 rfl rfl rfl (by omega)) ?_
     refine RD_t 6 rfl (by kernel_rfl) rfl (fun _ hK => v_fieldAddr 0 Tryz.runUnderlying102 rfl Tryz.sizeOf9 rfl rfl) ?_
     refine RD_t 7 rfl (by kernel_rfl) rfl (fun _ hK => v_load_P hK Tryz.isAgg9 rfl (hrow38 0 _ rfl)) ?_
     refine RD_t 8 rfl (by kernel_rfl) rfl (fun _ hK => v_fieldAddr 2 Tryz.runUnderlying53 rfl Tryz.sizeOf51 rfl rfl) ?_
     refine RD_t 9 rfl (by kernel_rfl) rfl (fun _ hK => v_load_B 2 hK Tryz.isAgg51 rfl rfl rfl) ?_
     refine RD_t 10 rfl (by kernel_rfl) rfl (fun _ hK => v_move rfl) ?_
     have hl39 := hr1''.len
     obtain ⟨b39, o39, z39, q39, ha39, hz39, hq39, hE39, hrow39, _⟩ := hr1''.at (i := k) (by omega)
     clear hq39
     obtain ⟨a39, m39, c39, rfl, hi39, hr39⟩ := hE39; have hy_hi39 : _ ≤ 16777216 := hi39; have hn_hr39 := hr39.len; have hx_hr39 : _ ≤ 1099511627776 := hr39.lim
     have hzz39 : z38 = z39 := Option.some.inj (hz38.symm.trans hz39)
     subst hzz39
     refine RD_t 11 rfl (by kernel_rfl) rfl (fun _ hK => v_index_P (i := k) ha39 Tryz.underlying51 Tryz.sizeOf102 rfl rfl rfl (by omega)) ?_
     refine RD_t 12 rfl (by kernel_rfl) rfl (fun _ hK => v_fieldAddr 1 Tryz.runUnderlying102 rfl Tryz.sizeOf24 rfl rfl) ?_
     refine RD_t 13 rfl (by kernel_rfl) rfl (fun _ hK => v_load_P hK Tryz.isAgg24 rfl (hrow39 1 _ rfl)) ?_
     refine RD_run [14] (by kernel_rfl) rfl (RDs.cons rfl ?_ RDs.nil)
     refine o_call Tryz.call57 rfl rfl (l5All_c _ _ H.sub _ _ hr39 ) ?_
     rintro _ w40 ⟨G40, v40, _, g40, rfl, ⟨cs40, rfl, hchk40⟩, hp40, hq40, hs40⟩
     have H := H.growO g40 hp40 hq40 hs40; obtain ⟨av40, cv40, rfl⟩ := H.accShape (k := 0) rfl
     have hr1 := hr1.up g40.le
     have hr1' := hr1'.up g40.le
     have hr1'' := hr1''.up g40.le
     have hchk5 := hchk5.up g40.le
     have hchk6 := hchk6.up g40.le
     have hsr30 := hsr30.up g40.le
     have hsr31 := hsr31.up g40.le
     have hchk35_0 := hchk35_0.up g40.le
     have hr38 := hr38.up g40.le
     have hrow38 := hrow38.up g40.le
     have hr39 := hr39.up g40.le
     have hrow39 := hrow39.up g40.le
     have hle35 := hle35.trans g40.le
     have hd37 := hd37.trans g40.le
     refine ⟨_, rfl, ?_⟩
     refine R_nil ?_
     refine N_DK (Kn.of' H hd37 (SubL.cons 2 rfl (SubL.cons 3 rfl (SubL.cons 4 rfl SubL.nil)))) ?_
     refine RD_t 15 rfl (by kernel_rfl) rfl (fun _ hK => v_build bf102 rfl rfl) ?_
     refine RD_run [16] (by kernel_rfl) rfl (RDs.cons rfl ?_ RDs.nil)
     refine o_buildSlice H Tryz.underlying51 Tryz.sizeOf102 (fun w => ⟨_, Tryz.zeroValue102 w, rfl⟩) rfl rfl rfl rfl rfl rfl rfl ?_; intro b41 w41 hb41 H
     refine R_nil ?_
     refine N_DK (Kn.of' H hd37 (SubL.cons 3 rfl (SubL.cons 4 rfl (SubL.cons 5 rfl SubL.nil)))) ?_
     refine RD_run [17] (by kernel_rfl) rfl (RDs.cons rfl ?_ RDs.nil)
     refine o_append1 1 H (sz := 2) (bytes := 40) Tryz.underlying51 Tryz.typeInfo102 ⟨_, rfl, rfl⟩ rfl rfl rfl rfl rfl rfl rfl rfl rfl rfl (by omega) rfl ?_; intro v42 w42 H
     obtain ⟨G43, H, hsg43, hsr43⟩ := H.shut' (k := 0) rfl hchk40 (by first | assumption | (simp; done) | (simp; omega) | omega) (by first | assumption | (simp; done) | (simp; omega) | omega)
     have hr1 := hr1.up hsg43
     have hr1' := hr1'.up hsg43
     have hr1'' := hr1''.up hsg43
     have hchk5 := hchk5.up hsg43
     have hchk6 := hchk6.up hsg43
     have hsr30 := hsr30.up hsg43
     have hsr31 := hsr31.up hsg43
     have hchk35_0 := hchk35_0.up hsg43
     have hr38 := hr38.up hsg43
     have hrow38 := hrow38.up hsg43
     have hr39 := hr39.up hsg43
     have hrow39 := hrow39.up hsg43
     have hchk40 := hchk40.up hsg43
     have hle35 := hle35.trans hsg43
     have hd37 := hd37.trans hsg43
     have hchk42 := hchk35_0.snoc (show snapE _ ⟨z38.name, z38.tree⟩ _ from ⟨_, _, _, rfl, hi38, hsr43⟩) rfl
     obtain ⟨av42, cv42, rfl⟩ := H.accShape (k := 0) rfl
     refine R_nil ?_
     refine N_DK (Kn.of' H hd37 (SubL.cons 1 rfl (SubL.cons 2 rfl (SubL.cons 3 rfl SubL.nil)))) ?_
     refine RD_t 18 rfl (by kernel_rfl) rfl (fun _ hK => v_fieldAddr 2 Tryz.runUnderlying53 rfl Tryz.sizeOf51 rfl rfl) ?_
     refine RD_run [19] (by kernel_rfl) rfl (RDs.cons rfl ?_ RDs.nil)
     refine o_store_B 1 H Tryz.sizeOf51 rfl rfl rfl rfl rfl rfl rfl rfl ?_; intro w44 H
     refine R_nil ?_
     refine N_DKlast (by kernel_rfl) (by kernel_rfl) ?_
     refine N_B ?_
     refine N_K ?_
     refine W_region ?_
     refine o_move rfl rfl ?_
     refine o_add rfl rfl rfl ⟨by omega, by omega⟩ ?_
     refine o_assign rfl rfl ?_
     refine R_nil ?_
     refine N_LP (hJ := ⟨_, _, _, (xs ++ [⟨z38.name, z38.tree⟩]), k + 1, _, rfl, hle35, H, ?inv, rfl⟩) (hM := ?hM) (hf := ?hf) (hm := ?hm)
     case hM => (repeat (first | exact Sub.nil | refine Sub.cons rfl ?_))
     case hf => (repeat (first | exact Sub.nil | refine Sub.cons rfl ?_))
     case hm => omega
     case inv => exact ⟨hchk42, (by first | assumption | (simp; omega) | omega), (by exact ⟨by omega, by simp [hxl], by rw [Sp.take_succ' hz38, hxs]⟩)⟩
    intro hc36'
    try simp only [nrm] at hc36'
    refine W_exit ?_
    refine N_K_exit ?_
    refine N_LP_exit ?_
    refine N_B_same ?_
    refine N_K ?_
    refine q2 ?_
    refine o_loadagg_B 1 H Tryz.isAgg53 Tryz.sizeOf53 rfl rfl rfl rfl rfl ?_
    refine o_store_B 2 H Tryz.sizeOf53 rfl rfl rfl rfl rfl rfl rfl rfl ?_; intro w46 H
    refine q3 ?_
    refine W_ret ?_
    refine ret_gen (rs := [.cell 2 53]) (vs := [_]) Tryz.results56 ⟨⟨_, rfl, load_blk 2 H Tryz.isAgg53 Tryz.sizeOf53 rfl rfl rfl⟩, trivial⟩ ?_
    obtain rfl : k = d.snaps.length := by omega
    rw [List.take_length] at hxs
    subst hxs
    exact H.retO (k := 0) rfl ⟨_, _, _, rfl, AccOf.mk (by first | rfl | assumption | (simp; done) | (simp; omega) | omega) hchk35_0, hsr30, hsr31⟩ (acc_nd _ _ _ _ _)
  ·skip
   refine o_buildSlice H Tryz.underlying51 Tryz.sizeOf102 (fun w => ⟨_, Tryz.zeroValue102 w, rfl⟩) rfl rfl rfl rfl rfl rfl rfl ?_; intro b47 w47 hb47 H
   have H := H.blkAcc 2 (k := 0) (n := 0) rfl rfl (by decide)
   refine R_nil ?_
   refine N_DK (Kn.of' H hd4 (SubL.cons 2 rfl (SubL.cons 3 rfl SubL.nil))) ?_
   refine RD_run [5, 8] (by kernel_rfl) rfl (RDs.cons rfl ?_ (RDs.cons rfl ?_ RDs.nil))
   ·skip
    refine o_call Tryz.call57 rfl rfl (l5All_c _ _ H.sub _ _ hr1' ) ?_
    rintro _ w48 ⟨G48, v48, _, g48, rfl, ⟨cs48, rfl, hchk48⟩, hp48, hq48, hs48⟩
    have H := H.growO g48 hp48 hq48 hs48; obtain ⟨av48, cv48, rfl⟩ := H.accShape (k := 0) rfl
    have hr1 := hr1.up g48.le
    have hr1' := hr1'.up g48.le
    have hr1'' := hr1''.up g48.le
    have hchk5 := hchk5.up g48.le
    have hd4 := hd4.trans g48.le
    refine ⟨_, rfl, ?_⟩
    refine R_nil ?_
    refine N_DK (Kn.of' H hd4 (SubL.cons 3 rfl (SubL.cons 4 rfl SubL.nil))) ?_
    refine RD_t 7 rfl (by kernel_rfl) rfl (fun _ hK => v_build bf53 rfl rfl) ?_
    refine RD_run [8] (by kernel_rfl) rfl (RDs.cons rfl ?_ RDs.nil)
    refine o_alloc H Tryz.zeroValue53 rfl rfl ?_; intro b49 w49 hb49 H
    refine R_nil ?_
    refine N_DK (Kn.of' H hd4 (SubL.cons 4 rfl (SubL.cons 5 rfl SubL.nil))) ?_
    refine RD_run [9] (by kernel_rfl) rfl (RDs.cons rfl ?_ RDs.nil)
    refine o_store_B 0 H Tryz.sizeOf53 rfl rfl rfl rfl rfl rfl rfl rfl ?_; intro w50 H
    refine R_nil ?_
    refine N_DKlast (by kernel_rfl) (by kernel_rfl) ?_
    refine N_K ?_
    refine W_seq ?_
    refine q2 ?_
    refine o_assign rfl rfl ?_
    refine q3 ?_
    refine W_block ?_
    obtain ⟨G51, H, hsg51, hsr51⟩ := H.shut' (k := 3) rfl hchk5 (by first | assumption | (simp; done) | (simp; omega) | omega) (by first | assumption | (simp; done) | (simp; omega) | omega)
    have hr1 := hr1.up hsg51
    have hr1' := hr1'.up hsg51
    have hr1'' := hr1''.up hsg51
    have hchk5 := hchk5.up hsg51
    have hchk48 := hchk48.up hsg51
    obtain ⟨G52, H, hsg52, hsr52⟩ := H.shut' (k := 1) rfl hchk48 (by first | assumption | (simp; done) | (simp; omega) | omega) (by first | assumption | (simp; done) | (simp; omega) | omega)
    have hr1 := hr1.up hsg52
    have hr1' := hr1'.up hsg52
    have hr1'' := hr1''.up hsg52
    have hchk5 := hchk5.up hsg52
    have hchk48 := hchk48.up hsg52
    have hsr51 := hsr51.up hsg52
    obtain ⟨ln53, hln53, H⟩ := H.nameAt (k := 0) (off := 2) rfl rfl
    obtain ⟨ln54, hln54, H⟩ := H.name (k := 2) rfl
    obtain ⟨ln55, hln55, H⟩ := H.name (k := 3) rfl
    refine W_loop (hf := (Sub.cons (t := 1) rfl (Sub.cons (t := 2) rfl (Sub.cons (t := 3) rfl Sub.nil)))) (J := fun M w m => ∃ (v : Value) (n : Nat) (cs : List Value) (xs : List (BSnap)) (k : Nat) (G : PH), M = [(4, .int .i64 (k : Int))] ∧ PLe G52 G ∧ Hp w0 G0 [] w G [blk b49 (cl (setN ln53 2 v) 53), acc 102 2 v n cs, blk b3 (cl ln54 53), blk b2 (cl ln55 53)] ∧ (Chk snapE 2 G cs xs ∧ n = xs.length ∧ k ≤ d.snaps.length ∧ xs.length = k ∧ xs = d.snaps.take k) ∧ m = (d.snaps.length - k)) (h0 := ⟨_, _, _, [], 0, _, rfl, PLe.refl _, H, ?inv, rfl⟩) (hM := ?hM) (round := ?round)
    case hM => (repeat (first | exact Sub.nil | refine Sub.cons rfl ?_))
    case inv => exact ⟨(Chk.nil (E := snapE) (sz := 2) (G := G52)),  by first | rfl | simp | (simp; omega) | omega, (by simp)⟩
    case round =>
     rintro _ w56 _ ⟨v, n, cs, xs, k, G56, rfl, hle56, H, hinv56, rfl⟩
     subst hln53
     subst hln54
     subst hln55
     have hr1 := hr1.up hle56
     have hr1' := hr1'.up hle56
     have hr1'' := hr1''.up hle56
     have hchk5 := hchk5.up hle56
     have hchk48 := hchk48.up hle56
     have hsr51 := hsr51.up hle56
     have hsr52 := hsr52.up hle56
     obtain ⟨hchk56_0, hn56_0, hinv56⟩ := hinv56
     obtain ⟨av56_0, cv56_0, rfl⟩ := H.accShape (k := 1) rfl
     obtain ⟨hk, hxl, hxs⟩ := hinv56
     refine W_seq ?_
     refine q2 ?_
     refine o_move rfl rfl ?_
     refine o_fieldAddr 2 Tryz.runUnderlying53 rfl Tryz.sizeOf51 rfl rfl rfl ?_
     refine o_load_B 3 H Tryz.isAgg51 rfl rfl rfl rfl ?_
     refine o_len_slice Tryz.underlying51 rfl rfl ?_
     refine o_lss rfl rfl rfl ?_
     refine q3 ?_
     refine W_cond rfl ?_ ?_
     ·intro hc57
      try simp only [nrm] at hc57
      refine W_skip ?_
      refine N_K ?_
      refine W_seq ?_
      refine W_block ?_
      refine W_drawK [0, 2, 3] 20 H (by kernel_rfl) rfl ?_; intro w58 H; have hd58 := PLe.refl G56
      refine RD_t 0 rfl (by kernel_rfl) rfl (fun _ hK => v_fieldAddr 2 Tryz.runUnderlying53 rfl Tryz.sizeOf51 rfl rfl) ?_
      refine RD_t 1 rfl (by kernel_rfl) rfl (fun _ hK => v_load_B 0 hK Tryz.isAgg51 rfl rfl rfl) ?_
      refine RD_t 2 rfl (by kernel_rfl) rfl (fun _ hK => v_fieldAddr 2 Tryz.runUnderlying53 rfl Tryz.sizeOf51 rfl rfl) ?_
      refine RD_t 3 rfl (by kernel_rfl) rfl (fun _ hK => v_load_B 2 hK Tryz.isAgg51 rfl rfl rfl) ?_
      refine RD_t 4 rfl (by kernel_rfl) rfl (fun _ hK => v_move rfl) ?_
      have hl59 := hr1''.len
      obtain ⟨b59, o59, z59, q59, ha59, hz59, hq59, hE59, hrow59, _⟩ := hr1''.at (i := k) (by omega)
      clear hq59
      obtain ⟨a59, m59, c59, rfl, hi59, hr59⟩ := hE59; have hy_hi59 : _ ≤ 16777216 := hi59; have hn_hr59 := hr59.len; have hx_hr59 : _ ≤ 1099511627776 := hr59.lim
      refine RD_t 5 rfl (by kernel_rfl) rfl (fun _ hK => v_index_P (i := k) ha59 Tryz.underlying51 Tryz.sizeOf102 rfl rfl rfl (by omega)) ?_
      refine RD_t 6 rfl (by kernel_rfl) rfl (fun _ hK => v_fieldAddr 0 Tryz.runUnderlying102 rfl Tryz.sizeOf9 rfl rfl) ?_
      refine RD_t 7 rfl (by kernel_rfl) rfl (fun _ hK => v_load_P hK Tryz.isAgg9 rfl (hrow59 0 _ rfl)) ?_
      refine RD_t 8 rfl (by kernel_rfl) rfl (fun _ hK => v_fieldAddr 2 Tryz.runUnderlying53 rfl Tryz.sizeOf51 rfl rfl) ?_
      refine RD_t 9 rfl (by kernel_rfl) rfl (fun _ hK => v_load_B 2 hK Tryz.isAgg51 rfl rfl rfl) ?_
      refine RD_t 10 rfl (by kernel_rfl) rfl (fun _ hK => v_move rfl) ?_
      have hl60 := hr1''.len
      obtain ⟨b60, o60, z60, q60, ha60, hz60, hq60, hE60, hrow60, _⟩ := hr1''.at (i := k) (by omega)
      clear hq60
      obtain ⟨a60, m60, c60, rfl, hi60, hr60⟩ := hE60; have hy_hi60 : _ ≤ 16777216 := hi60; have hn_hr60 := hr60.len; have hx_hr60 : _ ≤ 1099511627776 := hr60.lim
      have hzz60 : z59 = z60 := Option.some.inj (hz59.symm.trans hz60)
      subst hzz60
      refine RD_t 11 rfl (by kernel_rfl) rfl (fun _ hK => v_index_P (i := k) ha60 Tryz.underlying51 Tryz.sizeOf102 rfl rfl rfl (by omega)) ?_
      refine RD_t 12 rfl (by kernel_rfl) rfl (fun _ hK => v_fieldAddr 1 Tryz.runUnderlying102 rfl Tryz.sizeOf24 rfl rfl) ?_
      refine RD_t 13 rfl (by kernel_rfl) rfl (fun _ hK => v_load_P hK Tryz.isAgg24 rfl (hrow60 1 _ rfl)) ?_
      refine RD_run [14] (by kernel_rfl) rfl (RDs.cons rfl ?_ RDs.nil)
      refine o_call Tryz.call57 rfl rfl (l5All_c _ _ H.sub _ _ hr60 ) ?_
      rintro _ w61 ⟨G61, v61, _, g61, rfl, ⟨cs61, rfl, hchk61⟩, hp61, hq61, hs61⟩
      have H := H.growO g61 hp61 hq61 hs61; obtain ⟨av61, cv61, rfl⟩ := H.accShape (k := 0) rfl
      have hr1 := hr1.up g61.le
      have hr1' := hr1'.up g61.le
      have hr1'' := hr1''.up g61.le
      have hchk5 := hchk5.up g61.le
      have hchk48 := hchk48.up g61.le
      have hsr51 := hsr51.up g61.le
      have hsr52 := hsr52.up g61.le
      have hchk56_0 := hchk56_0.up g61.le
      have hr59 := hr59.up g61.le
      have hrow59 := hrow59.up g61.le
      have hr60 := hr60.up g61.le
      have hrow60 := hrow60.up g61.le
      have hle56 := hle56.trans g61.le
      have hd58 := hd58.trans g61.le
      refine ⟨_, rfl, ?_⟩
      refine R_nil ?_
      refine N_DK (Kn.of' H hd58 (SubL.cons 1 rfl (SubL.cons 3 rfl (SubL.cons 4 rfl SubL.nil)))) ?_
      refine RD_t 15 rfl (by kernel_rfl) rfl (fun _ hK => v_build bf102 rfl rfl) ?_
      refine RD_run [16] (by kernel_rfl) rfl (RDs.cons rfl ?_ RDs.nil)
      refine o_buildSlice H Tryz.underlying51 Tryz.sizeOf102 (fun w => ⟨_, Tryz.zeroValue102 w, rfl⟩) rfl rfl rfl rfl rfl rfl rfl ?_; intro b62 w62 hb62 H
      refine R_nil ?_
      refine N_DK (Kn.of' H hd58 (SubL.cons 2 rfl (SubL.cons 4 rfl (SubL.cons 5 rfl SubL.nil)))) ?_
      refine RD_run [17] (by kernel_rfl) rfl (RDs.cons rfl ?_ RDs.nil)
      refine o_append1 2 H (sz := 2) (bytes := 40) Tryz.underlying51 Tryz.typeInfo102 ⟨_, rfl, rfl⟩ rfl rfl rfl rfl rfl rfl rfl rfl rfl rfl (by omega) rfl ?_; intro v63 w63 H
      obtain ⟨G64, H, hsg64, hsr64⟩ := H.shut' (k := 0) rfl hchk61 (by first | assumption | (simp; done) | (simp; omega) | omega) (by first | assumption | (simp; done) | (simp; omega) | omega)
      have hr1 := hr1.up hsg64
      have hr1' := hr1'.up hsg64
      have hr1'' := hr1''.up hsg64
      have hchk5 := hchk5.up hsg64
      have hchk48 := hchk48.up hsg64
      have hsr51 := hsr51.up hsg64
      have hsr52 := hsr52.up hsg64
      have hchk56_0 := hchk56_0.up hsg64
      have hr59 := hr59.up hsg64
      have hrow59 := hrow59.up hsg64
      have hr60 := hr60.up hsg64
      have hrow60 := hrow60.up hsg64
      have hchk61 := hchk61.up hsg64
      have hle56 := hle56.trans hsg64
      have hd58 := hd58.trans hsg64
      have hchk63 := hchk56_0.snoc (show snapE _ ⟨z59.name, z59.tree⟩ _ from ⟨_, _, _, rfl, hi59, hsr64⟩) rfl
      obtain ⟨av63, cv63, rfl⟩ := H.accShape (k := 1) rfl
      refine R_nil ?_
      refine N_DK (Kn.of' H hd58 (SubL.cons 0 rfl (SubL.cons 2 rfl (SubL.cons 3 rfl SubL.nil)))) ?_
      refine RD_t 18 rfl (by kernel_rfl) rfl (fun _ hK => v_fieldAddr 2 Tryz.runUnderlying53 rfl Tryz.sizeOf51 rfl rfl) ?_
      refine RD_run [19] (by kernel_rfl) rfl (RDs.cons rfl ?_ RDs.nil)
      refine o_store_B 0 H Tryz.sizeOf51 rfl rfl rfl rfl rfl rfl rfl rfl ?_; intro w65 H
      refine R_nil ?_
      refine N_DKlast (by kernel_rfl) (by kernel_rfl) ?_
      refine N_B ?_
      refine N_K ?_
      refine W_region ?_
      refine o_move rfl rfl ?_
      refine o_add rfl rfl rfl ⟨by omega, by omega⟩ ?_
      refine o_assign rfl rfl ?_
      refine R_nil ?_
      refine N_LP (hJ := ⟨_, _, _, (xs ++ [⟨z59.name, z59.tree⟩]), k + 1, _, rfl, hle56, H, ?inv, rfl⟩) (hM := ?hM) (hf := ?hf) (hm := ?hm)
      case hM => (repeat (first | exact Sub.nil | refine Sub.cons rfl ?_))
      case hf => (repeat (first | exact Sub.nil | refine Sub.cons rfl ?_))
      case hm => omega
      case inv => exact ⟨hchk63, (by first | assumption | (simp; omega) | omega), (by exact ⟨by omega, by simp [hxl], by rw [Sp.take_succ' hz59, hxs]⟩)⟩
     intro hc57'
     try simp only [nrm] at hc57'
     refine W_exit ?_
     refine N_K_exit ?_
     refine N_LP_exit ?_
     refine N_B_same ?_
     refine N_K ?_
     refine q2 ?_
     refine o_loadagg_B 0 H Tryz.isAgg53 Tryz.sizeOf53 rfl rfl rfl rfl rfl ?_
     refine o_store_B 2 H Tryz.sizeOf53 rfl rfl rfl rfl rfl rfl rfl rfl ?_; intro w67 H
     refine q3 ?_
     refine W_ret ?_
     refine ret_gen (rs := [.cell 2 53]) (vs := [_]) Tryz.results56 ⟨⟨_, rfl, load_blk 2 H Tryz.isAgg53 Tryz.sizeOf53 rfl rfl rfl⟩, trivial⟩ ?_
     obtain rfl : k = d.snaps.length := by omega
     rw [List.take_length] at hxs
     subst hxs
     exact H.retO (k := 1) rfl ⟨_, _, _, rfl, AccOf.mk (by first | rfl | assumption | (simp; done) | (simp; omega) | omega) hchk56_0, hsr51, hsr52⟩ (acc_nd _ _ _ _ _)
   skip
   refine o_alloc H Tryz.zeroValue53 rfl rfl ?_; intro b68 w68 hb68 H
   refine R_nil ?_
   refine N_DK (Kn.of' H hd4 (SubL.cons 3 rfl (SubL.cons 4 rfl SubL.nil))) ?_
   refine RD_run [5] (by kernel_rfl) rfl (RDs.cons rfl ?_ RDs.nil)
   refine o_call Tryz.call57 rfl rfl (l5All_c _ _ H.sub _ _ hr1' ) ?_
   rintro _ w69 ⟨G69, v69, _, g69, rfl, ⟨cs69, rfl, hchk69⟩, hp69, hq69, hs69⟩
   have H := H.growO g69 hp69 hq69 hs69; obtain ⟨av69, cv69, rfl⟩ := H.accShape (k := 0) rfl
   have hr1 := hr1.up g69.le
   have hr1' := hr1'.up g69.le
   have hr1'' := hr1''.up g69.le
   have hchk5 := hchk5.up g69.le
   have hd4 := hd4.trans g69.le
   refine ⟨_, rfl, ?_⟩
   refine R_nil ?_
   refine N_DK (Kn.of' H hd4 (SubL.cons 4 rfl (SubL.cons 5 rfl SubL.nil))) ?_
   refine RD_t 7 rfl (by kernel_rfl) rfl (fun _ hK => v_build bf53 rfl rfl) ?_
   refine RD_run [9] (by kernel_rfl) rfl (RDs.cons rfl ?_ RDs.nil)
   refine o_store_B 1 H Tryz.sizeOf53 rfl rfl rfl rfl rfl rfl rfl rfl ?_; intro w70 H
   refine R_nil ?_
   refine N_DKlast (by kernel_rfl) (by kernel_rfl) ?_
   refine N_K ?_
   refine W_seq ?_
   refine q2 ?_
   refine o_assign rfl rfl ?_
   refine q3 ?_
   refine W_block ?_
   obtain ⟨G71, H, hsg71, hsr71⟩ := H.shut' (k := 3) rfl hchk5 (by first | assumption | (simp; done) | (simp; omega) | omega) (by first | assumption | (simp; done) | (simp; omega) | omega)
   have hr1 := hr1.up hsg71
   have hr1' := hr1'.up hsg71
   have hr1'' := hr1''.up hsg71
   have hchk5 := hchk5.up hsg71
   have hchk69 := hchk69.up hsg71
   obtain ⟨G72, H, hsg72, hsr72⟩ := H.shut' (k := 0) rfl hchk69 (by first | assumption | (simp; done) | (simp; omega) | omega) (by first | assumption | (simp; done) | (simp; omega) | omega)
   have hr1 := hr1.up hsg72
   have hr1' := hr1'.up hsg72
   have hr1'' := hr1''.up hsg72
   have hchk5 := hchk5.up hsg72
   have hchk69 := hchk69.up hsg72
   have hsr71 := hsr71.up hsg72
   obtain ⟨ln73, hln73, H⟩ := H.nameAt (k := 0) (off := 2) rfl rfl
   obtain ⟨ln74, hln74, H⟩ := H.name (k := 2) rfl
   obtain ⟨ln75, hln75, H⟩ := H.name (k := 3) rfl
   refine W_loop (hf := (Sub.cons (t := 1) rfl (Sub.cons (t := 2) rfl (Sub.cons (t := 3) rfl Sub.nil)))) (J := fun M w m => ∃ (v : Value) (n : Nat) (cs : List Value) (xs : List (BSnap)) (k : Nat) (G : PH), M = [(4, .int .i64 (k : Int))] ∧ PLe G72 G ∧ Hp w0 G0 [] w G [blk b68 (cl (setN ln73 2 v) 53), acc 102 2 v n cs, blk b3 (cl ln74 53), blk b2 (cl ln75 53)] ∧ (Chk snapE 2 G cs xs ∧ n = xs.length ∧ k ≤ d.snaps.length ∧ xs.length = k ∧ xs = d.snaps.take k) ∧ m = (d.snaps.length - k)) (h0 := ⟨_, _, _, [], 0, _, rfl, PLe.refl _, H, ?inv, rfl⟩) (hM := ?hM) (round := ?round)
   case hM => (repeat (first | exact Sub.nil | refine Sub.cons rfl ?_))
   case inv => exact ⟨(Chk.nil (E := snapE) (sz := 2) (G := G72)),  by first | rfl | simp | (simp; omega) | omega, (by simp)⟩
   case round =>
    rintro _ w76 _ ⟨v, n, cs, xs, k, G76, rfl, hle76, H, hinv76, rfl⟩
    subst hln73
    subst hln74
    subst hln75
    have hr1 := hr1.up hle76
    have hr1' := hr1'.up hle76
    have hr1'' := hr1''.up hle76
    have hchk5 := hchk5.up hle76
    have hchk69 := hchk69.up hle76
    have hsr71 := hsr71.up hle76
    have hsr72 := hsr72.up hle76
    obtain ⟨hchk76_0, hn76_0, hinv76⟩ := hinv76
    obtain ⟨av76_0, cv76_0, rfl⟩ := H.accShape (k := 1) rfl
    obtain ⟨hk, hxl, hxs⟩ := hinv76
    refine W_seq ?_
    refine q2 ?_
    refine o_move rfl rfl ?_
    refine o_fieldAddr 2 Tryz.runUnderlying53 rfl Tryz.sizeOf51 rfl rfl rfl ?_
    refine o_load_B 3 H Tryz.isAgg51 rfl rfl rfl rfl ?_
    refine o_len_slice Tryz.underlying51 rfl rfl ?_
    refine o_lss rfl rfl rfl ?_
    refine q3 ?_
    refine W_cond rfl ?_ ?_
    ·intro hc77
     try simp only [nrm] at hc77
     refine W_skip ?_
     refine N_K ?_
     refine W_seq ?_
     refine W_block ?_
     refine W_drawK [0, 2, 3] 20 H (by kernel_rfl) rfl ?_; intro w78 H; have hd78 := PLe.refl G76
     refine RD_t 0 rfl (by kernel_rfl) rfl (fun _ hK => v_fieldAddr 2 Tryz.runUnderlying53 rfl Tryz.sizeOf51 rfl rfl) ?_
     refine RD_t 1 rfl (by kernel_rfl) rfl (fun _ hK => v_load_B 0 hK Tryz.isAgg51 rfl rfl rfl) ?_
     refine RD_t 2 rfl (by kernel_rfl) rfl (fun _ hK => v_fieldAddr 2 Tryz.runUnderlying53 rfl Tryz.sizeOf51 rfl rfl) ?_
     refine RD_t 3 rfl (by kernel_rfl) rfl (fun _ hK => v_load_B 2 hK Tryz.isAgg51 rfl rfl rfl) ?_
     refine RD_t 4 rfl (by kernel_rfl) rfl (fun _ hK => v_move rfl) ?_
     have hl79 := hr1''.len
     obtain ⟨b79, o79, z79, q79, ha79, hz79, hq79, hE79, hrow79, _⟩ := hr1''.at (i := k) (by omega)
     clear hq79
     obtain ⟨a79, m79, c79, rfl, hi79, hr79⟩ := hE79; have hy_hi79 : _ ≤ 16777216 := hi79; have hn_hr79 := hr79.len; have hx_hr79 : _ ≤ 1099511627776 := hr79.lim
     refine RD_t 5 rfl (by kernel_rfl) rfl (fun _ hK => v_index_P (i := k) ha79 Tryz.underlying51 Tryz.sizeOf102 rfl rfl rfl (by omega)) ?_
     refine RD_t 6 rfl (by kernel_rfl) rfl (fun _ hK => v_fieldAddr 0 Tryz.runUnderlying102 rfl Tryz.sizeOf9 rfl rfl) ?_
     refine RD_t 7 rfl (by kernel_rfl) rfl (fun _ hK => v_load_P hK Tryz.isAgg9 rfl (hrow79 0 _ rfl)) ?_
     refine RD_t 8 rfl (by kernel_rfl) rfl (fun _ hK => v_fieldAddr 2 Tryz.runUnderlying53 rfl Tryz.sizeOf51 rfl rfl) ?_
     refine RD_t 9 rfl (by kernel_rfl) rfl (fun _ hK => v_load_B 2 hK Tryz.isAgg51 rfl rfl rfl) ?_
     refine RD_t 10 rfl (by kernel_rfl) rfl (fun _ hK => v_move rfl) ?_
     have hl80 := hr1''.len
     obtain ⟨b80, o80, z80, q80, ha80, hz80, hq80, hE80, hrow80, _⟩ := hr1''.at (i := k) (by omega)
     clear hq80
     obtain ⟨a80, m80, c80, rfl, hi80, hr80⟩ := hE80; have hy_hi80 : _ ≤ 16777216 := hi80; have hn_hr80 := hr80.len; have hx_hr80 : _ ≤ 1099511627776 := hr80.lim
     have hzz80 : z79 = z80 := Option.some.inj (hz79.symm.trans hz80)
     subst hzz80
     refine RD_t 11 rfl (by kernel_rfl) rfl (fun _ hK => v_index_P (i := k) ha80 Tryz.underlying51 Tryz.sizeOf102 rfl rfl rfl (by omega)) ?_
     refine RD_t 12 rfl (by kernel_rfl) rfl (fun _ hK => v_fieldAddr 1 Tryz.runUnderlying102 rfl Tryz.sizeOf24 rfl rfl) ?_
     refine RD_t 13 rfl (by kernel_rfl) rfl (fun _ hK => v_load_P hK Tryz.isAgg24 rfl (hrow80 1 _ rfl)) ?_
     refine RD_run [14] (by kernel_rfl) rfl (RDs.cons rfl ?_ RDs.nil)
     refine o_call Tryz.call57 rfl rfl (l5All_c _ _ H.sub _ _ hr80 ) ?_
     rintro _ w81 ⟨G81, v81, _, g81, rfl, ⟨cs81, rfl, hchk81⟩, hp81, hq81, hs81⟩
     have H := H.growO g81 hp81 hq81 hs81; obtain ⟨av81, cv81, rfl⟩ := H.accShape (k := 0) rfl
     have hr1 := hr1.up g81.le
     have hr1' := hr1'.up g81.le
     have hr1'' := hr1''.up g81.le
     have hchk5 := hchk5.up g81.le
     have hchk69 := hchk69.up g81.le
     have hsr71 := hsr71.up g81.le
     have hsr72 := hsr72.up g81.le
     have hchk76_0 := hchk76_0.up g81.le
     have hr79 := hr79.up g81.le
     have hrow79 := hrow79.up g81.le
     have hr80 := hr80.up g81.le
     have hrow80 := hrow80.up g81.le
     have hle76 := hle76.trans g81.le
     have hd78 := hd78.trans g81.le
     refine ⟨_, rfl, ?_⟩
     refine R_nil ?_
     refine N_DK (Kn.of' H hd78 (SubL.cons 1 rfl (SubL.cons 3 rfl (SubL.cons 4 rfl SubL.nil)))) ?_
     refine RD_t 15 rfl (by kernel_rfl) rfl (fun _ hK => v_build bf102 rfl rfl) ?_
     refine RD_run [16] (by kernel_rfl) rfl (RDs.cons rfl ?_ RDs.nil)
     refine o_buildSlice H Tryz.underlying51 Tryz.sizeOf102 (fun w => ⟨_, Tryz.zeroValue102 w, rfl⟩) rfl rfl rfl rfl rfl rfl rfl ?_; intro b82 w82 hb82 H
     refine R_nil ?_
     refine N_DK (Kn.of' H hd78 (SubL.cons 2 rfl (SubL.cons 4 rfl (SubL.cons 5 rfl SubL.nil)))) ?_
     refine RD_run [17] (by kernel_rfl) rfl (RDs.cons rfl ?_ RDs.nil)
     refine o_append1 2 H (sz := 2) (bytes := 40) Tryz.underlying51 Tryz.typeInfo102 ⟨_, rfl, rfl⟩ rfl rfl rfl rfl rfl rfl rfl rfl rfl rfl (by omega) rfl ?_; intro v83 w83 H
     obtain ⟨G84, H, hsg84, hsr84⟩ := H.shut' (k := 0) rfl hchk81 (by first | assumption | (simp; done) | (simp; omega) | omega) (by first | assumption | (simp; done) | (simp; omega) | omega)
     have hr1 := hr1.up hsg84
     have hr1' := hr1'.up hsg84
     have hr1'' := hr1''.up hsg84
     have hchk5 := hchk5.up hsg84
     have hchk69 := hchk69.up hsg84
     have hsr71 := hsr71.up hsg84
     have hsr72 := hsr72.up hsg84
     have hchk76_0 := hchk76_0.up hsg84
     have hr79 := hr79.up hsg84
     have hrow79 := hrow79.up hsg84
     have hr80 := hr80.up hsg84
     have hrow80 := hrow80.up hsg84
     have hchk81 := hchk81.up hsg84
     have hle76 := hle76.trans hsg84
     have hd78 := hd78.trans hsg84
     have hchk83 := hchk76_0.snoc (show snapE _ ⟨z79.name, z79.tree⟩ _ from ⟨_, _, _, rfl, hi79, hsr84⟩) rfl
     obtain ⟨av83, cv83, rfl⟩ := H.accShape (k := 1) rfl
     refine R_nil ?_
     refine N_DK (Kn.of' H hd78 (SubL.cons 0 rfl (SubL.cons 2 rfl (SubL.cons 3 rfl SubL.nil)))) ?_
     refine RD_t 18 rfl (by kernel_rfl) rfl (fun _ hK => v_fieldAddr 2 Tryz.runUnderlying53 rfl Tryz.sizeOf51 rfl rfl) ?_
     refine RD_run [19] (by kernel_rfl) rfl (RDs.cons rfl ?_ RDs.nil)
     refine o_store_B 0 H Tryz.sizeOf51 rfl rfl rfl rfl rfl rfl rfl rfl ?_; intro w85 H
     refine R_nil ?_
     refine N_DKlast (by kernel_rfl) (by kernel_rfl) ?_
     refine N_B ?_
     refine N_K ?_
     refine W_region ?_
     refine o_move rfl rfl ?_
     refine o_add rfl rfl rfl ⟨by omega, by omega⟩ ?_
     refine o_assign rfl rfl ?_
     refine R_nil ?_
     refine N_LP (hJ := ⟨_, _, _, (xs ++ [⟨z79.name, z79.tree⟩]), k + 1, _, rfl, hle76, H, ?inv, rfl⟩) (hM := ?hM) (hf := ?hf) (hm := ?hm)
     case hM => (repeat (first | exact Sub.nil | refine Sub.cons rfl ?_))
     case hf => (repeat (first | exact Sub.nil | refine Sub.cons rfl ?_))
     case hm => omega
     case inv => exact ⟨hchk83, (by first | assumption | (simp; omega) | omega), (by exact ⟨by omega, by simp [hxl], by rw [Sp.take_succ' hz79, hxs]⟩)⟩
    intro hc77'
    try simp only [nrm] at hc77'
    refine W_exit ?_
    refine N_K_exit ?_
    refine N_LP_exit ?_
    refine N_B_same ?_
    refine N_K ?_
    refine q2 ?_
    refine o_loadagg_B 0 H Tryz.isAgg53 Tryz.sizeOf53 rfl rfl rfl rfl rfl ?_
    refine o_store_B 2 H Tryz.sizeOf53 rfl rfl rfl rfl rfl rfl rfl rfl ?_; intro w87 H
    refine q3 ?_
    refine W_ret ?_
    refine ret_gen (rs := [.cell 2 53]) (vs := [_]) Tryz.results56 ⟨⟨_, rfl, load_blk 2 H Tryz.isAgg53 Tryz.sizeOf53 rfl rfl rfl⟩, trivial⟩ ?_
    obtain rfl : k = d.snaps.length := by omega
    rw [List.take_length] at hxs
    subst hxs
    exact H.retO (k := 1) rfl ⟨_, _, _, rfl, AccOf.mk (by first | rfl | assumption | (simp; done) | (simp; omega) | omega) hchk76_0, hsr71, hsr72⟩ (acc_nd _ _ _ _ _)
  skip
  refine o_alloc H Tryz.zeroValue53 rfl rfl ?_; intro b88 w88 hb88 H
  refine R_nil ?_
  refine N_DK (Kn.of' H hd4 (SubL.cons 2 rfl (SubL.cons 3 rfl SubL.nil))) ?_
  refine RD_run [5, 6] (by kernel_rfl) rfl (RDs.cons rfl ?_ (RDs.cons rfl ?_ RDs.nil))
  ·skip
   refine o_call Tryz.call57 rfl rfl (l5All_c _ _ H.sub _ _ hr1' ) ?_
   rintro _ w89 ⟨G89, v89, _, g89, rfl, ⟨cs89, rfl, hchk89⟩, hp89, hq89, hs89⟩
   have H := H.growO g89 hp89 hq89 hs89; obtain ⟨av89, cv89, rfl⟩ := H.accShape (k := 0) rfl
   have hr1 := hr1.up g89.le
   have hr1' := hr1'.up g89.le
   have hr1'' := hr1''.up g89.le
   have hchk5 := hchk5.up g89.le
   have hd4 := hd4.trans g89.le
   refine ⟨_, rfl, ?_⟩
   refine R_nil ?_
   refine N_DK (Kn.of' H hd4 (SubL.cons 3 rfl (SubL.cons 4 rfl SubL.nil))) ?_
   refine RD_run [6] (by kernel_rfl) rfl (RDs.cons rfl ?_ RDs.nil)
   refine o_buildSlice H Tryz.underlying51 Tryz.sizeOf102 (fun w => ⟨_, Tryz.zeroValue102 w, rfl⟩) rfl rfl rfl rfl rfl rfl rfl ?_; intro b90 w90 hb90 H
   have H := H.blkAcc 2 (k := 0) (n := 0) rfl rfl (by decide)
   refine R_nil ?_
   refine N_DK (Kn.of' H hd4 (SubL.cons 4 rfl (SubL.cons 5 rfl SubL.nil))) ?_
   refine RD_t 7 rfl (by kernel_rfl) rfl (fun _ hK => v_build bf53 rfl rfl) ?_
   refine RD_run [9] (by kernel_rfl) rfl (RDs.cons rfl ?_ RDs.nil)
   refine o_store_B 2 H Tryz.sizeOf53 rfl rfl rfl rfl rfl rfl rfl rfl ?_; intro w91 H
   refine R_nil ?_
   refine N_DKlast (by kernel_rfl) (by kernel_rfl) ?_
   refine N_K ?_
   refine W_seq ?_
   refine q2 ?_
   refine o_assign rfl rfl ?_
   refine q3 ?_
   refine W_block ?_
   obtain ⟨G92, H, hsg92, hsr92⟩ := H.shut' (k := 3) rfl hchk5 (by first | assumption | (simp; done) | (simp; omega) | omega) (by first | assumption | (simp; done) | (simp; omega) | omega)
   have hr1 := hr1.up hsg92
   have hr1' := hr1'.up hsg92
   have hr1'' := hr1''.up hsg92
   have hchk5 := hchk5.up hsg92
   have hchk89 := hchk89.up hsg92
   obtain ⟨G93, H, hsg93, hsr93⟩ := H.shut' (k := 1) rfl hchk89 (by first | assumption | (simp; done) | (simp; omega) | omega) (by first | assumption | (simp; done) | (simp; omega) | omega)
   have hr1 := hr1.up hsg93
   have hr1' := hr1'.up hsg93
   have hr1'' := hr1''.up hsg93
   have hchk5 := hchk5.up hsg93
   have hchk89 := hchk89.up hsg93
   have hsr92 := hsr92.up hsg93
   obtain ⟨ln94, hln94, H⟩ := H.nameAt (k := 1) (off := 2) rfl rfl
   obtain ⟨ln95, hln95, H⟩ := H.name (k := 2) rfl
   obtain ⟨ln96, hln96, H⟩ := H.name (k := 3) rfl
   refine W_loop (hf := (Sub.cons (t := 1) rfl (Sub.cons (t := 2) rfl (Sub.cons (t := 3) rfl Sub.nil)))) (J := fun M w m => ∃ (v : Value) (n : Nat) (cs : List Value) (xs : List (BSnap)) (k : Nat) (G : PH), M = [(4, .int .i64 (k : Int))] ∧ PLe G93 G ∧ Hp w0 G0 [] w G [acc 102 2 v n cs, blk b88 (cl (setN ln94 2 v) 53), blk b3 (cl ln95 53), blk b2 (cl ln96 53)] ∧ (Chk snapE 2 G cs xs ∧ n = xs.length ∧ k ≤ d.snaps.length ∧ xs.length = k ∧ xs = d.snaps.take k) ∧ m = (d.snaps.length - k)) (h0 := ⟨_, _, _, [], 0, _, rfl, PLe.refl _, H, ?inv, rfl⟩) (hM := ?hM) (round := ?round)
   case hM => (repeat (first | exact Sub.nil | refine Sub.cons rfl ?_))
   case inv => exact ⟨(Chk.nil (E := snapE) (sz := 2) (G := G93)),  by first | rfl | simp | (simp; omega) | omega, (by simp)⟩
   case round =>
    rintro _ w97 _ ⟨v, n, cs, xs, k, G97, rfl, hle97, H, hinv97, rfl⟩
    subst hln94
    subst hln95
    subst hln96
    have hr1 := hr1.up hle97
    have hr1' := hr1'.up hle97
    have hr1'' := hr1''.up hle97
    have hchk5 := hchk5.up hle97
    have hchk89 := hchk89.up hle97
    have hsr92 := hsr92.up hle97
    have hsr93 := hsr93.up hle97
    obtain ⟨hchk97_0, hn97_0, hinv97⟩ := hinv97
    obtain ⟨av97_0, cv97_0, rfl⟩ := H.accShape (k := 0) rfl
    obtain ⟨hk, hxl, hxs⟩ := hinv97
    refine W_seq ?_
    refine q2 ?_
    refine o_move rfl rfl ?_
    refine o_fieldAddr 2 Tryz.runUnderlying53 rfl Tryz.sizeOf51 rfl rfl rfl ?_
    refine o_load_B 3 H Tryz.isAgg51 rfl rfl rfl rfl ?_
    refine o_len_slice Tryz.underlying51 rfl rfl ?_
    refine o_lss rfl rfl rfl ?_
    refine q3 ?_
    refine W_cond rfl ?_ ?_
    ·intro hc98
     try simp only [nrm] at hc98
     refine W_skip ?_
     refine N_K ?_
     refine W_seq ?_
     refine W_block ?_
     refine W_drawK [1, 2, 3] 20 H (by kernel_rfl) rfl ?_; intro w99 H; have hd99 := PLe.refl G97
     refine RD_t 0 rfl (by kernel_rfl) rfl (fun _ hK => v_fieldAddr 2 Tryz.runUnderlying53 rfl Tryz.sizeOf51 rfl rfl) ?_
     refine RD_t 1 rfl (by kernel_rfl) rfl (fun _ hK => v_load_B 0 hK Tryz.isAgg51 rfl rfl rfl) ?_
     refine RD_t 2 rfl (by kernel_rfl) rfl (fun _ hK => v_fieldAddr 2 Tryz.runUnderlying53 rfl Tryz.sizeOf51 rfl rfl) ?_
     refine RD_t 3 rfl (by kernel_rfl) rfl (fun _ hK => v_load_B 2 hK Tryz.isAgg51 rfl rfl rfl) ?_
     refine RD_t 4 rfl (by kernel_rfl) rfl (fun _ hK => v_move rfl) ?_
     have hl100 := hr1''.len
     obtain ⟨b100, o100, z100, q100, ha100, hz100, hq100, hE100, hrow100, _⟩ := hr1''.at (i := k) (by omega)
     clear hq100
     obtain ⟨a100, m100, c100, rfl, hi100, hr100⟩ := hE100; have hy_hi100 : _ ≤ 16777216 := hi100; have hn_hr100 := hr100.len; have hx_hr100 : _ ≤ 1099511627776 := hr100.lim
     refine RD_t 5 rfl (by kernel_rfl) rfl (fun _ hK => v_index_P (i := k) ha100 Tryz.underlying51 Tryz.sizeOf102 rfl rfl rfl (by omega)) ?_
     refine RD_t 6 rfl (by kernel_rfl) rfl (fun _ hK => v_fieldAddr 0 Tryz.runUnderlying102 rfl Tryz.sizeOf9 rfl rfl) ?_
     refine RD_t 7 rfl (by kernel_rfl) rfl (fun _ hK => v_load_P hK Tryz.isAgg9 rfl (hrow100 0 _ rfl)) ?_
     refine RD_t 8 rfl (by kernel_rfl) rfl (fun _ hK => v_fieldAddr 2 Tryz.runUnderlying53 rfl Tryz.sizeOf51 rfl rfl) ?_
     refine RD_t 9 rfl (by kernel_rfl) rfl (fun _ hK => v_load_B 2 hK Tryz.isAgg51 rfl rfl rfl) ?_
     refine RD_t 10 rfl (by kernel_rfl) rfl (fun _ hK => v_move rfl) ?_
     have hl101 := hr1''.len
     obtain ⟨b101, o101, z101, q101, ha101, hz101, hq101, hE101, hrow101, _⟩ := hr1''.at (i := k) (by omega)
     clear hq101
     obtain ⟨a101, m101, c101, rfl, hi101, hr101⟩ := hE101; have hy_hi101 : _ ≤ 16777216 := hi101; have hn_hr101 := hr101.len; have hx_hr101 : _ ≤ 1099511627776 := hr101.lim
     have hzz101 : z100 = z101 := Option.some.inj (hz100.symm.trans hz101)
     subst hzz101
     refine RD_t 11 rfl (by kernel_rfl) rfl (fun _ hK => v_index_P (i := k) ha101 Tryz.underlying51 Tryz.sizeOf102 rfl rfl rfl (by omega)) ?_
     refine RD_t 12 rfl (by kernel_rfl) rfl (fun _ hK => v_fieldAddr 1 Tryz.runUnderlying102 rfl Tryz.sizeOf24 rfl rfl) ?_
     refine RD_t 13 rfl (by kernel_rfl) rfl (fun _ hK => v_load_P hK Tryz.isAgg24 rfl (hrow101 1 _ rfl)) ?_
     refine RD_run [14] (by kernel_rfl) rfl (RDs.cons rfl ?_ RDs.nil)
     refine o_call Tryz.call57 rfl rfl (l5All_c _ _ H.sub _ _ hr101 ) ?_
     rintro _ w102 ⟨G102, v102, _, g102, rfl, ⟨cs102, rfl, hchk102⟩, hp102, hq102, hs102⟩
     have H := H.growO g102 hp102 hq102 hs102; obtain ⟨av102, cv102, rfl⟩ := H.accShape (k := 0) rfl
     have hr1 := hr1.up g102.le
     have hr1' := hr1'.up g102.le
     have hr1'' := hr1''.up g102.le
     have hchk5 := hchk5.up g102.le
     have hchk89 := hchk89.up g102.le
     have hsr92 := hsr92.up g102.le
     have hsr93 := hsr93.up g102.le
     have hchk97_0 := hchk97_0.up g102.le
     have hr100 := hr100.up g102.le
     have hrow100 := hrow100.up g102.le
     have hr101 := hr101.up g102.le
     have hrow101 := hrow101.up g102.le
     have hle97 := hle97.trans g102.le
     have hd99 := hd99.trans g102.le
     refine ⟨_, rfl, ?_⟩
     refine R_nil ?_
     refine N_DK (Kn.of' H hd99 (SubL.cons 2 rfl (SubL.cons 3 rfl (SubL.cons 4 rfl SubL.nil)))) ?_
     refine RD_t 15 rfl (by kernel_rfl) rfl (fun _ hK => v_build bf102 rfl rfl) ?_
     refine RD_run [16] (by kernel_rfl) rfl (RDs.cons rfl ?_ RDs.nil)
     refine o_buildSlice H Tryz.underlying51 Tryz.sizeOf102 (fun w => ⟨_, Tryz.zeroValue102 w, rfl⟩) rfl rfl rfl rfl rfl rfl rfl ?_; intro b103 w103 hb103 H
     refine R_nil ?_
     refine N_DK (Kn.of' H hd99 (SubL.cons 3 rfl (SubL.cons 4 rfl (SubL.cons 5 rfl SubL.nil)))) ?_
     refine RD_run [17] (by kernel_rfl) rfl (RDs.cons rfl ?_ RDs.nil)
     refine o_append1 1 H (sz := 2) (bytes := 40) Tryz.underlying51 Tryz.typeInfo102 ⟨_, rfl, rfl⟩ rfl rfl rfl rfl rfl rfl rfl rfl rfl rfl (by omega) rfl ?_; intro v104 w104 H
     obtain ⟨G105, H, hsg105, hsr105⟩ := H.shut' (k := 0) rfl hchk102 (by first | assumption | (simp; done) | (simp; omega) | omega) (by first | assumption | (simp; done) | (simp; omega) | omega)
     have hr1 := hr1.up hsg105
     have hr1' := hr1'.up hsg105
     have hr1'' := hr1''.up hsg105
     have hchk5 := hchk5.up hsg105
     have hchk89 := hchk89.up hsg105
     have hsr92 := hsr92.up hsg105
     have hsr93 := hsr93.up hsg105
     have hchk97_0 := hchk97_0.up hsg105
     have hr100 := hr100.up hsg105
     have hrow100 := hrow100.up hsg105
     have hr101 := hr101.up hsg105
     have hrow101 := hrow101.up hsg105
     have hchk102 := hchk102.up hsg105
     have hle97 := hle97.trans hsg105
     have hd99 := hd99.trans hsg105
     have hchk104 := hchk97_0.snoc (show snapE _ ⟨z100.name, z100.tree⟩ _ from ⟨_, _, _, rfl, hi100, hsr105⟩) rfl
     obtain ⟨av104, cv104, rfl⟩ := H.accShape (k := 0) rfl
     refine R_nil ?_
     refine N_DK (Kn.of' H hd99 (SubL.cons 1 rfl (SubL.cons 2 rfl (SubL.cons 3 rfl SubL.nil)))) ?_
     refine RD_t 18 rfl (by kernel_rfl) rfl (fun _ hK => v_fieldAddr 2 Tryz.runUnderlying53 rfl Tryz.sizeOf51 rfl rfl) ?_
     refine RD_run [19] (by kernel_rfl) rfl (RDs.cons rfl ?_ RDs.nil)
     refine o_store_B 1 H Tryz.sizeOf51 rfl rfl rfl rfl rfl rfl rfl rfl ?_; intro w106 H
     refine R_nil ?_
     refine N_DKlast (by kernel_rfl) (by kernel_rfl) ?_
     refine N_B ?_
     refine N_K ?_
     refine W_region ?_
     refine o_move rfl rfl ?_
     refine o_add rfl rfl rfl ⟨by omega, by omega⟩ ?_
     refine o_assign rfl rfl ?_
     refine R_nil ?_
     refine N_LP (hJ := ⟨_, _, _, (xs ++ [⟨z100.name, z100.tree⟩]), k + 1, _, rfl, hle97, H, ?inv, rfl⟩) (hM := ?hM) (hf := ?hf) (hm := ?hm)
     case hM => (repeat (first | exact Sub.nil | refine Sub.cons rfl ?_))
     case hf => (repeat (first | exact Sub.nil | refine Sub.cons rfl ?_))
     case hm => omega
     case inv => exact ⟨hchk104, (by first | assumption | (simp; omega) | omega), (by exact ⟨by omega, by simp [hxl], by rw [Sp.take_succ' hz100, hxs]⟩)⟩
    intro hc98'
    try simp only [nrm] at hc98'
    refine W_exit ?_
    refine N_K_exit ?_
    refine N_LP_exit ?_
    refine N_B_same ?_
    refine N_K ?_
    refine q2 ?_
    refine o_loadagg_B 1 H Tryz.isAgg53 Tryz.sizeOf53 rfl rfl rfl rfl rfl ?_
    refine o_store_B 2 H Tryz.sizeOf53 rfl rfl rfl rfl rfl rfl rfl rfl ?_; intro w108 H
    refine q3 ?_
    refine W_ret ?_
    refine ret_gen (rs := [.cell 2 53]) (vs := [_]) Tryz.results56 ⟨⟨_, rfl, load_blk 2 H Tryz.isAgg53 Tryz.sizeOf53 rfl rfl rfl⟩, trivial⟩ ?_
    obtain rfl : k = d.snaps.length := by omega
    rw [List.take_length] at hxs
    subst hxs
    exact H.retO (k := 0) rfl ⟨_, _, _, rfl, AccOf.mk (by first | rfl | assumption | (simp; done) | (simp; omega) | omega) hchk97_0, hsr92, hsr93⟩ (acc_nd _ _ _ _ _)
  skip
  refine o_buildSlice H Tryz.underlying51 Tryz.sizeOf102 (fun w => ⟨_, Tryz.zeroValue102 w, rfl⟩) rfl rfl rfl rfl rfl rfl rfl ?_; intro b109 w109 hb109 H
  have H := H.blkAcc 2 (k := 0) (n := 0) rfl rfl (by decide)
  refine R_nil ?_
  refine N_DK (Kn.of' H hd4 (SubL.cons 3 rfl (SubL.cons 4 rfl SubL.nil))) ?_
  refine RD_run [5] (by kernel_rfl) rfl (RDs.cons rfl ?_ RDs.nil)
  refine o_call Tryz.call57 rfl rfl (l5All_c _ _ H.sub _ _ hr1' ) ?_
  rintro _ w110 ⟨G110, v110, _, g110, rfl, ⟨cs110, rfl, hchk110⟩, hp110, hq110, hs110⟩
  have H := H.growO g110 hp110 hq110 hs110; obtain ⟨av110, cv110, rfl⟩ := H.accShape (k := 0) rfl
  have hr1 := hr1.up g110.le
  have hr1' := hr1'.up g110.le
  have hr1'' := hr1''.up g110.le
  have hchk5 := hchk5.up g110.le
  have hd4 := hd4.trans g110.le
  refine ⟨_, rfl, ?_⟩
  refine R_nil ?_
  refine N_DK (Kn.of' H hd4 (SubL.cons 4 rfl (SubL.cons 5 rfl SubL.nil))) ?_
  refine RD_t 7 rfl (by kernel_rfl) rfl (fun _ hK => v_build bf53 rfl rfl) ?_
  refine RD_run [9] (by kernel_rfl) rfl (RDs.cons rfl ?_ RDs.nil)
  refine o_store_B 2 H Tryz.sizeOf53 rfl rfl rfl rfl rfl rfl rfl rfl ?_; intro w111 H
  refine R_nil ?_
  refine N_DKlast (by kernel_rfl) (by kernel_rfl) ?_
  refine N_K ?_
  refine W_seq ?_
  refine q2 ?_
  refine o_assign rfl rfl ?_
  refine q3 ?_
  refine W_block ?_
  obtain ⟨G112, H, hsg112, hsr112⟩ := H.shut' (k := 3) rfl hchk5 (by first | assumption | (simp; done) | (simp; omega) | omega) (by first | assumption | (simp; done) | (simp; omega) | omega)
  have hr1 := hr1.up hsg112
  have hr1' := hr1'.up hsg112
  have hr1'' := hr1''.up hsg112
  have hchk5 := hchk5.up hsg112
  have hchk110 := hchk110.up hsg112
  obtain ⟨G113, H, hsg113, hsr113⟩ := H.shut' (k := 0) rfl hchk110 (by first | assumption | (simp; done) | (simp; omega) | omega) (by first | assumption | (simp; done) | (simp; omega) | omega)
  have hr1 := hr1.up hsg113
  have hr1' := hr1'.up hsg113
  have hr1'' := hr1''.up hsg113
  have hchk5 := hchk5.up hsg113
  have hchk110 := hchk110.up hsg113
  have hsr112 := hsr112.up hsg113
  obtain ⟨ln114, hln114, H⟩ := H.nameAt (k := 1) (off := 2) rfl rfl
  obtain ⟨ln115, hln115, H⟩ := H.name (k := 2) rfl
  obtain ⟨ln116, hln116, H⟩ := H.name (k := 3) rfl
  refine W_loop (hf := (Sub.cons (t := 1) rfl (Sub.cons (t := 2) rfl (Sub.cons (t := 3) rfl Sub.nil)))) (J := fun M w m => ∃ (v : Value) (n : Nat) (cs : List Value) (xs : List (BSnap)) (k : Nat) (G : PH), M = [(4, .int .i64 (k : Int))] ∧ PLe G113 G ∧ Hp w0 G0 [] w G [acc 102 2 v n cs, blk b88 (cl (setN ln114 2 v) 53), blk b3 (cl ln115 53), blk b2 (cl ln116 53)] ∧ (Chk snapE 2 G cs xs ∧ n = xs.length ∧ k ≤ d.snaps.length ∧ xs.length = k ∧ xs = d.snaps.take k) ∧ m = (d.snaps.length - k)) (h0 := ⟨_, _, _, [], 0, _, rfl, PLe.refl _, H, ?inv, rfl⟩) (hM := ?hM) (round := ?round)
  case hM => (repeat (first | exact Sub.nil | refine Sub.cons rfl ?_))
  case inv => exact ⟨(Chk.nil (E := snapE) (sz := 2) (G := G113)),  by first | rfl | simp | (simp; omega) | omega, (by simp)⟩
  case round =>
   rintro _ w117 _ ⟨v, n, cs, xs, k, G117, rfl, hle117, H, hinv117, rfl⟩
   subst hln114
   subst hln115
   subst hln116
   have hr1 := hr1.up hle117
   have hr1' := hr1'.up hle117
   have hr1'' := hr1''.up hle117
   have hchk5 := hchk5.up hle117
   have hchk110 := hchk110.up hle117
   have hsr112 := hsr112.up hle117
   have hsr113 := hsr113.up hle117
   obtain ⟨hchk117_0, hn117_0, hinv117⟩ := hinv117
   obtain ⟨av117_0, cv117_0, rfl⟩ := H.accShape (k := 0) rfl
   obtain ⟨hk, hxl, hxs⟩ := hinv117
   refine W_seq ?_
   refine q2 ?_
   refine o_move rfl rfl ?_
   refine o_fieldAddr 2 Tryz.runUnderlying53 rfl Tryz.sizeOf51 rfl rfl rfl ?_
   refine o_load_B 3 H Tryz.isAgg51 rfl rfl rfl rfl ?_
   refine o_len_slice Tryz.underlying51 rfl rfl ?_
   refine o_lss rfl rfl rfl ?_
   refine q3 ?_
   refine W_cond rfl ?_ ?_
   ·intro hc118
    try simp only [nrm] at hc118
    refine W_skip ?_
    refine N_K ?_
    refine W_seq ?_
    refine W_block ?_
    refine W_drawK [1, 2, 3] 20 H (by kernel_rfl) rfl ?_; intro w119 H; have hd119 := PLe.refl G117
    refine RD_t 0 rfl (by kernel_rfl) rfl (fun _ hK => v_fieldAddr 2 Tryz.runUnderlying53 rfl Tryz.sizeOf51 rfl rfl) ?_
    refine RD_t 1 rfl (by kernel_rfl) rfl (fun _ hK => v_load_B 0 hK Tryz.isAgg51 rfl rfl rfl) ?_
    refine RD_t 2 rfl (by kernel_rfl) rfl (fun _ hK => v_fieldAddr 2 Tryz.runUnderlying53 rfl Tryz.sizeOf51 rfl rfl) ?_
    refine RD_t 3 rfl (by kernel_rfl) rfl (fun _ hK => v_load_B 2 hK Tryz.isAgg51 rfl rfl rfl) ?_
    refine RD_t 4 rfl (by kernel_rfl) rfl (fun _ hK => v_move rfl) ?_
    have hl120 := hr1''.len
    obtain ⟨b120, o120, z120, q120, ha120, hz120, hq120, hE120, hrow120, _⟩ := hr1''.at (i := k) (by omega)
    clear hq120
    obtain ⟨a120, m120, c120, rfl, hi120, hr120⟩ := hE120; have hy_hi120 : _ ≤ 16777216 := hi120; have hn_hr120 := hr120.len; have hx_hr120 : _ ≤ 1099511627776 := hr120.lim
    refine RD_t 5 rfl (by kernel_rfl) rfl (fun _ hK => v_index_P (i := k) ha120 Tryz.underlying51 Tryz.sizeOf102 rfl rfl rfl (by omega)) ?_
    refine RD_t 6 rfl (by kernel_rfl) rfl (fun _ hK => v_fieldAddr 0 Tryz.runUnderlying102 rfl Tryz.sizeOf9 rfl rfl) ?_
    refine RD_t 7 rfl (by kernel_rfl) rfl (fun _ hK => v_load_P hK Tryz.isAgg9 rfl (hrow120 0 _ rfl)) ?_
    refine RD_t 8 rfl (by kernel_rfl) rfl (fun _ hK => v_fieldAddr 2 Tryz.runUnderlying53 rfl Tryz.sizeOf51 rfl rfl) ?_
    refine RD_t 9 rfl (by kernel_rfl) rfl (fun _ hK => v_load_B 2 hK Tryz.isAgg51 rfl rfl rfl) ?_
    refine RD_t 10 rfl (by kernel_rfl) rfl (fun _ hK => v_move rfl) ?_
    have hl121 := hr1''.len
    obtain ⟨b121, o121, z121, q121, ha121, hz121, hq121, hE121, hrow121, _⟩ := hr1''.at (i := k) (by omega)
    clear hq121
    obtain ⟨a121, m121, c121, rfl, hi121, hr121⟩ := hE121; have hy_hi121 : _ ≤ 16777216 := hi121; have hn_hr121 := hr121.len; have hx_hr121 : _ ≤ 1099511627776 := hr121.lim
    have hzz121 : z120 = z121 := Option.some.inj (hz120.symm.trans hz121)
    subst hzz121
    refine RD_t 11 rfl (by kernel_rfl) rfl (fun _ hK => v_index_P (i := k) ha121 Tryz.underlying51 Tryz.sizeOf102 rfl rfl rfl (by omega)) ?_
    refine RD_t 12 rfl (by kernel_rfl) rfl (fun _ hK => v_fieldAddr 1 Tryz.runUnderlying102 rfl Tryz.sizeOf24 rfl rfl) ?_
    refine RD_t 13 rfl (by kernel_rfl) rfl (fun _ hK => v_load_P hK Tryz.isAgg24 rfl (hrow121 1 _ rfl)) ?_
    refine RD_run [14] (by kernel_rfl) rfl (RDs.cons rfl ?_ RDs.nil)
    refine o_call Tryz.call57 rfl rfl (l5All_c _ _ H.sub _ _ hr121 ) ?_
    rintro _ w122 ⟨G122, v122, _, g122, rfl, ⟨cs122, rfl, hchk122⟩, hp122, hq122, hs122⟩
    have H := H.growO g122 hp122 hq122 hs122; obtain ⟨av122, cv122, rfl⟩ := H.accShape (k := 0) rfl
    have hr1 := hr1.up g122.le
    have hr1' := hr1'.up g122.le
    have hr1'' := hr1''.up g122.le
    have hchk5 := hchk5.up g122.le
    have hchk110 := hchk110.up g122.le
    have hsr112 := hsr112.up g122.le
    have hsr113 := hsr113.up g122.le
    have hchk117_0 := hchk117_0.up g122.le
    have hr120 := hr120.up g122.le
    have hrow120 := hrow120.up g122.le
    have hr121 := hr121.up g122.le
    have hrow121 := hrow121.up g122.le
    have hle117 := hle117.trans g122.le
    have hd119 := hd119.trans g122.le
    refine ⟨_, rfl, ?_⟩
    refine R_nil ?_
    refine N_DK (Kn.of' H hd119 (SubL.cons 2 rfl (SubL.cons 3 rfl (SubL.cons 4 rfl SubL.nil)))) ?_
    refine RD_t 15 rfl (by kernel_rfl) rfl (fun _ hK => v_build bf102 rfl rfl) ?_
    refine RD_run [16] (by kernel_rfl) rfl (RDs.cons rfl ?_ RDs.nil)
    refine o_buildSlice H Tryz.underlying51 Tryz.sizeOf102 (fun w => ⟨_, Tryz.zeroValue102 w, rfl⟩) rfl rfl rfl rfl rfl rfl rfl ?_; intro b123 w123 hb123 H
    refine R_nil ?_
    refine N_DK (Kn.of' H hd119 (SubL.cons 3 rfl (SubL.cons 4 rfl (SubL.cons 5 rfl SubL.nil)))) ?_
    refine RD_run [17] (by kernel_rfl) rfl (RDs.cons rfl ?_ RDs.nil)
    refine o_append1 1 H (sz := 2) (bytes := 40) Tryz.underlying51 Tryz.typeInfo102 ⟨_, rfl, rfl⟩ rfl rfl rfl rfl rfl rfl rfl rfl rfl rfl (by omega) rfl ?_; intro v124 w124 H
    obtain ⟨G125, H, hsg125, hsr125⟩ := H.shut' (k := 0) rfl hchk122 (by first | assumption | (simp; done) | (simp; omega) | omega) (by first | assumption | (simp; done) | (simp; omega) | omega)
    have hr1 := hr1.up hsg125
    have hr1' := hr1'.up hsg125
    have hr1'' := hr1''.up hsg125
    have hchk5 := hchk5.up hsg125
    have hchk110 := hchk110.up hsg125
    have hsr112 := hsr112.up hsg125
    have hsr113 := hsr113.up hsg125
    have hchk117_0 := hchk117_0.up hsg125
    have hr120 := hr120.up hsg125
    have hrow120 := hrow120.up hsg125
    have hr121 := hr121.up hsg125
    have hrow121 := hrow121.up hsg125
    have hchk122 := hchk122.up hsg125
    have hle117 := hle117.trans hsg125
    have hd119 := hd119.trans hsg125
    have hchk124 := hchk117_0.snoc (show snapE _ ⟨z120.name, z120.tree⟩ _ from ⟨_, _, _, rfl, hi120, hsr125⟩) rfl
    obtain ⟨av124, cv124, rfl⟩ := H.accShape (k := 0) rfl
    refine R_nil ?_
    refine N_DK (Kn.of' H hd119 (SubL.cons 1 rfl (SubL.cons 2 rfl (SubL.cons 3 rfl SubL.nil)))) ?_
    refine RD_t 18 rfl (by kernel_rfl) rfl (fun _ hK => v_fieldAddr 2 Tryz.runUnderlying53 rfl Tryz.sizeOf51 rfl rfl) ?_
    refine RD_run [19] (by kernel_rfl) rfl (RDs.cons rfl ?_ RDs.nil)
    refine o_store_B 1 H Tryz.sizeOf51 rfl rfl rfl rfl rfl rfl rfl rfl ?_; intro w126 H
    refine R_nil ?_
    refine N_DKlast (by kernel_rfl) (by kernel_rfl) ?_
    refine N_B ?_
    refine N_K ?_
    refine W_region ?_
    refine o_move rfl rfl ?_
    refine o_add rfl rfl rfl ⟨by omega, by omega⟩ ?_
    refine o_assign rfl rfl ?_
    refine R_nil ?_
    refine N_LP (hJ := ⟨_, _, _, (xs ++ [⟨z120.name, z120.tree⟩]), k + 1, _, rfl, hle117, H, ?inv, rfl⟩) (hM := ?hM) (hf := ?hf) (hm := ?hm)
    case hM => (repeat (first | exact Sub.nil | refine Sub.cons rfl ?_))
    case hf => (repeat (first | exact Sub.nil | refine Sub.cons rfl ?_))
    case hm => omega
    case inv => exact ⟨hchk124, (by first | assumption | (simp; omega) | omega), (by exact ⟨by omega, by simp [hxl], by rw [Sp.take_succ' hz120, hxs]⟩)⟩
   intro hc118'
   try simp only [nrm] at hc118'
   refine W_exit ?_
   refine N_K_exit ?_
   refine N_LP_exit ?_
   refine N_B_same ?_
   refine N_K ?_
   refine q2 ?_
   refine o_loadagg_B 1 H Tryz.isAgg53 Tryz.sizeOf53 rfl rfl rfl rfl rfl ?_
   refine o_store_B 2 H Tryz.sizeOf53 rfl rfl rfl rfl rfl rfl rfl rfl ?_; intro w128 H
   refine q3 ?_
   refine W_ret ?_
   refine ret_gen (rs := [.cell 2 53]) (vs := [_]) Tryz.results56 ⟨⟨_, rfl, load_blk 2 H Tryz.isAgg53 Tryz.sizeOf53 rfl rfl rfl⟩, trivial⟩ ?_
   obtain rfl : k = d.snaps.length := by omega
   rw [List.take_length] at hxs
   subst hxs
   exact H.retO (k := 0) rfl ⟨_, _, _, rfl, AccOf.mk (by first | rfl | assumption | (simp; done) | (simp; omega) | omega) hchk117_0, hsr112, hsr113⟩ (acc_nd _ _ _ _ _)
 ·skip
  refine o_buildSlice H Tryz.underlying51 Tryz.sizeOf102 (fun w => ⟨_, Tryz.zeroValue102 w, rfl⟩) rfl rfl rfl rfl rfl rfl rfl ?_; intro b129 w129 hb129 H
  have H := H.blkAcc 2 (k := 0) (n := 0) rfl rfl (by decide)
  refine R_nil ?_
  refine N_DK (Kn.of' H hd4 (SubL.cons 1 rfl (SubL.cons 2 rfl SubL.nil))) ?_
  refine RD_run [2, 8] (by kernel_rfl) rfl (RDs.cons rfl ?_ (RDs.cons rfl ?_ RDs.nil))
  ·skip
   refine o_call Tryz.call48 rfl rfl (l3Copy_c _ _ H.sub _ _ hr1 ) ?_
   rintro _ w130 ⟨G130, v130, _, g130, rfl, ⟨cs130, rfl, hchk130⟩, hp130, hq130, hs130⟩
   have H := H.growO g130 hp130 hq130 hs130; obtain ⟨av130, cv130, rfl⟩ := H.accShape (k := 0) rfl
   have hr1 := hr1.up g130.le
   have hr1' := hr1'.up g130.le
   have hr1'' := hr1''.up g130.le
   have hd4 := hd4.trans g130.le
   refine ⟨_, rfl, ?_⟩
   refine R_nil ?_
   refine N_DK (Kn.of' H hd4 (SubL.cons 2 rfl (SubL.cons 3 rfl SubL.nil))) ?_
   refine RD_run [5, 8] (by kernel_rfl) rfl (RDs.cons rfl ?_ (RDs.cons rfl ?_ RDs.nil))
   ·skip
    refine o_call Tryz.call57 rfl rfl (l5All_c _ _ H.sub _ _ hr1' ) ?_
    rintro _ w131 ⟨G131, v131, _, g131, rfl, ⟨cs131, rfl, hchk131⟩, hp131, hq131, hs131⟩
    have H := H.growO g131 hp131 hq131 hs131; obtain ⟨av131, cv131, rfl⟩ := H.accShape (k := 0) rfl
    have hr1 := hr1.up g131.le
    have hr1' := hr1'.up g131.le
    have hr1'' := hr1''.up g131.le
    have hchk130 := hchk130.up g131.le
    have hd4 := hd4.trans g131.le
    refine ⟨_, rfl, ?_⟩
    refine R_nil ?_
    refine N_DK (Kn.of' H hd4 (SubL.cons 3 rfl (SubL.cons 4 rfl SubL.nil))) ?_
    refine RD_t 7 rfl (by kernel_rfl) rfl (fun _ hK => v_build bf53 rfl rfl) ?_
    refine RD_run [8] (by kernel_rfl) rfl (RDs.cons rfl ?_ RDs.nil)
    refine o_alloc H Tryz.zeroValue53 rfl rfl ?_; intro b132 w132 hb132 H
    refine R_nil ?_
    refine N_DK (Kn.of' H hd4 (SubL.cons 4 rfl (SubL.cons 5 rfl SubL.nil))) ?_
    refine RD_run [9] (by kernel_rfl) rfl (RDs.cons rfl ?_ RDs.nil)
    refine o_store_B 0 H Tryz.sizeOf53 rfl rfl rfl rfl rfl rfl rfl rfl ?_; intro w133 H
    refine R_nil ?_
    refine N_DKlast (by kernel_rfl) (by kernel_rfl) ?_
    refine N_K ?_
    refine W_seq ?_
    refine q2 ?_
    refine o_assign rfl rfl ?_
    refine q3 ?_
    refine W_block ?_
    obtain ⟨G134, H, hsg134, hsr134⟩ := H.shut' (k := 2) rfl hchk130 (by first | assumption | (simp; done) | (simp; omega) | omega) (by first | assumption | (simp; done) | (simp; omega) | omega)
    have hr1 := hr1.up hsg134
    have hr1' := hr1'.up hsg134
    have hr1'' := hr1''.up hsg134
    have hchk130 := hchk130.up hsg134
    have hchk131 := hchk131.up hsg134
    obtain ⟨G135, H, hsg135, hsr135⟩ := H.shut' (k := 1) rfl hchk131 (by first | assumption | (simp; done) | (simp; omega) | omega) (by first | assumption | (simp; done) | (simp; omega) | omega)
    have hr1 := hr1.up hsg135
    have hr1' := hr1'.up hsg135
    have hr1'' := hr1''.up hsg135
    have hchk130 := hchk130.up hsg135
    have hchk131 := hchk131.up hsg135
    have hsr134 := hsr134.up hsg135
    obtain ⟨ln136, hln136, H⟩ := H.nameAt (k := 0) (off := 2) rfl rfl
    obtain ⟨ln137, hln137, H⟩ := H.name (k := 2) rfl
    obtain ⟨ln138, hln138, H⟩ := H.name (k := 3) rfl
    refine W_loop (hf := (Sub.cons (t := 1) rfl (Sub.cons (t := 2) rfl (Sub.cons (t := 3) rfl Sub.nil)))) (J := fun M w m => ∃ (v : Value) (n : Nat) (cs : List Value) (xs : List (BSnap)) (k : Nat) (G : PH), M = [(4, .int .i64 (k : Int))] ∧ PLe G135 G ∧ Hp w0 G0 [] w G [blk b132 (cl (setN ln136 2 v) 53), acc 102 2 v n cs, blk b3 (cl ln137 53), blk b2 (cl ln138 53)] ∧ (Chk snapE 2 G cs xs ∧ n = xs.length ∧ k ≤ d.snaps.length ∧ xs.length = k ∧ xs = d.snaps.take k) ∧ m = (d.snaps.length - k)) (h0 := ⟨_, _, _, [], 0, _, rfl, PLe.refl _, H, ?inv, rfl⟩) (hM := ?hM) (round := ?round)
    case hM => (repeat (first | exact Sub.nil | refine Sub.cons rfl ?_))
    case inv => exact ⟨(Chk.nil (E := snapE) (sz := 2) (G := G135)),  by first | rfl | simp | (simp; omega) | omega, (by simp)⟩
    case round =>
     rintro _ w139 _ ⟨v, n, cs, xs, k, G139, rfl, hle139, H, hinv139, rfl⟩
     subst hln136
     subst hln137
     subst hln138
     have hr1 := hr1.up hle139
     have hr1' := hr1'.up hle139
     have hr1'' := hr1''.up hle139
     have hchk130 := hchk130.up hle139
     have hchk131 := hchk131.up hle139
     have hsr134 := hsr134.up hle139
     have hsr135 := hsr135.up hle139
     obtain ⟨hchk139_0, hn139_0, hinv139⟩ := hinv139
     obtain ⟨av139_0, cv139_0, rfl⟩ := H.accShape (k := 1) rfl
     obtain ⟨hk, hxl, hxs⟩ := hinv139
     refine W_seq ?_
     refine q2 ?_
     refine o_move rfl rfl ?_
     refine o_fieldAddr 2 Tryz.runUnderlying53 rfl Tryz.sizeOf51 rfl rfl rfl ?_
     refine o_load_B 3 H Tryz.isAgg51 rfl rfl rfl rfl ?_
     refine o_len_slice Tryz.underlying51 rfl rfl ?_
     refine o_lss rfl rfl rfl ?_
     refine q3 ?_
     refine W_cond rfl ?_ ?_
     ·intro hc140
      try simp only [nrm] at hc140
      refine W_skip ?_
      refine N_K ?_
      refine W_seq ?_
      refine W_block ?_
      refine W_drawK [0, 2, 3] 20 H (by kernel_rfl) rfl ?_; intro w141 H; have hd141 := PLe.refl G139
      refine RD_t 0 rfl (by kernel_rfl) rfl (fun _ hK => v_fieldAddr 2 Tryz.runUnderlying53 rfl Tryz.sizeOf51 rfl rfl) ?_
      refine RD_t 1 rfl (by kernel_rfl) rfl (fun _ hK => v_load_B 0 hK Tryz.isAgg51 rfl rfl rfl) ?_
      refine RD_t 2 rfl (by kernel_rfl) rfl (fun _ hK => v_fieldAddr 2 Tryz.runUnderlying53 rfl Tryz.sizeOf51 rfl rfl) ?_
      refine RD_t 3 rfl (by kernel_rfl) rfl (fun _ hK => v_load_B 2 hK Tryz.isAgg51 rfl rfl rfl) ?_
      refine RD_t 4 rfl (by kernel_rfl) rfl (fun _ hK => v_move rfl) ?_
      have hl142 := hr1''.len
      obtain ⟨b142, o142, z142, q142, ha142, hz142, hq142, hE142, hrow142, _⟩ := hr1''.at (i := k) (by omega)
      clear hq142
      obtain ⟨a142, m142, c142, rfl, hi142, hr142⟩ := hE142; have hy_hi142 : _ ≤ 16777216 := hi142; have hn_hr142 := hr142.len; have hx_hr142 : _ ≤ 1099511627776 := hr142.lim
      refine RD_t 5 rfl (by kernel_rfl) rfl (fun _ hK => v_index_P (i := k) ha142 Tryz.underlying51 Tryz.sizeOf102 rfl rfl rfl (by omega)) ?_
      refine RD_t 6 rfl (by kernel_rfl) rfl (fun _ hK => v_fieldAddr 0 Tryz.runUnderlying102 rfl Tryz.sizeOf9 rfl rfl) ?_
      refine RD_t 7 rfl (by kernel_rfl) rfl (fun _ hK => v_load_P hK Tryz.isAgg9 rfl (hrow142 0 _ rfl)) ?_
      refine RD_t 8 rfl (by kernel_rfl) rfl (fun _ hK => v_fieldAddr 2 Tryz.runUnderlying53 rfl Tryz.sizeOf51 rfl rfl) ?_
      refine RD_t 9 rfl (by kernel_rfl) rfl (fun _ hK => v_load_B 2 hK Tryz.isAgg51 rfl rfl rfl) ?_
      refine RD_t 10 rfl (by kernel_rfl) rfl (fun _ hK => v_move rfl) ?_
      have hl143 := hr1''.len
      obtain ⟨b143, o143, z143, q143, ha143, hz143, hq143, hE143, hrow143, _⟩ := hr1''.at (i := k) (by omega)
      clear hq143
      obtain ⟨a143, m143, c143, rfl, hi143, hr143⟩ := hE143; have hy_hi143 : _ ≤ 16777216 := hi143; have hn_hr143 := hr143.len; have hx_hr143 : _ ≤ 1099511627776 := hr143.lim
      have hzz143 : z142 = z143 := Option.some.inj (hz142.symm.trans hz143)
      subst hzz143
      refine RD_t 11 rfl (by kernel_rfl) rfl (fun _ hK => v_index_P (i := k) ha143 Tryz.underlying51 Tryz.sizeOf102 rfl rfl rfl (by omega)) ?_
      refine RD_t 12 rfl (by kernel_rfl) rfl (fun _ hK => v_fieldAddr 1 Tryz.runUnderlying102 rfl Tryz.sizeOf24 rfl rfl) ?_
      refine RD_t 13 rfl (by kernel_rfl) rfl (fun _ hK => v_load_P hK Tryz.isAgg24 rfl (hrow143 1 _ rfl)) ?_
      refine RD_run [14] (by kernel_rfl) rfl (RDs.cons rfl ?_ RDs.nil)
      refine o_call Tryz.call57 rfl rfl (l5All_c _ _ H.sub _ _ hr143 ) ?_
      rintro _ w144 ⟨G144, v144, _, g144, rfl, ⟨cs144, rfl, hchk144⟩, hp144, hq144, hs144⟩
      have H := H.growO g144 hp144 hq144 hs144; obtain ⟨av144, cv144, rfl⟩ := H.accShape (k := 0) rfl
      have hr1 := hr1.up g144.le
      have hr1' := hr1'.up g144.le
      have hr1'' := hr1''.up g144.le
      have hchk130 := hchk130.up g144.le
      have hchk131 := hchk131.up g144.le
      have hsr134 := hsr134.up g144.le
      have hsr135 := hsr135.up g144.le
      have hchk139_0 := hchk139_0.up g144.le
      have hr142 := hr142.up g144.le
      have hrow142 := hrow142.up g144.le
      have hr143 := hr143.up g144.le
      have hrow143 := hrow143.up g144.le
      have hle139 := hle139.trans g144.le
      have hd141 := hd141.trans g144.le
      refine ⟨_, rfl, ?_⟩
      refine R_nil ?_
      refine N_DK (Kn.of' H hd141 (SubL.cons 1 rfl (SubL.cons 3 rfl (SubL.cons 4 rfl SubL.nil)))) ?_
      refine RD_t 15 rfl (by kernel_rfl) rfl (fun _ hK => v_build bf102 rfl rfl) ?_
      refine RD_run [16] (by kernel_rfl) rfl (RDs.cons rfl ?_ RDs.nil)
      refine o_buildSlice H Tryz.underlying51 Tryz.sizeOf102 (fun w => ⟨_, Tryz.zeroValue102 w, rfl⟩) rfl rfl rfl rfl rfl rfl rfl ?_; intro b145 w145 hb145 H
      refine R_nil ?_
      refine N_DK (Kn.of' H hd141 (SubL.cons 2 rfl (SubL.cons 4 rfl (SubL.cons 5 rfl SubL.nil)))) ?_
      refine RD_run [17] (by kernel_rfl) rfl (RDs.cons rfl ?_ RDs.nil)
      refine o_append1 2 H (sz := 2) (bytes := 40) Tryz.underlying51 Tryz.typeInfo102 ⟨_, rfl, rfl⟩ rfl rfl rfl rfl rfl rfl rfl rfl rfl rfl (by omega) rfl ?_; intro v146 w146 H
      obtain ⟨G147, H, hsg147, hsr147⟩ := H.shut' (k := 0) rfl hchk144 (by first | assumption | (simp; done) | (simp; omega) | omega) (by first | assumption | (simp; done) | (simp; omega) | omega)
      have hr1 := hr1.up hsg147
      have hr1' := hr1'.up hsg147
      have hr1'' := hr1''.up hsg147
      have hchk130 := hchk130.up hsg147
      have hchk131 := hchk131.up hsg147
      have hsr134 := hsr134.up hsg147
      have hsr135 := hsr135.up hsg147
      have hchk139_0 := hchk139_0.up hsg147
      have hr142 := hr142.up hsg147
      have hrow142 := hrow142.up hsg147
      have hr143 := hr143.up hsg147
      have hrow143 := hrow143.up hsg147
      have hchk144 := hchk144.up hsg147
      have hle139 := hle139.trans hsg147
      have hd141 := hd141.trans hsg147
      have hchk146 := hchk139_0.snoc (show snapE _ ⟨z142.name, z142.tree⟩ _ from ⟨_, _, _, rfl, hi142, hsr147⟩) rfl
      obtain ⟨av146, cv146, rfl⟩ := H.accShape (k := 1) rfl
      refine R_nil ?_
      refine N_DK (Kn.of' H hd141 (SubL.cons 0 rfl (SubL.cons 2 rfl (SubL.cons 3 rfl SubL.nil)))) ?_
      refine RD_t 18 rfl (by kernel_rfl) rfl (fun _ hK => v_fieldAddr 2 Tryz.runUnderlying53 rfl Tryz.sizeOf51 rfl rfl) ?_
      refine RD_run [19] (by kernel_rfl) rfl (RDs.cons rfl ?_ RDs.nil)
      refine o_store_B 0 H Tryz.sizeOf51 rfl rfl rfl rfl rfl rfl rfl rfl ?_; intro w148 H
      refine R_nil ?_
      refine N_DKlast (by kernel_rfl) (by kernel_rfl) ?_
      refine N_B ?_
      refine N_K ?_
      refine W_region ?_
      refine o_move rfl rfl ?_
      refine o_add rfl rfl rfl ⟨by omega, by omega⟩ ?_
      refine o_assign rfl rfl ?_
      refine R_nil ?_
      refine N_LP (hJ := ⟨_, _, _, (xs ++ [⟨z142.name, z142.tree⟩]), k + 1, _, rfl, hle139, H, ?inv, rfl⟩) (hM := ?hM) (hf := ?hf) (hm := ?hm)
      case hM => (repeat (first | exact Sub.nil | refine Sub.cons rfl ?_))
      case hf => (repeat (first | exact Sub.nil | refine Sub.cons rfl ?_))
      case hm => omega
      case inv => exact ⟨hchk146, (by first | assumption | (simp; omega) | omega), (by exact ⟨by omega, by simp [hxl], by rw [Sp.take_succ' hz142, hxs]⟩)⟩
     intro hc140'
     try simp only [nrm] at hc140'
     refine W_exit ?_
     refine N_K_exit ?_
     refine N_LP_exit ?_
     refine N_B_same ?_
     refine N_K ?_
     refine q2 ?_
     refine o_loadagg_B 0 H Tryz.isAgg53 Tryz.sizeOf53 rfl rfl rfl rfl rfl ?_
     refine o_store_B 2 H Tryz.sizeOf53 rfl rfl rfl rfl rfl rfl rfl rfl ?_; intro w150 H
     refine q3 ?_
     refine W_ret ?_
     refine ret_gen (rs := [.cell 2 53]) (vs := [_]) Tryz.results56 ⟨⟨_, rfl, load_blk 2 H Tryz.isAgg53 Tryz.sizeOf53 rfl rfl rfl⟩, trivial⟩ ?_
     obtain rfl : k = d.snaps.length := by omega
     rw [List.take_length] at hxs
     subst hxs
     exact H.retO (k := 1) rfl ⟨_, _, _, rfl, AccOf.mk (by first | rfl | assumption | (simp; done) | (simp; omega) | omega) hchk139_0, hsr134, hsr135⟩ (acc_nd _ _ _ _ _)
   skip
   refine o_alloc H Tryz.zeroValue53 rfl rfl ?_; intro b151 w151 hb151 H
   refine R_nil ?_
   refine N_DK (Kn.of' H hd4 (SubL.cons 3 rfl (SubL.cons 4 rfl SubL.nil))) ?_
   refine RD_run [5] (by kernel_rfl) rfl (RDs.cons rfl ?_ RDs.nil)
   refine o_call Tryz.call57 rfl rfl (l5All_c _ _ H.sub _ _ hr1' ) ?_
   rintro _ w152 ⟨G152, v152, _, g152, rfl, ⟨cs152, rfl, hchk152⟩, hp152, hq152, hs152⟩
   have H := H.growO g152 hp152 hq152 hs152; obtain ⟨av152, cv152, rfl⟩ := H.accShape (k := 0) rfl
   have hr1 := hr1.up g152.le
   have hr1' := hr1'.up g152.le
   have hr1'' := hr1''.up g152.le
   have hchk130 := hchk130.up g152.le
   have hd4 := hd4.trans g152.le
   refine ⟨_, rfl, ?_⟩
   refine R_nil ?_
   refine N_DK (Kn.of' H hd4 (SubL.cons 4 rfl (SubL.cons 5 rfl SubL.nil))) ?_
   refine RD_t 7 rfl (by kernel_rfl) rfl (fun _ hK => v_build bf53 rfl rfl) ?_
   refine RD_run [9] (by kernel_rfl) rfl (RDs.cons rfl ?_ RDs.nil)
   refine o_store_B 1 H Tryz.sizeOf53 rfl rfl rfl rfl rfl rfl rfl rfl ?_; intro w153 H
   refine R_nil ?_
   refine N_DKlast (by kernel_rfl) (by kernel_rfl) ?_
   refine N_K ?_
   refine W_seq ?_
   refine q2 ?_
   refine o_assign rfl rfl ?_
   refine q3 ?_
   refine W_block ?_
   obtain ⟨G154, H, hsg154, hsr154⟩ := H.shut' (k := 2) rfl hchk130 (by first | assumption | (simp; done) | (simp; omega) | omega) (by first | assumption | (simp; done) | (simp; omega) | omega)
   have hr1 := hr1.up hsg154
   have hr1' := hr1'.up hsg154
   have hr1'' := hr1''.up hsg154
   have hchk130 := hchk130.up hsg154
   have hchk152 := hchk152.up hsg154
   obtain ⟨G155, H, hsg155, hsr155⟩ := H.shut' (k := 0) rfl hchk152 (by first | assumption | (simp; done) | (simp; omega) | omega) (by first | assumption | (simp; done) | (simp; omega) | omega)
   have hr1 := hr1.up hsg155
   have hr1' := hr1'.up hsg155
   have hr1'' := hr1''.up hsg155
   have hchk130 := hchk130.up hsg155
   have hchk152 := hchk152.up hsg155
   have hsr154 := hsr154.up hsg155
   obtain ⟨ln156, hln156, H⟩ := H.nameAt (k := 0) (off := 2) rfl rfl
   obtain ⟨ln157, hln157, H⟩ := H.name (k := 2) rfl
   obtain ⟨ln158, hln158, H⟩ := H.name (k := 3) rfl
   refine W_loop (hf := (Sub.cons (t := 1) rfl (Sub.cons (t := 2) rfl (Sub.cons (t := 3) rfl Sub.nil)))) (J := fun M w m => ∃ (v : Value) (n : Nat) (cs : List Value) (xs : List (BSnap)) (k : Nat) (G : PH), M = [(4, .int .i64 (k : Int))] ∧ PLe G155 G ∧ Hp w0 G0 [] w G [blk b151 (cl (setN ln156 2 v) 53), acc 102 2 v n cs, blk b3 (cl ln157 53), blk b2 (cl ln158 53)] ∧ (Chk snapE 2 G cs xs ∧ n = xs.length ∧ k ≤ d.snaps.length ∧ xs.length = k ∧ xs = d.snaps.take k) ∧ m = (d.snaps.length - k)) (h0 := ⟨_, _, _, [], 0, _, rfl, PLe.refl _, H, ?inv, rfl⟩) (hM := ?hM) (round := ?round)
   case hM => (repeat (first | exact Sub.nil | refine Sub.cons rfl ?_))
   case inv => exact ⟨(Chk.nil (E := snapE) (sz := 2) (G := G155)),  by first | rfl | simp | (simp; omega) | omega, (by simp)⟩
   case round =>
    rintro _ w159 _ ⟨v, n, cs, xs, k, G159, rfl, hle159, H, hinv159, rfl⟩
    subst hln156
    subst hln157
    subst hln158
    have hr1 := hr1.up hle159
    have hr1' := hr1'.up hle159
    have hr1'' := hr1''.up hle159
    have hchk130 := hchk130.up hle159
    have hchk152 := hchk152.up hle159
    have hsr154 := hsr154.up hle159
    have hsr155 := hsr155.up hle159
    obtain ⟨hchk159_0, hn159_0, hinv159⟩ := hinv159
    obtain ⟨av159_0, cv159_0, rfl⟩ := H.accShape (k := 1) rfl
    obtain ⟨hk, hxl, hxs⟩ := hinv159
    refine W_seq ?_
    refine q2 ?_
    refine o_move rfl rfl ?_
    refine o_fieldAddr 2 Tryz.runUnderlying53 rfl Tryz.sizeOf51 rfl rfl rfl ?_
    refine o_load_B 3 H Tryz.isAgg51 rfl rfl rfl rfl ?_
    refine o_len_slice Tryz.underlying51 rfl rfl ?_
    refine o_lss rfl rfl rfl ?_
    refine q3 ?_
    refine W_cond rfl ?_ ?_
    ·intro hc160
     try simp only [nrm] at hc160
     refine W_skip ?_
     refine N_K ?_
     refine W_seq ?_
     refine W_block ?_
     refine W_drawK [0, 2, 3] 20 H (by kernel_rfl) rfl ?_; intro w161 H; have hd161 := PLe.refl G159
     refine RD_t 0 rfl (by kernel_rfl) rfl (fun _ hK => v_fieldAddr 2 Tryz.runUnderlying53 rfl Tryz.sizeOf51 rfl rfl) ?_
     refine RD_t 1 rfl (by kernel_rfl) rfl (fun _ hK => v_load_B 0 hK Tryz.isAgg51 rfl rfl rfl) ?_
     refine RD_t 2 rfl (by kernel_rfl) rfl (fun _ hK => v_fieldAddr 2 Tryz.runUnderlying53 rfl Tryz.sizeOf51 rfl rfl) ?_
     refine RD_t 3 rfl (by kernel_rfl) rfl (fun _ hK => v_load_B 2 hK Tryz.isAgg51 rfl rfl rfl) ?_
     refine RD_t 4 rfl (by kernel_rfl) rfl (fun _ hK => v_move rfl) ?_
     have hl162 := hr1''.len
     obtain ⟨b162, o162, z162, q162, ha162, hz162, hq162, hE162, hrow162, _⟩ := hr1''.at (i := k) (by omega)
     clear hq162
     obtain ⟨a162, m162, c162, rfl, hi162, hr162⟩ := hE162; have hy_hi162 : _ ≤ 16777216 := hi162; have hn_hr162 := hr162.len; have hx_hr162 : _ ≤ 1099511627776 := hr162.lim
     refine RD_t 5 rfl (by kernel_rfl) rfl (fun _ hK => v_index_P (i := k) ha162 Tryz.underlying51 Tryz.sizeOf102 rfl rfl rfl (by omega)) ?_
     refine RD_t 6 rfl (by kernel_rfl) rfl (fun _ hK => v_fieldAddr 0 Tryz.runUnderlying102 rfl Tryz.sizeOf9 rfl rfl) ?_
     refine RD_t 7 rfl (by kernel_rfl) rfl (fun _ hK => v_load_P hK Tryz.isAgg9 rfl (hrow162 0 _ rfl)) ?_
     refine RD_t 8 rfl (by kernel_rfl) rfl (fun _ hK => v_fieldAddr 2 Tryz.runUnderlying53 rfl Tryz.sizeOf51 rfl rfl) ?_
     refine RD_t 9 rfl (by kernel_rfl) rfl (fun _ hK => v_load_B 2 hK Tryz.isAgg51 rfl rfl rfl) ?_
     refine RD_t 10 rfl (by kernel_rfl) rfl (fun _ hK => v_move rfl) ?_
     have hl163 := hr1''.len
     obtain ⟨b163, o163, z163, q163, ha163, hz163, hq163, hE163, hrow163, _⟩ := hr1''.at (i := k) (by omega)
     clear hq163
     obtain ⟨a163, m163, c163, rfl, hi163, hr163⟩ := hE163; have hy_hi163 : _ ≤ 16777216 := hi163; have hn_hr163 := hr163.len; have hx_hr163 : _ ≤ 1099511627776 := hr163.lim
     have hzz163 : z162 = z163 := Option.some.inj (hz162.symm.trans hz163)
     subst hzz163
     refine RD_t 11 rfl (by kernel_rfl) rfl (fun _ hK => v_index_P (i := k) ha163 Tryz.underlying51 Tryz.sizeOf102 rfl rfl rfl (by omega)) ?_
     refine RD_t 12 rfl (by kernel_rfl) rfl (fun _ hK => v_fieldAddr 1 Tryz.runUnderlying102 rfl Tryz.sizeOf24 rfl rfl) ?_
     refine RD_t 13 rfl (by kernel_rfl) rfl (fun _ hK => v_load_P hK Tryz.isAgg24 rfl (hrow163 1 _ rfl)) ?_
     refine RD_run [14] (by kernel_rfl) rfl (RDs.cons rfl ?_ RDs.nil)
     refine o_call Tryz.call57 rfl rfl (l5All_c _ _ H.sub _ _ hr163 ) ?_
     rintro _ w164 ⟨G164, v164, _, g164, rfl, ⟨cs164, rfl, hchk164⟩, hp164, hq164, hs164⟩
     have H := H.growO g164 hp164 hq164 hs164; obtain ⟨av164, cv164, rfl⟩ := H.accShape (k := 0) rfl
     have hr1 := hr1.up g164.le
     have hr1' := hr1'.up g164.le
     have hr1'' := hr1''.up g164.le
     have hchk130 := hchk130.up g164.le
     have hchk152 := hchk152.up g164.le
     have hsr154 := hsr154.up g164.le
     have hsr155 := hsr155.up g164.le
     have hchk159_0 := hchk159_0.up g164.le
     have hr162 := hr162.up g164.le
     have hrow162 := hrow162.up g164.le
     have hr163 := hr163.up g164.le
     have hrow163 := hrow163.up g164.le
     have hle159 := hle159.trans g164.le
     have hd161 := hd161.trans g164.le
     refine ⟨_, rfl, ?_⟩
     refine R_nil ?_
     refine N_DK (Kn.of' H hd161 (SubL.cons 1 rfl (SubL.cons 3 rfl (SubL.cons 4 rfl SubL.nil)))) ?_
     refine RD_t 15 rfl (by kernel_rfl) rfl (fun _ hK => v_build bf102 rfl rfl) ?_
     refine RD_run [16] (by kernel_rfl) rfl (RDs.cons rfl ?_ RDs.nil)
     refine o_buildSlice H Tryz.underlying51 Tryz.sizeOf102 (fun w => ⟨_, Tryz.zeroValue102 w, rfl⟩) rfl rfl rfl rfl rfl rfl rfl ?_; intro b165 w165 hb165 H
     refine R_nil ?_
     refine N_DK (Kn.of' H hd161 (SubL.cons 2 rfl (SubL.cons 4 rfl (SubL.cons 5 rfl SubL.nil)))) ?_
     refine RD_run [17] (by kernel_rfl) rfl (RDs.cons rfl ?_ RDs.nil)
     refine o_append1 2 H (sz := 2) (bytes := 40) Tryz.underlying51 Tryz.typeInfo102 ⟨_, rfl, rfl⟩ rfl rfl rfl rfl rfl rfl rfl rfl rfl rfl (by omega) rfl ?_; intro v166 w166 H
     obtain ⟨G167, H, hsg167, hsr167⟩ := H.shut' (k := 0) rfl hchk164 (by first | assumption | (simp; done) | (simp; omega) | omega) (by first | assumption | (simp; done) | (simp; omega) | omega)
     have hr1 := hr1.up hsg167
     have hr1' := hr1'.up hsg167
     have hr1'' := hr1''.up hsg167
     have hchk130 := hchk130.up hsg167
     have hchk152 := hchk152.up hsg167
     have hsr154 := hsr154.up hsg167
     have hsr155 := hsr155.up hsg167
     have hchk159_0 := hchk159_0.up hsg167
     have hr162 := hr162.up hsg167
     have hrow162 := hrow162.up hsg167
     have hr163 := hr163.up hsg167
     have hrow163 := hrow163.up hsg167
     have hchk164 := hchk164.up hsg167
     have hle159 := hle159.trans hsg167
     have hd161 := hd161.trans hsg167
     have hchk166 := hchk159_0.snoc (show snapE _ ⟨z162.name, z162.tree⟩ _ from ⟨_, _, _, rfl, hi162, hsr167⟩) rfl
     obtain ⟨av166, cv166, rfl⟩ := H.accShape (k := 1) rfl
     refine R_nil ?_
     refine N_DK (Kn.of' H hd161 (SubL.cons 0 rfl (SubL.cons 2 rfl (SubL.cons 3 rfl SubL.nil)))) ?_
     refine RD_t 18 rfl (by kernel_rfl) rfl (fun _ hK => v_fieldAddr 2 Tryz.runUnderlying53 rfl Tryz.sizeOf51 rfl rfl) ?_
     refine RD_run [19] (by kernel_rfl) rfl (RDs.cons rfl ?_ RDs.nil)
     refine o_store_B 0 H Tryz.sizeOf51 rfl rfl rfl rfl rfl rfl rfl rfl ?_; intro w168 H
     refine R_nil ?_
     refine N_DKlast (by kernel_rfl) (by kernel_rfl) ?_
     refine N_B ?_
     refine N_K ?_
     refine W_region ?_
     refine o_move rfl rfl ?_
     refine o_add rfl rfl rfl ⟨by omega, by omega⟩ ?_
     refine o_assign rfl rfl ?_
     refine R_nil ?_
     refine N_LP (hJ := ⟨_, _, _, (xs ++ [⟨z162.name, z162.tree⟩]), k + 1, _, rfl, hle159, H, ?inv, rfl⟩) (hM := ?hM) (hf := ?hf) (hm := ?hm)
     case hM => (repeat (first | exact Sub.nil | refine Sub.cons rfl ?_))
     case hf => (repeat (first | exact Sub.nil | refine Sub.cons rfl ?_))
     case hm => omega
     case inv => exact ⟨hchk166, (by first | assumption | (simp; omega) | omega), (by exact ⟨by omega, by simp [hxl], by rw [Sp.take_succ' hz162, hxs]⟩)⟩
    intro hc160'
    try simp only [nrm] at hc160'
    refine W_exit ?_
    refine N_K_exit ?_
    refine N_LP_exit ?_
    refine N_B_same ?_
    refine N_K ?_
    refine q2 ?_
    refine o_loadagg_B 0 H Tryz.isAgg53 Tryz.sizeOf53 rfl rfl rfl rfl rfl ?_
    refine o_store_B 2 H Tryz.sizeOf53 rfl rfl rfl rfl rfl rfl rfl rfl ?_; intro w170 H
    refine q3 ?_
    refine W_ret ?_
    refine ret_gen (rs := [.cell 2 53]) (vs := [_]) Tryz.results56 ⟨⟨_, rfl, load_blk 2 H Tryz.isAgg53 Tryz.sizeOf53 rfl rfl rfl⟩, trivial⟩ ?_
    obtain rfl : k = d.snaps.length := by omega
    rw [List.take_length] at hxs
    subst hxs
    exact H.retO (k := 1) rfl ⟨_, _, _, rfl, AccOf.mk (by first | rfl | assumption | (simp; done) | (simp; omega) | omega) hchk159_0, hsr154, hsr155⟩ (acc_nd _ _ _ _ _)
  skip
  refine o_alloc H Tryz.zeroValue53 rfl rfl ?_; intro b171 w171 hb171 H
  refine R_nil ?_
  refine N_DK (Kn.of' H hd4 (SubL.cons 2 rfl (SubL.cons 3 rfl SubL.nil))) ?_
  refine RD_run [2] (by kernel_rfl) rfl (RDs.cons rfl ?_ RDs.nil)
  refine o_call Tryz.call48 rfl rfl (l3Copy_c _ _ H.sub _ _ hr1 ) ?_
  rintro _ w172 ⟨G172, v172, _, g172, rfl, ⟨cs172, rfl, hchk172⟩, hp172, hq172, hs172⟩
  have H := H.growO g172 hp172 hq172 hs172; obtain ⟨av172, cv172, rfl⟩ := H.accShape (k := 0) rfl
  have hr1 := hr1.up g172.le
  have hr1' := hr1'.up g172.le
  have hr1'' := hr1''.up g172.le
  have hd4 := hd4.trans g172.le
  refine ⟨_, rfl, ?_⟩
  refine R_nil ?_
  refine N_DK (Kn.of' H hd4 (SubL.cons 3 rfl (SubL.cons 4 rfl SubL.nil))) ?_
  refine RD_run [5] (by kernel_rfl) rfl (RDs.cons rfl ?_ RDs.nil)
  refine o_call Tryz.call57 rfl rfl (l5All_c _ _ H.sub _ _ hr1' ) ?_
  rintro _ w173 ⟨G173, v173, _, g173, rfl, ⟨cs173, rfl, hchk173⟩, hp173, hq173, hs173⟩
  have H := H.growO g173 hp173 hq173 hs173; obtain ⟨av173, cv173, rfl⟩ := H.accShape (k := 0) rfl
  have hr1 := hr1.up g173.le
  have hr1' := hr1'.up g173.le
  have hr1'' := hr1''.up g173.le
  have hchk172 := hchk172.up g173.le
  have hd4 := hd4.trans g173.le
  refine ⟨_, rfl, ?_⟩
  refine R_nil ?_
  refine N_DK (Kn.of' H hd4 (SubL.cons 4 rfl (SubL.cons 5 rfl SubL.nil))) ?_
  refine RD_t 7 rfl (by kernel_rfl) rfl (fun _ hK => v_build bf53 rfl rfl) ?_
  refine RD_run [9] (by kernel_rfl) rfl (RDs.cons rfl ?_ RDs.nil)
  refine o_store_B 2 H Tryz.sizeOf53 rfl rfl rfl rfl rfl rfl rfl rfl ?_; intro w174 H
  refine R_nil ?_
  refine N_DKlast (by kernel_rfl) (by kernel_rfl) ?_
  refine N_K ?_
  refine W_seq ?_
  refine q2 ?_
  refine o_assign rfl rfl ?_
  refine q3 ?_
  refine W_block ?_
  obtain ⟨G175, H, hsg175, hsr175⟩ := H.shut' (k := 1) rfl hchk172 (by first | assumption | (simp; done) | (simp; omega) | omega) (by first | assumption | (simp; done) | (simp; omega) | omega)
  have hr1 := hr1.up hsg175
  have hr1' := hr1'.up hsg175
  have hr1'' := hr1''.up hsg175
  have hchk172 := hchk172.up hsg175
  have hchk173 := hchk173.up hsg175
  obtain ⟨G176, H, hsg176, hsr176⟩ := H.shut' (k := 0) rfl hchk173 (by first | assumption | (simp; done) | (simp; omega) | omega) (by first | assumption | (simp; done) | (simp; omega) | omega)
  have hr1 := hr1.up hsg176
  have hr1' := hr1'.up hsg176
  have hr1'' := hr1''.up hsg176
  have hchk172 := hchk172.up hsg176
  have hchk173 := hchk173.up hsg176
  have hsr175 := hsr175.up hsg176
  obtain ⟨ln177, hln177, H⟩ := H.nameAt (k := 0) (off := 2) rfl rfl
  obtain ⟨ln178, hln178, H⟩ := H.name (k := 2) rfl
  obtain ⟨ln179, hln179, H⟩ := H.name (k := 3) rfl
  refine W_loop (hf := (Sub.cons (t := 1) rfl (Sub.cons (t := 2) rfl (Sub.cons (t := 3) rfl Sub.nil)))) (J := fun M w m => ∃ (v : Value) (n : Nat) (cs : List Value) (xs : List (BSnap)) (k : Nat) (G : PH), M = [(4, .int .i64 (k : Int))] ∧ PLe G176 G ∧ Hp w0 G0 [] w G [blk b171 (cl (setN ln177 2 v) 53), acc 102 2 v n cs, blk b3 (cl ln178 53), blk b2 (cl ln179 53)] ∧ (Chk snapE 2 G cs xs ∧ n = xs.length ∧ k ≤ d.snaps.length ∧ xs.length = k ∧ xs = d.snaps.take k) ∧ m = (d.snaps.length - k)) (h0 := ⟨_, _, _, [], 0, _, rfl, PLe.refl _, H, ?inv, rfl⟩) (hM := ?hM) (round := ?round)
  case hM => (repeat (first | exact Sub.nil | refine Sub.cons rfl ?_))
  case inv => exact ⟨(Chk.nil (E := snapE) (sz := 2) (G := G176)),  by first | rfl | simp | (simp; omega) | omega, (by simp)⟩
  case round =>
   rintro _ w180 _ ⟨v, n, cs, xs, k, G180, rfl, hle180, H, hinv180, rfl⟩
   subst hln177
   subst hln178
   subst hln179
   have hr1 := hr1.up hle180
   have hr1' := hr1'.up hle180
   have hr1'' := hr1''.up hle180
   have hchk172 := hchk172.up hle180
   have hchk173 := hchk173.up hle180
   have hsr175 := hsr175.up hle180
   have hsr176 := hsr176.up hle180
   obtain ⟨hchk180_0, hn180_0, hinv180⟩ := hinv180
   obtain ⟨av180_0, cv180_0, rfl⟩ := H.accShape (k := 1) rfl
   obtain ⟨hk, hxl, hxs⟩ := hinv180
   refine W_seq ?_
   refine q2 ?_
   refine o_move rfl rfl ?_
   refine o_fieldAddr 2 Tryz.runUnderlying53 rfl Tryz.sizeOf51 rfl rfl rfl ?_
   refine o_load_B 3 H Tryz.isAgg51 rfl rfl rfl rfl ?_
   refine o_len_slice Tryz.underlying51 rfl rfl ?_
   refine o_lss rfl rfl rfl ?_
   refine q3 ?_
   refine W_cond rfl ?_ ?_
   ·intro hc181
    try simp only [nrm] at hc181
    refine W_skip ?_
    refine N_K ?_
    refine W_seq ?_
    refine W_block ?_
    refine W_drawK [0, 2, 3] 20 H (by kernel_rfl) rfl ?_; intro w182 H; have hd182 := PLe.refl G180
    refine RD_t 0 rfl (by kernel_rfl) rfl (fun _ hK => v_fieldAddr 2 Tryz.runUnderlying53 rfl Tryz.sizeOf51 rfl rfl) ?_
    refine RD_t 1 rfl (by kernel_rfl) rfl (fun _ hK => v_load_B 0 hK Tryz.isAgg51 rfl rfl rfl) ?_
    refine RD_t 2 rfl (by kernel_rfl) rfl (fun _ hK => v_fieldAddr 2 Tryz.runUnderlying53 rfl Tryz.sizeOf51 rfl rfl) ?_
    refine RD_t 3 rfl (by kernel_rfl) rfl (fun _ hK => v_load_B 2 hK Tryz.isAgg51 rfl rfl rfl) ?_
    refine RD_t 4 rfl (by kernel_rfl) rfl (fun _ hK => v_move rfl) ?_
    have hl183 := hr1''.len
    obtain ⟨b183, o183, z183, q183, ha183, hz183, hq183, hE183, hrow183, _⟩ := hr1''.at (i := k) (by omega)
    clear hq183
    obtain ⟨a183, m183, c183, rfl, hi183, hr183⟩ := hE183; have hy_hi183 : _ ≤ 16777216 := hi183; have hn_hr183 := hr183.len; have hx_hr183 : _ ≤ 1099511627776 := hr183.lim
    refine RD_t 5 rfl (by kernel_rfl) rfl (fun _ hK => v_index_P (i := k) ha183 Tryz.underlying51 Tryz.sizeOf102 rfl rfl rfl (by omega)) ?_
    refine RD_t 6 rfl (by kernel_rfl) rfl (fun _ hK => v_fieldAddr 0 Tryz.runUnderlying102 rfl Tryz.sizeOf9 rfl rfl) ?_
    refine RD_t 7 rfl (by kernel_rfl) rfl (fun _ hK => v_load_P hK Tryz.isAgg9 rfl (hrow183 0 _ rfl)) ?_
    refine RD_t 8 rfl (by kernel_rfl) rfl (fun _ hK => v_fieldAddr 2 Tryz.runUnderlying53 rfl Tryz.sizeOf51 rfl rfl) ?_
    refine RD_t 9 rfl (by kernel_rfl) rfl (fun _ hK => v_load_B 2 hK Tryz.isAgg51 rfl rfl rfl) ?_
    refine RD_t 10 rfl (by kernel_rfl) rfl (fun _ hK => v_move rfl) ?_
    have hl184 := hr1''.len
    obtain ⟨b184, o184, z184, q184, ha184, hz184, hq184, hE184, hrow184, _⟩ := hr1''.at (i := k) (by omega)
    clear hq184
    obtain ⟨a184, m184, c184, rfl, hi184, hr184⟩ := hE184; have hy_hi184 : _ ≤ 16777216 := hi184; have hn_hr184 := hr184.len; have hx_hr184 : _ ≤ 1099511627776 := hr184.lim
    have hzz184 : z183 = z184 := Option.some.inj (hz183.symm.trans hz184)
    subst hzz184
    refine RD_t 11 rfl (by kernel_rfl) rfl (fun _ hK => v_index_P (i := k) ha184 Tryz.underlying51 Tryz.sizeOf102 rfl rfl rfl (by omega)) ?_
    refine RD_t 12 rfl (by kernel_rfl) rfl (fun _ hK => v_fieldAddr 1 Tryz.runUnderlying102 rfl Tryz.sizeOf24 rfl rfl) ?_
    refine RD_t 13 rfl (by kernel_rfl) rfl (fun _ hK => v_load_P hK Tryz.isAgg24 rfl (hrow184 1 _ rfl)) ?_
    refine RD_run [14] (by kernel_rfl) rfl (RDs.cons rfl ?_ RDs.nil)
    refine o_call Tryz.call57 rfl rfl (l5All_c _ _ H.sub _ _ hr184 ) ?_
    rintro _ w185 ⟨G185, v185, _, g185, rfl, ⟨cs185, rfl, hchk185⟩, hp185, hq185, hs185⟩
    have H := H.growO g185 hp185 hq185 hs185; obtain ⟨av185, cv185, rfl⟩ := H.accShape (k := 0) rfl
    have hr1 := hr1.up g185.le
    have hr1' := hr1'.up g185.le
    have hr1'' := hr1''.up g185.le
    have hchk172 := hchk172.up g185.le
    have hchk173 := hchk173.up g185.le
    have hsr175 := hsr175.up g185.le
    have hsr176 := hsr176.up g185.le
    have hchk180_0 := hchk180_0.up g185.le
    have hr183 := hr183.up g185.le
    have hrow183 := hrow183.up g185.le
    have hr184 := hr184.up g185.le
    have hrow184 := hrow184.up g185.le
    have hle180 := hle180.trans g185.le
    have hd182 := hd182.trans g185.le
    refine ⟨_, rfl, ?_⟩
    refine R_nil ?_
    refine N_DK (Kn.of' H hd182 (SubL.cons 1 rfl (SubL.cons 3 rfl (SubL.cons 4 rfl SubL.nil)))) ?_
    refine RD_t 15 rfl (by kernel_rfl) rfl (fun _ hK => v_build bf102 rfl rfl) ?_
    refine RD_run [16] (by kernel_rfl) rfl (RDs.cons rfl ?_ RDs.nil)
    refine o_buildSlice H Tryz.underlying51 Tryz.sizeOf102 (fun w => ⟨_, Tryz.zeroValue102 w, rfl⟩) rfl rfl rfl rfl rfl rfl rfl ?_; intro b186 w186 hb186 H
    refine R_nil ?_
    refine N_DK (Kn.of' H hd182 (SubL.cons 2 rfl (SubL.cons 4 rfl (SubL.cons 5 rfl SubL.nil)))) ?_
    refine RD_run [17] (by kernel_rfl) rfl (RDs.cons rfl ?_ RDs.nil)
    refine o_append1 2 H (sz := 2) (bytes := 40) Tryz.underlying51 Tryz.typeInfo102 ⟨_, rfl, rfl⟩ rfl rfl rfl rfl rfl rfl rfl rfl rfl rfl (by omega) rfl ?_; intro v187 w187 H
    obtain ⟨G188, H, hsg188, hsr188⟩ := H.shut' (k := 0) rfl hchk185 (by first | assumption | (simp; done) | (simp; omega) | omega) (by first | assumption | (simp; done) | (simp; omega) | omega)
    have hr1 := hr1.up hsg188
    have hr1' := hr1'.up hsg188
    have hr1'' := hr1''.up hsg188
    have hchk172 := hchk172.up hsg188
    have hchk173 := hchk173.up hsg188
    have hsr175 := hsr175.up hsg188
    have hsr176 := hsr176.up hsg188
    have hchk180_0 := hchk180_0.up hsg188
    have hr183 := hr183.up hsg188
    have hrow183 := hrow183.up hsg188
    have hr184 := hr184.up hsg188
    have hrow184 := hrow184.up hsg188
    have hchk185 := hchk185.up hsg188
    have hle180 := hle180.trans hsg188
    have hd182 := hd182.trans hsg188
    have hchk187 := hchk180_0.snoc (show snapE _ ⟨z183.name, z183.tree⟩ _ from ⟨_, _, _, rfl, hi183, hsr188⟩) rfl
    obtain ⟨av187, cv187, rfl⟩ := H.accShape (k := 1) rfl
    refine R_nil ?_
    refine N_DK (Kn.of' H hd182 (SubL.cons 0 rfl (SubL.cons 2 rfl (SubL.cons 3 rfl SubL.nil)))) ?_
    refine RD_t 18 rfl (by kernel_rfl) rfl (fun _ hK => v_fieldAddr 2 Tryz.runUnderlying53 rfl Tryz.sizeOf51 rfl rfl) ?_
    refine RD_run [19] (by kernel_rfl) rfl (RDs.cons rfl ?_ RDs.nil)
    refine o_store_B 0 H Tryz.sizeOf51 rfl rfl rfl rfl rfl rfl rfl rfl ?_; intro w189 H
    refine R_nil ?_
    refine N_DKlast (by kernel_rfl) (by kernel_rfl) ?_
    refine N_B ?_
    refine N_K ?_
    refine W_region ?_
    refine o_move rfl rfl ?_
    refine o_add rfl rfl rfl ⟨by omega, by omega⟩ ?_
    refine o_assign rfl rfl ?_
    refine R_nil ?_
    refine N_LP (hJ := ⟨_, _, _, (xs ++ [⟨z183.name, z183.tree⟩]), k + 1, _, rfl, hle180, H, ?inv, rfl⟩) (hM := ?hM) (hf := ?hf) (hm := ?hm)
    case hM => (repeat (first | exact Sub.nil | refine Sub.cons rfl ?_))
    case hf => (repeat (first | exact Sub.nil | refine Sub.cons rfl ?_))
    case hm => omega
    case inv => exact ⟨hchk187, (by first | assumption | (simp; omega) | omega), (by exact ⟨by omega, by simp [hxl], by rw [Sp.take_succ' hz183, hxs]⟩)⟩
   intro hc181'
   try simp only [nrm] at hc181'
   refine W_exit ?_
   refine N_K_exit ?_
   refine N_LP_exit ?_
   refine N_B_same ?_
   refine N_K ?_
   refine q2 ?_
   refine o_loadagg_B 0 H Tryz.isAgg53 Tryz.sizeOf53 rfl rfl rfl rfl rfl ?_
   refine o_store_B 2 H Tryz.sizeOf53 rfl rfl rfl rfl rfl rfl rfl rfl ?_; intro w191 H
   refine q3 ?_
   refine W_ret ?_
   refine ret_gen (rs := [.cell 2 53]) (vs := [_]) Tryz.results56 ⟨⟨_, rfl, load_blk 2 H Tryz.isAgg53 Tryz.sizeOf53 rfl rfl rfl⟩, trivial⟩ ?_
   obtain rfl : k = d.snaps.length := by omega
   rw [List.take_length] at hxs
   subst hxs
   exact H.retO (k := 1) rfl ⟨_, _, _, rfl, AccOf.mk (by first | rfl | assumption | (simp; done) | (simp; omega) | omega) hchk180_0, hsr175, hsr176⟩ (acc_nd _ _ _ _ _)
 skip
 refine o_alloc H Tryz.zeroValue53 rfl rfl ?_; intro b192 w192 hb192 H
 refine R_nil ?_
 refine N_DK (Kn.of' H hd4 (SubL.cons 1 rfl (SubL.cons 2 rfl SubL.nil))) ?_
 refine RD_run [2, 6] (by kernel_rfl) rfl (RDs.cons rfl ?_ (RDs.cons rfl ?_ RDs.nil))
 ·skip
  refine o_call Tryz.call48 rfl rfl (l3Copy_c _ _ H.sub _ _ hr1 ) ?_
  rintro _ w193 ⟨G193, v193, _, g193, rfl, ⟨cs193, rfl, hchk193⟩, hp193, hq193, hs193⟩
  have H := H.growO g193 hp193 hq193 hs193; obtain ⟨av193, cv193, rfl⟩ := H.accShape (k := 0) rfl
  have hr1 := hr1.up g193.le
  have hr1' := hr1'.up g193.le
  have hr1'' := hr1''.up g193.le
  have hd4 := hd4.trans g193.le
  refine ⟨_, rfl, ?_⟩
  refine R_nil ?_
  refine N_DK (Kn.of' H hd4 (SubL.cons 2 rfl (SubL.cons 3 rfl SubL.nil))) ?_
  refine RD_run [5, 6] (by kernel_rfl) rfl (RDs.cons rfl ?_ (RDs.cons rfl ?_ RDs.nil))
  ·skip
   refine o_call Tryz.call57 rfl rfl (l5All_c _ _ H.sub _ _ hr1' ) ?_
   rintro _ w194 ⟨G194, v194, _, g194, rfl, ⟨cs194, rfl, hchk194⟩, hp194, hq194, hs194⟩
   have H := H.growO g194 hp194 hq194 hs194; obtain ⟨av194, cv194, rfl⟩ := H.accShape (k := 0) rfl
   have hr1 := hr1.up g194.le
   have hr1' := hr1'.up g194.le
   have hr1'' := hr1''.up g194.le
   have hchk193 := hchk193.up g194.le
   have hd4 := hd4.trans g194.le
   refine ⟨_, rfl, ?_⟩
   refine R_nil ?_
   refine N_DK (Kn.of' H hd4 (SubL.cons 3 rfl (SubL.cons 4 rfl SubL.nil))) ?_
   refine RD_run [6] (by kernel_rfl) rfl (RDs.cons rfl ?_ RDs.nil)
   refine o_buildSlice H Tryz.underlying51 Tryz.sizeOf102 (fun w => ⟨_, Tryz.zeroValue102 w, rfl⟩) rfl rfl rfl rfl rfl rfl rfl ?_; intro b195 w195 hb195 H
   have H := H.blkAcc 2 (k := 0) (n := 0) rfl rfl (by decide)
   refine R_nil ?_
   refine N_DK (Kn.of' H hd4 (SubL.cons 4 rfl (SubL.cons 5 rfl SubL.nil))) ?_
   refine RD_t 7 rfl (by kernel_rfl) rfl (fun _ hK => v_build bf53 rfl rfl) ?_
   refine RD_run [9] (by kernel_rfl) rfl (RDs.cons rfl ?_ RDs.nil)
   refine o_store_B 3 H Tryz.sizeOf53 rfl rfl rfl rfl rfl rfl rfl rfl ?_; intro w196 H
   refine R_nil ?_
   refine N_DKlast (by kernel_rfl) (by kernel_rfl) ?_
   refine N_K ?_
   refine W_seq ?_
   refine q2 ?_
   refine o_assign rfl rfl ?_
   refine q3 ?_
   refine W_block ?_
   obtain ⟨G197, H, hsg197, hsr197⟩ := H.shut' (k := 2) rfl hchk193 (by first | assumption | (simp; done) | (simp; omega) | omega) (by first | assumption | (simp; done) | (simp; omega) | omega)
   have hr1 := hr1.up hsg197
   have hr1' := hr1'.up hsg197
   have hr1'' := hr1''.up hsg197
   have hchk193 := hchk193.up hsg197
   have hchk194 := hchk194.up hsg197
   obtain ⟨G198, H, hsg198, hsr198⟩ := H.shut' (k := 1) rfl hchk194 (by first | assumption | (simp; done) | (simp; omega) | omega) (by first | assumption | (simp; done) | (simp; omega) | omega)
   have hr1 := hr1.up hsg198
   have hr1' := hr1'.up hsg198
   have hr1'' := hr1''.up hsg198
   have hchk193 := hchk193.up hsg198
   have hchk194 := hchk194.up hsg198
   have hsr197 := hsr197.up hsg198
   obtain ⟨ln199, hln199, H⟩ := H.nameAt (k := 1) (off := 2) rfl rfl
   obtain ⟨ln200, hln200, H⟩ := H.name (k := 2) rfl
   obtain ⟨ln201, hln201, H⟩ := H.name (k := 3) rfl
   refine W_loop (hf := (Sub.cons (t := 1) rfl (Sub.cons (t := 2) rfl (Sub.cons (t := 3) rfl Sub.nil)))) (J := fun M w m => ∃ (v : Value) (n : Nat) (cs : List Value) (xs : List (BSnap)) (k : Nat) (G : PH), M = [(4, .int .i64 (k : Int))] ∧ PLe G198 G ∧ Hp w0 G0 [] w G [acc 102 2 v n cs, blk b192 (cl (setN ln199 2 v) 53), blk b3 (cl ln200 53), blk b2 (cl ln201 53)] ∧ (Chk snapE 2 G cs xs ∧ n = xs.length ∧ k ≤ d.snaps.length ∧ xs.length = k ∧ xs = d.snaps.take k) ∧ m = (d.snaps.length - k)) (h0 := ⟨_, _, _, [], 0, _, rfl, PLe.refl _, H, ?inv, rfl⟩) (hM := ?hM) (round := ?round)
   case hM => (repeat (first | exact Sub.nil | refine Sub.cons rfl ?_))
   case inv => exact ⟨(Chk.nil (E := snapE) (sz := 2) (G := G198)),  by first | rfl | simp | (simp; omega) | omega, (by simp)⟩
   case round =>
    rintro _ w202 _ ⟨v, n, cs, xs, k, G202, rfl, hle202, H, hinv202, rfl⟩
    subst hln199
    subst hln200
    subst hln201
    have hr1 := hr1.up hle202
    have hr1' := hr1'.up hle202
    have hr1'' := hr1''.up hle202
    have hchk193 := hchk193.up hle202
    have hchk194 := hchk194.up hle202
    have hsr197 := hsr197.up hle202
    have hsr198 := hsr198.up hle202
    obtain ⟨hchk202_0, hn202_0, hinv202⟩ := hinv202
    obtain ⟨av202_0, cv202_0, rfl⟩ := H.accShape (k := 0) rfl
    obtain ⟨hk, hxl, hxs⟩ := hinv202
    refine W_seq ?_
    refine q2 ?_
    refine o_move rfl rfl ?_
    refine o_fieldAddr 2 Tryz.runUnderlying53 rfl Tryz.sizeOf51 rfl rfl rfl ?_
    refine o_load_B 3 H Tryz.isAgg51 rfl rfl rfl rfl ?_
    refine o_len_slice Tryz.underlying51 rfl rfl ?_
    refine o_lss rfl rfl rfl ?_
    refine q3 ?_
    refine W_cond rfl ?_ ?_
    ·intro hc203
     try simp only [nrm] at hc203
     refine W_skip ?_
     refine N_K ?_
     refine W_seq ?_
     refine W_block ?_
     refine W_drawK [1, 2, 3] 20 H (by kernel_rfl) rfl ?_; intro w204 H; have hd204 := PLe.refl G202
     refine RD_t 0 rfl (by kernel_rfl) rfl (fun _ hK => v_fieldAddr 2 Tryz.runUnderlying53 rfl Tryz.sizeOf51 rfl rfl) ?_
     refine RD_t 1 rfl (by kernel_rfl) rfl (fun _ hK => v_load_B 0 hK Tryz.isAgg51 rfl rfl rfl) ?_
     refine RD_t 2 rfl (by kernel_rfl) rfl (fun _ hK => v_fieldAddr 2 Tryz.runUnderlying53 rfl Tryz.sizeOf51 rfl rfl) ?_
     refine RD_t 3 rfl (by kernel_rfl) rfl (fun _ hK => v_load_B 2 hK Tryz.isAgg51 rfl rfl rfl) ?_
     refine RD_t 4 rfl (by kernel_rfl) rfl (fun _ hK => v_move rfl) ?_
     have hl205 := hr1''.len
     obtain ⟨b205, o205, z205, q205, ha205, hz205, hq205, hE205, hrow205, _⟩ := hr1''.at (i := k) (by omega)
     clear hq205
     obtain ⟨a205, m205, c205, rfl, hi205, hr205⟩ := hE205; have hy_hi205 : _ ≤ 16777216 := hi205; have hn_hr205 := hr205.len; have hx_hr205 : _ ≤ 1099511627776 := hr205.lim
     refine RD_t 5 rfl (by kernel_rfl) rfl (fun _ hK => v_index_P (i := k) ha205 Tryz.underlying51 Tryz.sizeOf102 rfl rfl rfl (by omega)) ?_
     refine RD_t 6 rfl (by kernel_rfl) rfl (fun _ hK => v_fieldAddr 0 Tryz.runUnderlying102 rfl Tryz.sizeOf9 rfl rfl) ?_
     refine RD_t 7 rfl (by kernel_rfl) rfl (fun _ hK => v_load_P hK Tryz.isAgg9 rfl (hrow205 0 _ rfl)) ?_
     refine RD_t 8 rfl (by kernel_rfl) rfl (fun _ hK => v_fieldAddr 2 Tryz.runUnderlying53 rfl Tryz.sizeOf51 rfl rfl) ?_
     refine RD_t 9 rfl (by kernel_rfl) rfl (fun _ hK => v_load_B 2 hK Tryz.isAgg51 rfl rfl rfl) ?_
     refine RD_t 10 rfl (by kernel_rfl) rfl (fun _ hK => v_move rfl) ?_
     have hl206 := hr1''.len
     obtain ⟨b206, o206, z206, q206, ha206, hz206, hq206, hE206, hrow206, _⟩ := hr1''.at (i := k) (by omega)
     clear hq206
     obtain ⟨a206, m206, c206, rfl, hi206, hr206⟩ := hE206; have hy_hi206 : _ ≤ 16777216 := hi206; have hn_hr206 := hr206.len; have hx_hr206 : _ ≤ 1099511627776 := hr206.lim
     have hzz206 : z205 = z206 := Option.some.inj (hz205.symm.trans hz206)
     subst hzz206
     refine RD_t 11 rfl (by kernel_rfl) rfl (fun _ hK => v_index_P (i := k) ha206 Tryz.underlying51 Tryz.sizeOf102 rfl rfl rfl (by omega)) ?_
     refine RD_t 12 rfl (by kernel_rfl) rfl (fun _ hK => v_fieldAddr 1 Tryz.runUnderlying102 rfl Tryz.sizeOf24 rfl rfl) ?_
     refine RD_t 13 rfl (by kernel_rfl) rfl (fun _ hK => v_load_P hK Tryz.isAgg24 rfl (hrow206 1 _ rfl)) ?_
     refine RD_run [14] (by kernel_rfl) rfl (RDs.cons rfl ?_ RDs.nil)
     refine o_call Tryz.call57 rfl rfl (l5All_c _ _ H.sub _ _ hr206 ) ?_
     rintro _ w207 ⟨G207, v207, _, g207, rfl, ⟨cs207, rfl, hchk207⟩, hp207, hq207, hs207⟩
     have H := H.growO g207 hp207 hq207 hs207; obtain ⟨av207, cv207, rfl⟩ := H.accShape (k := 0) rfl
     have hr1 := hr1.up g207.le
     have hr1' := hr1'.up g207.le
     have hr1'' := hr1''.up g207.le
     have hchk193 := hchk193.up g207.le
     have hchk194 := hchk194.up g207.le
     have hsr197 := hsr197.up g207.le
     have hsr198 := hsr198.up g207.le
     have hchk202_0 := hchk202_0.up g207.le
     have hr205 := hr205.up g207.le
     have hrow205 := hrow205.up g207.le
     have hr206 := hr206.up g207.le
     have hrow206 := hrow206.up g207.le
     have hle202 := hle202.trans g207.le
     have hd204 := hd204.trans g207.le
     refine ⟨_, rfl, ?_⟩
     refine R_nil ?_
     refine N_DK (Kn.of' H hd204 (SubL.cons 2 rfl (SubL.cons 3 rfl (SubL.cons 4 rfl SubL.nil)))) ?_
     refine RD_t 15 rfl (by kernel_rfl) rfl (fun _ hK => v_build bf102 rfl rfl) ?_
     refine RD_run [16] (by kernel_rfl) rfl (RDs.cons rfl ?_ RDs.nil)
     refine o_buildSlice H Tryz.underlying51 Tryz.sizeOf102 (fun w => ⟨_, Tryz.zeroValue102 w, rfl⟩) rfl rfl rfl rfl rfl rfl rfl ?_; intro b208 w208 hb208 H
     refine R_nil ?_
     refine N_DK (Kn.of' H hd204 (SubL.cons 3 rfl (SubL.cons 4 rfl (SubL.cons 5 rfl SubL.nil)))) ?_
     refine RD_run [17] (by kernel_rfl) rfl (RDs.cons rfl ?_ RDs.nil)
     refine o_append1 1 H (sz := 2) (bytes := 40) Tryz.underlying51 Tryz.typeInfo102 ⟨_, rfl, rfl⟩ rfl rfl rfl rfl rfl rfl rfl rfl rfl rfl (by omega) rfl ?_; intro v209 w209 H
     obtain ⟨G210, H, hsg210, hsr210⟩ := H.shut' (k := 0) rfl hchk207 (by first | assumption | (simp; done) | (simp; omega) | omega) (by first | assumption | (simp; done) | (simp; omega) | omega)
     have hr1 := hr1.up hsg210
     have hr1' := hr1'.up hsg210
     have hr1'' := hr1''.up hsg210
     have hchk193 := hchk193.up hsg210
     have hchk194 := hchk194.up hsg210
     have hsr197 := hsr197.up hsg210
     have hsr198 := hsr198.up hsg210
     have hchk202_0 := hchk202_0.up hsg210
     have hr205 := hr205.up hsg210
     have hrow205 := hrow205.up hsg210
     have hr206 := hr206.up hsg210
     have hrow206 := hrow206.up hsg210
     have hchk207 := hchk207.up hsg210
     have hle202 := hle202.trans hsg210
     have hd204 := hd204.trans hsg210
     have hchk209 := hchk202_0.snoc (show snapE _ ⟨z205.name, z205.tree⟩ _ from ⟨_, _, _, rfl, hi205, hsr210⟩) rfl
     obtain ⟨av209, cv209, rfl⟩ := H.accShape (k := 0) rfl
     refine R_nil ?_
     refine N_DK (Kn.of' H hd204 (SubL.cons 1 rfl (SubL.cons 2 rfl (SubL.cons 3 rfl SubL.nil)))) ?_
     refine RD_t 18 rfl (by kernel_rfl) rfl (fun _ hK => v_fieldAddr 2 Tryz.runUnderlying53 rfl Tryz.sizeOf51 rfl rfl) ?_
     refine RD_run [19] (by kernel_rfl) rfl (RDs.cons rfl ?_ RDs.nil)
     refine o_store_B 1 H Tryz.sizeOf51 rfl rfl rfl rfl rfl rfl rfl rfl ?_; intro w211 H
     refine R_nil ?_
     refine N_DKlast (by kernel_rfl) (by kernel_rfl) ?_
     refine N_B ?_
     refine N_K ?_
     refine W_region ?_
     refine o_move rfl rfl ?_
     refine o_add rfl rfl rfl ⟨by omega, by omega⟩ ?_
     refine o_assign rfl rfl ?_
     refine R_nil ?_
     refine N_LP (hJ := ⟨_, _, _, (xs ++ [⟨z205.name, z205.tree⟩]), k + 1, _, rfl, hle202, H, ?inv, rfl⟩) (hM := ?hM) (hf := ?hf) (hm := ?hm)
     case hM => (repeat (first | exact Sub.nil | refine Sub.cons rfl ?_))
     case hf => (repeat (first | exact Sub.nil | refine Sub.cons rfl ?_))
     case hm => omega
     case inv => exact ⟨hchk209, (by first | assumption | (simp; omega) | omega), (by exact ⟨by omega, by simp [hxl], by rw [Sp.take_succ' hz205, hxs]⟩)⟩
    intro hc203'
    try simp only [nrm] at hc203'
    refine W_exit ?_
    refine N_K_exit ?_
    refine N_LP_exit ?_
    refine N_B_same ?_
    refine N_K ?_
    refine q2 ?_
    refine o_loadagg_B 1 H Tryz.isAgg53 Tryz.sizeOf53 rfl rfl rfl rfl rfl ?_
    refine o_store_B 2 H Tryz.sizeOf53 rfl rfl rfl rfl rfl rfl rfl rfl ?_; intro w213 H
    refine q3 ?_
    refine W_ret ?_
    refine ret_gen (rs := [.cell 2 53]) (vs := [_]) Tryz.results56 ⟨⟨_, rfl, load_blk 2 H Tryz.isAgg53 Tryz.sizeOf53 rfl rfl rfl⟩, trivial⟩ ?_
    obtain rfl : k = d.snaps.length := by omega
    rw [List.take_length] at hxs
    subst hxs
    exact H.retO (k := 0) rfl ⟨_, _, _, rfl, AccOf.mk (by first | rfl | assumption | (simp; done) | (simp; omega) | omega) hchk202_0, hsr197, hsr198⟩ (acc_nd _ _ _ _ _)
  skip
  refine o_buildSlice H Tryz.underlying51 Tryz.sizeOf102 (fun w => ⟨_, Tryz.zeroValue102 w, rfl⟩) rfl rfl rfl rfl rfl rfl rfl ?_; intro b214 w214 hb214 H
  have H := H.blkAcc 2 (k := 0) (n := 0) rfl rfl (by decide)
  refine R_nil ?_
  refine N_DK (Kn.of' H hd4 (SubL.cons 3 rfl (SubL.cons 4 rfl SubL.nil))) ?_
  refine RD_run [5] (by kernel_rfl) rfl (RDs.cons rfl ?_ RDs.nil)
  refine o_call Tryz.call57 rfl rfl (l5All_c _ _ H.sub _ _ hr1' ) ?_
  rintro _ w215 ⟨G215, v215, _, g215, rfl, ⟨cs215, rfl, hchk215⟩, hp215, hq215, hs215⟩
  have H := H.growO g215 hp215 hq215 hs215; obtain ⟨av215, cv215, rfl⟩ := H.accShape (k := 0) rfl
  have hr1 := hr1.up g215.le
  have hr1' := hr1'.up g215.le
  have hr1'' := hr1''.up g215.le
  have hchk193 := hchk193.up g215.le
  have hd4 := hd4.trans g215.le
  refine ⟨_, rfl, ?_⟩
  refine R_nil ?_
  refine N_DK (Kn.of' H hd4 (SubL.cons 4 rfl (SubL.cons 5 rfl SubL.nil))) ?_
  refine RD_t 7 rfl (by kernel_rfl) rfl (fun _ hK => v_build bf53 rfl rfl) ?_
  refine RD_run [9] (by kernel_rfl) rfl (RDs.cons rfl ?_ RDs.nil)
  refine o_store_B 3 H Tryz.sizeOf53 rfl rfl rfl rfl rfl rfl rfl rfl ?_; intro w216 H
  refine R_nil ?_
  refine N_DKlast (by kernel_rfl) (by kernel_rfl) ?_
  refine N_K ?_
  refine W_seq ?_
  refine q2 ?_
  refine o_assign rfl rfl ?_
  refine q3 ?_
  refine W_block ?_
  obtain ⟨G217, H, hsg217, hsr217⟩ := H.shut' (k := 2) rfl hchk193 (by first | assumption | (simp; done) | (simp; omega) | omega) (by first | assumption | (simp; done) | (simp; omega) | omega)
  have hr1 := hr1.up hsg217
  have hr1' := hr1'.up hsg217
  have hr1'' := hr1''.up hsg217
  have hchk193 := hchk193.up hsg217
  have hchk215 := hchk215.up hsg217
  obtain ⟨G218, H, hsg218, hsr218⟩ := H.shut' (k := 0) rfl hchk215 (by first | assumption | (simp; done) | (simp; omega) | omega) (by first | assumption | (simp; done) | (simp; omega) | omega)
  have hr1 := hr1.up hsg218
  have hr1' := hr1'.up hsg218
  have hr1'' := hr1''.up hsg218
  have hchk193 := hchk193.up hsg218
  have hchk215 := hchk215.up hsg218
  have hsr217 := hsr217.up hsg218
  obtain ⟨ln219, hln219, H⟩ := H.nameAt (k := 1) (off := 2) rfl rfl
  obtain ⟨ln220, hln220, H⟩ := H.name (k := 2) rfl
  obtain ⟨ln221, hln221, H⟩ := H.name (k := 3) rfl
  refine W_loop (hf := (Sub.cons (t := 1) rfl (Sub.cons (t := 2) rfl (Sub.cons (t := 3) rfl Sub.nil)))) (J := fun M w m => ∃ (v : Value) (n : Nat) (cs : List Value) (xs : List (BSnap)) (k : Nat) (G : PH), M = [(4, .int .i64 (k : Int))] ∧ PLe G218 G ∧ Hp w0 G0 [] w G [acc 102 2 v n cs, blk b192 (cl (setN ln219 2 v) 53), blk b3 (cl ln220 53), blk b2 (cl ln221 53)] ∧ (Chk snapE 2 G cs xs ∧ n = xs.length ∧ k ≤ d.snaps.length ∧ xs.length = k ∧ xs = d.snaps.take k) ∧ m = (d.snaps.length - k)) (h0 := ⟨_, _, _, [], 0, _, rfl, PLe.refl _, H, ?inv, rfl⟩) (hM := ?hM) (round := ?round)
  case hM => (repeat (first | exact Sub.nil | refine Sub.cons rfl ?_))
  case inv => exact ⟨(Chk.nil (E := snapE) (sz := 2) (G := G218)),  by first | rfl | simp | (simp; omega) | omega, (by simp)⟩
  case round =>
   rintro _ w222 _ ⟨v, n, cs, xs, k, G222, rfl, hle222, H, hinv222, rfl⟩
   subst hln219
   subst hln220
   subst hln221
   have hr1 := hr1.up hle222
   have hr1' := hr1'.up hle222
   have hr1'' := hr1''.up hle222
   have hchk193 := hchk193.up hle222
   have hchk215 := hchk215.up hle222
   have hsr217 := hsr217.up hle222
   have hsr218 := hsr218.up hle222
   obtain ⟨hchk222_0, hn222_0, hinv222⟩ := hinv222
   obtain ⟨av222_0, cv222_0, rfl⟩ := H.accShape (k := 0) rfl
   obtain ⟨hk, hxl, hxs⟩ := hinv222
   refine W_seq ?_
   refine q2 ?_
   refine o_move rfl rfl ?_
   refine o_fieldAddr 2 Tryz.runUnderlying53 rfl Tryz.sizeOf51 rfl rfl rfl ?_
   refine o_load_B 3 H Tryz.isAgg51 rfl rfl rfl rfl ?_
   refine o_len_slice Tryz.underlying51 rfl rfl ?_
   refine o_lss rfl rfl rfl ?_
   refine q3 ?_
   refine W_cond rfl ?_ ?_
   ·intro hc223
    try simp only [nrm] at hc223
    refine W_skip ?_
    refine N_K ?_
    refine W_seq ?_
    refine W_block ?_
    refine W_drawK [1, 2, 3] 20 H (by kernel_rfl) rfl ?_; intro w224 H; have hd224 := PLe.refl G222
    refine RD_t 0 rfl (by kernel_rfl) rfl (fun _ hK => v_fieldAddr 2 Tryz.runUnderlying53 rfl Tryz.sizeOf51 rfl rfl) ?_
    refine RD_t 1 rfl (by kernel_rfl) rfl (fun _ hK => v_load_B 0 hK Tryz.isAgg51 rfl rfl rfl) ?_
    refine RD_t 2 rfl (by kernel_rfl) rfl (fun _ hK => v_fieldAddr 2 Tryz.runUnderlying53 rfl Tryz.sizeOf51 rfl rfl) ?_
    refine RD_t 3 rfl (by kernel_rfl) rfl (fun _ hK => v_load_B 2 hK Tryz.isAgg51 rfl rfl rfl) ?_
    refine RD_t 4 rfl (by kernel_rfl) rfl (fun _ hK => v_move rfl) ?_
    have hl225 := hr1''.len
    obtain ⟨b225, o225, z225, q225, ha225, hz225, hq225, hE225, hrow225, _⟩ := hr1''.at (i := k) (by omega)
    clear hq225
    obtain ⟨a225, m225, c225, rfl, hi225, hr225⟩ := hE225; have hy_hi225 : _ ≤ 16777216 := hi225; have hn_hr225 := hr225.len; have hx_hr225 : _ ≤ 1099511627776 := hr225.lim
    refine RD_t 5 rfl (by kernel_rfl) rfl (fun _ hK => v_index_P (i := k) ha225 Tryz.underlying51 Tryz.sizeOf102 rfl rfl rfl (by omega)) ?_
    refine RD_t 6 rfl (by kernel_rfl) rfl (fun _ hK => v_fieldAddr 0 Tryz.runUnderlying102 rfl Tryz.sizeOf9 rfl rfl) ?_
    refine RD_t 7 rfl (by kernel_rfl) rfl (fun _ hK => v_load_P hK Tryz.isAgg9 rfl (hrow225 0 _ rfl)) ?_
    refine RD_t 8 rfl (by kernel_rfl) rfl (fun _ hK => v_fieldAddr 2 Tryz.runUnderlying53 rfl Tryz.sizeOf51 rfl rfl) ?_
    refine RD_t 9 rfl (by kernel_rfl) rfl (fun _ hK => v_load_B 2 hK Tryz.isAgg51 rfl rfl rfl) ?_
    refine RD_t 10 rfl (by kernel_rfl) rfl (fun _ hK => v_move rfl) ?_
    have hl226 := hr1''.len
    obtain ⟨b226, o226, z226, q226, ha226, hz226, hq226, hE226, hrow226, _⟩ := hr1''.at (i := k) (by omega)
    clear hq226
    obtain ⟨a226, m226, c226, rfl, hi226, hr226⟩ := hE226; have hy_hi226 : _ ≤ 16777216 := hi226; have hn_hr226 := hr226.len; have hx_hr226 : _ ≤ 1099511627776 := hr226.lim
    have hzz226 : z225 = z226 := Option.some.inj (hz225.symm.trans hz226)
    subst hzz226
    refine RD_t 11 rfl (by kernel_rfl) rfl (fun _ hK => v_index_P (i := k) ha226 Tryz.underlying51 Tryz.sizeOf102 rfl rfl rfl (by omega)) ?_
    refine RD_t 12 rfl (by kernel_rfl) rfl (fun _ hK => v_fieldAddr 1 Tryz.runUnderlying102 rfl Tryz.sizeOf24 rfl rfl) ?_
    refine RD_t 13 rfl (by kernel_rfl) rfl (fun _ hK => v_load_P hK Tryz.isAgg24 rfl (hrow226 1 _ rfl)) ?_
    refine RD_run [14] (by kernel_rfl) rfl (RDs.cons rfl ?_ RDs.nil)
    refine o_call Tryz.call57 rfl rfl (l5All_c _ _ H.sub _ _ hr226 ) ?_
    rintro _ w227 ⟨G227, v227, _, g227, rfl, ⟨cs227, rfl, hchk227⟩, hp227, hq227, hs227⟩
    have H := H.growO g227 hp227 hq227 hs227; obtain ⟨av227, cv227, rfl⟩ := H.accShape (k := 0) rfl
    have hr1 := hr1.up g227.le
    have hr1' := hr1'.up g227.le
    have hr1'' := hr1''.up g227.le
    have hchk193 := hchk193.up g227.le
    have hchk215 := hchk215.up g227.le
    have hsr217 := hsr217.up g227.le
    have hsr218 := hsr218.up g227.le
    have hchk222_0 := hchk222_0.up g227.le
    have hr225 := hr225.up g227.le
    have hrow225 := hrow225.up g227.le
    have hr226 := hr226.up g227.le
    have hrow226 := hrow226.up g227.le
    have hle222 := hle222.trans g227.le
    have hd224 := hd224.trans g227.le
    refine ⟨_, rfl, ?_⟩
    refine R_nil ?_
    refine N_DK (Kn.of' H hd224 (SubL.cons 2 rfl (SubL.cons 3 rfl (SubL.cons 4 rfl SubL.nil)))) ?_
    refine RD_t 15 rfl (by kernel_rfl) rfl (fun _ hK => v_build bf102 rfl rfl) ?_
    refine RD_run [16] (by kernel_rfl) rfl (RDs.cons rfl ?_ RDs.nil)
    refine o_buildSlice H Tryz.underlying51 Tryz.sizeOf102 (fun w => ⟨_, Tryz.zeroValue102 w, rfl⟩) rfl rfl rfl rfl rfl rfl rfl ?_; intro b228 w228 hb228 H
    refine R_nil ?_
    refine N_DK (Kn.of' H hd224 (SubL.cons 3 rfl (SubL.cons 4 rfl (SubL.cons 5 rfl SubL.nil)))) ?_
    refine RD_run [17] (by kernel_rfl) rfl (RDs.cons rfl ?_ RDs.nil)
    refine o_append1 1 H (sz := 2) (bytes := 40) Tryz.underlying51 Tryz.typeInfo102 ⟨_, rfl, rfl⟩ rfl rfl rfl rfl rfl rfl rfl rfl rfl rfl (by omega) rfl ?_; intro v229 w229 H
    obtain ⟨G230, H, hsg230, hsr230⟩ := H.shut' (k := 0) rfl hchk227 (by first | assumption | (simp; done) | (simp; omega) | omega) (by first | assumption | (simp; done) | (simp; omega) | omega)
    have hr1 := hr1.up hsg230
    have hr1' := hr1'.up hsg230
    have hr1'' := hr1''.up hsg230
    have hchk193 := hchk193.up hsg230
    have hchk215 := hchk215.up hsg230
    have hsr217 := hsr217.up hsg230
    have hsr218 := hsr218.up hsg230
    have hchk222_0 := hchk222_0.up hsg230
    have hr225 := hr225.up hsg230
    have hrow225 := hrow225.up hsg230
    have hr226 := hr226.up hsg230
    have hrow226 := hrow226.up hsg230
    have hchk227 := hchk227.up hsg230
    have hle222 := hle222.trans hsg230
    have hd224 := hd224.trans hsg230
    have hchk229 := hchk222_0.snoc (show snapE _ ⟨z225.name, z225.tree⟩ _ from ⟨_, _, _, rfl, hi225, hsr230⟩) rfl
    obtain ⟨av229, cv229, rfl⟩ := H.accShape (k := 0) rfl
    refine R_nil ?_
    refine N_DK (Kn.of' H hd224 (SubL.cons 1 rfl (SubL.cons 2 rfl (SubL.cons 3 rfl SubL.nil)))) ?_
    refine RD_t 18 rfl (by kernel_rfl) rfl (fun _ hK => v_fieldAddr 2 Tryz.runUnderlying53 rfl Tryz.sizeOf51 rfl rfl) ?_
    refine RD_run [19] (by kernel_rfl) rfl (RDs.cons rfl ?_ RDs.nil)
    refine o_store_B 1 H Tryz.sizeOf51 rfl rfl rfl rfl rfl rfl rfl rfl ?_; intro w231 H
    refine R_nil ?_
    refine N_DKlast (by kernel_rfl) (by kernel_rfl) ?_
    refine N_B ?_
    refine N_K ?_
    refine W_region ?_
    refine o_move rfl rfl ?_
    refine o_add rfl rfl rfl ⟨by omega, by omega⟩ ?_
    refine o_assign rfl rfl ?_
    refine R_nil ?_
    refine N_LP (hJ := ⟨_, _, _, (xs ++ [⟨z225.name, z225.tree⟩]), k + 1, _, rfl, hle222, H, ?inv, rfl⟩) (hM := ?hM) (hf := ?hf) (hm := ?hm)
    case hM => (repeat (first | exact Sub.nil | refine Sub.cons rfl ?_))
    case hf => (repeat (first | exact Sub.nil | refine Sub.cons rfl ?_))
    case hm => omega
    case inv => exact ⟨hchk229, (by first | assumption | (simp; omega) | omega), (by exact ⟨by omega, by simp [hxl], by rw [Sp.take_succ' hz225, hxs]⟩)⟩
   intro hc223'
   try simp only [nrm] at hc223'
   refine W_exit ?_
   refine N_K_exit ?_
   refine N_LP_exit ?_
   refine N_B_same ?_
   refine N_K ?_
   refine q2 ?_
   refine o_loadagg_B 1 H Tryz.isAgg53 Tryz.sizeOf53 rfl rfl rfl rfl rfl ?_
   refine o_store_B 2 H Tryz.sizeOf53 rfl rfl rfl rfl rfl rfl rfl rfl ?_; intro w233 H
   refine q3 ?_
   refine W_ret ?_
   refine ret_gen (rs := [.cell 2 53]) (vs := [_]) Tryz.results56 ⟨⟨_, rfl, load_blk 2 H Tryz.isAgg53 Tryz.sizeOf53 rfl rfl rfl⟩, trivial⟩ ?_
   obtain rfl : k = d.snaps.length := by omega
   rw [List.take_length] at hxs
   subst hxs
   exact H.retO (k := 0) rfl ⟨_, _, _, rfl, AccOf.mk (by first | rfl | assumption | (simp; done) | (simp; omega) | omega) hchk222_0, hsr217, hsr218⟩ (acc_nd _ _ _ _ _)
 skip
 refine o_buildSlice H Tryz.underlying51 Tryz.sizeOf102 (fun w => ⟨_, Tryz.zeroValue102 w, rfl⟩) rfl rfl rfl rfl rfl rfl rfl ?_; intro b234 w234 hb234 H
 have H := H.blkAcc 2 (k := 0) (n := 0) rfl rfl (by decide)
 refine R_nil ?_
 refine N_DK (Kn.of' H hd4 (SubL.cons 2 rfl (SubL.cons 3 rfl SubL.nil))) ?_
 refine RD_run [2] (by kernel_rfl) rfl (RDs.cons rfl ?_ RDs.nil)
 refine o_call Tryz.call48 rfl rfl (l3Copy_c _ _ H.sub _ _ hr1 ) ?_
 rintro _ w235 ⟨G235, v235, _, g235, rfl, ⟨cs235, rfl, hchk235⟩, hp235, hq235, hs235⟩
 have H := H.growO g235 hp235 hq235 hs235; obtain ⟨av235, cv235, rfl⟩ := H.accShape (k := 0) rfl
 have hr1 := hr1.up g235.le
 have hr1' := hr1'.up g235.le
 have hr1'' := hr1''.up g235.le
 have hd4 := hd4.trans g235.le
 refine ⟨_, rfl, ?_⟩
 refine R_nil ?_
 refine N_DK (Kn.of' H hd4 (SubL.cons 3 rfl (SubL.cons 4 rfl SubL.nil))) ?_
 refine RD_run [5] (by kernel_rfl) rfl (RDs.cons rfl ?_ RDs.nil)
 refine o_call Tryz.call57 rfl rfl (l5All_c _ _ H.sub _ _ hr1' ) ?_
 rintro _ w236 ⟨G236, v236, _, g236, rfl, ⟨cs236, rfl, hchk236⟩, hp236, hq236, hs236⟩
 have H := H.growO g236 hp236 hq236 hs236; obtain ⟨av236, cv236, rfl⟩ := H.accShape (k := 0) rfl
 have hr1 := hr1.up g236.le
 have hr1' := hr1'.up g236.le
 have hr1'' := hr1''.up g236.le
 have hchk235 := hchk235.up g236.le
 have hd4 := hd4.trans g236.le
 refine ⟨_, rfl, ?_⟩
 refine R_nil ?_
 refine N_DK (Kn.of' H hd4 (SubL.cons 4 rfl (SubL.cons 5 rfl SubL.nil))) ?_
 refine RD_t 7 rfl (by kernel_rfl) rfl (fun _ hK => v_build bf53 rfl rfl) ?_
 refine RD_run [9] (by kernel_rfl) rfl (RDs.cons rfl ?_ RDs.nil)
 refine o_store_B 3 H Tryz.sizeOf53 rfl rfl rfl rfl rfl rfl rfl rfl ?_; intro w237 H
 refine R_nil ?_
 refine N_DKlast (by kernel_rfl) (by kernel_rfl) ?_
 refine N_K ?_
 refine W_seq ?_
 refine q2 ?_
 refine o_assign rfl rfl ?_
 refine q3 ?_
 refine W_block ?_
 obtain ⟨G238, H, hsg238, hsr238⟩ := H.shut' (k := 1) rfl hchk235 (by first | assumption | (simp; done) | (simp; omega) | omega) (by first | assumption | (simp; done) | (simp; omega) | omega)
 have hr1 := hr1.up hsg238
 have hr1' := hr1'.up hsg238
 have hr1'' := hr1''.up hsg238
 have hchk235 := hchk235.up hsg238
 have hchk236 := hchk236.up hsg238
 obtain ⟨G239, H, hsg239, hsr239⟩ := H.shut' (k := 0) rfl hchk236 (by first | assumption | (simp; done) | (simp; omega) | omega) (by first | assumption | (simp; done) | (simp; omega) | omega)
 have hr1 := hr1.up hsg239
 have hr1' := hr1'.up hsg239
 have hr1'' := hr1''.up hsg239
 have hchk235 := hchk235.up hsg239
 have hchk236 := hchk236.up hsg239
 have hsr238 := hsr238.up hsg239
 obtain ⟨ln240, hln240, H⟩ := H.nameAt (k := 1) (off := 2) rfl rfl
 obtain ⟨ln241, hln241, H⟩ := H.name (k := 2) rfl
 obtain ⟨ln242, hln242, H⟩ := H.name (k := 3) rfl
 refine W_loop (hf := (Sub.cons (t := 1) rfl (Sub.cons (t := 2) rfl (Sub.cons (t := 3) rfl Sub.nil)))) (J := fun M w m => ∃ (v : Value) (n : Nat) (cs : List Value) (xs : List (BSnap)) (k : Nat) (G : PH), M = [(4, .int .i64 (k : Int))] ∧ PLe G239 G ∧ Hp w0 G0 [] w G [acc 102 2 v n cs, blk b192 (cl (setN ln240 2 v) 53), blk b3 (cl ln241 53), blk b2 (cl ln242 53)] ∧ (Chk snapE 2 G cs xs ∧ n = xs.length ∧ k ≤ d.snaps.length ∧ xs.length = k ∧ xs = d.snaps.take k) ∧ m = (d.snaps.length - k)) (h0 := ⟨_, _, _, [], 0, _, rfl, PLe.refl _, H, ?inv, rfl⟩) (hM := ?hM) (round := ?round)
 case hM => (repeat (first | exact Sub.nil | refine Sub.cons rfl ?_))
 case inv => exact ⟨(Chk.nil (E := snapE) (sz := 2) (G := G239)),  by first | rfl | simp | (simp; omega) | omega, (by simp)⟩
 case round =>
  rintro _ w243 _ ⟨v, n, cs, xs, k, G243, rfl, hle243, H, hinv243, rfl⟩
  subst hln240
  subst hln241
  subst hln242
  have hr1 := hr1.up hle243
  have hr1' := hr1'.up hle243
  have hr1'' := hr1''.up hle243
  have hchk235 := hchk235.up hle243
  have hchk236 := hchk236.up hle243
  have hsr238 := hsr238.up hle243
  have hsr239 := hsr239.up hle243
  obtain ⟨hchk243_0, hn243_0, hinv243⟩ := hinv243
  obtain ⟨av243_0, cv243_0, rfl⟩ := H.accShape (k := 0) rfl
  obtain ⟨hk, hxl, hxs⟩ := hinv243
  refine W_seq ?_
  refine q2 ?_
  refine o_move rfl rfl ?_
  refine o_fieldAddr 2 Tryz.runUnderlying53 rfl Tryz.sizeOf51 rfl rfl rfl ?_
  refine o_load_B 3 H Tryz.isAgg51 rfl rfl rfl rfl ?_
  refine o_len_slice Tryz.underlying51 rfl rfl ?_
  refine o_lss rfl rfl rfl ?_
  refine q3 ?_
  refine W_cond rfl ?_ ?_
  ·intro hc244
   try simp only [nrm] at hc244
   refine W_skip ?_
   refine N_K ?_
   refine W_seq ?_
   refine W_block ?_
   refine W_drawK [1, 2, 3] 20 H (by kernel_rfl) rfl ?_; intro w245 H; have hd245 := PLe.refl G243
   refine RD_t 0 rfl (by kernel_rfl) rfl (fun _ hK => v_fieldAddr 2 Tryz.runUnderlying53 rfl Tryz.sizeOf51 rfl rfl) ?_
   refine RD_t 1 rfl (by kernel_rfl) rfl (fun _ hK => v_load_B 0 hK Tryz.isAgg51 rfl rfl rfl) ?_
   refine RD_t 2 rfl (by kernel_rfl) rfl (fun _ hK => v_fieldAddr 2 Tryz.runUnderlying53 rfl Tryz.sizeOf51 rfl rfl) ?_
   refine RD_t 3 rfl (by kernel_rfl) rfl (fun _ hK => v_load_B 2 hK Tryz.isAgg51 rfl rfl rfl) ?_
   refine RD_t 4 rfl (by kernel_rfl) rfl (fun _ hK => v_move rfl) ?_
   have hl246 := hr1''.len
   obtain ⟨b246, o246, z246, q246, ha246, hz246, hq246, hE246, hrow246, _⟩ := hr1''.at (i := k) (by omega)
   clear hq246
   obtain ⟨a246, m246, c246, rfl, hi246, hr246⟩ := hE246; have hy_hi246 : _ ≤ 16777216 := hi246; have hn_hr246 := hr246.len; have hx_hr246 : _ ≤ 1099511627776 := hr246.lim
   refine RD_t 5 rfl (by kernel_rfl) rfl (fun _ hK => v_index_P (i := k) ha246 Tryz.underlying51 Tryz.sizeOf102 rfl rfl rfl (by omega)) ?_
   refine RD_t 6 rfl (by kernel_rfl) rfl (fun _ hK => v_fieldAddr 0 Tryz.runUnderlying102 rfl Tryz.sizeOf9 rfl rfl) ?_
   refine RD_t 7 rfl (by kernel_rfl) rfl (fun _ hK => v_load_P hK Tryz.isAgg9 rfl (hrow246 0 _ rfl)) ?_
   refine RD_t 8 rfl (by kernel_rfl) rfl (fun _ hK => v_fieldAddr 2 Tryz.runUnderlying53 rfl Tryz.sizeOf51 rfl rfl) ?_
   refine RD_t 9 rfl (by kernel_rfl) rfl (fun _ hK => v_load_B 2 hK Tryz.isAgg51 rfl rfl rfl) ?_
   refine RD_t 10 rfl (by kernel_rfl) rfl (fun _ hK => v_move rfl) ?_
   have hl247 := hr1''.len
   obtain ⟨b247, o247, z247, q247, ha247, hz247, hq247, hE247, hrow247, _⟩ := hr1''.at (i := k) (by omega)
   clear hq247
   obtain ⟨a247, m247, c247, rfl, hi247, hr247⟩ := hE247; have hy_hi247 : _ ≤ 16777216 := hi247; have hn_hr247 := hr247.len; have hx_hr247 : _ ≤ 1099511627776 := hr247.lim
   have hzz247 : z246 = z247 := Option.some.inj (hz246.symm.trans hz247)
   subst hzz247
   refine RD_t 11 rfl (by kernel_rfl) rfl (fun _ hK => v_index_P (i := k) ha247 Tryz.underlying51 Tryz.sizeOf102 rfl rfl rfl (by omega)) ?_
   refine RD_t 12 rfl (by kernel_rfl) rfl (fun _ hK => v_fieldAddr 1 Tryz.runUnderlying102 rfl Tryz.sizeOf24 rfl rfl) ?_
   refine RD_t 13 rfl (by kernel_rfl) rfl (fun _ hK => v_load_P hK Tryz.isAgg24 rfl (hrow247 1 _ rfl)) ?_
   refine RD_run [14] (by kernel_rfl) rfl (RDs.cons rfl ?_ RDs.nil)
   refine o_call Tryz.call57 rfl rfl (l5All_c _ _ H.sub _ _ hr247 ) ?_
   rintro _ w248 ⟨G248, v248, _, g248, rfl, ⟨cs248, rfl, hchk248⟩, hp248, hq248, hs248⟩
   have H := H.growO g248 hp248 hq248 hs248; obtain ⟨av248, cv248, rfl⟩ := H.accShape (k := 0) rfl
   have hr1 := hr1.up g248.le
   have hr1' := hr1'.up g248.le
   have hr1'' := hr1''.up g248.le
   have hchk235 := hchk235.up g248.le
   have hchk236 := hchk236.up g248.le
   have hsr238 := hsr238.up g248.le
   have hsr239 := hsr239.up g248.le
   have hchk243_0 := hchk243_0.up g248.le
   have hr246 := hr246.up g248.le
   have hrow246 := hrow246.up g248.le
   have hr247 := hr247.up g248.le
   have hrow247 := hrow247.up g248.le
   have hle243 := hle243.trans g248.le
   have hd245 := hd245.trans g248.le
   refine ⟨_, rfl, ?_⟩
   refine R_nil ?_
   refine N_DK (Kn.of' H hd245 (SubL.cons 2 rfl (SubL.cons 3 rfl (SubL.cons 4 rfl SubL.nil)))) ?_
   refine RD_t 15 rfl (by kernel_rfl) rfl (fun _ hK => v_build bf102 rfl rfl) ?_
   refine RD_run [16] (by kernel_rfl) rfl (RDs.cons rfl ?_ RDs.nil)
   refine o_buildSlice H Tryz.underlying51 Tryz.sizeOf102 (fun w => ⟨_, Tryz.zeroValue102 w, rfl⟩) rfl rfl rfl rfl rfl rfl rfl ?_; intro b249 w249 hb249 H
   refine R_nil ?_
   refine N_DK (Kn.of' H hd245 (SubL.cons 3 rfl (SubL.cons 4 rfl (SubL.cons 5 rfl SubL.nil)))) ?_
   refine RD_run [17] (by kernel_rfl) rfl (RDs.cons rfl ?_ RDs.nil)
   refine o_append1 1 H (sz := 2) (bytes := 40) Tryz.underlying51 Tryz.typeInfo102 ⟨_, rfl, rfl⟩ rfl rfl rfl rfl rfl rfl rfl rfl rfl rfl (by omega) rfl ?_; intro v250 w250 H
   obtain ⟨G251, H, hsg251, hsr251⟩ := H.shut' (k := 0) rfl hchk248 (by first | assumption | (simp; done) | (simp; omega) | omega) (by first | assumption | (simp; done) | (simp; omega) | omega)
   have hr1 := hr1.up hsg251
   have hr1' := hr1'.up hsg251
   have hr1'' := hr1''.up hsg251
   have hchk235 := hchk235.up hsg251
   have hchk236 := hchk236.up hsg251
   have hsr238 := hsr238.up hsg251
   have hsr239 := hsr239.up hsg251
   have hchk243_0 := hchk243_0.up hsg251
   have hr246 := hr246.up hsg251
   have hrow246 := hrow246.up hsg251
   have hr247 := hr247.up hsg251
   have hrow247 := hrow247.up hsg251
   have hchk248 := hchk248.up hsg251
   have hle243 := hle243.trans hsg251
   have hd245 := hd245.trans hsg251
   have hchk250 := hchk243_0.snoc (show snapE _ ⟨z246.name, z246.tree⟩ _ from ⟨_, _, _, rfl, hi246, hsr251⟩) rfl
   obtain ⟨av250, cv250, rfl⟩ := H.accShape (k := 0) rfl
   refine R_nil ?_
   refine N_DK (Kn.of' H hd245 (SubL.cons 1 rfl (SubL.cons 2 rfl (SubL.cons 3 rfl SubL.nil)))) ?_
   refine RD_t 18 rfl (by kernel_rfl) rfl (fun _ hK => v_fieldAddr 2 Tryz.runUnderlying53 rfl Tryz.sizeOf51 rfl rfl) ?_
   refine RD_run [19] (by kernel_rfl) rfl (RDs.cons rfl ?_ RDs.nil)
   refine o_store_B 1 H Tryz.sizeOf51 rfl rfl rfl rfl rfl rfl rfl rfl ?_; intro w252 H
   refine R_nil ?_
   refine N_DKlast (by kernel_rfl) (by kernel_rfl) ?_
   refine N_B ?_
   refine N_K ?_
   refine W_region ?_
   refine o_move rfl rfl ?_
   refine o_add rfl rfl rfl ⟨by omega, by omega⟩ ?_
   refine o_assign rfl rfl ?_
   refine R_nil ?_
   refine N_LP (hJ := ⟨_, _, _, (xs ++ [⟨z246.name, z246.tree⟩]), k + 1, _, rfl, hle243, H, ?inv, rfl⟩) (hM := ?hM) (hf := ?hf) (hm := ?hm)
   case hM => (repeat (first | exact Sub.nil | refine Sub.cons rfl ?_))
   case hf => (repeat (first | exact Sub.nil | refine Sub.cons rfl ?_))
   case hm => omega
   case inv => exact ⟨hchk250, (by first | assumption | (simp; omega) | omega), (by exact ⟨by omega, by simp [hxl], by rw [Sp.take_succ' hz246, hxs]⟩)⟩
  intro hc244'
  try simp only [nrm] at hc244'
  refine W_exit ?_
  refine N_K_exit ?_
  refine N_LP_exit ?_
  refine N_B_same ?_
  refine N_K ?_
  refine q2 ?_
  refine o_loadagg_B 1 H Tryz.isAgg53 Tryz.sizeOf53 rfl rfl rfl rfl rfl ?_
  refine o_store_B 2 H Tryz.sizeOf53 rfl rfl rfl rfl rfl rfl rfl rfl ?_; intro w254 H
  refine q3 ?_
  refine W_ret ?_
  refine ret_gen (rs := [.cell 2 53]) (vs := [_]) Tryz.results56 ⟨⟨_, rfl, load_blk 2 H Tryz.isAgg53 Tryz.sizeOf53 rfl rfl rfl⟩, trivial⟩ ?_
  obtain rfl : k = d.snaps.length := by omega
  rw [List.take_length] at hxs
  subst hxs
  exact H.retO (k := 0) rfl ⟨_, _, _, rfl, AccOf.mk (by first | rfl | assumption | (simp; done) | (simp; omega) | omega) hchk243_0, hsr238, hsr239⟩ (acc_nd _ _ _ _ _)
end Go.Proofs.Tst

namespace Go.Proofs.Tst
open Go Fw
theorem SnapTake_c (w0 : World) (G0 : PH) (hG : PSub G0 w0) (cd : List Value) (d : BDisk) (hd : diskE G0 d cd) (name : Bs) (hname : name.length ≤ 16777216)  :
  Calls Tryz.prog 20 #[.agg cd.toArray, str name] w0 (RetO w0 G0 (fun G val r => ∃ u u1 u2, val = .tuple #[.agg #[u, u1, u2], .bool (Sp.SnapTake d name).isSome] ∧ AccOf snapE 2 102 (((Sp.SnapTake d name).map (·.snaps)).getD []) G u2 r ∧ RdH G u (((Sp.SnapTake d name).map (·.store)).getD []) ∧ RdItems G u1 (((Sp.SnapTake d name).map (·.tree)).getD []))) := by
 obtain ⟨a1, m1, c1, a1', m1', c1', a1'', m1'', c1'', rfl, hr1, hr1', hr1''⟩ := hd; have hn_hr1 := hr1.len; have hx_hr1 : _ ≤ 1099511627776 := hr1.lim; have hn_hr1q := hr1'.len; have hx_hr1q : _ ≤ 1099511627776 := hr1'.lim; have hn_hr1qq := hr1''.len; have hx_hr1qq : _ ≤ 1099511627776 := hr1''.lim
 have H := Hp.init hG
 refine calls_of_W (l := [_, str name]) Tryz.func20 rfl Tryz.ntmps20 rfl ?_
 refine q2 ?_
 refine o_box H rfl rfl rfl ?_; intro b2 w2 hb2 H
 refine o_alloc H Tryz.zeroValue53 rfl rfl ?_; intro b3 w3 hb3 H
 refine o_assign rfl rfl ?_
 refine q3 ?_
 refine W_seq ?_
 refine q2 ?_
 refine o_loadagg_B 1 H Tryz.isAgg53 Tryz.sizeOf53 rfl rfl rfl rfl rfl ?_
 refine o_call Tryz.call52 rfl rfl (DiskValid_c _ _ H.sub _ _ ⟨_, _, _, _, _, _, _, _, _, rfl, hr1, hr1', hr1''⟩ ) ?_
 rintro _ w4 ⟨rfl, ew4⟩; have H := H.step ew4; refine ⟨_, rfl, ?_⟩
 refine o_not rfl rfl ?_
 refine o_move rfl rfl ?_
 refine R_case (t := 12) rfl ?_ ?_
 ·intro hc5
  try simp only [nrm] at hc5
  refine R_pass rfl (yl_ne rfl rfl rfl) ?_
  refine R_pass rfl (yl_ne rfl rfl rfl) ?_
  refine R_pass rfl (yl_ne rfl rfl rfl) ?_
  refine o_pick_t rfl rfl rfl ?_
  refine o_move rfl rfl ?_
  refine R_pass rfl (yl_ne rfl rfl rfl) ?_
  refine R_pass rfl (yl_ne rfl rfl rfl) ?_
  refine R_pass rfl (yl_ne rfl rfl rfl) ?_
  refine R_pass rfl (yl_ne rfl rfl rfl) ?_
  refine R_pass rfl (yl_ne rfl rfl rfl) ?_
  refine o_pick_t rfl rfl rfl ?_
  refine o_move rfl rfl ?_
  refine R_pass rfl (yl_ne rfl rfl rfl) ?_
  refine R_pass rfl (yl_ne rfl rfl rfl) ?_
  refine R_pass rfl (yl_ne rfl rfl rfl) ?_
  refine R_pass rfl (yl_ne rfl rfl rfl) ?_
  refine o_pick_t rfl rfl rfl ?_
  refine q3 ?_
  refine W_true rfl ?_
  refine q2 ?_
  refine o_build bf53 rfl rfl rfl ?_
  refine o_store_B 0 H Tryz.sizeOf53 rfl rfl rfl rfl rfl rfl rfl rfl ?_; intro w6 H
  refine o_assign rfl rfl ?_
  refine q3 ?_
  refine W_ret ?_
  refine N_K_ret ?_
  refine ret_gen (rs := [.cell 4 53, .tmp 5]) (vs := [_, _]) Tryz.results20 ⟨⟨_, rfl, load_blk 0 H Tryz.isAgg53 Tryz.sizeOf53 rfl rfl rfl⟩, rfl, trivial⟩ ?_
  have hN : Sp.SnapTake d name = none := by simp [Sp.SnapTake, hc5]
  have H := H.addNil 102 2
  exact H.retO (k := 0) rfl (by rw [hN]; exact ⟨_, _, _, rfl, AccOf.mk rfl Chk.nil, RdS.nil _ _ _, RdS.nil _ _ _⟩) (acc_nd _ _ _ _ _)
 intro hc5'
 try simp only [nrm] at hc5'
 refine R_guard (yl rfl rfl) ?_
 refine o_move rfl rfl ?_
 refine R_guard (yl rfl rfl) ?_
 refine o_call Tryz.call53 rfl rfl (l1Word_c _ _ hname ) ?_
 rintro _ w7 ⟨rfl, ew7⟩; have H := H.step ew7; refine ⟨_, rfl, ?_⟩
 refine R_guard (yl rfl rfl) ?_
 refine o_not rfl rfl ?_
 refine o_pick_f rfl rfl rfl ?_
 refine o_move rfl rfl ?_
 refine R_case (t := 17) rfl ?_ ?_
 ·intro hc8
  try simp only [nrm] at hc8
  refine R_pass rfl (yl_ne rfl rfl rfl) ?_
  refine R_pass rfl (yl_ne rfl rfl rfl) ?_
  refine R_pass rfl (yl_ne rfl rfl rfl) ?_
  refine R_pass rfl (yl_ne rfl rfl rfl) ?_
  refine R_pass rfl (yl_ne rfl rfl rfl) ?_
  refine o_pick_t rfl rfl rfl ?_
  refine o_move rfl rfl ?_
  refine R_pass rfl (yl_ne rfl rfl rfl) ?_
  refine R_pass rfl (yl_ne rfl rfl rfl) ?_
  refine R_pass rfl (yl_ne rfl rfl rfl) ?_
  refine R_pass rfl (yl_ne rfl rfl rfl) ?_
  refine o_pick_t rfl rfl rfl ?_
  refine q3 ?_
  refine W_true rfl ?_
  refine q2 ?_
  refine o_build bf53 rfl rfl rfl ?_
  refine o_store_B 0 H Tryz.sizeOf53 rfl rfl rfl rfl rfl rfl rfl rfl ?_; intro w9 H
  refine o_assign rfl rfl ?_
  refine q3 ?_
  refine W_ret ?_
  refine N_K_ret ?_
  refine ret_gen (rs := [.cell 4 53, .tmp 5]) (vs := [_, _]) Tryz.results20 ⟨⟨_, rfl, load_blk 0 H Tryz.isAgg53 Tryz.sizeOf53 rfl rfl rfl⟩, rfl, trivial⟩ ?_
  have hN : Sp.SnapTake d name = none := by simp [Sp.SnapTake, hc8]
  have H := H.addNil 102 2
  exact H.retO (k := 0) rfl (by rw [hN]; exact ⟨_, _, _, rfl, AccOf.mk rfl Chk.nil, RdS.nil _ _ _, RdS.nil _ _ _⟩) (acc_nd _ _ _ _ _)
 intro hc8'
 try simp only [nrm] at hc8'
 refine R_guard (yl rfl rfl) ?_
 refine o_fieldAddr 2 Tryz.runUnderlying53 rfl Tryz.sizeOf51 rfl rfl rfl ?_
 refine R_guard (yl rfl rfl) ?_
 refine o_load_B 1 H Tryz.isAgg51 rfl rfl rfl rfl ?_
 refine R_guard (yl rfl rfl) ?_
 refine o_move rfl rfl ?_
 refine R_guard (yl rfl rfl) ?_
 refine o_call Tryz.call54 rfl rfl (l12At_c _ _ H.sub _ _ hr1'' _ hname ) ?_
 rintro _ w10 ⟨rfl, ew10⟩; have H := H.step ew10; refine ⟨_, rfl, ?_⟩
 refine R_guard (yl rfl rfl) ?_
 refine o_geq rfl rfl rfl ?_
 refine o_pick_f rfl rfl rfl ?_
 refine o_move rfl rfl ?_
 refine R_case (t := 24) rfl ?_ ?_
 ·intro hc11
  try simp only [nrm] at hc11
  refine R_pass rfl (yl_ne rfl rfl rfl) ?_
  refine R_pass rfl (yl_ne rfl rfl rfl) ?_
  refine R_pass rfl (yl_ne rfl rfl rfl) ?_
  refine R_pass rfl (yl_ne rfl rfl rfl) ?_
  refine o_pick_t rfl rfl rfl ?_
  refine q3 ?_
  refine W_true rfl ?_
  refine q2 ?_
  refine o_build bf53 rfl rfl rfl ?_
  refine o_store_B 0 H Tryz.sizeOf53 rfl rfl rfl rfl rfl rfl rfl rfl ?_; intro w12 H
  refine o_assign rfl rfl ?_
  refine q3 ?_
  refine W_ret ?_
  refine N_K_ret ?_
  refine ret_gen (rs := [.cell 4 53, .tmp 5]) (vs := [_, _]) Tryz.results20 ⟨⟨_, rfl, load_blk 0 H Tryz.isAgg53 Tryz.sizeOf53 rfl rfl rfl⟩, rfl, trivial⟩ ?_
  have hN : Sp.SnapTake d name = none := by (obtain ⟨i, x, ia, ib, ic, ie, ig⟩ := Sp.at_nat hc11); simp [Sp.SnapTake, Sp.atS, ia]
  have H := H.addNil 102 2
  exact H.retO (k := 0) rfl (by rw [hN]; exact ⟨_, _, _, rfl, AccOf.mk rfl Chk.nil, RdS.nil _ _ _, RdS.nil _ _ _⟩) (acc_nd _ _ _ _ _)
 intro hc11'
 try simp only [nrm] at hc11'
 refine R_guard (yl rfl rfl) ?_
 refine o_fieldAddr 2 Tryz.runUnderlying53 rfl Tryz.sizeOf51 rfl rfl rfl ?_
 refine R_guard (yl rfl rfl) ?_
 refine o_load_B 1 H Tryz.isAgg51 rfl rfl rfl rfl ?_
 refine R_guard (yl rfl rfl) ?_
 refine o_len_slice Tryz.underlying51 rfl rfl ?_
 refine R_guard (yl rfl rfl) ?_
 refine o_eql rfl rfl rfl ?_
 refine o_pick_f rfl rfl rfl ?_
 refine q3 ?_
 refine W_cond rfl ?_ ?_
 ·intro hc13
  try simp only [nrm] at hc13
  refine q2 ?_
  refine o_build bf53 rfl rfl rfl ?_
  refine o_store_B 0 H Tryz.sizeOf53 rfl rfl rfl rfl rfl rfl rfl rfl ?_; intro w14 H
  refine o_assign rfl rfl ?_
  refine q3 ?_
  refine W_ret ?_
  refine N_K_ret ?_
  refine ret_gen (rs := [.cell 4 53, .tmp 5]) (vs := [_, _]) Tryz.results20 ⟨⟨_, rfl, load_blk 0 H Tryz.isAgg53 Tryz.sizeOf53 rfl rfl rfl⟩, rfl, trivial⟩ ?_
  have hN : Sp.SnapTake d name = none := by simp [Sp.SnapTake, show d.snaps.length = 6 by omega]
  have H := H.addNil 102 2
  exact H.retO (k := 0) rfl (by rw [hN]; exact ⟨_, _, _, rfl, AccOf.mk rfl Chk.nil, RdS.nil _ _ _, RdS.nil _ _ _⟩) (acc_nd _ _ _ _ _)
 intro hc13'
 try simp only [nrm] at hc13'
 refine W_skip ?_
 refine N_K ?_
 refine q2 ?_
 refine o_fieldAddr 0 Tryz.runUnderlying53 rfl Tryz.sizeOf23 rfl rfl rfl ?_
 refine o_load_B 1 H Tryz.isAgg23 rfl rfl rfl rfl ?_
 refine o_fieldAddr 1 Tryz.runUnderlying53 rfl Tryz.sizeOf24 rfl rfl rfl ?_
 refine o_load_B 1 H Tryz.isAgg24 rfl rfl rfl rfl ?_
 refine o_call Tryz.call55 rfl rfl (l12Keep_c _ _ H.sub _ _ hr1 _ _ hr1' ) ?_
 rintro _ w15 ⟨G15, _, _, g15, rfl, ⟨u15_0, rfl, ⟨cs15, rfl, hchk15⟩⟩, hp15, hq15, hs15⟩
 have H := H.growO g15 hp15 hq15 hs15; obtain ⟨av15, cv15, rfl⟩ := H.accShape (k := 0) rfl
 have hr1 := hr1.up g15.le
 have hr1' := hr1'.up g15.le
 have hr1'' := hr1''.up g15.le
 refine ⟨_, rfl, ?_⟩
 have hkl := Sp.l12Keep_len d.store d.tree
 refine o_move rfl rfl ?_
 refine o_extract rfl rfl rfl ?_
 refine o_extract rfl rfl rfl ?_
 refine o_assign rfl rfl ?_
 refine o_assign rfl rfl ?_
 refine q3 ?_
 refine W_seq ?_
 refine q2 ?_
 refine o_move rfl rfl ?_
 refine o_not rfl rfl ?_
 refine q3 ?_
 refine W_cond rfl ?_ ?_
 ·intro hc16
  try simp only [nrm] at hc16
  refine q2 ?_
  refine o_build bf53 rfl rfl rfl ?_
  refine o_store_B 1 H Tryz.sizeOf53 rfl rfl rfl rfl rfl rfl rfl rfl ?_; intro w17 H
  refine o_assign rfl rfl ?_
  refine q3 ?_
  refine W_ret ?_
  refine N_K_ret ?_
  refine ret_gen (rs := [.cell 4 53, .tmp 5]) (vs := [_, _]) Tryz.results20 ⟨⟨_, rfl, load_blk 1 H Tryz.isAgg53 Tryz.sizeOf53 rfl rfl rfl⟩, rfl, trivial⟩ ?_
  have hN : Sp.SnapTake d name = none := by (have hno : Sp.l12Keep d.store d.tree = none := by simpa using hc16); simp [Sp.SnapTake, hno]
  have H := H.addNil 102 2
  exact H.retO (k := 0) rfl (by rw [hN]; exact ⟨_, _, _, rfl, AccOf.mk rfl Chk.nil, RdS.nil _ _ _, RdS.nil _ _ _⟩) (acc_nd _ _ _ _ _)
 intro hc16'
 try simp only [nrm] at hc16'
 refine W_skip ?_
 refine N_K ?_
 refine q2 ?_
 refine o_loadagg_B 2 H Tryz.isAgg53 Tryz.sizeOf53 rfl rfl rfl rfl rfl ?_
 refine o_call Tryz.call56 rfl rfl (l12Copy_c _ _ H.sub _ _ ⟨_, _, _, _, _, _, _, _, _, rfl, hr1, hr1', hr1''⟩ ) ?_
 rintro _ w18 ⟨G18, _, _, g18, rfl, ⟨u18_0, u18_1, u18_2, rfl, ⟨cs18, rfl, hchk18⟩, hr18_0, hr18_1⟩, hp18, hq18, hs18⟩
 have H := H.growO g18 hp18 hq18 hs18; obtain ⟨av18, cv18, rfl⟩ := H.accShape (k := 0) rfl
 have hr1 := hr1.up g18.le
 have hr1' := hr1'.up g18.le
 have hr1'' := hr1''.up g18.le
 have hchk15 := hchk15.up g18.le
 obtain ⟨a18_0, k18_0, rfl⟩ := hr18_0.shape; have hx_hr18_0 : _ ≤ 1099511627776 := hr18_0.lim
 obtain ⟨a18_1, k18_1, rfl⟩ := hr18_1.shape; have hx_hr18_1 : _ ≤ 1099511627776 := hr18_1.lim
 refine ⟨_, rfl, ?_⟩
 refine o_alloc H Tryz.zeroValue53 rfl rfl ?_; intro b19 w19 hb19 H
 refine o_store_B 0 H Tryz.sizeOf53 rfl rfl rfl rfl rfl rfl rfl rfl ?_; intro w20 H
 refine q1 ?_
 refine o_move rfl rfl ?_
 refine o_fieldAddr 0 Tryz.runUnderlying53 rfl Tryz.sizeOf23 rfl rfl rfl ?_
 refine o_store_B 0 H Tryz.sizeOf23 rfl rfl rfl rfl rfl rfl rfl rfl ?_; intro w21 H
 refine q3 ?_
 refine W_seq ?_
 refine W_drawK [0, 3, 4] 11 H (by kernel_rfl) rfl ?_; intro w22 H; have hd22 := PLe.refl G18
 refine RD_t 0 rfl (by kernel_rfl) rfl (fun _ hK => v_fieldAddr 2 Tryz.runUnderlying53 rfl Tryz.sizeOf51 rfl rfl) ?_
 refine RD_t 1 rfl (by kernel_rfl) rfl (fun _ hK => v_load_B 0 hK Tryz.isAgg51 rfl rfl rfl) ?_
 refine RD_t 2 rfl (by kernel_rfl) rfl (fun _ hK => v_move rfl) ?_
 refine RD_t 3 rfl (by kernel_rfl) rfl (fun _ hK => v_fieldAddr 1 Tryz.runUnderlying53 rfl Tryz.sizeOf24 rfl rfl) ?_
 refine RD_t 4 rfl (by kernel_rfl) rfl (fun _ hK => v_load_B 2 hK Tryz.isAgg24 rfl rfl rfl) ?_
 refine RD_run [5] (by kernel_rfl) rfl (RDs.cons rfl ?_ RDs.nil)
 refine o_call Tryz.call57 rfl rfl (l5All_c _ _ H.sub _ _ hr1' ) ?_
 rintro _ w23 ⟨G23, v23, _, g23, rfl, ⟨cs23, rfl, hchk23⟩, hp23, hq23, hs23⟩
 have H := H.growO g23 hp23 hq23 hs23; obtain ⟨av23, cv23, rfl⟩ := H.accShape (k := 0) rfl
 have hr1 := hr1.up g23.le
 have hr1' := hr1'.up g23.le
 have hr1'' := hr1''.up g23.le
 have hchk15 := hchk15.up g23.le
 have hr18_0 := hr18_0.up g23.le
 have hr18_1 := hr18_1.up g23.le
 have hchk18 := hchk18.up g23.le
 have hd22 := hd22.trans g23.le
 refine ⟨_, rfl, ?_⟩
 refine R_nil ?_
 refine N_DK (Kn.of' H hd22 (SubL.cons 1 rfl (SubL.cons 4 rfl (SubL.cons 5 rfl SubL.nil)))) ?_
 refine RD_t 6 rfl (by kernel_rfl) rfl (fun _ hK => v_build bf102 rfl rfl) ?_
 refine RD_run [7] (by kernel_rfl) rfl (RDs.cons rfl ?_ RDs.nil)
 refine o_buildSlice H Tryz.underlying51 Tryz.sizeOf102 (fun w => ⟨_, Tryz.zeroValue102 w, rfl⟩) rfl rfl rfl rfl rfl rfl rfl ?_; intro b24 w24 hb24 H
 refine R_nil ?_
 refine N_DK (Kn.of' H hd22 (SubL.cons 2 rfl (SubL.cons 5 rfl (SubL.cons 6 rfl SubL.nil)))) ?_
 refine RD_run [8] (by kernel_rfl) rfl (RDs.cons rfl ?_ RDs.nil)
 refine o_append1 2 H (sz := 2) (bytes := 40) Tryz.underlying51 Tryz.typeInfo102 ⟨_, rfl, rfl⟩ rfl rfl rfl rfl rfl rfl rfl rfl rfl rfl (by omega) rfl ?_; intro v25 w25 H
 obtain ⟨G26, H, hsg26, hsr26⟩ := H.shut' (k := 0) rfl hchk23 (by first | assumption | (simp; done) | (simp; omega) | omega) (by first | assumption | (simp; done) | (simp; omega) | omega)
 have hr1 := hr1.up hsg26
 have hr1' := hr1'.up hsg26
 have hr1'' := hr1''.up hsg26
 have hchk15 := hchk15.up hsg26
 have hr18_0 := hr18_0.up hsg26
 have hr18_1 := hr18_1.up hsg26
 have hchk18 := hchk18.up hsg26
 have hchk23 := hchk23.up hsg26
 have hd22 := hd22.trans hsg26
 have hchk25 := hchk18.snoc (show snapE _ ⟨name, d.tree⟩ _ from ⟨_, _, _, rfl, hname, hsr26⟩) rfl
 obtain ⟨av25, cv25, rfl⟩ := H.accShape (k := 1) rfl
 refine R_nil ?_
 refine N_DK (Kn.of' H hd22 (SubL.cons 0 rfl (SubL.cons 3 rfl (SubL.cons 4 rfl SubL.nil)))) ?_
 refine RD_t 9 rfl (by kernel_rfl) rfl (fun _ hK => v_fieldAddr 2 Tryz.runUnderlying53 rfl Tryz.sizeOf51 rfl rfl) ?_
 refine RD_run [10] (by kernel_rfl) rfl (RDs.cons rfl ?_ RDs.nil)
 refine o_store_B 0 H Tryz.sizeOf51 rfl rfl rfl rfl rfl rfl rfl rfl ?_; intro w27 H
 refine R_nil ?_
 refine N_DKlast (by kernel_rfl) (by kernel_rfl) ?_
 refine N_K ?_
 refine q2 ?_
 refine o_loadagg_B 0 H Tryz.isAgg53 Tryz.sizeOf53 rfl rfl rfl rfl rfl ?_
 refine o_store_B 3 H Tryz.sizeOf53 rfl rfl rfl rfl rfl rfl rfl rfl ?_; intro w28 H
 refine o_assign rfl rfl ?_
 refine q3 ?_
 refine W_ret ?_
 refine ret_gen (rs := [.cell 4 53, .tmp 5]) (vs := [_, _]) Tryz.results20 ⟨⟨_, rfl, load_blk 3 H Tryz.isAgg53 Tryz.sizeOf53 rfl rfl rfl⟩, rfl, trivial⟩ ?_
 obtain ⟨G529, H, hsg529, hsr529⟩ := H.shut' (k := 2) rfl hchk15 (by first | assumption | (simp; done) | (simp; omega) | omega) (by first | assumption | (simp; done) | (simp; omega) | omega)
 have hr1 := hr1.up hsg529
 have hr1' := hr1'.up hsg529
 have hr1'' := hr1''.up hsg529
 have hchk15 := hchk15.up hsg529
 have hr18_0 := hr18_0.up hsg529
 have hr18_1 := hr18_1.up hsg529
 have hchk18 := hchk18.up hsg529
 have hchk23 := hchk23.up hsg529
 have hsr26 := hsr26.up hsg529
 have hchk25 := hchk25.up hsg529
 have hY : Sp.SnapTake d name = some ⟨(Sp.l12Keep d.store d.tree).getD [], d.tree, d.snaps ++ [⟨name, d.tree⟩]⟩ := by (obtain ⟨p, hp⟩ := Option.isSome_iff_exists.1 hc16'); (have hat : Sp.atS d.snaps name = none := Sp.at_none hc11'); simp [Sp.SnapTake, hc5', hc8', hat, hp, show ¬ d.snaps.length = 6 by omega]
 exact H.retO (k := 1) rfl (by rw [hY]; exact ⟨_, _, _, rfl, AccOf.mk (by first | rfl | assumption | (simp; done) | (simp; omega) | omega) hchk25, hsr529, hr18_1⟩) (acc_nd _ _ _ _ _)
end Go.Proofs.Tst

namespace Go.Proofs.Tst
open Go Fw
theorem SnapTakeP_c (w0 : World) (G0 : PH) (hG : PSub G0 w0) (cd : List Value) (d : BDisk) (hd : diskE G0 d cd) (name : Bs) (hname : name.length ≤ 16777216) :
  Calls Tryz.prog 20 #[.agg cd.toArray, str name] w0 (RetP w0 G0 (fun G val => ∃ cs, val = .tuple #[.agg cs.toArray, .bool (Sp.SnapTake d name).isSome] ∧ diskE G ((Sp.SnapTake d name).getD ⟨[], [], []⟩) cs)) := by
 have hln : d.snaps.length ≤ 1099511627776 - 1 ∨ True := .inr trivial
 refine (SnapTake_c w0 G0 hG cd d hd name hname).mono ?_
 rintro _ w' ⟨G, v, r, g, rfl, ⟨u, u1, u2, rfl, ⟨cells, rfl, hchk⟩, h1, h2⟩, hp, hq, hs⟩
 have H := (Hp.init hG).growO g hp hq hs
 have hb : (((Sp.SnapTake d name).map (·.snaps)).getD []).length ≤ 1099511627776 := take_lim d name
 obtain ⟨G2, H2, hle, hr⟩ := H.shut' (k := 0) rfl hchk rfl hb
 have e1 : ((Sp.SnapTake d name).map (·.store)).getD [] = ((Sp.SnapTake d name).getD ⟨[], [], []⟩).store := by cases Sp.SnapTake d name <;> rfl
 have e2 : ((Sp.SnapTake d name).map (·.tree)).getD [] = ((Sp.SnapTake d name).getD ⟨[], [], []⟩).tree := by cases Sp.SnapTake d name <;> rfl
 have e3 : ((Sp.SnapTake d name).map (·.snaps)).getD [] = ((Sp.SnapTake d name).getD ⟨[], [], []⟩).snaps := by cases Sp.SnapTake d name <;> rfl
 rw [e1] at h1; rw [e2] at h2; rw [e3] at hr
 obtain ⟨a1, c1, rfl⟩ := h1.shape
 obtain ⟨a2, c2, rfl⟩ := h2.shape
 obtain ⟨a3, c3, rfl⟩ := hr.shape
 exact H2.retP ⟨[_, _, _], rfl, _, _, _, _, _, _, _, _, _, rfl, h1.up hle, h2.up hle, hr⟩
end Go.Proofs.Tst

namespace Go.Proofs.Tst
open Go Fw
theorem law_c (w0 : World) (G0 : PH) (hG : PSub G0 w0) (caD : List Value) (aD : BDisk) (haD : diskE G0 aD caD) (aName : Bs) (haName : aName.length ≤ 16777216)  :
  Calls Tryz.prog 6 #[.agg caD.toArray, str aName] w0 (Rets w0 (.bool true)) := by
 obtain ⟨a1, m1, c1, a1', m1', c1', a1'', m1'', c1'', rfl, hr1, hr1', hr1''⟩ := haD; have hn_hr1 := hr1.len; have hx_hr1 : _ ≤ 1099511627776 := hr1.lim; have hn_hr1q := hr1'.len; have hx_hr1q : _ ≤ 1099511627776 := hr1'.lim; have hn_hr1qq := hr1''.len; have hx_hr1qq : _ ≤ 1099511627776 := hr1''.lim
 have hcd0 := cDisk_le aD
 have hcD := take_cnt aD aName
 have H := Hp.init hG
 refine calls_of_W (l := [_, str aName]) Tryz.func6 rfl Tryz.ntmps6 rfl ?_
 refine q2 ?_
 refine o_box H rfl rfl rfl ?_; intro b2 w2 hb2 H
 refine o_assign rfl rfl ?_
 refine q3 ?_
 refine W_seq ?_
 refine q2 ?_
 refine o_move rfl rfl ?_
 refine o_len_str Tryz.underlying9 rfl rfl ?_
 refine o_gtr rfl rfl rfl ?_
 refine q3 ?_
 refine W_cond rfl ?_ ?_
 ·intro hc3
  try simp only [nrm] at hc3
  refine q2 ?_
  refine o_assign rfl rfl ?_
  refine q3 ?_
  refine W_ret ?_
  refine N_K_ret ?_
  refine ret_gen (rs := [.tmp 4]) (vs := [_]) Tryz.results6 ⟨rfl, trivial⟩ ?_
  exact H.rets rfl
 intro hc3'
 try simp only [nrm] at hc3'
 refine W_skip ?_
 refine N_K ?_
 refine q2 ?_
 refine o_assign rfl rfl ?_
 refine q1 ?_
 refine o_loadagg_B 0 H Tryz.isAgg49 Tryz.sizeOf49 rfl rfl rfl rfl rfl ?_
 refine o_move rfl rfl ?_
 refine o_call Tryz.call19 rfl rfl (w_szDisk_c _ _ H.sub _ aD ⟨_, _, _, _, _, _, _, _, _, rfl, hr1, hr1', hr1''⟩ _ ⟨by omega, by omega⟩) ?_
 rintro _ w4 ⟨_, rfl, ew4, ⟨r4, rfl, hra4⟩⟩
 skip
 have H := H.step ew4; refine ⟨_, rfl, ?_⟩
 refine o_assign rfl rfl ?_
 refine q3 ?_
 refine W_seq ?_
 refine q2 ?_
 refine o_move rfl rfl ?_
 refine o_lss rfl rfl rfl ?_
 refine q3 ?_
 refine W_cond rfl ?_ ?_
 ·intro hc5
  try simp only [nrm] at hc5
  refine q2 ?_
  refine o_assign rfl rfl ?_
  refine q3 ?_
  refine W_ret ?_
  refine N_K_ret ?_
  refine ret_gen (rs := [.tmp 4]) (vs := [_]) Tryz.results6 ⟨rfl, trivial⟩ ?_
  exact H.rets rfl
 intro hc5'
 try simp only [nrm] at hc5'
 refine W_skip ?_
 refine N_K ?_
 refine q2 ?_
 refine o_loadagg_B 0 H Tryz.isAgg49 Tryz.sizeOf49 rfl rfl rfl rfl rfl ?_
 refine o_call Tryz.call21 rfl rfl (w_toDisk_c _ _ H.sub _ aD ⟨_, _, _, _, _, _, _, _, _, rfl, hr1, hr1', hr1''⟩ ) ?_
 rintro _ w6 ⟨_, _, rfl, H6', ⟨u16, u26, u36, D16, D26, D36, rfl, rfl, ho16, ho26, ho36⟩⟩
 have H := H.readers (fp := []) (by simp) (PLe.refl _) H6'
 obtain ⟨x16, p16⟩ := ho16
 obtain ⟨a16, c16, rfl⟩ := OwnS.shape p16
 obtain ⟨x26, p26⟩ := ho26
 obtain ⟨a26, c26, rfl⟩ := OwnS.shape p26
 obtain ⟨x36, p36⟩ := ho36
 obtain ⟨a36, c36, rfl⟩ := OwnS.shape p36
 refine ⟨_, rfl, ?_⟩
 refine o_move rfl rfl ?_
 have hnd8 := dm_nodup H (k := 0) rfl; obtain ⟨G8, H, hsg8, hsf8⟩ := H.keepF (k := 0) rfl (by simp); have hsr8 := (show OHs _ _ _ from ⟨_, p16⟩).rd hsf8 hnd8
 have hr1 := hr1.up hsg8
 have hr1' := hr1'.up hsg8
 have hr1'' := hr1''.up hsg8
 have hnd9 := dm_nodup H (k := 0) rfl; obtain ⟨G9, H, hsg9, hsf9⟩ := H.keepF (k := 0) rfl (by simp); have hsr9 := (show OIs _ _ _ from ⟨_, p26⟩).rd hsf9 hnd9
 have hr1 := hr1.up hsg9
 have hr1' := hr1'.up hsg9
 have hr1'' := hr1''.up hsg9
 have hsr8 := hsr8.up hsg9
 have hnd10 := dm_nodup H (k := 0) rfl; obtain ⟨G10, H, hsg10, hsf10⟩ := H.keepF (k := 0) rfl (by simp); have hsr10 := (show OSn _ _ _ from ⟨_, p36⟩).rd hsf10 hnd10
 have hr1 := hr1.up hsg10
 have hr1' := hr1'.up hsg10
 have hr1'' := hr1''.up hsg10
 have hsr8 := hsr8.up hsg10
 have hsr9 := hsr9.up hsg10
 refine o_call Tryz.call20 rfl rfl (SnapTakeP_c _ _ H.sub _ aD ⟨_, _, _, _, _, _, _, _, _, rfl, hsr8, hsr9, hsr10⟩ _ haName ) ?_
 rintro _ w7 ⟨G7, _, g7, rfl, u7_0, rfl, hr7_0⟩
 have H := H.grow g7
 have hr1 := hr1.up g7.le
 have hr1' := hr1'.up g7.le
 have hr1'' := hr1''.up g7.le
 have hsr8 := hsr8.up g7.le
 have hsr9 := hsr9.up g7.le
 have hsr10 := hsr10.up g7.le
 obtain ⟨a11, m11, c11, a11', m11', c11', a11'', m11'', c11'', rfl, hr11, hr11', hr11''⟩ := hr7_0; have hn_hr11 := hr11.len; have hx_hr11 : _ ≤ 1099511627776 := hr11.lim; have hn_hr11q := hr11'.len; have hx_hr11q : _ ≤ 1099511627776 := hr11'.lim; have hn_hr11qq := hr11''.len; have hx_hr11qq : _ ≤ 1099511627776 := hr11''.lim
 refine ⟨_, rfl, ?_⟩
 refine o_move rfl rfl ?_
 refine o_extract rfl rfl rfl ?_
 refine o_extract rfl rfl rfl ?_
 refine o_alloc H Tryz.zeroValue53 rfl rfl ?_; intro b12 w12 hb12 H
 refine o_store_B 0 H Tryz.sizeOf53 rfl rfl rfl rfl rfl rfl rfl rfl ?_; intro w13 H
 refine o_assign rfl rfl ?_
 refine q1 ?_
 refine o_loadagg_B 1 H Tryz.isAgg49 Tryz.sizeOf49 rfl rfl rfl rfl rfl ?_
 refine o_call Tryz.call21 rfl rfl (w_toDisk_c _ _ H.sub _ aD ⟨_, _, _, _, _, _, _, _, _, rfl, hr1, hr1', hr1''⟩ ) ?_
 rintro _ w14 ⟨_, _, rfl, H14', ⟨u114, u214, u314, D114, D214, D314, rfl, rfl, ho114, ho214, ho314⟩⟩
 have H := H.readers (fp := []) (by simp) (PLe.refl _) H14'
 obtain ⟨x114, p114⟩ := ho114
 obtain ⟨a114, c114, rfl⟩ := OwnS.shape p114
 obtain ⟨x214, p214⟩ := ho214
 obtain ⟨a214, c214, rfl⟩ := OwnS.shape p214
 obtain ⟨x314, p314⟩ := ho314
 obtain ⟨a314, c314, rfl⟩ := OwnS.shape p314
 refine ⟨_, rfl, ?_⟩
 refine o_alloc H Tryz.zeroValue53 rfl rfl ?_; intro b15 w15 hb15 H
 refine o_store_B 0 H Tryz.sizeOf53 rfl rfl rfl rfl rfl rfl rfl rfl ?_; intro w16 H
 refine q1 ?_
 refine o_loadagg_B 0 H Tryz.isAgg53 Tryz.sizeOf53 rfl rfl rfl rfl rfl ?_
 refine o_move rfl rfl ?_
 refine o_call Tryz.call22 rfl rfl (i_SnapTake_c _ _ (H.lendSubL [1, 2, 3]) _ aD ⟨_, _, _, _, _, _, _, _, _, rfl, (H.lendOHs (k := 1) (ks := [1, 2, 3]) rfl rfl ⟨_, p114⟩), (H.lendOIs (k := 2) (ks := [1, 2, 3]) rfl rfl ⟨_, p214⟩), (H.lendOSn (k := 3) (ks := [1, 2, 3]) rfl rfl ⟨_, p314⟩)⟩ _ haName ) ?_
 rintro _ w17 ⟨_, _, rfl, H17', ⟨u117, u217, u317, E117, E217, E317, rfl, rfl, ho117, ho217, ho317⟩⟩
 have H := H.readersL H17'
 obtain ⟨x117, p117⟩ := ho117
 obtain ⟨a117, c117, rfl⟩ := OwnS.shape p117
 obtain ⟨x217, p217⟩ := ho217
 obtain ⟨a217, c217, rfl⟩ := OwnS.shape p217
 obtain ⟨x317, p317⟩ := ho317
 obtain ⟨a317, c317, rfl⟩ := OwnS.shape p317
 refine ⟨_, rfl, ?_⟩
 refine o_move rfl rfl ?_
 refine o_extract rfl rfl rfl ?_
 refine o_extract rfl rfl rfl ?_
 refine o_alloc H Tryz.zeroValue53 rfl rfl ?_; intro b18 w18 hb18 H
 refine o_store_B 0 H Tryz.sizeOf53 rfl rfl rfl rfl rfl rfl rfl rfl ?_; intro w19 H
 refine o_assign rfl rfl ?_
 refine q3 ?_
 refine W_seq ?_
 refine q2 ?_
 refine o_loadagg_B 0 H Tryz.isAgg53 Tryz.sizeOf53 rfl rfl rfl rfl rfl ?_
 refine o_loadagg_B 8 H Tryz.isAgg53 Tryz.sizeOf53 rfl rfl rfl rfl rfl ?_
 refine o_call Tryz.call23 rfl rfl (w_eqDisk_c _ _ (H.lendSubL [1, 2, 3]) _ ((Sp.SnapTake aD aName).getD ⟨[], [], []⟩) ⟨_, _, _, _, _, _, _, _, _, rfl, (H.lendOHs (k := 1) (ks := [1, 2, 3]) rfl rfl ⟨_, p117⟩), (H.lendOIs (k := 2) (ks := [1, 2, 3]) rfl rfl ⟨_, p217⟩), (H.lendOSn (k := 3) (ks := [1, 2, 3]) rfl rfl ⟨_, p317⟩)⟩ _ ((Sp.SnapTake aD aName).getD ⟨[], [], []⟩) ⟨_, _, _, _, _, _, _, _, _, rfl, (hr11.up (PPlus.le _ _ _)), (hr11'.up (PPlus.le _ _ _)), (hr11''.up (PPlus.le _ _ _))⟩ rfl) ?_
 rintro _ w20 ⟨rfl, ew20⟩; have H := H.step ew20; refine ⟨_, rfl, ?_⟩
 refine o_not rfl rfl ?_
 refine o_move rfl rfl ?_
 refine R_guard (yl rfl rfl) ?_
 refine o_move rfl rfl ?_
 refine R_guard (yl rfl rfl) ?_
 refine o_move rfl rfl ?_
 refine R_guard (yl rfl rfl) ?_
 refine o_bneq_same Tryz.underlying4 rfl rfl rfl ?_
 refine o_pick_f rfl rfl rfl ?_
 refine q3 ?_
 refine W_false rfl ?_
 refine W_skip ?_
 refine N_K ?_
 refine W_seq ?_
 refine W_seq ?_
 refine W_drawK [0, 4, 8, 9] 5 H (by kernel_rfl) rfl ?_; intro w21 H; have hd21 := PLe.refl G7
 refine RD_t 0 rfl (by kernel_rfl) rfl (fun _ hK => v_loadagg_B 1 hK Tryz.isAgg53 Tryz.sizeOf53 rfl rfl rfl rfl) ?_
 refine RD_t 1 rfl (by kernel_rfl) rfl (fun _ hK => v_loadagg_B 3 hK Tryz.isAgg49 Tryz.sizeOf49 rfl rfl rfl rfl) ?_
 refine RD_run [2] (by kernel_rfl) rfl (RDs.cons rfl ?_ RDs.nil)
 refine o_call Tryz.call21 rfl rfl (w_toDisk_c _ _ H.sub _ aD ⟨_, _, _, _, _, _, _, _, _, rfl, hr1, hr1', hr1''⟩ ) ?_
 rintro _ w22 ⟨_, _, rfl, H22', ⟨u122, u222, u322, D122, D222, D322, rfl, rfl, ho122, ho222, ho322⟩⟩
 have H := H.readers (fp := []) (by simp) (PLe.refl _) H22'
 obtain ⟨x122, p122⟩ := ho122
 obtain ⟨a122, c122, rfl⟩ := OwnS.shape p122
 obtain ⟨x222, p222⟩ := ho222
 obtain ⟨a222, c222, rfl⟩ := OwnS.shape p222
 obtain ⟨x322, p322⟩ := ho322
 obtain ⟨a322, c322, rfl⟩ := OwnS.shape p322
 refine ⟨_, rfl, ?_⟩
 refine R_nil ?_
 refine N_DK (Kn.of' H hd21 (SubL.cons 3 rfl (SubL.cons 7 rfl (SubL.cons 11 rfl (SubL.cons 12 rfl SubL.nil))))) ?_
 refine RD_run [3] (by kernel_rfl) rfl (RDs.cons rfl ?_ RDs.nil)
 refine o_call Tryz.call23 rfl rfl (w_eqDisk_c _ _ (H.lendSubL [0, 1, 2, 8, 9, 10]) _ aD ⟨_, _, _, _, _, _, _, _, _, rfl, (H.lendOHs (k := 8) (ks := [0, 1, 2, 8, 9, 10]) rfl rfl ⟨_, p114⟩), (H.lendOIs (k := 9) (ks := [0, 1, 2, 8, 9, 10]) rfl rfl ⟨_, p214⟩), (H.lendOSn (k := 10) (ks := [0, 1, 2, 8, 9, 10]) rfl rfl ⟨_, p314⟩)⟩ _ aD ⟨_, _, _, _, _, _, _, _, _, rfl, (H.lendOHs (k := 0) (ks := [0, 1, 2, 8, 9, 10]) rfl rfl ⟨_, p122⟩), (H.lendOIs (k := 1) (ks := [0, 1, 2, 8, 9, 10]) rfl rfl ⟨_, p222⟩), (H.lendOSn (k := 2) (ks := [0, 1, 2, 8, 9, 10]) rfl rfl ⟨_, p322⟩)⟩ rfl) ?_
 rintro _ w23 ⟨rfl, ew23⟩; have H := H.step ew23; refine ⟨_, rfl, ?_⟩
 refine R_nil ?_
 refine N_DK (Kn.of' H hd21 (SubL.cons 3 rfl (SubL.cons 7 rfl (SubL.cons 11 rfl (SubL.cons 12 rfl SubL.nil))))) ?_
 refine RD_t 4 rfl (by kernel_rfl) rfl (fun _ hK => v_not rfl) ?_
 refine RD_done (by kernel_rfl) ?_
 refine N_K ?_
 refine W_false rfl ?_
 refine W_skip ?_
 refine N_K ?_
 refine q2 ?_
 refine o_assign rfl rfl ?_
 refine q1 ?_
 refine o_loadagg_B 7 H Tryz.isAgg53 Tryz.sizeOf53 rfl rfl rfl rfl rfl ?_
 refine o_move rfl rfl ?_
 have H := H.toFront (k := 10) rfl
 have H := H.toFront (k := 10) rfl
 have H := H.toFront (k := 10) rfl
 refine o_call Tryz.call24 rfl rfl (w_markDisk_c _ _ H.sub _ _ _ _ _ _ aD ⟨_, p114⟩ ⟨_, p214⟩ ⟨_, p314⟩ _ H.lent3 ⟨by omega, by omega⟩) ?_
 rintro _ w24 ⟨G24, _, _, rfl, H24', ⟨K124, K224, K324, rfl, rfl, hK124, hK224, hK324⟩⟩
 have hr1 := hr1.up H24'.le
 have hr1' := hr1'.up H24'.le
 have hr1'' := hr1''.up H24'.le
 have hsr8 := hsr8.up H24'.le
 have hsr9 := hsr9.up H24'.le
 have hsr10 := hsr10.up H24'.le
 have hr11 := hr11.up H24'.le
 have hr11' := hr11'.up H24'.le
 have hr11'' := hr11''.up H24'.le
 have H := H.borrow3 H24'
 refine ⟨_, rfl, ?_⟩
 refine o_assign rfl rfl ?_
 refine q3 ?_
 refine W_seq ?_
 refine q2 ?_
 refine o_move rfl rfl ?_
 refine o_lss rfl rfl rfl ?_
 refine o_move rfl rfl ?_
 refine R_case (t := 58) rfl ?_ ?_
 ·intro hc25
  try simp only [nrm] at hc25
  exact absurd (show False from by first | omega | (simp at hc25; done) | exact hc25 rfl) id
 intro hc25'
 try simp only [nrm] at hc25'
 refine R_guard (yl rfl rfl) ?_
 refine o_loadagg_B 6 H Tryz.isAgg53 Tryz.sizeOf53 rfl rfl rfl rfl rfl ?_
 refine R_guard (yl rfl rfl) ?_
 refine o_loadagg_B 11 H Tryz.isAgg53 Tryz.sizeOf53 rfl rfl rfl rfl rfl ?_
 refine R_guard (yl rfl rfl) ?_
 refine o_call Tryz.call23 rfl rfl (w_eqDisk_c _ _ (H.lendSubL [7, 8, 9]) _ ((Sp.SnapTake aD aName).getD ⟨[], [], []⟩) ⟨_, _, _, _, _, _, _, _, _, rfl, (H.lendOHs (k := 7) (ks := [7, 8, 9]) rfl rfl ⟨_, p117⟩), (H.lendOIs (k := 8) (ks := [7, 8, 9]) rfl rfl ⟨_, p217⟩), (H.lendOSn (k := 9) (ks := [7, 8, 9]) rfl rfl ⟨_, p317⟩)⟩ _ ((Sp.SnapTake aD aName).getD ⟨[], [], []⟩) ⟨_, _, _, _, _, _, _, _, _, rfl, (hr11.up (PPlus.le _ _ _)), (hr11'.up (PPlus.le _ _ _)), (hr11''.up (PPlus.le _ _ _))⟩ rfl) ?_
 rintro _ w26 ⟨rfl, ew26⟩; have H := H.step ew26; refine ⟨_, rfl, ?_⟩
 refine R_guard (yl rfl rfl) ?_
 refine o_not rfl rfl ?_
 refine o_pick_f rfl rfl rfl ?_
 refine o_move rfl rfl ?_
 refine R_guard (yl rfl rfl) ?_
 refine o_move rfl rfl ?_
 refine R_guard (yl rfl rfl) ?_
 refine o_move rfl rfl ?_
 refine R_guard (yl rfl rfl) ?_
 refine o_bneq_same Tryz.underlying4 rfl rfl rfl ?_
 refine o_pick_f rfl rfl rfl ?_
 refine q3 ?_
 refine W_false rfl ?_
 refine W_skip ?_
 refine N_K ?_
 refine q2 ?_
 refine o_assign rfl rfl ?_
 refine q1 ?_
 refine o_loadagg_B 6 H Tryz.isAgg53 Tryz.sizeOf53 rfl rfl rfl rfl rfl ?_
 refine o_move rfl rfl ?_
 have H := H.toFront (k := 9) rfl
 have H := H.toFront (k := 9) rfl
 have H := H.toFront (k := 9) rfl
 refine o_call Tryz.call24 rfl rfl (w_markDisk_c _ _ H.sub _ _ _ _ _ _ ((Sp.SnapTake aD aName).getD ⟨[], [], []⟩) ⟨_, p117⟩ ⟨_, p217⟩ ⟨_, p317⟩ _ H.lent3 ⟨by omega, by omega⟩) ?_
 rintro _ w27 ⟨G27, _, _, rfl, H27', ⟨K127, K227, K327, rfl, rfl, hK127, hK227, hK327⟩⟩
 have hr1 := hr1.up H27'.le
 have hr1' := hr1'.up H27'.le
 have hr1'' := hr1''.up H27'.le
 have hsr8 := hsr8.up H27'.le
 have hsr9 := hsr9.up H27'.le
 have hsr10 := hsr10.up H27'.le
 have hr11 := hr11.up H27'.le
 have hr11' := hr11'.up H27'.le
 have hr11'' := hr11''.up H27'.le
 have H := H.borrow3 H27'
 refine ⟨_, rfl, ?_⟩
 refine o_assign rfl rfl ?_
 refine q1 ?_
 refine o_assign rfl rfl ?_
 refine q1 ?_
 refine o_loadagg_B 9 H Tryz.isAgg53 Tryz.sizeOf53 rfl rfl rfl rfl rfl ?_
 refine o_move rfl rfl ?_
 refine o_call Tryz.call25 rfl rfl (w_heldDisk_c _ _ (H.lendSubL [0, 1, 2]) _ (mDisk 1 ((Sp.SnapTake aD aName).getD ⟨[], [], []⟩)) ⟨_, _, _, _, _, _, _, _, _, rfl, (H.lendOHs (k := 0) (ks := [0, 1, 2]) rfl rfl hK127), (H.lendOIs (k := 1) (ks := [0, 1, 2]) rfl rfl hK227), (H.lendOSn (k := 2) (ks := [0, 1, 2]) rfl rfl hK327)⟩ _ ((Sp.SnapTake aD aName).getD ⟨[], [], []⟩) rfl ⟨by omega, by omega⟩) ?_
 rintro _ w28 ⟨rfl, ew28⟩; have H := H.step ew28; refine ⟨_, rfl, ?_⟩
 refine o_assign rfl rfl ?_
 refine q3 ?_
 refine W_seq ?_
 refine q2 ?_
 refine o_move rfl rfl ?_
 refine o_lss rfl rfl rfl ?_
 refine q3 ?_
 refine W_cond rfl ?_ ?_
 ·intro hc29
  try simp only [nrm] at hc29
  exact absurd (show False from by first | omega | (simp at hc29; done) | exact hc29 rfl) id
 intro hc29'
 try simp only [nrm] at hc29'
 refine W_skip ?_
 refine N_K ?_
 refine W_seq ?_
 refine q2 ?_
 refine o_move rfl rfl ?_
 refine o_move rfl rfl ?_
 refine o_neq rfl rfl rfl ?_
 refine q3 ?_
 refine W_cond rfl ?_ ?_
 ·intro hc30
  try simp only [nrm] at hc30
  exact absurd (show False from by first | omega | (simp at hc30; done) | exact hc30 rfl) id
 intro hc30'
 try simp only [nrm] at hc30'
 refine W_skip ?_
 refine N_K ?_
 refine q2 ?_
 refine o_loadagg_B 12 H Tryz.isAgg49 Tryz.sizeOf49 rfl rfl rfl rfl rfl ?_
 refine o_call Tryz.call21 rfl rfl (w_toDisk_c _ _ H.sub _ aD ⟨_, _, _, _, _, _, _, _, _, rfl, hr1, hr1', hr1''⟩ ) ?_
 rintro _ w31 ⟨_, _, rfl, H31', ⟨u131, u231, u331, D131, D231, D331, rfl, rfl, ho131, ho231, ho331⟩⟩
 have H := H.readers (fp := []) (by simp) (PLe.refl _) H31'
 obtain ⟨x131, p131⟩ := ho131
 obtain ⟨a131, c131, rfl⟩ := OwnS.shape p131
 obtain ⟨x231, p231⟩ := ho231
 obtain ⟨a231, c231, rfl⟩ := OwnS.shape p231
 obtain ⟨x331, p331⟩ := ho331
 obtain ⟨a331, c331, rfl⟩ := OwnS.shape p331
 refine ⟨_, rfl, ?_⟩
 refine o_move rfl rfl ?_
 refine o_call Tryz.call22 rfl rfl (i_SnapTake_c _ _ (H.lendSubL [0, 1, 2]) _ aD ⟨_, _, _, _, _, _, _, _, _, rfl, (H.lendOHs (k := 0) (ks := [0, 1, 2]) rfl rfl ⟨_, p131⟩), (H.lendOIs (k := 1) (ks := [0, 1, 2]) rfl rfl ⟨_, p231⟩), (H.lendOSn (k := 2) (ks := [0, 1, 2]) rfl rfl ⟨_, p331⟩)⟩ _ haName ) ?_
 rintro _ w32 ⟨_, _, rfl, H32', ⟨u132, u232, u332, E132, E232, E332, rfl, rfl, ho132, ho232, ho332⟩⟩
 have H := H.readersL H32'
 obtain ⟨x132, p132⟩ := ho132
 obtain ⟨a132, c132, rfl⟩ := OwnS.shape p132
 obtain ⟨x232, p232⟩ := ho232
 obtain ⟨a232, c232, rfl⟩ := OwnS.shape p232
 obtain ⟨x332, p332⟩ := ho332
 obtain ⟨a332, c332, rfl⟩ := OwnS.shape p332
 refine ⟨_, rfl, ?_⟩
 refine o_move rfl rfl ?_
 refine o_extract rfl rfl rfl ?_
 refine o_extract rfl rfl rfl ?_
 refine o_alloc H Tryz.zeroValue53 rfl rfl ?_; intro b33 w33 hb33 H
 refine o_store_B 0 H Tryz.sizeOf53 rfl rfl rfl rfl rfl rfl rfl rfl ?_; intro w34 H
 refine o_assign rfl rfl ?_
 refine q3 ?_
 refine W_seq ?_
 refine q2 ?_
 refine o_loadagg_B 0 H Tryz.isAgg53 Tryz.sizeOf53 rfl rfl rfl rfl rfl ?_
 refine o_loadagg_B 18 H Tryz.isAgg53 Tryz.sizeOf53 rfl rfl rfl rfl rfl ?_
 refine o_call Tryz.call23 rfl rfl (w_eqDisk_c _ _ (H.lendSubL [1, 2, 3]) _ ((Sp.SnapTake aD aName).getD ⟨[], [], []⟩) ⟨_, _, _, _, _, _, _, _, _, rfl, (H.lendOHs (k := 1) (ks := [1, 2, 3]) rfl rfl ⟨_, p132⟩), (H.lendOIs (k := 2) (ks := [1, 2, 3]) rfl rfl ⟨_, p232⟩), (H.lendOSn (k := 3) (ks := [1, 2, 3]) rfl rfl ⟨_, p332⟩)⟩ _ ((Sp.SnapTake aD aName).getD ⟨[], [], []⟩) ⟨_, _, _, _, _, _, _, _, _, rfl, (hr11.up (PPlus.le _ _ _)), (hr11'.up (PPlus.le _ _ _)), (hr11''.up (PPlus.le _ _ _))⟩ rfl) ?_
 rintro _ w35 ⟨rfl, ew35⟩; have H := H.step ew35; refine ⟨_, rfl, ?_⟩
 refine o_not rfl rfl ?_
 refine o_move rfl rfl ?_
 refine R_guard (yl rfl rfl) ?_
 refine o_move rfl rfl ?_
 refine R_guard (yl rfl rfl) ?_
 refine o_move rfl rfl ?_
 refine R_guard (yl rfl rfl) ?_
 refine o_bneq_same Tryz.underlying4 rfl rfl rfl ?_
 refine o_pick_f rfl rfl rfl ?_
 refine q3 ?_
 refine W_false rfl ?_
 refine W_skip ?_
 refine N_K ?_
 refine q2 ?_
 refine o_assign rfl rfl ?_
 refine q1 ?_
 refine o_loadagg_B 16 H Tryz.isAgg53 Tryz.sizeOf53 rfl rfl rfl rfl rfl ?_
 refine o_move rfl rfl ?_
 refine o_call Tryz.call25 rfl rfl (w_heldDisk_c _ _ (H.lendSubL [7, 8, 9]) _ (mDisk 1 ((Sp.SnapTake aD aName).getD ⟨[], [], []⟩)) ⟨_, _, _, _, _, _, _, _, _, rfl, (H.lendOHs (k := 7) (ks := [7, 8, 9]) rfl rfl hK127), (H.lendOIs (k := 8) (ks := [7, 8, 9]) rfl rfl hK227), (H.lendOSn (k := 9) (ks := [7, 8, 9]) rfl rfl hK327)⟩ _ ((Sp.SnapTake aD aName).getD ⟨[], [], []⟩) rfl ⟨by omega, by omega⟩) ?_
 rintro _ w36 ⟨rfl, ew36⟩; have H := H.step ew36; refine ⟨_, rfl, ?_⟩
 refine o_assign rfl rfl ?_
 refine q3 ?_
 refine W_seq ?_
 refine q2 ?_
 refine o_move rfl rfl ?_
 refine o_lss rfl rfl rfl ?_
 refine q3 ?_
 refine W_cond rfl ?_ ?_
 ·intro hc37
  try simp only [nrm] at hc37
  exact absurd (show False from by first | omega | (simp at hc37; done) | exact hc37 rfl) id
 intro hc37'
 try simp only [nrm] at hc37'
 refine W_skip ?_
 refine N_K ?_
 refine W_seq ?_
 refine q2 ?_
 refine o_move rfl rfl ?_
 refine o_move rfl rfl ?_
 refine o_neq rfl rfl rfl ?_
 refine q3 ?_
 refine W_cond rfl ?_ ?_
 ·intro hc38
  try simp only [nrm] at hc38
  exact absurd (show False from by first | omega | (simp at hc38; done) | exact hc38 rfl) id
 intro hc38'
 try simp only [nrm] at hc38'
 refine W_skip ?_
 refine N_K ?_
 refine q2 ?_
 refine o_assign rfl rfl ?_
 refine q3 ?_
 refine W_ret ?_
 refine ret_gen (rs := [.tmp 4]) (vs := [_]) Tryz.results6 ⟨rfl, trivial⟩ ?_
 exact H.rets rfl
end Go.Proofs.Tst

namespace Fw
open Go
section
variable {H : Type} {enc : TypeId × Value → H} {P : Program} {W : World}
structure Bulk (bk : DataW H → Nat) (bka : List (DataW H) → Nat) : Prop where
  slice : ∀ es sp, bk (.slice es sp) = bka es + bka sp + 1
  agg : ∀ ps, bk (.agg ps) = bka ps + 1
  str : ∀ b, bk (.lit (.string b)) = b.length + 1
  nil : bka [] = 0
  cons : ∀ d r, bka (d :: r) = bk d + bka r
  pos : ∀ d, 1 ≤ bk d
variable {bk : DataW H → Nat} {bka : List (DataW H) → Nat}
theorem Bulk.len (hb : Bulk bk bka) : ∀ l, l.length ≤ bka l
  | [] => by simp
  | d :: r => by
    have h1 := hb.len r
    have h2 := hb.pos d
    rw [hb.cons]
    simp; omega
theorem Bulk.mem (hb : Bulk bk bka) {d : DataW H} : ∀ {l : List (DataW H)}, d ∈ l → bk d ≤ bka l
  | [], h => by simp at h
  | e :: r, h => by
    rw [hb.cons]
    rcases List.mem_cons.1 h with rfl | h
    · omega
    · have := hb.mem h
      omega
theorem Bulk.memF (hb : Bulk bk bka) {l : List (DataW H × List MemPlace)} {i : Nat} (hi : i < l.length) : bk (l[i]).1 ≤ bka (l.map (fun x => x.1)) :=
  hb.mem (List.mem_map.2 ⟨l[i], List.getElem_mem hi, rfl⟩)
abbrev Reads (enc : TypeId × Value → H) (P : Program) (W : World) (n : Nat) (t : TypeId) (cs : List Value) : Option (DataW H × List MemPlace) := DataW.trod enc P W 0 (fun _ => true) true n t cs
def Elem (enc : TypeId × Value → H) (P : Program) (W : World) (bk : DataW H → Nat) (t : TypeId) (sz : Nat) {α : Type} (E : PH → α → List Value → Prop) : Prop :=
  ∀ n cs x, Reads enc P W n t cs = some x → bk x.1 ≤ 1048576 → ∃ a, cs.length = sz ∧ E (PAll W) a cs
theorem elem_int {t : TypeId} (ht : P.underlying t = some (.int .i64)) : Elem enc P W bk t 1 intE := by
  intro n cs x h _
  obtain ⟨i, rfl, _, hw⟩ := DataW.trod_int ht h
  refine ⟨i, rfl, rfl, ?_⟩
  simp [Lit.wf, IntKind.min, IntKind.max, IntKind.signed, IntKind.bits] at hw
  exact ⟨by omega, by omega⟩
theorem elem_str (hb : Bulk bk bka) {t : TypeId} (ht : P.underlying t = some .string) : Elem enc P W bk t 1 strE := by
  intro n cs x h hx
  obtain ⟨s, rfl, rfl, _⟩ := DataW.trod_string ht h
  simp only [hb.str] at hx
  exact ⟨s.data.toList, rfl, rfl, by omega⟩
theorem elem_bool {t : TypeId} (ht : P.underlying t = some .bool) : Elem enc P W bk t 1 (fun _ (x : Bool) cs => cs = [.bool x]) := by
  intro n cs x h _
  obtain ⟨b, rfl, _⟩ := DataW.trod_bool ht h
  exact ⟨b, rfl, rfl⟩
theorem list_of {α : Type} {Q : Nat → α → Prop} : ∀ n, (∀ i, i < n → ∃ x, Q i x) → ∃ xs : List α, xs.length = n ∧ ∀ i x, xs[i]? = some x → Q i x
  | 0, _ => ⟨[], rfl, by simp⟩
  | n + 1, h => by
    obtain ⟨xs, h1, h2⟩ := list_of n (fun i hi => h i (by omega))
    obtain ⟨x, hx⟩ := h n (by omega)
    refine ⟨xs ++ [x], by simp [h1], fun i y hy => ?_⟩
    by_cases hi : i < n
    · rw [List.getElem?_append_left (by omega)] at hy
      exact h2 i y hy
    · rw [List.getElem?_append_right (by omega)] at hy
      have : i = n := by
        have := (List.getElem?_eq_some_iff.1 hy).1
        simp at this
        omega
      subst this
      simp [h1] at hy
      subst hy
      exact hx
theorem mapM_at {α β : Type} {f : α → Option β} : ∀ {l : List α} {r : List β}, l.mapM f = some r → ∀ (i : Nat) (x : α), l[i]? = some x → f x = r[i]?
  | [], r, h, i, x, hx => by simp at hx
  | y :: t, r, h, i, x, hx => by
    simp only [List.mapM_cons, Option.bind_eq_bind, Option.bind_eq_some_iff, Option.pure_def, Option.some.injEq] at h
    obtain ⟨z, h1, u, h2, rfl⟩ := h
    cases i with
    | zero => simp at hx; subst hx; simpa using h1
    | succ i => simp only [List.getElem?_cons_succ] at hx ⊢; exact mapM_at h2 i x hx
theorem pcell_of {b o : Nat} {v : Value} (h : W.cell? ⟨b, o, none⟩ = some v) : PCell (PAll W) b o v := by
  unfold World.cell? at h
  unfold PCell PAll
  split at h
  · rename_i C e fz hb
    exact ⟨C, e, fz, hb, by simpa using h⟩
  · cases h
theorem elem_slice {α : Type} {E : PH → α → List Value → Prop} (hb : Bulk bk bka) {t e : TypeId} {sz : Nat} (ht : P.underlying t = some (.slice e)) (hz : P.cellsOf e = sz) (hsz : 0 < sz) (hE : Elem enc P W bk e sz E) :
    ∀ n cs x, Reads enc P W n t cs = some x → bk x.1 ≤ 1048576 → ∃ v xs, cs = [v] ∧ RdS LIM E sz (PAll W) v xs := by
  intro n cs x h hx
  rcases DataW.trod_slice ht h with ⟨rfl, _⟩ | ⟨a, len, cap, elems, rest, m, _, rfl, rfl, _, h2, _, h4, h5, _, _⟩
  · exact ⟨_, [], rfl, RdS.nil _ _ _⟩
  · simp only [hb.slice] at hx
    rw [hz] at h5
    have hle := hb.len (elems.map (·.1))
    rw [List.length_map] at hle
    have hel : ∀ i, i < len → ∃ y : α, ∃ cs, cs.length = sz ∧ E (PAll W) y cs ∧ ∀ j v, cs[j]? = some v → W.cell? ((a.add (i * sz)).add j) = some v := by
      intro i hi
      have h6 := h5 i hi
      rw [List.getElem?_eq_getElem (by omega)] at h6
      obtain ⟨cs, k1, k2⟩ := Option.bind_eq_some_iff.1 h6
      obtain ⟨y, k3, k4⟩ := hE m cs _ k2 (Nat.le_trans (hb.memF (by omega)) (by omega))
      refine ⟨y, cs, k3, k4, fun j v hj => ?_⟩
      unfold World.cells? at k1
      split at k1
      · have hjl := (List.getElem?_eq_some_iff.1 hj).1
        rw [← hj]
        exact mapM_at k1 j j (by rw [List.getElem?_range (by omega)])
      · cases k1
    obtain ⟨xs, x1, x2⟩ := list_of len hel
    refine ⟨_, xs, rfl, some a, cap, by rw [x1], by omega, by simp only [LIM]; omega, ?_⟩
    by_cases h0 : len = 0
    · exact .inl (List.eq_nil_of_length_eq_zero (by omega))
    · right
      have hspot : a.spot = none := by
        obtain ⟨y, cs, y1, _, y2⟩ := hel 0 (by omega)
        have := World.cell?_spot (y2 0 cs[0] (by simp))
        simpa [Addr.add] using this
      obtain ⟨b, o, sp⟩ := a
      simp only at hspot
      subst hspot
      refine ⟨b, o, rfl, fun i y hy => ?_⟩
      obtain ⟨cs, c1, c2, c3⟩ := x2 i y hy
      refine ⟨cs, c1, c2, fun j v hj => pcell_of ?_⟩
      have := c3 j v hj
      rwa [Addr.add_lit, Addr.add_lit] at this
theorem struct_fields (hb : Bulk bk bka) {t : TypeId} {fs : Array Field} {k : Nat} (ht : P.underlying t = some (.struct fs)) (hk : P.cellsOf t = k) (hall : ∀ (i : Nat) (f : Field), fs[i]? = some f → f.offset = i ∧ P.cellsOf f.type = 1) :
    ∀ n cs x, Reads enc P W n t cs = some x → bk x.1 ≤ 1048576 → cs.length = k ∧ ∀ (i : Nat) (f : Field), fs[i]? = some f → i < k → ∃ v y m, cs[i]? = some v ∧ Reads enc P W m f.type [v] = some y ∧ bk y.1 ≤ 1048576 := by
  intro n cs x h hx
  obtain ⟨xs, m, _, rfl, h1, h2, h3⟩ := DataW.trod_struct ht h
  simp only [hb.agg] at hx
  rw [hk] at h1
  refine ⟨h1, fun i f hf hi => ?_⟩
  have hfi := (Array.getElem?_eq_some_iff.1 hf).1
  obtain ⟨ho, hc⟩ := hall i f hf
  have h4 := h3 i f hf
  rw [ho, hc, List.getElem?_eq_getElem (by omega)] at h4
  have e : (cs.drop i).take 1 = [cs[i]'(by omega)] := by
    rw [List.drop_eq_getElem_cons (by omega)]
    rfl
  rw [e] at h4
  exact ⟨_, _, m, List.getElem?_eq_getElem (by omega), h4, Nat.le_trans (hb.memF (by omega)) (by omega)⟩
theorem two_of {cs : List Value} {a b : Value} (h : cs.length = 2) (h0 : cs[0]? = some a) (h1 : cs[1]? = some b) : cs = [a, b] := by
  match cs, h with
  | [x, y], _ => simp at h0 h1; simp [h0, h1]
theorem three_of {cs : List Value} {a b c : Value} (h : cs.length = 3) (h0 : cs[0]? = some a) (h1 : cs[1]? = some b) (h2 : cs[2]? = some c) : cs = [a, b, c] := by
  match cs, h with
  | [x, y, z], _ => simp at h0 h1 h2; simp [h0, h1, h2]
variable {ti ts tb tis : TypeId}
theorem elem_held (hb : Bulk bk bka) {t : TypeId} {f0 f1 f2 : Field} (ht : P.underlying t = some (.struct #[f0, f1, f2])) (hk : P.cellsOf t = 3) (hall : ∀ (i : Nat) (f : Field), #[f0, f1, f2][i]? = some f → f.offset = i ∧ P.cellsOf f.type = 1)
    (e0 : f0.type = ti) (e1 : f1.type = tis) (e2 : f2.type = ti) (hi : P.underlying ti = some (.int .i64)) (his : P.underlying tis = some (.slice ti)) (hz : P.cellsOf ti = 1) : Elem enc P W bk t 3 heldE := by
  intro n cs x h hx
  obtain ⟨hl, hf⟩ := struct_fields hb ht hk hall n cs x h hx
  obtain ⟨v0, y0, m0, a0, b0, c0⟩ := hf 0 f0 rfl (by omega)
  obtain ⟨v1, y1, m1, a1, b1, c1⟩ := hf 1 f1 rfl (by omega)
  obtain ⟨v2, y2, m2, a2, b2, c2⟩ := hf 2 f2 rfl (by omega)
  rw [e0] at b0; rw [e1] at b1; rw [e2] at b2
  obtain ⟨i0, _, g0, g0'⟩ := elem_int (bk := bk) hi m0 _ _ b0 c0
  obtain ⟨i2, _, g2, g2'⟩ := elem_int (bk := bk) hi m2 _ _ b2 c2
  obtain ⟨v, xs, g1, g1'⟩ := elem_slice hb his hz (by omega) (elem_int hi) m1 _ _ b1 c1
  simp only [List.cons.injEq, and_true] at g0 g1 g2
  subst g0 g1 g2
  obtain ⟨a, c, rfl⟩ := g1'.shape
  exact ⟨⟨i0, xs, i2⟩, hl, _, _, _, three_of hl a0 a1 a2, g0', g1', g2'⟩
theorem elem_item (hb : Bulk bk bka) {t : TypeId} {f0 f1 f2 : Field} (ht : P.underlying t = some (.struct #[f0, f1, f2])) (hk : P.cellsOf t = 3) (hall : ∀ (i : Nat) (f : Field), #[f0, f1, f2][i]? = some f → f.offset = i ∧ P.cellsOf f.type = 1)
    (e0 : f0.type = ts) (e1 : f1.type = tb) (e2 : f2.type = tis) (hs : P.underlying ts = some .string) (hbo : P.underlying tb = some .bool) (hi : P.underlying ti = some (.int .i64)) (his : P.underlying tis = some (.slice ti)) (hz : P.cellsOf ti = 1) : Elem enc P W bk t 3 itemE := by
  intro n cs x h hx
  obtain ⟨hl, hf⟩ := struct_fields hb ht hk hall n cs x h hx
  obtain ⟨v0, y0, m0, a0, b0, c0⟩ := hf 0 f0 rfl (by omega)
  obtain ⟨v1, y1, m1, a1, b1, c1⟩ := hf 1 f1 rfl (by omega)
  obtain ⟨v2, y2, m2, a2, b2, c2⟩ := hf 2 f2 rfl (by omega)
  rw [e0] at b0; rw [e1] at b1; rw [e2] at b2
  obtain ⟨i0, _, g0, g0'⟩ := elem_str hb hs m0 _ _ b0 c0
  obtain ⟨i1, _, g1⟩ := elem_bool (bk := bk) hbo m1 _ _ b1 c1
  obtain ⟨v, xs, g2, g2'⟩ := elem_slice hb his hz (by omega) (elem_int hi) m2 _ _ b2 c2
  simp only [List.cons.injEq, and_true] at g0 g1 g2
  subst g0 g1 g2
  obtain ⟨a, c, rfl⟩ := g2'.shape
  exact ⟨⟨i0, i1, xs⟩, hl, _, _, _, three_of hl a0 a1 a2, g0', g2'⟩
theorem elem_snap (hb : Bulk bk bka) {t tit tits : TypeId} {f0 f1 : Field} (ht : P.underlying t = some (.struct #[f0, f1])) (hk : P.cellsOf t = 2) (hall : ∀ (i : Nat) (f : Field), #[f0, f1][i]? = some f → f.offset = i ∧ P.cellsOf f.type = 1)
    (e0 : f0.type = ts) (e1 : f1.type = tits) (hs : P.underlying ts = some .string) (his : P.underlying tits = some (.slice tit)) (hz : P.cellsOf tit = 3) (hit : Elem enc P W bk tit 3 itemE) : Elem enc P W bk t 2 snapE := by
  intro n cs x h hx
  obtain ⟨hl, hf⟩ := struct_fields hb ht hk hall n cs x h hx
  obtain ⟨v0, y0, m0, a0, b0, c0⟩ := hf 0 f0 rfl (by omega)
  obtain ⟨v1, y1, m1, a1, b1, c1⟩ := hf 1 f1 rfl (by omega)
  rw [e0] at b0; rw [e1] at b1
  obtain ⟨i0, _, g0, g0'⟩ := elem_str hb hs m0 _ _ b0 c0
  obtain ⟨v, xs, g1, g1'⟩ := elem_slice hb his hz (by omega) hit m1 _ _ b1 c1
  simp only [List.cons.injEq, and_true] at g0 g1
  subst g0 g1
  obtain ⟨a, c, rfl⟩ := g1'.shape
  exact ⟨⟨i0, xs⟩, hl, _, _, _, two_of hl a0 a1, g0', g1'⟩
theorem elem_disk (hb : Bulk bk bka) {t the thes tit tits tsn tsns : TypeId} {f0 f1 f2 : Field} (ht : P.underlying t = some (.struct #[f0, f1, f2])) (hk : P.cellsOf t = 3) (hall : ∀ (i : Nat) (f : Field), #[f0, f1, f2][i]? = some f → f.offset = i ∧ P.cellsOf f.type = 1)
    (e0 : f0.type = thes) (e1 : f1.type = tits) (e2 : f2.type = tsns) (h0 : P.underlying thes = some (.slice the)) (h1 : P.underlying tits = some (.slice tit)) (h2 : P.underlying tsns = some (.slice tsn)) (z0 : P.cellsOf the = 3) (z1 : P.cellsOf tit = 3) (z2 : P.cellsOf tsn = 2)
    (hh : Elem enc P W bk the 3 heldE) (hit : Elem enc P W bk tit 3 itemE) (hsn : Elem enc P W bk tsn 2 snapE) : Elem enc P W bk t 3 diskE := by
  intro n cs x h hx
  obtain ⟨hl, hf⟩ := struct_fields hb ht hk hall n cs x h hx
  obtain ⟨v0, y0, m0, a0, b0, c0⟩ := hf 0 f0 rfl (by omega)
  obtain ⟨v1, y1, m1, a1, b1, c1⟩ := hf 1 f1 rfl (by omega)
  obtain ⟨v2, y2, m2, a2, b2, c2⟩ := hf 2 f2 rfl (by omega)
  rw [e0] at b0; rw [e1] at b1; rw [e2] at b2
  obtain ⟨u0, x0, g0, g0'⟩ := elem_slice hb h0 z0 (by omega) hh m0 _ _ b0 c0
  obtain ⟨u1, x1, g1, g1'⟩ := elem_slice hb h1 z1 (by omega) hit m1 _ _ b1 c1
  obtain ⟨u2, x2, g2, g2'⟩ := elem_slice hb h2 z2 (by omega) hsn m2 _ _ b2 c2
  simp only [List.cons.injEq, and_true] at g0 g1 g2
  subst g0 g1 g2
  obtain ⟨a, c, rfl⟩ := g0'.shape
  obtain ⟨a', c', rfl⟩ := g1'.shape
  obtain ⟨a'', c'', rfl⟩ := g2'.shape
  exact ⟨⟨x0, x1, x2⟩, hl, _, _, _, _, _, _, _, _, _, three_of hl a0 a1 a2, g0', g1', g2'⟩
theorem same_of_ext {w w' : World} (h : Ext w w') {p : MemPlace} (hp : p.block < w.heap.size) : w.sameAt w' p := by
  have hb := h.block p.block hp
  cases p with
  | cell b off => simp only [World.sameAt, World.cell?]; simp only [MemPlace.block] at hb; rw [hb]
  | map b => simp only [World.sameAt]; simpa [MemPlace.block] using hb
end
end Fw
namespace Fw
open Go Go.ChangeShapes Go.WideShapes
section
variable {H : Type} {enc : TypeId × Value → H} {P : Program}
theorem trodAll_stays (hl : laidOutB P = true) {W W' : World} {sp' : Nat → Bool} : ∀ {ts : List TypeId} {vs : List Value} {ds : List (DataW H)} {ps : List MemPlace}, (∀ t, t ∈ ts → P.readableRec t = true ∧ t < P.types.size) →
    DataW.TrodAll enc P W 0 (fun _ => true) true ts vs ds ps → (∀ p ∈ ps, W.sameAt W' p) → (∀ p ∈ ps, sp' p.block = true) → DataW.TrodAll enc P W' 0 sp' true ts vs ds ps
  | [], _, _, _, _, h, _, _ => by
    obtain ⟨rfl, rfl, rfl⟩ := trodAll_nil h
    rfl
  | t :: ts, _, _, _, hr, h, hs, hq => by
    obtain ⟨v, vs1, d, ds1, a, b, rfl, rfl, rfl, h1, h2⟩ := trodAll_cons h
    exact ⟨a, b, WideElems.Trod_stays hl (hr t (by simp)).1 (hr t (by simp)).2 h1 (fun p hp => hs p (by simp [hp])) (fun p hp => hq p (by simp [hp])),
      trodAll_stays hl (fun t ht => hr t (by simp [ht])) h2 (fun p hp => hs p (by simp [hp])) (fun p hp => hq p (by simp [hp])), rfl⟩
theorem kept_of_ext {W W' : World} (h : Ext W W') (may : MemPlace → Prop) : W.keptBut W' may := by
  refine ⟨h.os, h.output, fun i hi => ?_⟩
  rw [h.block i hi]
  cases W.heap[i]? with
  | none => simp
  | some o => cases o <;> simp
theorem law_post {f : Func} {s : ChangeSpec} {apart fresh handsOn again : Bool} {W W' : World} {args : Array Value} {ds gs : List (DataW H)} {before : List MemPlace} (hl : laidOutB P = true) (hr : ∀ t, t ∈ f.params.toList → P.readableRec t = true ∧ t < P.types.size)
    (hv : s.vars = []) (hW : DataW.Whole enc P f.params.toList s.vars apart W args.toList ds gs before) (hx : Ext W W') (hfr : (s.fn H (ds ++ gs)).results = [.lit (.bool true)]) (hfa : (s.fn H (ds ++ gs)).args = ds) (hfv : (s.fn H (ds ++ gs)).vars = [])
    (hres : ∀ (b : Nat) (sp : Nat → Bool) (hd : Bool), DataW.TrodAll enc P W' b sp hd f.resultTypes.toList ((Value.bool true).resultList f.resultTypes.size) [.lit (.bool true)] [])
    (hok : ∀ (j : Nat) (t : TypeId) (r : Value), f.resultTypes[j]? = some t → ((Value.bool true).resultList f.resultTypes.size)[j]? = some r → Value.okWide P W' .any 0 t r) :
    s.post enc P f apart fresh handsOn again W args (.bool true) W' := by
  have hW' := hW
  obtain ⟨p, q, hA, hV, rfl, hz, hn⟩ := hW
  rw [hv] at hV
  have hgs : gs = [] ∧ q = [] := by
    cases gs with
    | nil => exact ⟨rfl, hV⟩
    | cons d r => exact hV.elim
  obtain ⟨rfl, rfl⟩ := hgs
  rw [List.append_nil] at hW' hz hn
  have hlt : ∀ m ∈ p, m.block < W.heap.size := fun m hm => hW'.lt m hm
  have hold : ∀ m ∈ p, (fun b => decide (b < W.heap.size)) m.block = true := fun m hm => by simpa using hlt m hm
  have hargs : ∀ sp : Nat → Bool, (∀ m ∈ p, sp m.block = true) → DataW.TrodAll enc P W' 0 sp true f.params.toList args.toList (s.fn H (ds ++ [])).args p := fun sp hsp => by
    rw [hfa]
    exact trodAll_stays hl hr hA (fun m hm => same_of_ext hx (hlt m hm)) hsp
  have hvars : ∀ sp : Nat → Bool, DataW.TrodVars enc P W' sp s.vars (s.fn H (ds ++ [])).vars [] := fun sp => by rw [hv, hfv]; rfl
  have hres' : ∀ (b : Nat) (sp : Nat → Bool) (hd : Bool), DataW.TrodAll enc P W' b sp hd f.resultTypes.toList ((Value.bool true).resultList f.resultTypes.size) (s.fn H (ds ++ [])).results [] := fun b sp hd => by rw [hfr]; exact hres b sp hd
  refine ⟨ds, [], p, [], p, [], hW', hres' _ _ _, hargs _ hold, hvars _, World.keptBut_mono (fun m hm => ⟨hm, Or.inr ?_⟩) (kept_of_ext hx (· ∈ p)), fun _ => ?_⟩
  · simpa using hm
  · refine ⟨hok, _, _, ([] ++ p) ++ [], ⟨[] ++ p, [], trodAll_append (hargs _ (fun _ _ => rfl)) (hres' _ _ _), hvars _, rfl, ?_, ?_⟩, ?_⟩
    · intro b off hp
      have hp' : MemPlace.cell b off ∈ p := by simpa using hp
      have h1 := hz b off hp'
      have h2 := hx.block b (hlt _ hp')
      simp only [World.frozen?] at h1 ⊢
      rw [h2]
      exact h1
    · intro ha
      simpa using hn ha
    · intro m hm _
      simpa using hm
end
end Fw
namespace Fw
open Go Go.WideShapes
theorem agg_of {P : Program} {W : World} {b : Nat} {t : TypeId} {fs : Array Field} {v : Value} (ht : P.underlying t = some (.struct fs)) (h : Value.okWide P W .any b t v) : ∃ cs : List Value, v = .agg cs.toArray := by
  unfold Value.okWide at h
  rw [ht] at h
  obtain ⟨cs, rfl, _⟩ := h
  exact ⟨cs.toList, by simp⟩
end Fw
