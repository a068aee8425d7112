/- Part 6 of the proof: contracts of functions of the program. Conditions: none. -/
import Derived.Test.YtcnapjpnemcolaaGreatDoorProg
import Derived.Test.YtcnapjpnemcolaaGreatDoorG02
import Derived.Test.YtcnapjpnemcolaaGreatDoorG03
import Derived.Test.YtcnapjpnemcolaaGreatDoorG04
import Derived.Test.YtcnapjpnemcolaaGreatDoorG05
set_option linter.all false
set_option maxRecDepth 100000
set_option maxHeartbeats 1000000
namespace Go.Proofs.Tst
open Go Fw Tryz
theorem l4Ids_c (w0 : World) (G0 : PH) (hG : PSub G0 w0) (vlist : Value) (list : List (BHeld)) (hlist : RdH G0 vlist list) (vids : Value) (ids : List (Int)) (hids : RdI G0 vids ids)  :
  Calls Tryz.prog 91 #[vlist, vids] w0 (Rets w0 (.bool (Sp.l4Ids list ids))) := by
 obtain ⟨alist, klist, rfl⟩ := hlist.shape
 have hlimlist : list.length ≤ 1099511627776 := hlist.lim
 obtain ⟨aids, kids, rfl⟩ := hids.shape
 have hlimids : ids.length ≤ 1099511627776 := hids.lim
 have H := Hp.init hG
 refine calls_of_W (l := [.slice alist list.length klist, .slice aids ids.length kids]) func91 Z ntmps91 Z (q2 (aG Z (q3 (W_seq (q2 (aG Z (q3 (W_block ?_))))))))
 refine W_lp (hf := (Sub.cons (t := 0) Z (Sub.cons (t := 1) Z Sub.nil))) (J := fun M w m => ∃ (k : Nat) (G : PH), M = [(5, .int .i64 (k : Int))] ∧ PLe G0 G ∧ Hp w0 G0 [] w G [] ∧ (k ≤ ids.length ∧ ∀ j, j < k → Sp.idsOk list ids j = true) ∧ m = (ids.length - k)) (h0 := ⟨0, _, Z, PLe.refl _, H, ?inv, Z⟩) (round := ?round)
 case inv => exact ⟨by omega, fun j hj => by omega⟩
 case round =>
  rintro _ w1 _ ⟨k, G1, rfl, hle1, H, hinv1, rfl⟩
  have hlist := hlist.up hle1
  have hids := hids.up hle1
  obtain ⟨hk, hall⟩ := hinv1
  refine W_seq (q2 (mV Z (mV Z (o_len_slice underlying38 Z Z (o_lss Z Z Z (q3 ?_))))))
  refine W_cond Z ?_ ?_
  ·intro hc2
   try simp only [nrm] at hc2
   refine W_skip (N_K (W_seq (W_block (q2 (mV Z (mV Z (mV Z (o_index_P k hids underlying38 sizeOf3 Z Z Z Z aN ?_)))))))); intro b3 o3 z3 q3 hz3 hE3 hrow3
   obtain ⟨rfl, hi3⟩ := hE3
   refine o_load_P H isAgg3 Z Z (hrow3 0 _ Z) (o_call call113 Z Z (l3At_c _ _ H.sub _ _ hlist _ ) ?_)
   rintro _ w4 ⟨rfl, ew4⟩; have H := H.step ew4; refine ⟨_, rfl, ?_⟩
   refine aG Z (q1 (mV Z (o_lss Z Z Z (mV Z ?_))))
   refine R_case (t := 21) Z ?_ ?_
   ·intro hc5
    try simp only [nrm] at hc5
    refine rP Z (rP Z (rP Z (rP Z (rP Z (rP Z (R_pass Z (yl_un Z Z) (R_pass Z (yl_un Z Z) (R_pass Z (yl_un Z Z) (R_pass Z (yl_un Z Z) (R_pass Z (yl_un Z Z) (R_pass Z (yl_un Z Z) (R_pass Z (yl_un Z Z) (rP Z (o_pick_t Z Z Z (q3 ?_)))))))))))))))
    refine W_true Z (q2 (aG Z (q3 (W_ret (N_B_ret (N_K_ret (N_LP_ret (N_B_ret (N_K_ret (rt1 results91 Z ?_))))))))))
    exact H.rets (congrArg Value.bool (by rw [Sp.l4Ids, Sp.not_all_range (k := k) oM (by simp [Sp.idsOk, hz3, Sp.atH, Sp.at_none hc5])]; rfl))
   intro hc5'
   try simp only [nrm] at hc5'
   obtain ⟨i, x, hi1, hi2, hi3, hi4, hi5⟩ := Sp.at_nat hc5'
   have hl : Sp.atH list z3 = some i := hi1
   refine gR Z (mV Z (gR Z (o_add Z Z Z oO (gR Z (mV Z (gR Z (o_len_slice underlying38 Z Z (gR Z (o_lss Z Z Z (gR Z (mV Z ?_)))))))))))
   refine R_case (t := 27) Z ?_ ?_
   ·intro hc7
    try simp only [nrm] at hc7
    refine gR Z (mV Z (gR Z (mV Z (gR Z (o_index_P i hlist underlying23 sizeOf42 Z Z Z hi2 aN ?_))))); intro b8 o8 z8 q8 hz8 hE8 hrow8
    obtain ⟨a8, m8, c8, rfl, hi8, hr8, hj8⟩ := hE8; have hn_hr8 := hr8.len; have hx_hr8 : _ ≤ 1099511627776 := hr8.lim
    have hzz : x = z8 := Option.some.inj (hi4.symm.trans hz8)
    subst hzz
    refine gR Z (o_fieldAddr 1 runUnderlying42 Z sizeOf38 Z Z Z (gR Z (o_load_P H isAgg38 Z Z (hrow8 1 _ Z) (gR Z (o_len_slice underlying38 Z Z (gR Z (o_lss Z Z Z (gR Z (o_pick_t Z Z Z (o_pick_f Z Z Z (q3 ?_)))))))))))
    refine W_cond Z ?_ ?_
    ·intro hc9
     try simp only [nrm] at hc9
     refine q2 (aG Z (q3 (W_ret (N_B_ret (N_K_ret (N_LP_ret (N_B_ret (N_K_ret (rt1 results91 Z ?_)))))))))
     exact H.rets (congrArg Value.bool (by rw [Sp.l4Ids, Sp.not_all_range (k := k) oM (by simp [Sp.idsOk, hz3, hl, hi4]; omega)]; rfl))
    intro hc9'
    try simp only [nrm] at hc9'
    refine W_skip (N_B (N_K (W_region (mV Z (o_add Z Z Z oO (aG Z (R_nil ?_)))))))
    refine N_lp (hJ := ⟨k + 1, _, Z, hle1, H, ?inv, Z⟩) (hm := ?hm)
    case hm => omega
    case inv => exact ⟨by omega, Sp.upto_succ hall (by simp [Sp.idsOk, hz3, hl, hi4]; omega)⟩
   intro hc7'
   try simp only [nrm] at hc7'
   refine rP Z (rP Z (rP Z (rP Z (rP Z (rP Z (rP Z (gR Z (o_pick_f Z Z Z (o_pick_f Z Z Z (q3 (W_false Z (W_skip (N_B (N_K (W_region ?_)))))))))))))))
   refine mV Z (o_add Z Z Z oO (aG Z (R_nil ?_)))
   refine N_lp (hJ := ⟨k + 1, _, Z, hle1, H, ?inv, Z⟩) (hm := ?hm)
   case hm => omega
   case inv => exact ⟨by omega, Sp.upto_succ hall (by simp [Sp.idsOk, hz3, hl, hi4]; omega)⟩
  intro hc2'
  try simp only [nrm] at hc2'
  refine W_exit (N_K_exit (N_LP_exit (N_B_same (N_K (q2 (mV Z (o_len_slice underlying38 Z Z (o_leq Z Z Z (aG Z (q3 (W_ret (rt1 results91 Z ?_))))))))))))
  exact H.rets (congrArg Value.bool (by rw [Sp.l4Ids, Sp.all_range (fun j hj => hall j oM), Bool.true_and]; rw [Bool.eq_iff_iff]; simp; omega))
end Go.Proofs.Tst

namespace Go.Proofs.Tst
open Go Fw Tryz
theorem l11Count_c (w0 : World) (G0 : PH) (hG : PSub G0 w0) (vlist : Value) (list : List (BItem)) (hlist : RdItems G0 vlist list) (id : Int) (hT : Sp.TreeValid list = true) :
  Calls Tryz.prog 50 #[vlist, .int .i64 id] w0 (Rets w0 (.int .i64 (Sp.l11Count list id : Int))) := by
 obtain ⟨alist, klist, rfl⟩ := hlist.shape
 have hlimlist : list.length ≤ 1099511627776 := hlist.lim
 have htl := Sp.tree_len hT
 have H := Hp.init hG
 refine calls_of_W (l := [.slice alist list.length klist, .int .i64 id]) func50 Z ntmps50 Z (q2 (aG Z (q1 (aG Z (q3 (W_seq (q2 (aG Z (q3 (W_block ?_))))))))))
 refine W_lp (hf := (Sub.cons (t := 0) Z (Sub.cons (t := 1) Z (Sub.cons (t := 4) Z Sub.nil)))) (J := fun M w m => ∃ (c k : Nat) (G : PH), M = [(5, .int .i64 (c : Int)), (6, .int .i64 (k : Int))] ∧ PLe G0 G ∧ Hp w0 G0 [] w G [] ∧ (k ≤ list.length ∧ c = Sp.cntU list id k) ∧ m = (list.length - k)) (h0 := ⟨0, 0, _, Z, PLe.refl _, H, ?inv, Z⟩) (round := ?round)
 case inv => exact ⟨by omega, by simp [Sp.cntU]⟩
 case round =>
  rintro _ w1 _ ⟨c, k, G1, rfl, hle1, H, hinv1, rfl⟩
  have hlist := hlist.up hle1
  obtain ⟨hk, hc⟩ := hinv1; have hcu := Sp.cntU_le hT k hk (id := id)
  refine W_seq (q2 (mV Z (mV Z (o_len_slice underlying24 Z Z (o_lss Z Z Z (q3 ?_))))))
  refine W_cond Z ?_ ?_
  ·intro hc2
   try simp only [nrm] at hc2
   refine W_skip (N_K (W_seq (W_block (q2 (aG Z (q3 (W_block ?_)))))))
   refine W_lp (hf := (Sub.cons (t := 0) Z (Sub.cons (t := 1) Z (Sub.cons (t := 4) Z (Sub.cons (t := 6) Z Sub.nil))))) (J := fun M w m => ∃ (c2 j : Nat) (y : BItem) (G : PH), M = [(5, .int .i64 (c2 : Int)), (7, .int .i64 (j : Int))] ∧ PLe G1 G ∧ Hp w0 G0 [] w G [] ∧ (list[k]? = some y ∧ j ≤ y.ids.length ∧ c2 = Sp.cntU list id k + Sp.cnt1 id (y.ids.take j)) ∧ m = (y.ids.length - j)) (h0 := ⟨c, 0, (list[k]'oM), _, Z, PLe.refl _, H, ?inv, Z⟩) (round := ?round)
   case inv => exact ⟨by simp, by omega, by simp [hc, Sp.cnt1]⟩
   case round =>
    rintro _ w3 _ ⟨c2, j, y, G3, rfl, hle3, H, hinv3, rfl⟩
    have hlist := hlist.up hle3
    have hle1 := hle1.trans hle3
    obtain ⟨hy, hj, hc2⟩ := hinv3; have hc4 := (Sp.tree_at hT hy).2; have hc1 := Sp.cnt1_le id (y.ids.take j); have htk : (y.ids.take j).length ≤ j := by simp; omega
    refine W_seq (q2 (mV Z (mV Z (mV Z (o_index_P k hlist underlying24 sizeOf40 Z Z Z Z aN ?_))))); intro b4 o4 z4 q4 hz4 hE4 hrow4
    obtain ⟨a4, m4, c4, rfl, hi4, hr4⟩ := hE4; have hy_hi4 : _ ≤ 16777216 := hi4; have hn_hr4 := hr4.len; have hx_hr4 : _ ≤ 1099511627776 := hr4.lim
    have hzz4 : y = z4 := Option.some.inj (hy.symm.trans hz4)
    subst hzz4
    refine o_fieldAddr 2 runUnderlying40 Z sizeOf38 Z Z Z (o_load_P H isAgg38 Z Z (hrow4 2 _ Z) (o_len_slice underlying38 Z Z (o_lss Z Z Z (q3 ?_))))
    refine W_cond Z ?_ ?_
    ·intro hc5
     try simp only [nrm] at hc5
     refine W_skip (N_K (W_seq (W_block (q2 (mV Z (mV Z (o_index_P k hlist underlying24 sizeOf40 Z Z Z Z aN ?_))))))); intro b6 o6 z6 q6 hz6 hE6 hrow6
     obtain ⟨a6, m6, c6, rfl, hi6, hr6⟩ := hE6; have hy_hi6 : _ ≤ 16777216 := hi6; have hn_hr6 := hr6.len; have hx_hr6 : _ ≤ 1099511627776 := hr6.lim
     have hzz6 : y = z6 := Option.some.inj (hy.symm.trans hz6)
     subst hzz6
     refine o_fieldAddr 2 runUnderlying40 Z sizeOf38 Z Z Z (o_load_P H isAgg38 Z Z (hrow6 2 _ Z) (mV Z (o_index_P j hr6 underlying38 sizeOf3 Z Z Z Z aN ?_))); intro b7 o7 z7 q7 hz7 hE7 hrow7
     obtain ⟨rfl, hi7⟩ := hE7
     refine o_load_P H isAgg3 Z Z (hrow7 0 _ Z) (mV Z (o_eql Z Z Z (q3 ?_)))
     refine W_cond Z ?_ ?_
     ·intro hc8
      try simp only [nrm] at hc8
      refine W_region (mV Z (o_add Z Z Z oO (aG Z (R_nil (N_B (N_K (W_region (mV Z (o_add Z Z Z oO (aG Z (R_nil ?_)))))))))))
      refine N_lp (hJ := ⟨c2 + 1, j + 1, y, _, Z, hle3, H, ?inv, Z⟩) (hm := ?hm)
      case hm => omega
      case inv => exact ⟨hy, by omega, by rw [Sp.cnt1_succ hz7, if_pos oM, hc2]; omega⟩
     intro hc8'
     try simp only [nrm] at hc8'
     refine W_skip (N_B (N_K (W_region (mV Z (o_add Z Z Z oO (aG Z (R_nil ?_)))))))
     refine N_lp (hJ := ⟨c2, j + 1, y, _, Z, hle3, H, ?inv, Z⟩) (hm := ?hm)
     case hm => omega
     case inv => exact ⟨hy, by omega, by rw [Sp.cnt1_succ hz7, if_neg oM, hc2]; omega⟩
    intro hc5'
    try simp only [nrm] at hc5'
    refine W_exit (N_K_exit (N_LP_exit (N_B_same (N_B (N_K (W_region (mV Z (o_add Z Z Z oO (aG Z (R_nil ?_))))))))))
    refine N_lp (hJ := ⟨c2, k + 1, _, Z, hle1, H, ?inv, Z⟩) (hm := ?hm)
    case hm => omega
    case inv => exact ⟨by omega, by rw [hc2, Sp.cntU_succ hy, List.take_of_length_le oM]⟩
  intro hc2'
  try simp only [nrm] at hc2'
  refine W_exit (N_K_exit (N_LP_exit (N_B_same (N_K (q2 (mV Z (aG Z (q3 (W_ret (rt1 results50 Z ?_))))))))))
  obtain rfl : k = list.length := by omega
  exact H.rets (congrArg (Value.int .i64) (by rw [hc]; rfl))
theorem l11Files_c (w0 : World) (G0 : PH) (hG : PSub G0 w0) (vstore : Value) (store : List (BHeld)) (hstore : RdH G0 vstore store) (vlist : Value) (list : List (BItem)) (hlist : RdItems G0 vlist list)  :
  Calls Tryz.prog 55 #[vstore, vlist] w0 (Rets w0 (.bool (Sp.l11Files store list))) := by
 obtain ⟨astore, kstore, rfl⟩ := hstore.shape
 have hlimstore : store.length ≤ 1099511627776 := hstore.lim
 obtain ⟨alist, klist, rfl⟩ := hlist.shape
 have hlimlist : list.length ≤ 1099511627776 := hlist.lim
 have H := Hp.init hG
 refine calls_of_W (l := [.slice astore store.length kstore, .slice alist list.length klist]) func55 Z ntmps55 Z (q2 (aG Z (q3 (W_seq (q2 (aG Z (q3 (W_block ?_))))))))
 refine W_lp (hf := (Sub.cons (t := 0) Z (Sub.cons (t := 1) Z Sub.nil))) (J := fun M w m => ∃ (k : Nat) (G : PH), M = [(5, .int .i64 (k : Int))] ∧ PLe G0 G ∧ Hp w0 G0 [] w G [] ∧ (k ≤ list.length ∧ (list.take k).all (Sp.fileOk store) = true) ∧ m = (list.length - k)) (h0 := ⟨0, _, Z, PLe.refl _, H, ?inv, Z⟩) (round := ?round)
 case inv => exact ⟨by omega, by simp⟩
 case round =>
  rintro _ w1 _ ⟨k, G1, rfl, hle1, H, hinv1, rfl⟩
  have hstore := hstore.up hle1
  have hlist := hlist.up hle1
  obtain ⟨hk, hall⟩ := hinv1
  refine W_seq (q2 (mV Z (mV Z (o_len_slice underlying24 Z Z (o_lss Z Z Z (q3 ?_))))))
  refine W_cond Z ?_ ?_
  ·intro hc2
   try simp only [nrm] at hc2
   refine W_skip (N_K (W_seq (W_block (q2 (mV Z (mV Z (mV Z (o_index_P k hlist underlying24 sizeOf40 Z Z Z Z aN ?_)))))))); intro b3 o3 z3 q3 hz3 hE3 hrow3
   obtain ⟨a3, m3, c3, rfl, hi3, hr3⟩ := hE3; have hy_hi3 : _ ≤ 16777216 := hi3; have hn_hr3 := hr3.len; have hx_hr3 : _ ≤ 1099511627776 := hr3.lim
   refine o_fieldAddr 2 runUnderlying40 Z sizeOf38 Z Z Z (o_load_P H isAgg38 Z Z (hrow3 2 _ Z) (o_call call91 Z Z (l4Ids_c _ _ H.sub _ _ hstore _ _ hr3 ) ?_))
   rintro _ w4 ⟨rfl, ew4⟩; have H := H.step ew4; refine ⟨_, rfl, ?_⟩
   refine o_not Z Z (q3 ?_)
   refine W_cond Z ?_ ?_
   ·intro hc5
    try simp only [nrm] at hc5
    refine q2 (aG Z (q3 (W_ret (N_B_ret (N_K_ret (N_LP_ret (N_B_ret (N_K_ret (rt1 results55 Z ?_)))))))))
    exact H.rets (congrArg Value.bool (by rw [Sp.l11Files, Sp.all_false hz3 (by simp [Sp.fileOk, *])]))
   intro hc5'
   try simp only [nrm] at hc5'
   refine W_skip (N_B (N_K (W_region (mV Z (o_add Z Z Z oO (aG Z (R_nil ?_)))))))
   refine N_lp (hJ := ⟨k + 1, _, Z, hle1, H, ?inv, Z⟩) (hm := ?hm)
   case hm => omega
   case inv => exact ⟨by omega, Sp.all_take hall hz3 (by simp [Sp.fileOk, *])⟩
  intro hc2'
  try simp only [nrm] at hc2'
  refine W_exit (N_K_exit (N_LP_exit (N_B_same (N_K (q2 (aG Z (q3 (W_ret (rt1 results55 Z ?_)))))))))
  obtain rfl : k = list.length := by omega
  rw [List.take_length] at hall
  exact H.rets (congrArg Value.bool (by rw [Sp.l11Files, hall]))
theorem l11Ids_c (w0 : World) (G0 : PH) (hG : PSub G0 w0) (vlist : Value) (list : List (BItem)) (hlist : RdItems G0 vlist list) (path : Bs) (hpath : path.length ≤ 16777216)  :
  Calls Tryz.prog 161 #[vlist, str path] w0 (RetP w0 G0 (fun G v => RdItems G v (Sp.l11Ids list path))) := by
 obtain ⟨alist, klist, rfl⟩ := hlist.shape
 have hlimlist : list.length ≤ 1099511627776 := hlist.lim
 have H := Hp.init hG
 refine calls_of_W (l := [.slice alist list.length klist, str path]) func161 Z ntmps161 Z (q2 (aG Z (q1 (mV Z (mV Z (o_call call118 Z Z (l5At_c _ _ H.sub _ _ hlist _ hpath ) ?_))))))
 rintro _ w1 ⟨rfl, ew1⟩; have H := H.step ew1; refine ⟨_, rfl, ?_⟩
 refine aG Z (q3 (W_seq (q2 (mV Z (o_lss Z Z Z (mV Z ?_))))))
 refine R_case (t := 11) Z ?_ ?_
 ·intro hc2
  try simp only [nrm] at hc2
  refine rP Z (rP Z (rP Z (rP Z (rP Z (o_pick_t Z Z Z (q3 (W_true Z (q2 (o_buildSlice H underlying24 sizeOf40 (fun w => ⟨_, zeroValue40 w, Z⟩) Z Z Z Z Z Z Z ?_))))))))); intro b3 w3 hb3 H
  have H := H.blkAcc 3 (k := 0) (n := 0) rfl rfl (by decide)
  refine aG Z (q3 (W_ret (N_K_ret (rt1 results161 Z ?_))))
  obtain ⟨G504, H, hsg504, hsr504⟩ := H.shut' (k := 0) rfl (Chk.nil (E := itemE) (sz := 3) (G := G0)) aN aN
  exact H.retP (by rw [show Sp.l11Ids list path = [] by simp [Sp.l11Ids, Sp.atI, Sp.at_none hc2]]; exact hsr504)
 intro hc2'
 try simp only [nrm] at hc2'
 obtain ⟨i, y, ia, ib, ic, ie, ig⟩ := Sp.at_nat hc2'
 have ib : Sp.l5At list path = (i : Int) := ib
 have hl : Sp.atI list path = some i := ia
 refine gR Z (mV Z (gR Z (mV Z (gR Z (o_index_P i hlist underlying24 sizeOf40 Z Z Z ib aN ?_))))); intro b4 o4 z4 q4 hz4 hE4 hrow4
 obtain ⟨a4, m4, c4, rfl, hi4, hr4⟩ := hE4; have hy_hi4 : _ ≤ 16777216 := hi4; have hn_hr4 := hr4.len; have hx_hr4 : _ ≤ 1099511627776 := hr4.lim
 refine gR Z (o_fieldAddr 1 runUnderlying40 Z sizeOf4 Z Z Z (gR Z (o_load_P H isAgg4 Z Z (hrow4 1 _ Z) (o_pick_f Z Z Z (q3 ?_)))))
 refine W_cond Z ?_ ?_
 ·intro hc5
  try simp only [nrm] at hc5
  refine q2 (o_buildSlice H underlying24 sizeOf40 (fun w => ⟨_, zeroValue40 w, Z⟩) Z Z Z Z Z Z Z ?_); intro b6 w6 hb6 H
  have H := H.blkAcc 3 (k := 0) (n := 0) rfl rfl (by decide)
  refine aG Z (q3 (W_ret (N_K_ret (rt1 results161 Z ?_))))
  obtain ⟨G507, H, hsg507, hsr507⟩ := H.shut' (k := 0) rfl (Chk.nil (E := itemE) (sz := 3) (G := G0)) aN aN
  exact H.retP (by rw [show Sp.l11Ids list path = [] by simp [Sp.l11Ids, hl, hz4, hc5]]; exact hsr507)
 intro hc5'
 try simp only [nrm] at hc5'
 refine W_skip (N_K (q2 (mV Z (mV Z (mV Z (o_add Z Z Z oO ?_))))))
 have hcap8 := hlist.cap; try simp only [List.length_set, List.length_append, List.length_take, List.length_drop, List.length_replicate] at hcap8
 refine o_slice (i := i) (j := (i + 1)) underlying24 sizeOf40 Z Z Z Z ib oM aN aN ?_
 have hsl8 := hlist.part (i := i) (j := (i + 1)) oM oM
 have hsn1 := hsl8.len
 refine aG Z (q3 (W_ret (rt1 results161 Z ?_)))
 exact H.retP (by rw [show Sp.l11Ids list path = (list.drop i).take (i + 1 - i) by simp [Sp.l11Ids, hl, hz4, hc5', Sp.drop_at hz4]]; exact hsl8)
end Go.Proofs.Tst

namespace Go.Proofs.Tst
open Go Fw Tryz
theorem l12Count_c (w0 : World) (G0 : PH) (hG : PSub G0 w0) (cd : List Value) (d : BDisk) (hd : diskE G0 d cd) (id : Int) (hT : Sp.TreeValid d.tree = true) (hN : Sp.l12Snaps d = true) :
  Calls Tryz.prog 57 #[.agg cd.toArray, .int .i64 id] w0 (Rets w0 (.int .i64 (Sp.l12Count d id : Int))) := by
 obtain ⟨a1, m1, c1, a1', m1', c1', a1'', m1'', c1'', rfl, hr1, hr1', hr1''⟩ := hd; have hn_hr1 := hr1.len; have hx_hr1 : _ ≤ 1099511627776 := hr1.lim; have hn_hr1q := hr1'.len; have hx_hr1q : _ ≤ 1099511627776 := hr1'.lim; have hn_hr1qq := hr1''.len; have hx_hr1qq : _ ≤ 1099511627776 := hr1''.lim
 obtain ⟨hsl, hst⟩ := Sp.snaps_at hN
 have htc := Sp.l11Count_le hT (id := id)
 have H := Hp.init hG
 refine calls_of_W (l := [_, .int .i64 id]) func57 Z ntmps57 Z (q2 (o_box H Z Z Z ?_)); intro b2 w2 hb2 H
 refine aG Z (q1 (o_fieldAddr 1 runUnderlying27 Z sizeOf24 Z Z Z (o_load_B 0 H isAgg24 Z Z Z Z (mV Z (o_call call50 Z Z (l11Count_c _ _ H.sub _ _ hr1' _ hT) ?_)))))
 rintro _ w3 ⟨rfl, ew3⟩; have H := H.step ew3; refine ⟨_, rfl, ?_⟩
 refine aG Z (q3 (W_seq (q2 (aG Z (q3 (W_block ?_))))))
 obtain ⟨ln4, hln4, H⟩ := H.name (k := 0) rfl
 refine W_lp (hf := (Sub.cons (t := 1) Z (Sub.cons (t := 2) Z (Sub.cons (t := 4) Z Sub.nil)))) (J := fun M w m => ∃ (c k : Nat) (G : PH), M = [(5, .int .i64 (c : Int)), (6, .int .i64 (k : Int))] ∧ PLe G0 G ∧ Hp w0 G0 [] w G [blk b2 (cl ln4 27)] ∧ (k ≤ d.snaps.length ∧ c = Sp.l11Count d.tree id + Sp.cntS d.snaps id k) ∧ m = (d.snaps.length - k)) (h0 := ⟨(Sp.l11Count d.tree id), 0, _, Z, PLe.refl _, H, ?inv, Z⟩) (round := ?round)
 case inv => exact ⟨by omega, by simp [Sp.cntS]⟩
 case round =>
  rintro _ w5 _ ⟨c, k, G5, rfl, hle5, H, hinv5, rfl⟩
  subst hln4
  have hr1'' := hr1''.up hle5
  obtain ⟨hk, hc⟩ := hinv5; have hcu := Sp.cntS_le hst k hk (id := id)
  refine W_seq (q2 (mV Z (o_fieldAddr 2 runUnderlying27 Z sizeOf25 Z Z Z (o_load_B 0 H isAgg25 Z Z Z Z (o_len_slice underlying25 Z Z (o_lss Z Z Z (q3 ?_)))))))
  refine W_cond Z ?_ ?_
  ·intro hc6
   try simp only [nrm] at hc6
   refine W_skip (N_K (W_seq (W_block (W_region (mV Z (o_fieldAddr 2 runUnderlying27 Z sizeOf25 Z Z Z (o_load_B 0 H isAgg25 Z Z Z Z (mV Z (o_index_P k hr1'' underlying25 sizeOf46 Z Z Z Z aN ?_))))))))); intro b7 o7 z7 q7 hz7 hE7 hrow7
   obtain ⟨a7, m7, c7, rfl, hi7, hr7⟩ := hE7; have hy_hi7 : _ ≤ 16777216 := hi7; have hn_hr7 := hr7.len; have hx_hr7 : _ ≤ 1099511627776 := hr7.lim
   have hlz := Sp.l11Count_le (hst _ (List.mem_of_getElem? hz7)) (id := id)
   refine o_fieldAddr 1 runUnderlying46 Z sizeOf24 Z Z Z (o_load_P H isAgg24 Z Z (hrow7 1 _ Z) (mV Z ?_))
   refine o_call call50 Z Z (l11Count_c _ _ H.sub _ _ hr7 _ (hst _ (List.mem_of_getElem? hz7))) ?_
   rintro _ w8 ⟨rfl, ew8⟩; have H := H.step ew8; refine ⟨_, rfl, ?_⟩
   refine o_add Z Z Z oO (aG Z (R_nil (N_B (N_K (W_region (mV Z (o_add Z Z Z oO (aG Z (R_nil ?_)))))))))
   refine N_lp (hJ := ⟨c + Sp.l11Count z7.tree id, k + 1, _, Z, hle5, H, ?inv, Z⟩) (hm := ?hm)
   case hm => omega
   case inv => exact ⟨by omega, by rw [hc, Sp.cntS_succ hz7]; omega⟩
  intro hc6'
  try simp only [nrm] at hc6'
  refine W_exit (N_K_exit (N_LP_exit (N_B_same (N_K (q2 (mV Z (aG Z (q3 (W_ret (rt1 results57 Z ?_))))))))))
  obtain rfl : k = d.snaps.length := by omega
  exact H.rets (congrArg (Value.int .i64) (by rw [hc]; rfl))
end Go.Proofs.Tst

namespace Go.Proofs.Tst
open Go Fw Tryz
theorem l12Snaps_c (w0 : World) (G0 : PH) (hG : PSub G0 w0) (cd : List Value) (d : BDisk) (hd : diskE G0 d cd)  :
  Calls Tryz.prog 56 #[.agg cd.toArray] w0 (Rets w0 (.bool (Sp.l12Snaps d))) := by
 obtain ⟨a1, m1, c1, a1', m1', c1', a1'', m1'', c1'', rfl, hr1, hr1', hr1''⟩ := hd; have hn_hr1 := hr1.len; have hx_hr1 : _ ≤ 1099511627776 := hr1.lim; have hn_hr1q := hr1'.len; have hx_hr1q : _ ≤ 1099511627776 := hr1'.lim; have hn_hr1qq := hr1''.len; have hx_hr1qq : _ ≤ 1099511627776 := hr1''.lim
 have H := Hp.init hG
 refine calls_of_W (l := [_]) func56 Z ntmps56 Z (q2 (o_box H Z Z Z ?_)); intro b2 w2 hb2 H
 refine aG Z (q3 (W_seq (q2 (aG Z (q3 (W_block ?_))))))
 obtain ⟨ln3, hln3, H⟩ := H.name (k := 0) rfl
 refine W_lp (hf := (Sub.cons (t := 1) Z Sub.nil)) (J := fun M w m => ∃ (k : Nat) (G : PH), M = [(3, .int .i64 (k : Int))] ∧ PLe G0 G ∧ Hp w0 G0 [] w G [blk b2 (cl ln3 27)] ∧ (k ≤ d.snaps.length ∧ ∀ j, j < k → Sp.okS d j = true) ∧ m = (d.snaps.length - k)) (h0 := ⟨0, _, Z, PLe.refl _, H, ?inv, Z⟩) (round := ?round)
 case inv => exact ⟨by omega, fun j hj => by omega⟩
 case round =>
  rintro _ w4 _ ⟨k, G4, rfl, hle4, H, hinv4, rfl⟩
  subst hln3
  have hr1 := hr1.up hle4
  have hr1'' := hr1''.up hle4
  obtain ⟨hk, hall⟩ := hinv4
  refine W_seq (q2 (mV Z (o_fieldAddr 2 runUnderlying27 Z sizeOf25 Z Z Z (o_load_B 0 H isAgg25 Z Z Z Z (o_len_slice underlying25 Z Z (o_lss Z Z Z (q3 ?_)))))))
  refine W_cond Z ?_ ?_
  ·intro hc5
   try simp only [nrm] at hc5
   refine W_skip (N_K (W_seq (W_block (q2 (o_fieldAddr 2 runUnderlying27 Z sizeOf25 Z Z Z (o_load_B 0 H isAgg25 Z Z Z Z (mV Z (o_index_P k hr1'' underlying25 sizeOf46 Z Z Z Z aN ?_)))))))); intro b6 o6 z6 q6 hz6 hE6 hrow6
   obtain ⟨a6, m6, c6, rfl, hi6, hr6⟩ := hE6; have hy_hi6 : _ ≤ 16777216 := hi6; have hn_hr6 := hr6.len; have hx_hr6 : _ ≤ 1099511627776 := hr6.lim
   refine o_loadagg_P H isAgg46 sizeOf46 Z Z hrow6 Z (o_alloc H zeroValue46 Z Z ?_); intro b7 w7 hb7 H
   refine o_store_B 0 H sizeOf46 Z Z Z Z Z Z Z Z ?_; intro w8 H
   refine q1 (o_fieldAddr 0 runUnderlying46 Z sizeOf9 Z Z Z (o_load_B 0 H isAgg9 Z Z Z Z (o_call call39 Z Z (l1Word_c _ _ hi6 ) ?_)))
   rintro _ w9 ⟨rfl, ew9⟩; have H := H.step ew9; refine ⟨_, rfl, ?_⟩
   refine o_not Z Z (mV Z ?_)
   refine R_case (t := 21) Z ?_ ?_
   ·intro hc10
    try simp only [nrm] at hc10
    refine rP Z (rP Z (rP Z (rP Z (rP Z (rP Z (rP Z (o_pick_t Z Z Z (mV Z (rP Z (rP Z (rP Z (rP Z (o_pick_t Z Z Z (mV Z (rP Z ?_)))))))))))))))
    refine rP Z (rP Z (rP Z (rP Z (rP Z (o_pick_t Z Z Z (q3 (W_true Z (q2 (aG Z (q3 (W_ret (N_B_ret (N_K_ret (N_LP_ret (N_B_ret ?_)))))))))))))))
    refine N_K_ret (rt1 results56 Z ?_)
    exact H.rets (congrArg Value.bool (by rw [Sp.l12Snaps, Sp.not_all_range (k := k) oM (by rw [Sp.okS_at hz6]; simp [*] <;> (intros; omega))]; rfl))
   intro hc10'
   try simp only [nrm] at hc10'
   refine gR Z (o_fieldAddr 2 runUnderlying27 Z sizeOf25 Z Z Z (gR Z (o_load_B 1 H isAgg25 Z Z Z Z (gR Z (o_fieldAddr 0 runUnderlying46 Z sizeOf9 Z Z Z (gR Z (o_load_B 0 H isAgg9 Z Z Z Z (gR Z (o_call call40 Z Z (l12At_c _ _ H.sub _ _ hr1'' _ hi6 ) ?_)))))))))
   rintro _ w11 ⟨rfl, ew11⟩; have H := H.step ew11; refine ⟨_, rfl, ?_⟩
   refine gR Z (mV Z (gR Z (o_lss Z Z Z (o_pick_f Z Z Z (mV Z ?_)))))
   refine R_case (t := 30) Z ?_ ?_
   ·intro hc12
    try simp only [nrm] at hc12
    refine rP Z (rP Z (rP Z (rP Z (o_pick_t Z Z Z (mV Z (rP Z (rP Z (rP Z (rP Z (rP Z (rP Z (o_pick_t Z Z Z (q3 (W_true Z (q2 ?_)))))))))))))))
    refine aG Z (q3 (W_ret (N_B_ret (N_K_ret (N_LP_ret (N_B_ret (N_K_ret (rt1 results56 Z ?_))))))))
    exact H.rets (congrArg Value.bool (by rw [Sp.l12Snaps, Sp.not_all_range (k := k) oM (by rw [Sp.okS_at hz6]; simp [*] <;> (intros; omega))]; rfl))
   intro hc12'
   try simp only [nrm] at hc12'
   refine gR Z (o_fieldAddr 1 runUnderlying46 Z sizeOf24 Z Z Z (gR Z (o_load_B 0 H isAgg24 Z Z Z Z (gR Z (o_call call54 Z Z (TreeValid_c _ _ H.sub _ _ hr6 ) ?_)))))
   rintro _ w13 ⟨rfl, ew13⟩; have H := H.step ew13; refine ⟨_, rfl, ?_⟩
   refine gR Z (o_not Z Z (o_pick_f Z Z Z (mV Z ?_)))
   refine R_case (t := 36) Z ?_ ?_
   ·intro hc14
    try simp only [nrm] at hc14
    refine rP Z (rP Z (rP Z (rP Z (rP Z (rP Z (o_pick_t Z Z Z (q3 (W_true Z (q2 (aG Z (q3 (W_ret (N_B_ret (N_K_ret (N_LP_ret ?_)))))))))))))))
    refine N_B_ret (N_K_ret (rt1 results56 Z ?_))
    exact H.rets (congrArg Value.bool (by rw [Sp.l12Snaps, Sp.not_all_range (k := k) oM (by rw [Sp.okS_at hz6]; simp [*] <;> (intros; omega))]; rfl))
   intro hc14'
   try simp only [nrm] at hc14'
   refine gR Z (o_fieldAddr 0 runUnderlying27 Z sizeOf23 Z Z Z (gR Z (o_load_B 1 H isAgg23 Z Z Z Z (gR Z (o_fieldAddr 1 runUnderlying46 Z sizeOf24 Z Z Z (gR Z (o_load_B 0 H isAgg24 Z Z Z Z (gR Z (o_call call55 Z Z (l11Files_c _ _ H.sub _ _ hr1 _ _ hr6 ) ?_)))))))))
   rintro _ w15 ⟨rfl, ew15⟩; have H := H.step ew15; refine ⟨_, rfl, ?_⟩
   refine gR Z (o_not Z Z (o_pick_f Z Z Z (q3 ?_)))
   refine W_cond Z ?_ ?_
   ·intro hc16
    try simp only [nrm] at hc16
    refine q2 (aG Z (q3 (W_ret (N_B_ret (N_K_ret (N_LP_ret (N_B_ret (N_K_ret (rt1 results56 Z ?_)))))))))
    exact H.rets (congrArg Value.bool (by rw [Sp.l12Snaps, Sp.not_all_range (k := k) oM (by rw [Sp.okS_at hz6]; simp [*] <;> (intros; omega))]; rfl))
   intro hc16'
   try simp only [nrm] at hc16'
   refine W_skip (N_B (N_K (W_region (mV Z (o_add Z Z Z oO (aG Z (R_nil ?_)))))))
   have H := H.del (k := 0) rfl
   refine N_lp (hJ := ⟨k + 1, _, Z, hle4, H, ?inv, Z⟩) (hm := ?hm)
   case hm => omega
   case inv => exact ⟨by omega, Sp.upto_succ hall (by rw [Sp.okS_at hz6]; simp [*])⟩
  intro hc5'
  try simp only [nrm] at hc5'
  refine W_exit (N_K_exit (N_LP_exit (N_B_same (N_K (q2 (o_fieldAddr 2 runUnderlying27 Z sizeOf25 Z Z Z (o_load_B 0 H isAgg25 Z Z Z Z (o_len_slice underlying25 Z Z (o_leq Z Z Z (aG Z (q3 (W_ret (rt1 results56 Z ?_)))))))))))))
  exact H.rets (congrArg Value.bool (by rw [Sp.l12Snaps, Sp.all_range (fun j hj => hall j oM), Bool.true_and]; rw [Bool.eq_iff_iff]; simp; omega))
end Go.Proofs.Tst

namespace Go.Proofs.Tst
open Go Fw Tryz
theorem DiskValid_c (w0 : World) (G0 : PH) (hG : PSub G0 w0) (cd : List Value) (d : BDisk) (hd : diskE G0 d cd)  :
  Calls Tryz.prog 23 #[.agg cd.toArray] w0 (Rets w0 (.bool (Sp.DiskValid d))) := by
 obtain ⟨a1, m1, c1, a1', m1', c1', a1'', m1'', c1'', rfl, hr1, hr1', hr1''⟩ := hd; have hn_hr1 := hr1.len; have hx_hr1 : _ ≤ 1099511627776 := hr1.lim; have hn_hr1q := hr1'.len; have hx_hr1q : _ ≤ 1099511627776 := hr1'.lim; have hn_hr1qq := hr1''.len; have hx_hr1qq : _ ≤ 1099511627776 := hr1''.lim
 have H := Hp.init hG
 refine calls_of_W (l := [_]) func23 Z ntmps23 Z (q2 (o_box H Z Z Z ?_)); intro b2 w2 hb2 H
 refine aG Z (q3 (W_seq (q2 (o_fieldAddr 0 runUnderlying27 Z sizeOf23 Z Z Z (o_load_B 0 H isAgg23 Z Z Z Z (o_call call53 Z Z (StoreValid_c _ _ H.sub _ _ hr1 ) ?_))))))
 rintro _ w3 ⟨rfl, ew3⟩; have H := H.step ew3; refine ⟨_, rfl, ?_⟩
 refine o_not Z Z (mV Z ?_)
 refine R_case (t := 8) Z ?_ ?_
 ·intro hc4
  try simp only [nrm] at hc4
  refine rP Z (rP Z (rP Z (rP Z (o_pick_t Z Z Z (mV Z (rP Z (rP Z (rP Z (rP Z (rP Z (rP Z (o_pick_t Z Z Z (mV Z (rP Z (rP Z ?_)))))))))))))))
  refine rP Z (o_pick_t Z Z Z (q3 (W_true Z (q2 (aG Z (q3 (W_ret (N_K_ret (rt1 results23 Z ?_)))))))))
  exact H.rets (congrArg Value.bool (by simp [Sp.DiskValid, hc4]))
 intro hc4'
 try simp only [nrm] at hc4'
 refine gR Z (o_fieldAddr 1 runUnderlying27 Z sizeOf24 Z Z Z (gR Z (o_load_B 0 H isAgg24 Z Z Z Z (gR Z (o_call call54 Z Z (TreeValid_c _ _ H.sub _ _ hr1' ) ?_)))))
 rintro _ w5 ⟨rfl, ew5⟩; have H := H.step ew5; refine ⟨_, rfl, ?_⟩
 refine gR Z (o_not Z Z (o_pick_f Z Z Z (mV Z ?_)))
 refine R_case (t := 14) Z ?_ ?_
 ·intro hc6
  try simp only [nrm] at hc6
  refine rP Z (rP Z (rP Z (rP Z (rP Z (rP Z (o_pick_t Z Z Z (mV Z (rP Z (rP Z (rP Z (o_pick_t Z Z Z (q3 (W_true Z (q2 (aG Z ?_)))))))))))))))
  refine q3 (W_ret (N_K_ret (rt1 results23 Z ?_)))
  exact H.rets (congrArg Value.bool (by simp [Sp.DiskValid, hc6]))
 intro hc6'
 try simp only [nrm] at hc6'
 refine gR Z (o_fieldAddr 0 runUnderlying27 Z sizeOf23 Z Z Z (gR Z (o_load_B 0 H isAgg23 Z Z Z Z (gR Z (o_fieldAddr 1 runUnderlying27 Z sizeOf24 Z Z Z (gR Z (o_load_B 0 H isAgg24 Z Z Z Z (gR Z (o_call call55 Z Z (l11Files_c _ _ H.sub _ _ hr1 _ _ hr1' ) ?_)))))))))
 rintro _ w7 ⟨rfl, ew7⟩; have H := H.step ew7; refine ⟨_, rfl, ?_⟩
 refine gR Z (o_not Z Z (o_pick_f Z Z Z (mV Z ?_)))
 refine R_case (t := 22) Z ?_ ?_
 ·intro hc8
  try simp only [nrm] at hc8
  refine rP Z (rP Z (rP Z (o_pick_t Z Z Z (q3 (W_true Z (q2 (aG Z (q3 (W_ret (N_K_ret (rt1 results23 Z ?_)))))))))))
  exact H.rets (congrArg Value.bool (by simp [Sp.DiskValid, hc8]))
 intro hc8'
 try simp only [nrm] at hc8'
 refine gR Z (o_loadagg_B 0 H isAgg27 sizeOf27 Z Z Z Z Z (gR Z (o_call call56 Z Z (l12Snaps_c _ _ H.sub _ d ⟨_, _, _, _, _, _, _, _, _, Z, hr1, hr1', hr1''⟩ ) ?_)))
 rintro _ w9 ⟨rfl, ew9⟩; have H := H.step ew9; refine ⟨_, rfl, ?_⟩
 refine gR Z (o_not Z Z (o_pick_f Z Z Z (q3 ?_)))
 refine W_cond Z ?_ ?_
 ·intro hc10
  try simp only [nrm] at hc10
  refine q2 (aG Z (q3 (W_ret (N_K_ret (rt1 results23 Z ?_)))))
  exact H.rets (congrArg Value.bool (by simp [Sp.DiskValid, hc10]))
 intro hc10'
 try simp only [nrm] at hc10'
 refine W_skip (N_K (W_seq (q2 (aG Z (q3 (W_block ?_))))))
 obtain ⟨ln11, hln11, H⟩ := H.name (k := 0) rfl
 refine W_lp (hf := (Sub.cons (t := 1) Z Sub.nil)) (J := fun M w m => ∃ (k : Nat) (G : PH), M = [(3, .int .i64 (k : Int))] ∧ PLe G0 G ∧ Hp w0 G0 [] w G [blk b2 (cl ln11 27)] ∧ (k ≤ d.store.length ∧ (d.store.take k).all (Sp.usesD d) = true) ∧ m = (d.store.length - k)) (h0 := ⟨0, _, Z, PLe.refl _, H, ?inv, Z⟩) (round := ?round)
 case inv => exact ⟨by omega, by simp⟩
 case round =>
  rintro _ w12 _ ⟨k, G12, rfl, hle12, H, hinv12, rfl⟩
  subst hln11
  have hr1 := hr1.up hle12
  have hr1' := hr1'.up hle12
  have hr1'' := hr1''.up hle12
  obtain ⟨hk, hall⟩ := hinv12
  refine W_seq (q2 (mV Z (o_fieldAddr 0 runUnderlying27 Z sizeOf23 Z Z Z (o_load_B 0 H isAgg23 Z Z Z Z (o_len_slice underlying23 Z Z (o_lss Z Z Z (q3 ?_)))))))
  refine W_cond Z ?_ ?_
  ·intro hc13
   try simp only [nrm] at hc13
   refine W_skip (N_K (W_seq (W_block (W_seq (W_drawK [0] 15 H kR Z ?_))))); intro w14 H; have hd14 := PLe.refl G12
   refine RD_t 0 Z kR Z (fun _ hK => v_loadagg_B 0 hK isAgg27 sizeOf27 Z Z Z Z) (RD_t 1 Z kR Z (fun _ hK => v_fieldAddr 0 runUnderlying27 Z sizeOf23 Z Z) (RD_t 2 Z kR Z (fun _ hK => v_load_B 0 hK isAgg23 Z Z Z) (vM 3 Z Z ?_)))
   have hl15 := hr1.len
   obtain ⟨b15, o15, z15, q15, ha15, hz15, hq15, hE15, hrow15, _⟩ := hr1.at (i := k) oM
   clear hq15
   obtain ⟨a15, m15, c15, rfl, hi15, hr15, hj15⟩ := hE15; have hn_hr15 := hr15.len; have hx_hr15 : _ ≤ 1099511627776 := hr15.lim
   refine RD_t 4 Z kR Z (fun _ hK => v_index_P (i := k) ha15 underlying23 sizeOf42 Z Z Z oM) (RD_t 5 Z kR Z (fun _ hK => v_fieldAddr 0 runUnderlying42 Z sizeOf3 Z Z) (RD_t 6 Z kR Z (fun _ hK => v_load_P hK isAgg3 Z (hrow15 0 _ Z)) (RD_t 8 Z kR Z (fun _ hK => v_fieldAddr 0 runUnderlying27 Z sizeOf23 Z Z) (RD_t 9 Z kR Z (fun _ hK => v_load_B 0 hK isAgg23 Z Z Z) (vM 10 Z Z ?_)))))
   have hl16 := hr1.len
   obtain ⟨b16, o16, z16, q16, ha16, hz16, hq16, hE16, hrow16, _⟩ := hr1.at (i := k) oM
   clear hq16
   obtain ⟨a16, m16, c16, rfl, hi16, hr16, hj16⟩ := hE16; have hn_hr16 := hr16.len; have hx_hr16 : _ ≤ 1099511627776 := hr16.lim
   have hzz16 : z15 = z16 := Option.some.inj (hz15.symm.trans hz16)
   subst hzz16
   refine RD_t 11 Z kR Z (fun _ hK => v_index_P (i := k) ha16 underlying23 sizeOf42 Z Z Z oM) (RD_t 12 Z kR Z (fun _ hK => v_fieldAddr 2 runUnderlying42 Z sizeOf3 Z Z) (RD_t 13 Z kR Z (fun _ hK => v_load_P hK isAgg3 Z (hrow16 2 _ Z)) ?_))
   refine RD_run [7] kR Z (RDs.cons Z ?_ RDs.nil)
   refine o_call call57 Z Z (l12Count_c _ _ H.sub _ d ⟨_, _, _, _, _, _, _, _, _, Z, hr1, hr1', hr1''⟩ _ hc6' hc10') ?_
   rintro _ w17 ⟨rfl, ew17⟩; have H := H.step ew17; refine ⟨_, rfl, ?_⟩
   refine R_nil (N_DK (Kn.of' H hd14 (SubL.cons 0 Z SubL.nil)) (RD_t 14 Z kR Z (fun _ hK => v_neq Z Z) (RD_done kR (N_K ?_))))
   refine W_cond Z ?_ ?_
   ·intro hc18
    try simp only [nrm] at hc18
    refine q2 (aG Z (q3 (W_ret (N_B_ret (N_K_ret (N_LP_ret (N_B_ret (N_K_ret (rt1 results23 Z ?_)))))))))
    exact H.rets (congrArg Value.bool (by rw [Sp.DiskValid, Sp.all_false hz15 (by simp [Sp.usesD, *])]; rfl))
   intro hc18'
   try simp only [nrm] at hc18'
   refine W_skip (N_B (N_K (W_region (mV Z (o_add Z Z Z oO (aG Z (R_nil ?_)))))))
   refine N_lp (hJ := ⟨k + 1, _, Z, hle12, H, ?inv, Z⟩) (hm := ?hm)
   case hm => omega
   case inv => exact ⟨by omega, Sp.all_take hall hz15 (by simp [Sp.usesD, *])⟩
  intro hc13'
  try simp only [nrm] at hc13'
  refine W_exit (N_K_exit (N_LP_exit (N_B_same (N_K (q2 (aG Z (q3 (W_ret (rt1 results23 Z ?_)))))))))
  obtain rfl : k = d.store.length := by omega
  rw [List.take_length] at hall
  exact H.rets (congrArg Value.bool (by simp [Sp.DiskValid, hall, hc4', hc6', hc8', hc10']))
end Go.Proofs.Tst

namespace Go.Proofs.Tst
open Go Fw Tryz
theorem l12Copy_c (w0 : World) (G0 : PH) (hG : PSub G0 w0) (cd : List Value) (d : BDisk) (hd : diskE G0 d cd)  :
  Calls Tryz.prog 42 #[.agg cd.toArray] w0 (RetO w0 G0 (fun G val r => ∃ u u1 u2, val = .agg #[u, u1, u2] ∧ AccOf snapE 2 46 d.snaps G u2 r ∧ RdH G u d.store ∧ RdItems G u1 d.tree)) := by
 obtain ⟨a1, m1, c1, a1', m1', c1', a1'', m1'', c1'', rfl, hr1, hr1', hr1''⟩ := hd; have hn_hr1 := hr1.len; have hx_hr1 : _ ≤ 1099511627776 := hr1.lim; have hn_hr1q := hr1'.len; have hx_hr1q : _ ≤ 1099511627776 := hr1'.lim; have hn_hr1qq := hr1''.len; have hx_hr1qq : _ ≤ 1099511627776 := hr1''.lim
 have H := Hp.init hG
 refine calls_of_W (l := [_]) func42 Z ntmps42 Z (q2 (o_box H Z Z Z ?_)); intro b2 w2 hb2 H
 refine o_alloc H zeroValue27 Z Z ?_; intro b3 w3 hb3 H
 refine q3 ?_
 obtain ⟨ljb3, hljb3, H⟩ := H.name (k := 0) rfl
 obtain ⟨ljb2, hljb2, H⟩ := H.name (k := 1) rfl
 have hj4 := PLe.refl G0
 refine W_join (hf := (Sub.cons (t := 1) Z (Sub.cons (t := 2) Z Sub.nil))) (J := fun M w => ∃ (jb : Nat) (ja jc : Option Addr) (jm jk jn jl : Nat) (ve : Value) (ce : List Value) (ne : Nat) (G : PH), M = [(3, .pointer (some ⟨jb, 0, none⟩))] ∧ PLe G0 G ∧ Hp w0 G0 [] w G [acc 46 2 ve ne ce, blk jb (cl [.slice ja jm jk, .slice jc jn jl, ve] 27), blk b3 (cl ljb3 27), blk b2 (cl ljb2 27)] ∧ (RdH G (.slice ja jm jk) d.store ∧ RdItems G (.slice jc jn jl) d.tree ∧ Chk snapE 2 G ce ([] : List BSnap) ∧ ne = 0)) (first := ?_) (second := ?_)
 ·skip
  subst hljb3
  subst hljb2
  refine W_drawK [0, 1] 10 H kR Z ?_; intro w5 H; have hd5 := PLe.refl G0
  refine RD_t 0 Z kR Z (fun _ hK => v_fieldAddr 0 runUnderlying27 Z sizeOf23 Z Z) (RD_t 1 Z kR Z (fun _ hK => v_load_B 1 hK isAgg23 Z Z Z) (RD_t 3 Z kR Z (fun _ hK => v_fieldAddr 1 runUnderlying27 Z sizeOf24 Z Z) (RD_t 4 Z kR Z (fun _ hK => v_load_B 1 hK isAgg24 Z Z Z) ?_)))
  refine RD_run [2, 6, 8] kR Z (RDs.cons Z ?_ (RDs.cons Z ?_ (RDs.cons Z ?_ RDs.nil)))
  ·skip
   refine o_call call79 Z Z (l3Copy_c _ _ H.sub _ _ hr1 ) ?_
   rintro _ w6 ⟨G6, v6, _, g6, rfl, ⟨cs6, rfl, hchk6⟩, hp6, hq6, hs6⟩
   have H := H.growO g6 hp6 hq6 hs6; obtain ⟨av6, cv6, rfl⟩ := H.accShape (k := 0) rfl
   have hr1' := hr1'.up g6.le
   have hj4 := hj4.trans g6.le
   have hd5 := hd5.trans g6.le
   refine ⟨_, Z, ?_⟩
   refine R_nil (N_DK (Kn.of' H hd5 (SubL.cons 1 Z (SubL.cons 2 Z SubL.nil))) ?_)
   refine RD_run [5, 6, 8] kR Z (RDs.cons Z ?_ (RDs.cons Z ?_ (RDs.cons Z ?_ RDs.nil)))
   ·skip
    refine o_call call43 Z Z (l5All_c _ _ H.sub _ _ hr1' ) ?_
    rintro _ w7 ⟨G7, v7, _, g7, rfl, ⟨cs7, rfl, hchk7⟩, hp7, hq7, hs7⟩
    have H := H.growO g7 hp7 hq7 hs7; obtain ⟨av7, cv7, rfl⟩ := H.accShape (k := 0) rfl
    have hchk6 := hchk6.up g7.le
    have hj4 := hj4.trans g7.le
    have hd5 := hd5.trans g7.le
    refine ⟨_, Z, ?_⟩
    refine R_nil (N_DK (Kn.of' H hd5 (SubL.cons 2 Z (SubL.cons 3 Z SubL.nil))) ?_)
    refine RD_run [6, 8] kR Z (RDs.cons Z ?_ (RDs.cons Z ?_ RDs.nil))
    ·skip
     refine o_buildSlice H underlying25 sizeOf46 (fun w => ⟨_, zeroValue46 w, Z⟩) Z Z Z Z Z Z Z ?_; intro b8 w8 hb8 H
     have H := H.blkAcc 2 (k := 0) (n := 0) rfl rfl (by decide)
     refine R_nil (N_DK (Kn.of' H hd5 (SubL.cons 3 Z (SubL.cons 4 Z SubL.nil))) (RD_t 7 Z kR Z (fun _ hK => v_build bf27 Z Z) ?_))
     refine RD_run [8] kR Z (RDs.cons Z ?_ RDs.nil)
     refine o_alloc H zeroValue27 Z Z ?_; intro b9 w9 hb9 H
     refine R_nil (N_DK (Kn.of' H hd5 (SubL.cons 4 Z (SubL.cons 5 Z SubL.nil))) ?_)
     refine RD_run [9] kR Z (RDs.cons Z ?_ RDs.nil)
     refine o_store_B 0 H sizeOf27 Z Z Z Z Z Z Z Z ?_; intro w10 H
     refine R_nil (N_DKlast kR kR ?_)
     obtain ⟨G512, H, hsg512, hsr512⟩ := H.shut' (k := 3) rfl hchk6 aN aN
     have hchk7 := hchk7.up hsg512
     have hj4 := hj4.trans hsg512
     obtain ⟨G513, H, hsg513, hsr513⟩ := H.shut' (k := 2) rfl hchk7 aN aN
     have hsr512 := hsr512.up hsg513
     have hj4 := hj4.trans hsg513
     have H := H.toFront (k := 3) rfl
     have H := H.toFront (k := 3) rfl
     have H := H.toFront (k := 2) rfl
     have H := H.toFront (k := 3) rfl
     exact N_J ⟨_, _, _, _, _, _, _, _, _, _, _, Z, hj4, H, ⟨hsr512, hsr513, (Chk.nil (E := snapE) (sz := 2) (G := G513)), Z⟩⟩
    skip
    refine o_alloc H zeroValue27 Z Z ?_; intro b11 w11 hb11 H
    refine R_nil (N_DK (Kn.of' H hd5 (SubL.cons 3 Z (SubL.cons 4 Z SubL.nil))) ?_)
    refine RD_run [6] kR Z (RDs.cons Z ?_ RDs.nil)
    refine o_buildSlice H underlying25 sizeOf46 (fun w => ⟨_, zeroValue46 w, Z⟩) Z Z Z Z Z Z Z ?_; intro b12 w12 hb12 H
    have H := H.blkAcc 2 (k := 0) (n := 0) rfl rfl (by decide)
    refine R_nil (N_DK (Kn.of' H hd5 (SubL.cons 4 Z (SubL.cons 5 Z SubL.nil))) (RD_t 7 Z kR Z (fun _ hK => v_build bf27 Z Z) ?_))
    refine RD_run [9] kR Z (RDs.cons Z ?_ RDs.nil)
    refine o_store_B 1 H sizeOf27 Z Z Z Z Z Z Z Z ?_; intro w13 H
    refine R_nil (N_DKlast kR kR ?_)
    obtain ⟨G517, H, hsg517, hsr517⟩ := H.shut' (k := 3) rfl hchk6 aN aN
    have hchk7 := hchk7.up hsg517
    have hj4 := hj4.trans hsg517
    obtain ⟨G518, H, hsg518, hsr518⟩ := H.shut' (k := 2) rfl hchk7 aN aN
    have hsr517 := hsr517.up hsg518
    have hj4 := hj4.trans hsg518
    have H := H.toFront (k := 3) rfl
    have H := H.toFront (k := 3) rfl
    have H := H.toFront (k := 3) rfl
    have H := H.toFront (k := 3) rfl
    exact N_J ⟨_, _, _, _, _, _, _, _, _, _, _, Z, hj4, H, ⟨hsr517, hsr518, (Chk.nil (E := snapE) (sz := 2) (G := G518)), Z⟩⟩
   ·skip
    refine o_buildSlice H underlying25 sizeOf46 (fun w => ⟨_, zeroValue46 w, Z⟩) Z Z Z Z Z Z Z ?_; intro b14 w14 hb14 H
    have H := H.blkAcc 2 (k := 0) (n := 0) rfl rfl (by decide)
    refine R_nil (N_DK (Kn.of' H hd5 (SubL.cons 2 Z (SubL.cons 3 Z SubL.nil))) ?_)
    refine RD_run [5, 8] kR Z (RDs.cons Z ?_ (RDs.cons Z ?_ RDs.nil))
    ·skip
     refine o_call call43 Z Z (l5All_c _ _ H.sub _ _ hr1' ) ?_
     rintro _ w15 ⟨G15, v15, _, g15, rfl, ⟨cs15, rfl, hchk15⟩, hp15, hq15, hs15⟩
     have H := H.growO g15 hp15 hq15 hs15; obtain ⟨av15, cv15, rfl⟩ := H.accShape (k := 0) rfl
     have hchk6 := hchk6.up g15.le
     have hj4 := hj4.trans g15.le
     have hd5 := hd5.trans g15.le
     refine ⟨_, Z, ?_⟩
     refine R_nil (N_DK (Kn.of' H hd5 (SubL.cons 3 Z (SubL.cons 4 Z SubL.nil))) (RD_t 7 Z kR Z (fun _ hK => v_build bf27 Z Z) ?_))
     refine RD_run [8] kR Z (RDs.cons Z ?_ RDs.nil)
     refine o_alloc H zeroValue27 Z Z ?_; intro b16 w16 hb16 H
     refine R_nil (N_DK (Kn.of' H hd5 (SubL.cons 4 Z (SubL.cons 5 Z SubL.nil))) ?_)
     refine RD_run [9] kR Z (RDs.cons Z ?_ RDs.nil)
     refine o_store_B 0 H sizeOf27 Z Z Z Z Z Z Z Z ?_; intro w17 H
     refine R_nil (N_DKlast kR kR ?_)
     obtain ⟨G523, H, hsg523, hsr523⟩ := H.shut' (k := 3) rfl hchk6 aN aN
     have hchk15 := hchk15.up hsg523
     have hj4 := hj4.trans hsg523
     obtain ⟨G524, H, hsg524, hsr524⟩ := H.shut' (k := 1) rfl hchk15 aN aN
     have hsr523 := hsr523.up hsg524
     have hj4 := hj4.trans hsg524
     have H := H.toFront (k := 3) rfl
     have H := H.toFront (k := 3) rfl
     have H := H.toFront (k := 2) rfl
     have H := H.toFront (k := 3) rfl
     exact N_J ⟨_, _, _, _, _, _, _, _, _, _, _, Z, hj4, H, ⟨hsr523, hsr524, (Chk.nil (E := snapE) (sz := 2) (G := G524)), Z⟩⟩
    skip
    refine o_alloc H zeroValue27 Z Z ?_; intro b18 w18 hb18 H
    refine R_nil (N_DK (Kn.of' H hd5 (SubL.cons 3 Z (SubL.cons 4 Z SubL.nil))) ?_)
    refine RD_run [5] kR Z (RDs.cons Z ?_ RDs.nil)
    refine o_call call43 Z Z (l5All_c _ _ H.sub _ _ hr1' ) ?_
    rintro _ w19 ⟨G19, v19, _, g19, rfl, ⟨cs19, rfl, hchk19⟩, hp19, hq19, hs19⟩
    have H := H.growO g19 hp19 hq19 hs19; obtain ⟨av19, cv19, rfl⟩ := H.accShape (k := 0) rfl
    have hchk6 := hchk6.up g19.le
    have hj4 := hj4.trans g19.le
    have hd5 := hd5.trans g19.le
    refine ⟨_, Z, ?_⟩
    refine R_nil (N_DK (Kn.of' H hd5 (SubL.cons 4 Z (SubL.cons 5 Z SubL.nil))) (RD_t 7 Z kR Z (fun _ hK => v_build bf27 Z Z) ?_))
    refine RD_run [9] kR Z (RDs.cons Z ?_ RDs.nil)
    refine o_store_B 1 H sizeOf27 Z Z Z Z Z Z Z Z ?_; intro w20 H
    refine R_nil (N_DKlast kR kR ?_)
    obtain ⟨G528, H, hsg528, hsr528⟩ := H.shut' (k := 3) rfl hchk6 aN aN
    have hchk19 := hchk19.up hsg528
    have hj4 := hj4.trans hsg528
    obtain ⟨G529, H, hsg529, hsr529⟩ := H.shut' (k := 0) rfl hchk19 aN aN
    have hsr528 := hsr528.up hsg529
    have hj4 := hj4.trans hsg529
    have H := H.toFront (k := 3) rfl
    have H := H.toFront (k := 3) rfl
    have H := H.toFront (k := 2) rfl
    have H := H.toFront (k := 3) rfl
    exact N_J ⟨_, _, _, _, _, _, _, _, _, _, _, Z, hj4, H, ⟨hsr528, hsr529, (Chk.nil (E := snapE) (sz := 2) (G := G529)), Z⟩⟩
   skip
   refine o_alloc H zeroValue27 Z Z ?_; intro b21 w21 hb21 H
   refine R_nil (N_DK (Kn.of' H hd5 (SubL.cons 2 Z (SubL.cons 3 Z SubL.nil))) ?_)
   refine RD_run [5, 6] kR Z (RDs.cons Z ?_ (RDs.cons Z ?_ RDs.nil))
   ·skip
    refine o_call call43 Z Z (l5All_c _ _ H.sub _ _ hr1' ) ?_
    rintro _ w22 ⟨G22, v22, _, g22, rfl, ⟨cs22, rfl, hchk22⟩, hp22, hq22, hs22⟩
    have H := H.growO g22 hp22 hq22 hs22; obtain ⟨av22, cv22, rfl⟩ := H.accShape (k := 0) rfl
    have hchk6 := hchk6.up g22.le
    have hj4 := hj4.trans g22.le
    have hd5 := hd5.trans g22.le
    refine ⟨_, Z, ?_⟩
    refine R_nil (N_DK (Kn.of' H hd5 (SubL.cons 3 Z (SubL.cons 4 Z SubL.nil))) ?_)
    refine RD_run [6] kR Z (RDs.cons Z ?_ RDs.nil)
    refine o_buildSlice H underlying25 sizeOf46 (fun w => ⟨_, zeroValue46 w, Z⟩) Z Z Z Z Z Z Z ?_; intro b23 w23 hb23 H
    have H := H.blkAcc 2 (k := 0) (n := 0) rfl rfl (by decide)
    refine R_nil (N_DK (Kn.of' H hd5 (SubL.cons 4 Z (SubL.cons 5 Z SubL.nil))) (RD_t 7 Z kR Z (fun _ hK => v_build bf27 Z Z) ?_))
    refine RD_run [9] kR Z (RDs.cons Z ?_ RDs.nil)
    refine o_store_B 2 H sizeOf27 Z Z Z Z Z Z Z Z ?_; intro w24 H
    refine R_nil (N_DKlast kR kR ?_)
    obtain ⟨G534, H, hsg534, hsr534⟩ := H.shut' (k := 3) rfl hchk6 aN aN
    have hchk22 := hchk22.up hsg534
    have hj4 := hj4.trans hsg534
    obtain ⟨G535, H, hsg535, hsr535⟩ := H.shut' (k := 1) rfl hchk22 aN aN
    have hsr534 := hsr534.up hsg535
    have hj4 := hj4.trans hsg535
    have H := H.toFront (k := 3) rfl
    have H := H.toFront (k := 3) rfl
    have H := H.toFront (k := 3) rfl
    have H := H.toFront (k := 3) rfl
    exact N_J ⟨_, _, _, _, _, _, _, _, _, _, _, Z, hj4, H, ⟨hsr534, hsr535, (Chk.nil (E := snapE) (sz := 2) (G := G535)), Z⟩⟩
   skip
   refine o_buildSlice H underlying25 sizeOf46 (fun w => ⟨_, zeroValue46 w, Z⟩) Z Z Z Z Z Z Z ?_; intro b25 w25 hb25 H
   have H := H.blkAcc 2 (k := 0) (n := 0) rfl rfl (by decide)
   refine R_nil (N_DK (Kn.of' H hd5 (SubL.cons 3 Z (SubL.cons 4 Z SubL.nil))) ?_)
   refine RD_run [5] kR Z (RDs.cons Z ?_ RDs.nil)
   refine o_call call43 Z Z (l5All_c _ _ H.sub _ _ hr1' ) ?_
   rintro _ w26 ⟨G26, v26, _, g26, rfl, ⟨cs26, rfl, hchk26⟩, hp26, hq26, hs26⟩
   have H := H.growO g26 hp26 hq26 hs26; obtain ⟨av26, cv26, rfl⟩ := H.accShape (k := 0) rfl
   have hchk6 := hchk6.up g26.le
   have hj4 := hj4.trans g26.le
   have hd5 := hd5.trans g26.le
   refine ⟨_, Z, ?_⟩
   refine R_nil (N_DK (Kn.of' H hd5 (SubL.cons 4 Z (SubL.cons 5 Z SubL.nil))) (RD_t 7 Z kR Z (fun _ hK => v_build bf27 Z Z) ?_))
   refine RD_run [9] kR Z (RDs.cons Z ?_ RDs.nil)
   refine o_store_B 2 H sizeOf27 Z Z Z Z Z Z Z Z ?_; intro w27 H
   refine R_nil (N_DKlast kR kR ?_)
   obtain ⟨G539, H, hsg539, hsr539⟩ := H.shut' (k := 3) rfl hchk6 aN aN
   have hchk26 := hchk26.up hsg539
   have hj4 := hj4.trans hsg539
   obtain ⟨G540, H, hsg540, hsr540⟩ := H.shut' (k := 0) rfl hchk26 aN aN
   have hsr539 := hsr539.up hsg540
   have hj4 := hj4.trans hsg540
   have H := H.toFront (k := 3) rfl
   have H := H.toFront (k := 3) rfl
   have H := H.toFront (k := 3) rfl
   have H := H.toFront (k := 3) rfl
   exact N_J ⟨_, _, _, _, _, _, _, _, _, _, _, Z, hj4, H, ⟨hsr539, hsr540, (Chk.nil (E := snapE) (sz := 2) (G := G540)), Z⟩⟩
  ·skip
   refine o_buildSlice H underlying25 sizeOf46 (fun w => ⟨_, zeroValue46 w, Z⟩) Z Z Z Z Z Z Z ?_; intro b28 w28 hb28 H
   have H := H.blkAcc 2 (k := 0) (n := 0) rfl rfl (by decide)
   refine R_nil (N_DK (Kn.of' H hd5 (SubL.cons 1 Z (SubL.cons 2 Z SubL.nil))) ?_)
   refine RD_run [2, 8] kR Z (RDs.cons Z ?_ (RDs.cons Z ?_ RDs.nil))
   ·skip
    refine o_call call79 Z Z (l3Copy_c _ _ H.sub _ _ hr1 ) ?_
    rintro _ w29 ⟨G29, v29, _, g29, rfl, ⟨cs29, rfl, hchk29⟩, hp29, hq29, hs29⟩
    have H := H.growO g29 hp29 hq29 hs29; obtain ⟨av29, cv29, rfl⟩ := H.accShape (k := 0) rfl
    have hr1' := hr1'.up g29.le
    have hj4 := hj4.trans g29.le
    have hd5 := hd5.trans g29.le
    refine ⟨_, Z, ?_⟩
    refine R_nil (N_DK (Kn.of' H hd5 (SubL.cons 2 Z (SubL.cons 3 Z SubL.nil))) ?_)
    refine RD_run [5, 8] kR Z (RDs.cons Z ?_ (RDs.cons Z ?_ RDs.nil))
    ·skip
     refine o_call call43 Z Z (l5All_c _ _ H.sub _ _ hr1' ) ?_
     rintro _ w30 ⟨G30, v30, _, g30, rfl, ⟨cs30, rfl, hchk30⟩, hp30, hq30, hs30⟩
     have H := H.growO g30 hp30 hq30 hs30; obtain ⟨av30, cv30, rfl⟩ := H.accShape (k := 0) rfl
     have hchk29 := hchk29.up g30.le
     have hj4 := hj4.trans g30.le
     have hd5 := hd5.trans g30.le
     refine ⟨_, Z, ?_⟩
     refine R_nil (N_DK (Kn.of' H hd5 (SubL.cons 3 Z (SubL.cons 4 Z SubL.nil))) (RD_t 7 Z kR Z (fun _ hK => v_build bf27 Z Z) ?_))
     refine RD_run [8] kR Z (RDs.cons Z ?_ RDs.nil)
     refine o_alloc H zeroValue27 Z Z ?_; intro b31 w31 hb31 H
     refine R_nil (N_DK (Kn.of' H hd5 (SubL.cons 4 Z (SubL.cons 5 Z SubL.nil))) ?_)
     refine RD_run [9] kR Z (RDs.cons Z ?_ RDs.nil)
     refine o_store_B 0 H sizeOf27 Z Z Z Z Z Z Z Z ?_; intro w32 H
     refine R_nil (N_DKlast kR kR ?_)
     obtain ⟨G546, H, hsg546, hsr546⟩ := H.shut' (k := 2) rfl hchk29 aN aN
     have hchk30 := hchk30.up hsg546
     have hj4 := hj4.trans hsg546
     obtain ⟨G547, H, hsg547, hsr547⟩ := H.shut' (k := 1) rfl hchk30 aN aN
     have hsr546 := hsr546.up hsg547
     have hj4 := hj4.trans hsg547
     have H := H.toFront (k := 3) rfl
     have H := H.toFront (k := 3) rfl
     have H := H.toFront (k := 2) rfl
     have H := H.toFront (k := 3) rfl
     exact N_J ⟨_, _, _, _, _, _, _, _, _, _, _, Z, hj4, H, ⟨hsr546, hsr547, (Chk.nil (E := snapE) (sz := 2) (G := G547)), Z⟩⟩
    skip
    refine o_alloc H zeroValue27 Z Z ?_; intro b33 w33 hb33 H
    refine R_nil (N_DK (Kn.of' H hd5 (SubL.cons 3 Z (SubL.cons 4 Z SubL.nil))) ?_)
    refine RD_run [5] kR Z (RDs.cons Z ?_ RDs.nil)
    refine o_call call43 Z Z (l5All_c _ _ H.sub _ _ hr1' ) ?_
    rintro _ w34 ⟨G34, v34, _, g34, rfl, ⟨cs34, rfl, hchk34⟩, hp34, hq34, hs34⟩
    have H := H.growO g34 hp34 hq34 hs34; obtain ⟨av34, cv34, rfl⟩ := H.accShape (k := 0) rfl
    have hchk29 := hchk29.up g34.le
    have hj4 := hj4.trans g34.le
    have hd5 := hd5.trans g34.le
    refine ⟨_, Z, ?_⟩
    refine R_nil (N_DK (Kn.of' H hd5 (SubL.cons 4 Z (SubL.cons 5 Z SubL.nil))) (RD_t 7 Z kR Z (fun _ hK => v_build bf27 Z Z) ?_))
    refine RD_run [9] kR Z (RDs.cons Z ?_ RDs.nil)
    refine o_store_B 1 H sizeOf27 Z Z Z Z Z Z Z Z ?_; intro w35 H
    refine R_nil (N_DKlast kR kR ?_)
    obtain ⟨G551, H, hsg551, hsr551⟩ := H.shut' (k := 2) rfl hchk29 aN aN
    have hchk34 := hchk34.up hsg551
    have hj4 := hj4.trans hsg551
    obtain ⟨G552, H, hsg552, hsr552⟩ := H.shut' (k := 0) rfl hchk34 aN aN
    have hsr551 := hsr551.up hsg552
    have hj4 := hj4.trans hsg552
    have H := H.toFront (k := 3) rfl
    have H := H.toFront (k := 3) rfl
    have H := H.toFront (k := 2) rfl
    have H := H.toFront (k := 3) rfl
    exact N_J ⟨_, _, _, _, _, _, _, _, _, _, _, Z, hj4, H, ⟨hsr551, hsr552, (Chk.nil (E := snapE) (sz := 2) (G := G552)), Z⟩⟩
   skip
   refine o_alloc H zeroValue27 Z Z ?_; intro b36 w36 hb36 H
   refine R_nil (N_DK (Kn.of' H hd5 (SubL.cons 2 Z (SubL.cons 3 Z SubL.nil))) ?_)
   refine RD_run [2] kR Z (RDs.cons Z ?_ RDs.nil)
   refine o_call call79 Z Z (l3Copy_c _ _ H.sub _ _ hr1 ) ?_
   rintro _ w37 ⟨G37, v37, _, g37, rfl, ⟨cs37, rfl, hchk37⟩, hp37, hq37, hs37⟩
   have H := H.growO g37 hp37 hq37 hs37; obtain ⟨av37, cv37, rfl⟩ := H.accShape (k := 0) rfl
   have hr1' := hr1'.up g37.le
   have hj4 := hj4.trans g37.le
   have hd5 := hd5.trans g37.le
   refine ⟨_, Z, ?_⟩
   refine R_nil (N_DK (Kn.of' H hd5 (SubL.cons 3 Z (SubL.cons 4 Z SubL.nil))) ?_)
   refine RD_run [5] kR Z (RDs.cons Z ?_ RDs.nil)
   refine o_call call43 Z Z (l5All_c _ _ H.sub _ _ hr1' ) ?_
   rintro _ w38 ⟨G38, v38, _, g38, rfl, ⟨cs38, rfl, hchk38⟩, hp38, hq38, hs38⟩
   have H := H.growO g38 hp38 hq38 hs38; obtain ⟨av38, cv38, rfl⟩ := H.accShape (k := 0) rfl
   have hchk37 := hchk37.up g38.le
   have hj4 := hj4.trans g38.le
   have hd5 := hd5.trans g38.le
   refine ⟨_, Z, ?_⟩
   refine R_nil (N_DK (Kn.of' H hd5 (SubL.cons 4 Z (SubL.cons 5 Z SubL.nil))) (RD_t 7 Z kR Z (fun _ hK => v_build bf27 Z Z) ?_))
   refine RD_run [9] kR Z (RDs.cons Z ?_ RDs.nil)
   refine o_store_B 2 H sizeOf27 Z Z Z Z Z Z Z Z ?_; intro w39 H
   refine R_nil (N_DKlast kR kR ?_)
   obtain ⟨G557, H, hsg557, hsr557⟩ := H.shut' (k := 1) rfl hchk37 aN aN
   have hchk38 := hchk38.up hsg557
   have hj4 := hj4.trans hsg557
   obtain ⟨G558, H, hsg558, hsr558⟩ := H.shut' (k := 0) rfl hchk38 aN aN
   have hsr557 := hsr557.up hsg558
   have hj4 := hj4.trans hsg558
   have H := H.toFront (k := 3) rfl
   have H := H.toFront (k := 3) rfl
   have H := H.toFront (k := 2) rfl
   have H := H.toFront (k := 3) rfl
   exact N_J ⟨_, _, _, _, _, _, _, _, _, _, _, Z, hj4, H, ⟨hsr557, hsr558, (Chk.nil (E := snapE) (sz := 2) (G := G558)), Z⟩⟩
  skip
  refine o_alloc H zeroValue27 Z Z ?_; intro b40 w40 hb40 H
  refine R_nil (N_DK (Kn.of' H hd5 (SubL.cons 1 Z (SubL.cons 2 Z SubL.nil))) ?_)
  refine RD_run [2, 6] kR Z (RDs.cons Z ?_ (RDs.cons Z ?_ RDs.nil))
  ·skip
   refine o_call call79 Z Z (l3Copy_c _ _ H.sub _ _ hr1 ) ?_
   rintro _ w41 ⟨G41, v41, _, g41, rfl, ⟨cs41, rfl, hchk41⟩, hp41, hq41, hs41⟩
   have H := H.growO g41 hp41 hq41 hs41; obtain ⟨av41, cv41, rfl⟩ := H.accShape (k := 0) rfl
   have hr1' := hr1'.up g41.le
   have hj4 := hj4.trans g41.le
   have hd5 := hd5.trans g41.le
   refine ⟨_, Z, ?_⟩
   refine R_nil (N_DK (Kn.of' H hd5 (SubL.cons 2 Z (SubL.cons 3 Z SubL.nil))) ?_)
   refine RD_run [5, 6] kR Z (RDs.cons Z ?_ (RDs.cons Z ?_ RDs.nil))
   ·skip
    refine o_call call43 Z Z (l5All_c _ _ H.sub _ _ hr1' ) ?_
    rintro _ w42 ⟨G42, v42, _, g42, rfl, ⟨cs42, rfl, hchk42⟩, hp42, hq42, hs42⟩
    have H := H.growO g42 hp42 hq42 hs42; obtain ⟨av42, cv42, rfl⟩ := H.accShape (k := 0) rfl
    have hchk41 := hchk41.up g42.le
    have hj4 := hj4.trans g42.le
    have hd5 := hd5.trans g42.le
    refine ⟨_, Z, ?_⟩
    refine R_nil (N_DK (Kn.of' H hd5 (SubL.cons 3 Z (SubL.cons 4 Z SubL.nil))) ?_)
    refine RD_run [6] kR Z (RDs.cons Z ?_ RDs.nil)
    refine o_buildSlice H underlying25 sizeOf46 (fun w => ⟨_, zeroValue46 w, Z⟩) Z Z Z Z Z Z Z ?_; intro b43 w43 hb43 H
    have H := H.blkAcc 2 (k := 0) (n := 0) rfl rfl (by decide)
    refine R_nil (N_DK (Kn.of' H hd5 (SubL.cons 4 Z (SubL.cons 5 Z SubL.nil))) (RD_t 7 Z kR Z (fun _ hK => v_build bf27 Z Z) ?_))
    refine RD_run [9] kR Z (RDs.cons Z ?_ RDs.nil)
    refine o_store_B 3 H sizeOf27 Z Z Z Z Z Z Z Z ?_; intro w44 H
    refine R_nil (N_DKlast kR kR ?_)
    obtain ⟨G564, H, hsg564, hsr564⟩ := H.shut' (k := 2) rfl hchk41 aN aN
    have hchk42 := hchk42.up hsg564
    have hj4 := hj4.trans hsg564
    obtain ⟨G565, H, hsg565, hsr565⟩ := H.shut' (k := 1) rfl hchk42 aN aN
    have hsr564 := hsr564.up hsg565
    have hj4 := hj4.trans hsg565
    have H := H.toFront (k := 3) rfl
    have H := H.toFront (k := 3) rfl
    have H := H.toFront (k := 3) rfl
    have H := H.toFront (k := 3) rfl
    exact N_J ⟨_, _, _, _, _, _, _, _, _, _, _, Z, hj4, H, ⟨hsr564, hsr565, (Chk.nil (E := snapE) (sz := 2) (G := G565)), Z⟩⟩
   skip
   refine o_buildSlice H underlying25 sizeOf46 (fun w => ⟨_, zeroValue46 w, Z⟩) Z Z Z Z Z Z Z ?_; intro b45 w45 hb45 H
   have H := H.blkAcc 2 (k := 0) (n := 0) rfl rfl (by decide)
   refine R_nil (N_DK (Kn.of' H hd5 (SubL.cons 3 Z (SubL.cons 4 Z SubL.nil))) ?_)
   refine RD_run [5] kR Z (RDs.cons Z ?_ RDs.nil)
   refine o_call call43 Z Z (l5All_c _ _ H.sub _ _ hr1' ) ?_
   rintro _ w46 ⟨G46, v46, _, g46, rfl, ⟨cs46, rfl, hchk46⟩, hp46, hq46, hs46⟩
   have H := H.growO g46 hp46 hq46 hs46; obtain ⟨av46, cv46, rfl⟩ := H.accShape (k := 0) rfl
   have hchk41 := hchk41.up g46.le
   have hj4 := hj4.trans g46.le
   have hd5 := hd5.trans g46.le
   refine ⟨_, Z, ?_⟩
   refine R_nil (N_DK (Kn.of' H hd5 (SubL.cons 4 Z (SubL.cons 5 Z SubL.nil))) (RD_t 7 Z kR Z (fun _ hK => v_build bf27 Z Z) ?_))
   refine RD_run [9] kR Z (RDs.cons Z ?_ RDs.nil)
   refine o_store_B 3 H sizeOf27 Z Z Z Z Z Z Z Z ?_; intro w47 H
   refine R_nil (N_DKlast kR kR ?_)
   obtain ⟨G569, H, hsg569, hsr569⟩ := H.shut' (k := 2) rfl hchk41 aN aN
   have hchk46 := hchk46.up hsg569
   have hj4 := hj4.trans hsg569
   obtain ⟨G570, H, hsg570, hsr570⟩ := H.shut' (k := 0) rfl hchk46 aN aN
   have hsr569 := hsr569.up hsg570
   have hj4 := hj4.trans hsg570
   have H := H.toFront (k := 3) rfl
   have H := H.toFront (k := 3) rfl
   have H := H.toFront (k := 3) rfl
   have H := H.toFront (k := 3) rfl
   exact N_J ⟨_, _, _, _, _, _, _, _, _, _, _, Z, hj4, H, ⟨hsr569, hsr570, (Chk.nil (E := snapE) (sz := 2) (G := G570)), Z⟩⟩
  skip
  refine o_buildSlice H underlying25 sizeOf46 (fun w => ⟨_, zeroValue46 w, Z⟩) Z Z Z Z Z Z Z ?_; intro b48 w48 hb48 H
  have H := H.blkAcc 2 (k := 0) (n := 0) rfl rfl (by decide)
  refine R_nil (N_DK (Kn.of' H hd5 (SubL.cons 2 Z (SubL.cons 3 Z SubL.nil))) ?_)
  refine RD_run [2] kR Z (RDs.cons Z ?_ RDs.nil)
  refine o_call call79 Z Z (l3Copy_c _ _ H.sub _ _ hr1 ) ?_
  rintro _ w49 ⟨G49, v49, _, g49, rfl, ⟨cs49, rfl, hchk49⟩, hp49, hq49, hs49⟩
  have H := H.growO g49 hp49 hq49 hs49; obtain ⟨av49, cv49, rfl⟩ := H.accShape (k := 0) rfl
  have hr1' := hr1'.up g49.le
  have hj4 := hj4.trans g49.le
  have hd5 := hd5.trans g49.le
  refine ⟨_, Z, ?_⟩
  refine R_nil (N_DK (Kn.of' H hd5 (SubL.cons 3 Z (SubL.cons 4 Z SubL.nil))) ?_)
  refine RD_run [5] kR Z (RDs.cons Z ?_ RDs.nil)
  refine o_call call43 Z Z (l5All_c _ _ H.sub _ _ hr1' ) ?_
  rintro _ w50 ⟨G50, v50, _, g50, rfl, ⟨cs50, rfl, hchk50⟩, hp50, hq50, hs50⟩
  have H := H.growO g50 hp50 hq50 hs50; obtain ⟨av50, cv50, rfl⟩ := H.accShape (k := 0) rfl
  have hchk49 := hchk49.up g50.le
  have hj4 := hj4.trans g50.le
  have hd5 := hd5.trans g50.le
  refine ⟨_, Z, ?_⟩
  refine R_nil (N_DK (Kn.of' H hd5 (SubL.cons 4 Z (SubL.cons 5 Z SubL.nil))) (RD_t 7 Z kR Z (fun _ hK => v_build bf27 Z Z) ?_))
  refine RD_run [9] kR Z (RDs.cons Z ?_ RDs.nil)
  refine o_store_B 3 H sizeOf27 Z Z Z Z Z Z Z Z ?_; intro w51 H
  refine R_nil (N_DKlast kR kR ?_)
  obtain ⟨G575, H, hsg575, hsr575⟩ := H.shut' (k := 1) rfl hchk49 aN aN
  have hchk50 := hchk50.up hsg575
  have hj4 := hj4.trans hsg575
  obtain ⟨G576, H, hsg576, hsr576⟩ := H.shut' (k := 0) rfl hchk50 aN aN
  have hsr575 := hsr575.up hsg576
  have hj4 := hj4.trans hsg576
  have H := H.toFront (k := 3) rfl
  have H := H.toFront (k := 3) rfl
  have H := H.toFront (k := 3) rfl
  have H := H.toFront (k := 3) rfl
  exact N_J ⟨_, _, _, _, _, _, _, _, _, _, _, Z, hj4, H, ⟨hsr575, hsr576, (Chk.nil (E := snapE) (sz := 2) (G := G576)), Z⟩⟩
 rintro _ w4 ⟨jb, ja, jc, jm, jk, jn, jl, ve, ce, ne, G4, rfl, hle4, H, hinv4⟩
 subst hljb3
 subst hljb2
 have hr1'' := hr1''.up hle4
 obtain ⟨hja, hjb, hjc, rfl⟩ := hinv4; obtain ⟨ajx, cjx, rfl⟩ := H.accShape (k := 0) rfl
 refine W_seq (q2 (aG Z (q3 (W_block ?_))))
 obtain ⟨ln52, hln52, H⟩ := H.nameAt (k := 1) (off := 2) rfl rfl
 obtain ⟨ln53, hln53, H⟩ := H.name (k := 2) rfl
 obtain ⟨ln54, hln54, H⟩ := H.name (k := 3) rfl
 refine W_lp (hf := (Sub.cons (t := 1) Z (Sub.cons (t := 2) Z (Sub.cons (t := 3) Z Sub.nil)))) (J := fun M w m => ∃ (v : Value) (n : Nat) (cs : List Value) (xs : List (BSnap)) (k : Nat) (G : PH), M = [(4, .int .i64 (k : Int))] ∧ PLe G4 G ∧ Hp w0 G0 [] w G [acc 46 2 v n cs, blk jb (cl (setN ln52 2 v) 27), blk b3 (cl ln53 27), blk b2 (cl ln54 27)] ∧ (Chk snapE 2 G cs xs ∧ n = xs.length ∧ k ≤ d.snaps.length ∧ xs.length = k ∧ xs = d.snaps.take k) ∧ m = (d.snaps.length - k)) (h0 := ⟨_, _, _, [], 0, _, Z, PLe.refl _, H, ?inv, Z⟩) (round := ?round)
 case inv => exact ⟨hjc,  by first | rfl | simp | (simp; omega) | omega, (by simp)⟩
 case round =>
  rintro _ w55 _ ⟨v, n, cs, xs, k, G55, rfl, hle55, H, hinv55, rfl⟩
  subst hln52
  subst hln53
  subst hln54
  have hr1'' := hr1''.up hle55
  have hja := hja.up hle55
  have hjb := hjb.up hle55
  obtain ⟨hchk55_0, hn55_0, hinv55⟩ := hinv55
  obtain ⟨av55_0, cv55_0, rfl⟩ := H.accShape (k := 0) rfl
  obtain ⟨hk, hxl, hxs⟩ := hinv55
  refine W_seq (q2 (mV Z (o_fieldAddr 2 runUnderlying27 Z sizeOf25 Z Z Z (o_load_B 3 H isAgg25 Z Z Z Z (o_len_slice underlying25 Z Z (o_lss Z Z Z (q3 ?_)))))))
  refine W_cond Z ?_ ?_
  ·intro hc56
   try simp only [nrm] at hc56
   refine W_skip (N_K (W_seq (W_block (W_drawK [1, 2, 3] 20 H kR Z ?_)))); intro w57 H; have hd57 := PLe.refl G55
   refine RD_t 0 Z kR Z (fun _ hK => v_fieldAddr 2 runUnderlying27 Z sizeOf25 Z Z) (RD_t 1 Z kR Z (fun _ hK => v_load_B 0 hK isAgg25 Z Z Z) (RD_t 2 Z kR Z (fun _ hK => v_fieldAddr 2 runUnderlying27 Z sizeOf25 Z Z) (RD_t 3 Z kR Z (fun _ hK => v_load_B 2 hK isAgg25 Z Z Z) (vM 4 Z Z ?_))))
   have hl58 := hr1''.len
   obtain ⟨b58, o58, z58, q58, ha58, hz58, hq58, hE58, hrow58, _⟩ := hr1''.at (i := k) oM
   clear hq58
   obtain ⟨a58, m58, c58, rfl, hi58, hr58⟩ := hE58; have hy_hi58 : _ ≤ 16777216 := hi58; have hn_hr58 := hr58.len; have hx_hr58 : _ ≤ 1099511627776 := hr58.lim
   refine RD_t 5 Z kR Z (fun _ hK => v_index_P (i := k) ha58 underlying25 sizeOf46 Z Z Z oM) (RD_t 6 Z kR Z (fun _ hK => v_fieldAddr 0 runUnderlying46 Z sizeOf9 Z Z) (RD_t 7 Z kR Z (fun _ hK => v_load_P hK isAgg9 Z (hrow58 0 _ Z)) (RD_t 8 Z kR Z (fun _ hK => v_fieldAddr 2 runUnderlying27 Z sizeOf25 Z Z) (RD_t 9 Z kR Z (fun _ hK => v_load_B 2 hK isAgg25 Z Z Z) (vM 10 Z Z ?_)))))
   have hl59 := hr1''.len
   obtain ⟨b59, o59, z59, q59, ha59, hz59, hq59, hE59, hrow59, _⟩ := hr1''.at (i := k) oM
   clear hq59
   obtain ⟨a59, m59, c59, rfl, hi59, hr59⟩ := hE59; have hy_hi59 : _ ≤ 16777216 := hi59; have hn_hr59 := hr59.len; have hx_hr59 : _ ≤ 1099511627776 := hr59.lim
   have hzz59 : z58 = z59 := Option.some.inj (hz58.symm.trans hz59)
   subst hzz59
   refine RD_t 11 Z kR Z (fun _ hK => v_index_P (i := k) ha59 underlying25 sizeOf46 Z Z Z oM) (RD_t 12 Z kR Z (fun _ hK => v_fieldAddr 1 runUnderlying46 Z sizeOf24 Z Z) (RD_t 13 Z kR Z (fun _ hK => v_load_P hK isAgg24 Z (hrow59 1 _ Z)) ?_))
   refine RD_run [14] kR Z (RDs.cons Z ?_ RDs.nil)
   refine o_call call43 Z Z (l5All_c _ _ H.sub _ _ hr59 ) ?_
   rintro _ w60 ⟨G60, v60, _, g60, rfl, ⟨cs60, rfl, hchk60⟩, hp60, hq60, hs60⟩
   have H := H.growO g60 hp60 hq60 hs60; obtain ⟨av60, cv60, rfl⟩ := H.accShape (k := 0) rfl
   have hchk55_0 := hchk55_0.up g60.le
   have hle55 := hle55.trans g60.le
   have hd57 := hd57.trans g60.le
   refine ⟨_, Z, ?_⟩
   refine R_nil (N_DK (Kn.of' H hd57 (SubL.cons 2 Z (SubL.cons 3 Z (SubL.cons 4 Z SubL.nil)))) (RD_t 15 Z kR Z (fun _ hK => v_build bf46 Z Z) ?_))
   refine RD_run [16] kR Z (RDs.cons Z ?_ RDs.nil)
   refine o_buildSlice H underlying25 sizeOf46 (fun w => ⟨_, zeroValue46 w, Z⟩) Z Z Z Z Z Z Z ?_; intro b61 w61 hb61 H
   refine R_nil (N_DK (Kn.of' H hd57 (SubL.cons 3 Z (SubL.cons 4 Z (SubL.cons 5 Z SubL.nil)))) ?_)
   refine RD_run [17] kR Z (RDs.cons Z ?_ RDs.nil)
   refine o_append1 1 H (sz := 2) (bytes := 40) underlying25 typeInfo46 ⟨_, Z, Z⟩ Z Z Z Z Z Z Z Z Z Z oM Z ?_; intro v62 w62 H
   obtain ⟨G63, H, hsg63, hsr63⟩ := H.shut' (k := 0) rfl hchk60 aN aN
   have hchk55_0 := hchk55_0.up hsg63
   have hle55 := hle55.trans hsg63
   have hd57 := hd57.trans hsg63
   have hchk62 := hchk55_0.snoc (show snapE _ ⟨z58.name, z58.tree⟩ _ from ⟨_, _, _, rfl, hi58, hsr63⟩) rfl
   obtain ⟨av62, cv62, rfl⟩ := H.accShape (k := 0) rfl
   refine R_nil (N_DK (Kn.of' H hd57 (SubL.cons 1 Z (SubL.cons 2 Z (SubL.cons 3 Z SubL.nil)))) (RD_t 18 Z kR Z (fun _ hK => v_fieldAddr 2 runUnderlying27 Z sizeOf25 Z Z) ?_))
   refine RD_run [19] kR Z (RDs.cons Z ?_ RDs.nil)
   refine o_store_B 1 H sizeOf25 Z Z Z Z Z Z Z Z ?_; intro w64 H
   refine R_nil (N_DKlast kR kR (N_B (N_K (W_region (mV Z (o_add Z Z Z oO (aG Z (R_nil ?_))))))))
   refine N_lp (hJ := ⟨_, _, _, (xs ++ [⟨z58.name, z58.tree⟩]), k + 1, _, Z, hle55, H, ?inv, Z⟩) (hm := ?hm)
   case hm => omega
   case inv => exact ⟨hchk62, aN, (by exact ⟨by omega, by simp [hxl], by rw [Sp.take_succ' hz58, hxs]⟩)⟩
  intro hc56'
  try simp only [nrm] at hc56'
  refine W_exit (N_K_exit (N_LP_exit (N_B_same (N_K (q2 (o_loadagg_B 1 H isAgg27 sizeOf27 Z Z Z Z Z (o_store_B 2 H sizeOf27 Z Z Z Z Z Z Z Z ?_))))))); intro w66 H
  refine q3 (W_ret (ret_gen (rs := [.cell 2 27]) (vs := [_]) results42 ⟨⟨_, Z, load_blk 2 H isAgg27 sizeOf27 Z Z Z⟩, trivial⟩ ?_))
  obtain rfl : k = d.snaps.length := by omega
  rw [List.take_length] at hxs
  subst hxs
  exact H.retO (k := 0) Z ⟨_, _, _, Z, AccOf.mk aN hchk55_0, hja, hjb⟩ (acc_nd _ _ _ _ _)
end Go.Proofs.Tst

namespace Go.Proofs.Tst
open Go Fw Tryz
theorem SnapTake_c (w0 : World) (G0 : PH) (hG : PSub G0 w0) (cd : List Value) (d : BDisk) (hd : diskE G0 d cd) (name : Bs) (hname : name.length ≤ 16777216)  :
  Calls Tryz.prog 17 #[.agg cd.toArray, str name] w0 (RetO w0 G0 (fun G val r => ∃ u u1 u2, val = .tuple #[.agg #[u, u1, u2], .bool (Sp.SnapTake d name).isSome] ∧ AccOf snapE 2 46 (((Sp.SnapTake d name).map (·.snaps)).getD []) G u2 r ∧ RdH G u (((Sp.SnapTake d name).map (·.store)).getD []) ∧ RdItems G u1 (((Sp.SnapTake d name).map (·.tree)).getD []))) := by
 obtain ⟨a1, m1, c1, a1', m1', c1', a1'', m1'', c1'', rfl, hr1, hr1', hr1''⟩ := hd; have hn_hr1 := hr1.len; have hx_hr1 : _ ≤ 1099511627776 := hr1.lim; have hn_hr1q := hr1'.len; have hx_hr1q : _ ≤ 1099511627776 := hr1'.lim; have hn_hr1qq := hr1''.len; have hx_hr1qq : _ ≤ 1099511627776 := hr1''.lim
 have H := Hp.init hG
 refine calls_of_W (l := [_, str name]) func17 Z ntmps17 Z (q2 (o_box H Z Z Z ?_)); intro b2 w2 hb2 H
 refine o_alloc H zeroValue27 Z Z ?_; intro b3 w3 hb3 H
 refine aG Z (q3 (W_seq (q2 (o_loadagg_B 1 H isAgg27 sizeOf27 Z Z Z Z Z (o_call call23 Z Z (DiskValid_c _ _ H.sub _ d ⟨_, _, _, _, _, _, _, _, _, Z, hr1, hr1', hr1''⟩ ) ?_)))))
 rintro _ w4 ⟨rfl, ew4⟩; have H := H.step ew4; refine ⟨_, rfl, ?_⟩
 refine o_not Z Z (mV Z ?_)
 refine R_case (t := 12) Z ?_ ?_
 ·intro hc5
  try simp only [nrm] at hc5
  refine rP Z (rP Z (rP Z (o_pick_t Z Z Z (mV Z (rP Z (rP Z (rP Z (rP Z (rP Z (o_pick_t Z Z Z (mV Z (rP Z (rP Z (rP Z (rP Z ?_)))))))))))))))
  refine o_pick_t Z Z Z (q3 (W_true Z (q2 (o_build bf27 Z Z Z (o_store_B 0 H sizeOf27 Z Z Z Z Z Z Z Z ?_))))); intro w6 H
  refine aG Z (q3 (W_ret (N_K_ret (ret_gen (rs := [.cell 4 27, .tmp 5]) (vs := [_, _]) results17 ⟨⟨_, Z, load_blk 0 H isAgg27 sizeOf27 Z Z Z⟩, Z, trivial⟩ ?_))))
  have hN : Sp.SnapTake d name = none := by simp [Sp.SnapTake, hc5]
  have H := H.addNil 46 2
  exact H.retO (k := 0) rfl (by rw [hN]; exact ⟨_, _, _, rfl, AccOf.mk rfl Chk.nil, RdS.nil _ _ _, RdS.nil _ _ _⟩) (acc_nd _ _ _ _ _)
 intro hc5'
 try simp only [nrm] at hc5'
 refine gR Z (mV Z (gR Z (o_call call39 Z Z (l1Word_c _ _ hname ) ?_)))
 rintro _ w7 ⟨rfl, ew7⟩; have H := H.step ew7; refine ⟨_, rfl, ?_⟩
 refine gR Z (o_not Z Z (o_pick_f Z Z Z (mV Z ?_)))
 refine R_case (t := 17) Z ?_ ?_
 ·intro hc8
  try simp only [nrm] at hc8
  refine rP Z (rP Z (rP Z (rP Z (rP Z (o_pick_t Z Z Z (mV Z (rP Z (rP Z (rP Z (rP Z (o_pick_t Z Z Z (q3 (W_true Z (q2 (o_build bf27 Z Z Z ?_)))))))))))))))
  refine o_store_B 0 H sizeOf27 Z Z Z Z Z Z Z Z ?_; intro w9 H
  refine aG Z (q3 (W_ret (N_K_ret (ret_gen (rs := [.cell 4 27, .tmp 5]) (vs := [_, _]) results17 ⟨⟨_, Z, load_blk 0 H isAgg27 sizeOf27 Z Z Z⟩, Z, trivial⟩ ?_))))
  have hN : Sp.SnapTake d name = none := by simp [Sp.SnapTake, hc8]
  have H := H.addNil 46 2
  exact H.retO (k := 0) rfl (by rw [hN]; exact ⟨_, _, _, rfl, AccOf.mk rfl Chk.nil, RdS.nil _ _ _, RdS.nil _ _ _⟩) (acc_nd _ _ _ _ _)
 intro hc8'
 try simp only [nrm] at hc8'
 refine gR Z (o_fieldAddr 2 runUnderlying27 Z sizeOf25 Z Z Z (gR Z (o_load_B 1 H isAgg25 Z Z Z Z (gR Z (mV Z (gR Z (o_call call40 Z Z (l12At_c _ _ H.sub _ _ hr1'' _ hname ) ?_)))))))
 rintro _ w10 ⟨rfl, ew10⟩; have H := H.step ew10; refine ⟨_, rfl, ?_⟩
 refine gR Z (o_geq Z Z Z (o_pick_f Z Z Z (mV Z ?_)))
 refine R_case (t := 24) Z ?_ ?_
 ·intro hc11
  try simp only [nrm] at hc11
  refine rP Z (rP Z (rP Z (rP Z (o_pick_t Z Z Z (q3 (W_true Z (q2 (o_build bf27 Z Z Z (o_store_B 0 H sizeOf27 Z Z Z Z Z Z Z Z ?_))))))))); intro w12 H
  refine aG Z (q3 (W_ret (N_K_ret (ret_gen (rs := [.cell 4 27, .tmp 5]) (vs := [_, _]) results17 ⟨⟨_, Z, load_blk 0 H isAgg27 sizeOf27 Z Z Z⟩, Z, trivial⟩ ?_))))
  have hN : Sp.SnapTake d name = none := by (obtain ⟨i, x, ia, ib, ic, ie, ig⟩ := Sp.at_nat hc11); simp [Sp.SnapTake, Sp.atS, ia]
  have H := H.addNil 46 2
  exact H.retO (k := 0) rfl (by rw [hN]; exact ⟨_, _, _, rfl, AccOf.mk rfl Chk.nil, RdS.nil _ _ _, RdS.nil _ _ _⟩) (acc_nd _ _ _ _ _)
 intro hc11'
 try simp only [nrm] at hc11'
 refine gR Z (o_fieldAddr 2 runUnderlying27 Z sizeOf25 Z Z Z (gR Z (o_load_B 1 H isAgg25 Z Z Z Z (gR Z (o_len_slice underlying25 Z Z (gR Z (o_eql Z Z Z (o_pick_f Z Z Z (q3 ?_)))))))))
 refine W_cond Z ?_ ?_
 ·intro hc13
  try simp only [nrm] at hc13
  refine q2 (o_build bf27 Z Z Z (o_store_B 0 H sizeOf27 Z Z Z Z Z Z Z Z ?_)); intro w14 H
  refine aG Z (q3 (W_ret (N_K_ret (ret_gen (rs := [.cell 4 27, .tmp 5]) (vs := [_, _]) results17 ⟨⟨_, Z, load_blk 0 H isAgg27 sizeOf27 Z Z Z⟩, Z, trivial⟩ ?_))))
  have hN : Sp.SnapTake d name = none := by simp [Sp.SnapTake, show d.snaps.length = 6 by omega]
  have H := H.addNil 46 2
  exact H.retO (k := 0) rfl (by rw [hN]; exact ⟨_, _, _, rfl, AccOf.mk rfl Chk.nil, RdS.nil _ _ _, RdS.nil _ _ _⟩) (acc_nd _ _ _ _ _)
 intro hc13'
 try simp only [nrm] at hc13'
 refine W_skip (N_K (q2 (o_fieldAddr 0 runUnderlying27 Z sizeOf23 Z Z Z (o_load_B 1 H isAgg23 Z Z Z Z (o_fieldAddr 1 runUnderlying27 Z sizeOf24 Z Z Z (o_load_B 1 H isAgg24 Z Z Z Z (o_call call41 Z Z (l12Keep_c _ _ H.sub _ _ hr1 _ _ hr1' ) ?_)))))))
 rintro _ w15 ⟨G15, _, _, g15, rfl, ⟨u15_0, rfl, ⟨cs15, rfl, hchk15⟩⟩, hp15, hq15, hs15⟩
 have H := H.growO g15 hp15 hq15 hs15; obtain ⟨av15, cv15, rfl⟩ := H.accShape (k := 0) rfl
 have hr1 := hr1.up g15.le
 have hr1' := hr1'.up g15.le
 have hr1'' := hr1''.up g15.le
 refine ⟨_, Z, ?_⟩
 have hkl := Sp.l12Keep_len d.store d.tree
 refine mV Z (o_extract Z Z Z (o_extract Z Z Z (aG Z (aG Z (q3 (W_seq (q2 (mV Z (o_not Z Z (q3 ?_))))))))))
 refine W_cond Z ?_ ?_
 ·intro hc16
  try simp only [nrm] at hc16
  refine q2 (o_build bf27 Z Z Z (o_store_B 1 H sizeOf27 Z Z Z Z Z Z Z Z ?_)); intro w17 H
  refine aG Z (q3 (W_ret (N_K_ret (ret_gen (rs := [.cell 4 27, .tmp 5]) (vs := [_, _]) results17 ⟨⟨_, Z, load_blk 1 H isAgg27 sizeOf27 Z Z Z⟩, Z, trivial⟩ ?_))))
  have hN : Sp.SnapTake d name = none := by (have hno : Sp.l12Keep d.store d.tree = none := by simpa using hc16); simp [Sp.SnapTake, hno]
  have H := H.addNil 46 2
  exact H.retO (k := 0) rfl (by rw [hN]; exact ⟨_, _, _, rfl, AccOf.mk rfl Chk.nil, RdS.nil _ _ _, RdS.nil _ _ _⟩) (acc_nd _ _ _ _ _)
 intro hc16'
 try simp only [nrm] at hc16'
 refine W_skip (N_K (q2 (o_loadagg_B 2 H isAgg27 sizeOf27 Z Z Z Z Z (o_call call42 Z Z (l12Copy_c _ _ H.sub _ d ⟨_, _, _, _, _, _, _, _, _, Z, hr1, hr1', hr1''⟩ ) ?_))))
 rintro _ w18 ⟨G18, _, _, g18, rfl, ⟨u18_0, u18_1, u18_2, rfl, ⟨cs18, rfl, hchk18⟩, hr18_0, hr18_1⟩, hp18, hq18, hs18⟩
 have H := H.growO g18 hp18 hq18 hs18; obtain ⟨av18, cv18, rfl⟩ := H.accShape (k := 0) rfl
 have hr1' := hr1'.up g18.le
 have hchk15 := hchk15.up g18.le
 obtain ⟨a18_0, k18_0, rfl⟩ := hr18_0.shape; have hx_hr18_0 : _ ≤ 1099511627776 := hr18_0.lim
 obtain ⟨a18_1, k18_1, rfl⟩ := hr18_1.shape; have hx_hr18_1 : _ ≤ 1099511627776 := hr18_1.lim
 refine ⟨_, Z, ?_⟩
 refine o_alloc H zeroValue27 Z Z ?_; intro b19 w19 hb19 H
 refine o_store_B 0 H sizeOf27 Z Z Z Z Z Z Z Z ?_; intro w20 H
 refine q1 (mV Z (o_fieldAddr 0 runUnderlying27 Z sizeOf23 Z Z Z (o_store_B 0 H sizeOf23 Z Z Z Z Z Z Z Z ?_))); intro w21 H
 refine q3 (W_seq (W_drawK [0, 3, 4] 11 H kR Z ?_)); intro w22 H; have hd22 := PLe.refl G18
 refine RD_t 0 Z kR Z (fun _ hK => v_fieldAddr 2 runUnderlying27 Z sizeOf25 Z Z) (RD_t 1 Z kR Z (fun _ hK => v_load_B 0 hK isAgg25 Z Z Z) (vM 2 Z Z (RD_t 3 Z kR Z (fun _ hK => v_fieldAddr 1 runUnderlying27 Z sizeOf24 Z Z) (RD_t 4 Z kR Z (fun _ hK => v_load_B 2 hK isAgg24 Z Z Z) ?_))))
 refine RD_run [5] kR Z (RDs.cons Z ?_ RDs.nil)
 refine o_call call43 Z Z (l5All_c _ _ H.sub _ _ hr1' ) ?_
 rintro _ w23 ⟨G23, v23, _, g23, rfl, ⟨cs23, rfl, hchk23⟩, hp23, hq23, hs23⟩
 have H := H.growO g23 hp23 hq23 hs23; obtain ⟨av23, cv23, rfl⟩ := H.accShape (k := 0) rfl
 have hchk15 := hchk15.up g23.le
 have hr18_1 := hr18_1.up g23.le
 have hchk18 := hchk18.up g23.le
 have hd22 := hd22.trans g23.le
 refine ⟨_, Z, ?_⟩
 refine R_nil (N_DK (Kn.of' H hd22 (SubL.cons 1 Z (SubL.cons 4 Z (SubL.cons 5 Z SubL.nil)))) (RD_t 6 Z kR Z (fun _ hK => v_build bf46 Z Z) ?_))
 refine RD_run [7] kR Z (RDs.cons Z ?_ RDs.nil)
 refine o_buildSlice H underlying25 sizeOf46 (fun w => ⟨_, zeroValue46 w, Z⟩) Z Z Z Z Z Z Z ?_; intro b24 w24 hb24 H
 refine R_nil (N_DK (Kn.of' H hd22 (SubL.cons 2 Z (SubL.cons 5 Z (SubL.cons 6 Z SubL.nil)))) ?_)
 refine RD_run [8] kR Z (RDs.cons Z ?_ RDs.nil)
 refine o_append1 2 H (sz := 2) (bytes := 40) underlying25 typeInfo46 ⟨_, Z, Z⟩ Z Z Z Z Z Z Z Z Z Z oM Z ?_; intro v25 w25 H
 obtain ⟨G26, H, hsg26, hsr26⟩ := H.shut' (k := 0) rfl hchk23 aN aN
 have hchk15 := hchk15.up hsg26
 have hr18_1 := hr18_1.up hsg26
 have hchk18 := hchk18.up hsg26
 have hd22 := hd22.trans hsg26
 have hchk25 := hchk18.snoc (show snapE _ ⟨name, d.tree⟩ _ from ⟨_, _, _, rfl, hname, hsr26⟩) rfl
 obtain ⟨av25, cv25, rfl⟩ := H.accShape (k := 1) rfl
 refine R_nil (N_DK (Kn.of' H hd22 (SubL.cons 0 Z (SubL.cons 3 Z (SubL.cons 4 Z SubL.nil)))) (RD_t 9 Z kR Z (fun _ hK => v_fieldAddr 2 runUnderlying27 Z sizeOf25 Z Z) ?_))
 refine RD_run [10] kR Z (RDs.cons Z ?_ RDs.nil)
 refine o_store_B 0 H sizeOf25 Z Z Z Z Z Z Z Z ?_; intro w27 H
 refine R_nil (N_DKlast kR kR (N_K (q2 (o_loadagg_B 0 H isAgg27 sizeOf27 Z Z Z Z Z (o_store_B 3 H sizeOf27 Z Z Z Z Z Z Z Z ?_))))); intro w28 H
 refine aG Z (q3 (W_ret (ret_gen (rs := [.cell 4 27, .tmp 5]) (vs := [_, _]) results17 ⟨⟨_, Z, load_blk 3 H isAgg27 sizeOf27 Z Z Z⟩, Z, trivial⟩ ?_)))
 obtain ⟨G530, H, hsg530, hsr530⟩ := H.shut' (k := 2) rfl hchk15 aN aN
 have hr18_1 := hr18_1.up hsg530
 have hchk25 := hchk25.up hsg530
 have hY : Sp.SnapTake d name = some ⟨(Sp.l12Keep d.store d.tree).getD [], d.tree, d.snaps ++ [⟨name, d.tree⟩]⟩ := by (obtain ⟨p, hp⟩ := Option.isSome_iff_exists.1 hc16'); (have hat : Sp.atS d.snaps name = none := Sp.at_none hc11'); simp [Sp.SnapTake, hc5', hc8', hat, hp, show ¬ d.snaps.length = 6 by omega]
 exact H.retO (k := 1) rfl (by rw [hY]; exact ⟨_, _, _, rfl, AccOf.mk aN hchk25, hsr530, hr18_1⟩) (acc_nd _ _ _ _ _)
end Go.Proofs.Tst

namespace Go.Proofs.Tst
open Go Fw Tryz
theorem SnapTakeP_c (w0 : World) (G0 : PH) (hG : PSub G0 w0) (cd : List Value) (d : BDisk) (hd : diskE G0 d cd) (name : Bs) (hname : name.length ≤ 16777216) :
  Calls Tryz.prog 17 #[.agg cd.toArray, str name] w0 (RetP w0 G0 (fun G val => ∃ cs, val = .tuple #[.agg cs.toArray, .bool (Sp.SnapTake d name).isSome] ∧ diskE G ((Sp.SnapTake d name).getD ⟨[], [], []⟩) cs)) := by
 refine (SnapTake_c w0 G0 hG cd d hd name hname).mono ?_
 rintro _ w' ⟨G, v, r, g, rfl, ⟨u, u1, u2, rfl, ⟨cells, rfl, hchk⟩, h1, h2⟩, hp, hq, hs⟩
 have H := (Hp.init hG).growO g hp hq hs
 have hb : (((Sp.SnapTake d name).map (·.snaps)).getD []).length ≤ 6 := Sp.dk_lim (fun d1 h => Sp.take_valid h)
 obtain ⟨G2, H2, hle, hr⟩ := H.shut' (k := 0) rfl hchk rfl oM
 have e1 : ((Sp.SnapTake d name).map (·.store)).getD [] = ((Sp.SnapTake d name).getD ⟨[], [], []⟩).store := by cases Sp.SnapTake d name <;> rfl
 have e2 : ((Sp.SnapTake d name).map (·.tree)).getD [] = ((Sp.SnapTake d name).getD ⟨[], [], []⟩).tree := by cases Sp.SnapTake d name <;> rfl
 have e3 : ((Sp.SnapTake d name).map (·.snaps)).getD [] = ((Sp.SnapTake d name).getD ⟨[], [], []⟩).snaps := by cases Sp.SnapTake d name <;> rfl
 rw [e1] at h1; rw [e2] at h2; rw [e3] at hr
 obtain ⟨a1, c1, rfl⟩ := h1.shape
 obtain ⟨a2, c2, rfl⟩ := h2.shape
 obtain ⟨a3, c3, rfl⟩ := hr.shape
 exact H2.retP ⟨[_, _, _], Z, _, _, _, _, _, _, _, _, _, Z, h1.up hle, h2.up hle, hr⟩
end Go.Proofs.Tst

namespace Go.Proofs.Tst
open Go Fw Tryz
theorem pick_c (w0 : World) (G0 : PH) (hG : PSub G0 w0) (rb : Nat) (ab : Option Addr) (mb kb : Nat) (bs : List UInt8) (p : Nat) (hbs : RdU G0 (.slice ab mb kb) bs) (hrb : w0.heap[rb]? = some (cl [.slice ab mb kb, .int .i64 (p : Int)] 107)) (hrn : G0 rb = none) (hp : p ≤ 1000000000000) (n : Int) (hn : inI n)  :
  Calls Tryz.prog 33 #[.pointer (some ⟨rb, 0, none⟩), .int .i64 n] w0 (RetM w0 G0 [rb] (fun G val Bs => ∃ (p' : Nat) (x : Nat), p' ≤ p + 1 ∧ val = .int .i64 (x : Int) ∧ ((x : Int) < n ∨ x = 0) ∧ Bs = [blk rb (cl [.slice ab mb kb, .int .i64 (p' : Int)] 107)])) := by
 have hlimbs : bs.length ≤ 1099511627776 := hbs.lim; obtain rfl : mb = bs.length := hbs.len
 have H := Hp.initM hG hrb hrn
 refine calls_of_W (l := [.pointer (some ⟨rb, 0, none⟩), .int .i64 n]) func33 Z ntmps33 Z (q2 (aG Z (q1 (mV Z (mV Z (o_nilCheck Z Z (o_fieldAddr 1 runUnderlying107 Z sizeOf3 Z Z Z (o_load_B 0 H isAgg3 Z Z Z Z (o_add Z Z Z oO (o_nilCheck Z Z (o_fieldAddr 1 runUnderlying107 Z sizeOf3 Z Z Z (o_store_B 0 H sizeOf3 Z Z Z Z Z Z Z Z ?_)))))))))))); intro w2 H
 refine q3 (W_seq (q2 (mV Z (o_lss Z Z Z (mV Z ?_)))))
 refine R_case (t := 17) Z ?_ ?_
 ·intro hc3
  try simp only [nrm] at hc3
  refine rP Z (rP Z (rP Z (rP Z (rP Z (rP Z (o_pick_t Z Z Z (q3 (W_true Z (q2 (aG Z (q3 (W_ret (N_K_ret (rt1 results33 Z ?_))))))))))))))
  exact H.retM ⟨p + 1, 0, by omega, rfl, .inr rfl, rfl⟩
 intro hc3'
 try simp only [nrm] at hc3'
 refine gR Z (mV Z (gR Z (o_nilCheck Z Z (gR Z (o_fieldAddr 0 runUnderlying107 Z sizeOf22 Z Z Z (gR Z (o_load_B 0 H isAgg22 Z Z Z Z (gR Z (o_len_slice underlying22 Z Z (gR Z (o_eql Z Z Z (o_pick_f Z Z Z (q3 ?_)))))))))))))
 refine W_cond Z ?_ ?_
 ·intro hc4
  try simp only [nrm] at hc4
  refine q2 (aG Z (q3 (W_ret (N_K_ret (rt1 results33 Z ?_)))))
  exact H.retM ⟨p + 1, 0, by omega, rfl, .inr rfl, rfl⟩
 intro hc4'
 try simp only [nrm] at hc4'
 have hm0 : 0 < bs.length := by omega
 have hm1 := Nat.mod_lt p hm0
 have hm2 := Nat.mod_lt (p * 7 + 3) hm0
 have hq1 : 0 ≤ ((p : Int) + 1 - 1) / (bs.length : Int) := Int.ediv_nonneg oM oM
 have hq2 : ((p : Int) + 1 - 1) / (bs.length : Int) ≤ (p : Int) + 1 - 1 := Int.ediv_le_self _ oM
 refine W_skip (N_K (q2 (mV Z (o_nilCheck Z Z (o_fieldAddr 1 runUnderlying107 Z sizeOf3 Z Z Z (o_load_B 0 H isAgg3 Z Z Z Z (o_sub Z Z Z oO (aG Z (q3 (W_seq (q2 (mV Z (mV Z (o_nilCheck Z Z (o_fieldAddr 0 runUnderlying107 Z sizeOf22 Z Z Z ?_)))))))))))))))
 refine o_load_B 0 H isAgg22 Z Z Z Z (o_len_slice underlying22 Z Z (o_lss Z Z Z (q3 ?_)))
 refine W_cond Z ?_ ?_
 ·intro hc6
  try simp only [nrm] at hc6
  refine q2 (mV Z (o_nilCheck Z Z (o_fieldAddr 0 runUnderlying107 Z sizeOf22 Z Z Z (o_load_B 0 H isAgg22 Z Z Z Z (mV Z (o_index_P p hbs underlying22 sizeOf5 Z Z Z oM aN ?_)))))); intro b7 o7 z7 q7 hz7 hE7 hrow7
  obtain rfl := hE7
  have hzl7 := z7.toNat_lt
  refine o_load_P H isAgg5 Z Z (hrow7 0 _ Z) (o_conv (by simp [underlying5]) underlying3 Z Z (wrap_i64 oO) (mV Z (o_rem Z Z Z oM oM (aG Z (q3 (W_ret (N_K_ret (rt1 results33 Z ?_))))))))
  exact H.retM ⟨p + 1, _, by omega, congrArg (Value.int .i64) (Int.toNat_of_nonneg (Int.emod_nonneg _ oM)).symm, .inl (by rw [Int.toNat_of_nonneg (Int.emod_nonneg _ oM)]; exact Int.emod_lt_of_pos _ oM), rfl⟩
 intro hc6'
 try simp only [nrm] at hc6'
 refine W_skip (N_K (W_seq (W_drawK [0] 46 H kR Z ?_))); intro w8 H; have hd8 := PLe.refl G0
 refine vM 0 Z Z (RD_t 1 Z kR Z (fun _ hK => v_nilCheck Z) (RD_t 2 Z kR Z (fun _ hK => v_fieldAddr 0 runUnderlying107 Z sizeOf22 Z Z) (RD_t 3 Z kR Z (fun _ hK => v_load_B 0 hK isAgg22 Z Z Z) (vM 4 Z Z (vM 5 Z Z (RD_t 6 Z kR Z (fun _ hK => v_nilCheck Z) (RD_t 7 Z kR Z (fun _ hK => v_fieldAddr 0 runUnderlying107 Z sizeOf22 Z Z) (RD_t 8 Z kR Z (fun _ hK => v_load_B 0 hK isAgg22 Z Z Z) (RD_t 9 Z kR Z (fun _ hK => v_len_slice underlying22 Z) (RD_t 10 Z kR Z (fun _ hK => v_rem Z Z oM oM) ?_))))))))))
 have hl9 := hbs.len
 obtain ⟨b9, o9, z9, q9, ha9, hz9, hq9, hE9, hrow9, _⟩ := hbs.at (i := (p % bs.length)) oM
 clear hq9
 obtain rfl := hE9
 have hzl9 := z9.toNat_lt
 refine RD_t 11 Z kR Z (fun _ hK => v_index_P (i := (p % bs.length)) ha9 underlying22 sizeOf5 Z Z (by rw [Int.add_sub_cancel]; exact (Int.natCast_emod _ _).symm) oM) ?_
 refine RD_t 12 Z kR Z (fun _ hK => v_load_P hK isAgg5 Z (hrow9 0 _ Z)) (RD_t 13 Z kR Z (fun _ hK => v_conv (by simp [underlying5]) underlying3 Z (wrap_i64 oO)) (RD_t 14 Z kR Z (fun _ hK => v_mul Z Z oO) (vM 15 Z Z (RD_t 16 Z kR Z (fun _ hK => v_nilCheck Z) (RD_t 17 Z kR Z (fun _ hK => v_fieldAddr 0 runUnderlying107 Z sizeOf22 Z Z) (RD_t 18 Z kR Z (fun _ hK => v_load_B 0 hK isAgg22 Z Z Z) (vM 19 Z Z (RD_t 20 Z kR Z (fun _ hK => v_mul Z Z oO) (RD_t 21 Z kR Z (fun _ hK => v_add Z Z oO) (vM 22 Z Z (RD_t 23 Z kR Z (fun _ hK => v_nilCheck Z) (RD_t 24 Z kR Z (fun _ hK => v_fieldAddr 0 runUnderlying107 Z sizeOf22 Z Z) (RD_t 25 Z kR Z (fun _ hK => v_load_B 0 hK isAgg22 Z Z Z) (RD_t 26 Z kR Z (fun _ hK => v_len_slice underlying22 Z) (RD_t 27 Z kR Z (fun _ hK => v_rem Z Z oM oM) ?_)))))))))))))))
 have hl13 := hbs.len
 obtain ⟨b13, o13, z13, q13, ha13, hz13, hq13, hE13, hrow13, _⟩ := hbs.at (i := ((p * 7 + 3) % bs.length)) oM
 clear hq13
 obtain rfl := hE13
 have hzl13 := z13.toNat_lt
 refine RD_t 28 Z kR Z (fun _ hK => v_index_P (i := ((p * 7 + 3) % bs.length)) ha13 underlying22 sizeOf5 Z Z (by rw [Int.add_sub_cancel]; exact (Int.natCast_emod _ _).symm) oM) ?_
 refine RD_t 29 Z kR Z (fun _ hK => v_load_P hK isAgg5 Z (hrow13 0 _ Z)) (RD_t 30 Z kR Z (fun _ hK => v_conv (by simp [underlying5]) underlying3 Z (wrap_i64 oO)) (RD_t 31 Z kR Z (fun _ hK => v_mul Z Z oO) (RD_t 32 Z kR Z (fun _ hK => v_add Z Z oO) (vM 33 Z Z (RD_t 34 Z kR Z (fun _ hK => v_mul Z Z oO) (RD_t 35 Z kR Z (fun _ hK => v_add Z Z oO) (vM 36 Z Z (vM 37 Z Z (RD_t 38 Z kR Z (fun _ hK => v_nilCheck Z) (RD_t 39 Z kR Z (fun _ hK => v_fieldAddr 0 runUnderlying107 Z sizeOf22 Z Z) (RD_t 40 Z kR Z (fun _ hK => v_load_B 0 hK isAgg22 Z Z Z) (RD_t 41 Z kR Z (fun _ hK => v_len_slice underlying22 Z) (RD_t 42 Z kR Z (fun _ hK => v_quo Z Z oM oM oM) (RD_t 43 Z kR Z (fun _ hK => v_mul Z Z oO) (RD_t 44 Z kR Z (fun _ hK => v_add Z Z oO) ?_)))))))))))))))
 refine RD_t 45 Z kR Z (fun _ hK => v_assign Z) (RD_done kR (N_K (q2 (mV Z (mV Z (o_quo Z Z Z oM oM oM (o_xor Z Z Z oO oO ?_))))))); intro xr20 hxr20
 refine aG Z (q1 (mV Z (mV Z (o_rem Z Z Z oM oM (aG Z (q3 (W_ret (rt1 results33 Z ?_))))))))
 exact H.retM ⟨p + 1, _, by omega, congrArg (Value.int .i64) (Int.toNat_of_nonneg (Int.emod_nonneg _ oM)).symm, .inl (by rw [Int.toNat_of_nonneg (Int.emod_nonneg _ oM)]; exact Int.emod_lt_of_pos _ oM), rfl⟩
end Go.Proofs.Tst

namespace Go.Proofs.Tst
open Go Fw Tryz
theorem of_c (w0 : World) (G0 : PH) (hG : PSub G0 w0) (rb : Nat) (ab : Option Addr) (mb kb : Nat) (bs : List UInt8) (p : Nat) (hbs : RdU G0 (.slice ab mb kb) bs) (hrb : w0.heap[rb]? = some (cl [.slice ab mb kb, .int .i64 (p : Int)] 107)) (hrn : G0 rb = none) (hp : p ≤ 100000000000) (vlist : Value) (list : List (Bs)) (hlist : RdT G0 vlist list) (hL : 0 < list.length) :
  Calls Tryz.prog 34 #[.pointer (some ⟨rb, 0, none⟩), vlist] w0 (RetM w0 G0 [rb] (fun G val Bs => ∃ (p' : Nat) (x : Fw.Bs), p' ≤ p + 1 ∧ val = str x ∧ x.length ≤ 16777216 ∧ Bs = [blk rb (cl [.slice ab mb kb, .int .i64 (p' : Int)] 107)])) := by
 have hlimbs : bs.length ≤ 1099511627776 := hbs.lim; obtain rfl : mb = bs.length := hbs.len
 obtain ⟨alist, klist, rfl⟩ := hlist.shape
 have hlimlist : list.length ≤ 1099511627776 := hlist.lim
 have H := Hp.initM hG hrb hrn
 refine calls_of_W (l := [.pointer (some ⟨rb, 0, none⟩), .slice alist list.length klist]) func34 Z ntmps34 Z (q2 (aG Z (q1 (mV Z (mV Z (mV Z (o_len_slice underlying77 Z Z (o_call call33 Z Z (pick_c _ _ H.sub _ _ _ _ _ _ hbs (H.blkIs (k := 0) Z).1 (H.blkIs (k := 0) Z).2 oM _ oO ) ?_))))))))
 rintro _ w1 ⟨G1, _, _, rfl, H1', ⟨p1, x1, hp1, rfl, hxb1, rfl⟩⟩
 have hlist := hlist.up H1'.le
 have H := H.borrow (k := 0) rfl H1'
 refine ⟨_, Z, ?_⟩
 refine o_index_P x1 hlist underlying77 sizeOf9 Z Z Z Z aN ?_; intro b2 o2 z2 q2 hz2 hE2 hrow2
 obtain ⟨rfl, hi2⟩ := hE2; have hy_hi2 : _ ≤ 16777216 := hi2
 refine o_load_P H isAgg9 Z Z (hrow2 0 _ Z) (aG Z (q3 (W_ret (rt1 results34 Z ?_))))
 exact H.retM ⟨_, _, by omega, rfl, (by assumption), rfl⟩
end Go.Proofs.Tst

namespace Go.Proofs.Tst
open Go Fw Tryz
theorem l6Open_c (w0 : World) (G0 : PH) (hG : PSub G0 w0) (vcode : Value) (code : List (UInt8)) (hcode : RdU G0 vcode code)  :
  Calls Tryz.prog 27 #[vcode] w0 (RetO w0 G0 (fun G val r => ∃ (b : Nat) (ab : Option Addr) (mb kb : Nat) (bs : List UInt8), val = .pointer (some ⟨b, 0, none⟩) ∧ r = blk b (cl [.slice ab mb kb, .int .i64 ((0 : Nat) : Int)] 107) ∧ RdU G (.slice ab mb kb) bs)) := by
 obtain ⟨acode, kcode, rfl⟩ := hcode.shape
 have hlimcode : code.length ≤ 1099511627776 := hcode.lim
 have H := Hp.init hG
 refine calls_of_W (l := [.slice acode code.length kcode]) func27 Z ntmps27 Z (q2 (aG Z (q3 (W_seq (q2 (mV Z (o_len_slice underlying22 Z Z (o_gtr Z Z Z (q3 ?_)))))))))
 refine W_cond Z ?_ ?_
 ·intro hc1
  try simp only [nrm] at hc1
  refine W_region (mV Z ?_)
  have hcap2 := hcode.cap; try simp only [List.length_set, List.length_append, List.length_take, List.length_drop, List.length_replicate] at hcap2
  refine o_slice_to (j := 2000) underlying22 sizeOf5 Z Z Z oM oM ?_
  have hsl2 := hcode.take (j := 2000) aN
  have hsn1 := hsl2.len
  refine aG Z (q1 (mV Z (o_build bf107 Z Z Z (o_box H Z Z Z ?_)))); intro b3 w3 hb3 H
  refine aG Z (q3 (W_ret (rt1 results27 Z ?_)))
  exact H.retO (k := 0) rfl ⟨_, _, _, _, _, rfl, rfl, hsl2⟩ (by simp [blk])
 intro hc1'
 try simp only [nrm] at hc1'
 refine W_skip (N_K (q2 (mV Z (o_build bf107 Z Z Z (o_box H Z Z Z ?_))))); intro b4 w4 hb4 H
 refine aG Z (q3 (W_ret (rt1 results27 Z ?_)))
 exact H.retO (k := 0) rfl ⟨_, _, _, _, _, rfl, rfl, hcode⟩ (by simp [blk])
end Go.Proofs.Tst

namespace Go.Proofs.Tst
open Go Fw Tryz
theorem l3Free_c (w0 : World) (G0 : PH) (hG : PSub G0 w0) (vlist : Value) (list : List (BHeld)) (hlist : RdH G0 vlist list)  :
  Calls Tryz.prog 204 #[vlist] w0 (Rets w0 (.int .i64 (Sp.freeId list : Int))) := by
 obtain ⟨alist, klist, rfl⟩ := hlist.shape
 have hlimlist : list.length ≤ 1099511627776 := hlist.lim
 have H := Hp.init hG
 refine calls_of_W (l := [.slice alist list.length klist]) func204 Z ntmps204 Z (q2 (aG Z (q1 (aG Z (q3 (W_seq (W_block ?_)))))))
 refine W_lp (hf := (Sub.cons (t := 0) Z (Sub.cons (t := 2) Z Sub.nil))) (J := fun M w m => ∃ (k : Nat) (G : PH), M = [(3, .int .i64 ((k : Int) + 1))] ∧ PLe G0 G ∧ Hp w0 G0 [] w G [] ∧ (∀ j : Nat, j < k → (Sp.atH list ((j : Int) + 1)).isSome = true) ∧ m = (list.length + 1 - k)) (h0 := ⟨0, _, Z, PLe.refl _, H, ?inv, Z⟩) (round := ?round)
 case inv => exact fun j hj => by omega
 case round =>
  rintro _ w1 _ ⟨k, G1, rfl, hle1, H, hinv1, rfl⟩
  have hlist := hlist.up hle1
  have hall := hinv1; have hkl := Sp.free_le hall
  refine W_seq (q2 (mV Z (mV Z (o_call call113 Z Z (l3At_c _ _ H.sub _ _ hlist _ ) ?_))))
  rintro _ w2 ⟨rfl, ew2⟩; have H := H.step ew2; refine ⟨_, rfl, ?_⟩
  refine o_geq Z Z Z (q3 ?_)
  refine W_cond Z ?_ ?_
  ·intro hc3
   try simp only [nrm] at hc3
   refine W_skip (N_K (W_block (W_region (mV Z (o_add Z Z Z oO (aG Z (R_nil (N_B ?_))))))))
   refine N_lp (hJ := ⟨k + 1, _, Z, hle1, H, ?inv, Z⟩) (hm := ?hm)
   case hm => omega
   case inv => exact Sp.upto_succ (p := fun j : Nat => (Sp.atH list ((j : Int) + 1)).isSome) hall (Sp.isSome_of hc3)
  intro hc3'
  try simp only [nrm] at hc3'
  refine W_exit (N_K_exit (N_LP_exit (N_B_same (N_K (q2 (mV Z (aG Z (q3 (W_ret (rt1 results204 Z ?_))))))))))
  exact H.rets (congrArg (Value.int .i64) (by rw [Sp.free_eq hall (Sp.isNone_of hc3')]; rfl))
end Go.Proofs.Tst

namespace Go.Proofs.Tst
open Go Fw Tryz
theorem l3With_c (w0 : World) (G0 : PH) (hG : PSub G0 w0) (vlist : Value) (list : List (BHeld)) (hlist : RdH G0 vlist list) (vbytes : Value) (bytes : List (Int)) (hbytes : RdI G0 vbytes bytes) (hS : list.length ≤ 1000000) :
  Calls Tryz.prog 205 #[vlist, vbytes] w0 (RetO w0 G0 (AccOf heldE 3 42 (Sp.l3With list bytes))) := by
 obtain ⟨alist, klist, rfl⟩ := hlist.shape
 have hlimlist : list.length ≤ 1099511627776 := hlist.lim
 obtain ⟨abytes, kbytes, rfl⟩ := hbytes.shape
 have hlimbytes : bytes.length ≤ 1099511627776 := hbytes.lim
 have hfr := Sp.free_lt list
 have H := Hp.init hG
 refine calls_of_W (l := [.slice alist list.length klist, .slice abytes bytes.length kbytes]) func205 Z ntmps205 Z (q2 (aG Z (q1 (mV Z (o_call call204 Z Z (l3Free_c _ _ H.sub _ _ hlist ) ?_)))))
 rintro _ w1 ⟨rfl, ew1⟩; have H := H.step ew1; refine ⟨_, rfl, ?_⟩
 refine aG Z (q1 (o_buildSlice H underlying23 sizeOf42 (fun w => ⟨_, zeroValue42 w, Z⟩) Z Z Z Z Z Z Z ?_)); intro b2 w2 hb2 H
 have H := H.blkAcc 3 (k := 0) (n := 0) rfl rfl (by decide)
 refine aG Z (q1 (aG Z (q1 (mV Z (o_buildSlice H underlying38 sizeOf3 (fun w => ⟨_, zeroValue3 w, Z⟩) Z Z Z Z Z Z Z ?_))))); intro b3 w3 hb3 H
 have H := H.blkAcc 1 (k := 0) (n := 0) rfl rfl (by decide)
 refine mV Z ?_
 refine o_append_P 0 H hbytes (by intro z cs hz u hu; obtain ⟨rfl, _⟩ := hz; simp at hu; subst hu; rfl) (sz := 1) (bytes := 8) underlying38 typeInfo3 ⟨_, rfl, rfl⟩ rfl rfl rfl rfl rfl rfl rfl oM rfl ?_; intro v4 w4 css4 hcl4 hcs4 H
 have hchk4 : Chk intE 1 G0 ([] ++ css4.flatten) _ := ⟨css4, rfl, hcl4, hcs4⟩
 obtain ⟨av4, cv4, rfl⟩ := H.accShape (k := 0) rfl
 refine o_build bf42 Z Z Z (o_alloc H zeroValue42 Z Z ?_); intro b5 w5 hb5 H
 refine o_store_B 0 H sizeOf42 Z Z Z Z Z Z Z Z ?_; intro w6 H
 refine q1 (mV Z (o_call call79 Z Z (l3Copy_c _ _ H.sub _ _ hlist ) ?_))
 rintro _ w7 ⟨G7, v7, _, g7, rfl, ⟨cs7, rfl, hchk7⟩, hp7, hq7, hs7⟩
 have H := H.growO g7 hp7 hq7 hs7; obtain ⟨av7, cv7, rfl⟩ := H.accShape (k := 0) rfl
 have hchk4 := hchk4.up g7.le
 refine ⟨_, Z, ?_⟩
 refine aG Z (q3 (W_seq (q2 (aG Z (q3 (W_block ?_))))))
 obtain ⟨G8, H, hsg8, hsr8⟩ := H.shut' (k := 2) rfl hchk4 aN aN
 have hchk7 := hchk7.up hsg8
 obtain ⟨G9, H, hsg9, hsr9⟩ := H.shut' (k := 0) rfl hchk7 aN aN
 have hsr8 := hsr8.up hsg9
 obtain ⟨ln10, hln10, H⟩ := H.name (k := 0) rfl
 refine W_lp (hf := (Sub.cons (t := 4) Z (Sub.cons (t := 5) Z (Sub.cons (t := 8) Z (Sub.cons (t := 9) Z Sub.nil))))) (J := fun M w m => ∃ (v : Value) (n : Nat) (cs : List Value) (xs : List (BHeld)) (d : Bool) (k : Nat) (G : PH), M = [(7, .bool d), (10, .int .i64 (k : Int)), (6, v)] ∧ PLe G9 G ∧ Hp w0 G0 [] w G [blk b5 (cl ln10 42), acc 42 3 v n cs] ∧ (Chk heldE 3 G cs xs ∧ n = xs.length ∧ k ≤ list.length ∧ xs.length ≤ k + 1 ∧ (d = false → xs = list.take k ∧ (list.take k).all (Sp.idF list) = true) ∧ (d = true → xs ++ list.drop k = Sp.l3With list bytes)) ∧ m = (list.length - k)) (h0 := ⟨_, _, _, [], false, 0, _, Z, PLe.refl _, H, ?inv, Z⟩) (round := ?round)
 case inv => exact ⟨(Chk.nil (E := heldE) (sz := 3) (G := G9)),  by first | rfl | simp | (simp; omega) | omega, (by simp)⟩
 case round =>
  rintro _ w11 _ ⟨v, n, cs, xs, d, k, G11, rfl, hle11, H, hinv11, rfl⟩
  subst hln10
  have hsr8 := hsr8.up hle11
  have hsr9 := hsr9.up hle11
  obtain ⟨hchk11_0, hn11_0, hinv11⟩ := hinv11
  obtain ⟨av11_0, cv11_0, rfl⟩ := H.accShape (k := 1) rfl
  obtain ⟨hk, hxl, hd0, hd1⟩ := hinv11
  refine W_seq (q2 (mV Z (mV Z (o_len_slice underlying23 Z Z (o_lss Z Z Z (q3 ?_))))))
  refine W_cond Z ?_ ?_
  ·intro hc12
   try simp only [nrm] at hc12
   refine W_skip (N_K (W_seq (W_block (W_seq (q2 (mV Z (o_not Z Z (mV Z ?_))))))))
   refine R_case (t := 29) Z ?_ ?_
   ·intro hc13
    try simp only [nrm] at hc13
    refine gR Z (mV Z (gR Z (mV Z (gR Z (o_index_P k hsr9 underlying23 sizeOf42 Z Z Z Z aN ?_))))); intro b14 o14 z14 q14 hz14 hE14 hrow14
    obtain ⟨a14, m14, c14, rfl, hi14, hr14, hj14⟩ := hE14; have hn_hr14 := hr14.len; have hx_hr14 : _ ≤ 1099511627776 := hr14.lim
    refine gR Z (o_fieldAddr 0 runUnderlying42 Z sizeOf3 Z Z Z (gR Z (o_load_P H isAgg3 Z Z (hrow14 0 _ Z) (gR Z (mV Z (gR Z (o_gtr Z Z Z (o_pick_t Z Z Z (q3 ?_)))))))))
    refine W_cond Z ?_ ?_
    ·intro hc15
     try simp only [nrm] at hc15
     refine q2 (mV Z (o_loadagg_B 0 H isAgg42 sizeOf42 Z Z Z Z Z (o_buildSlice H underlying23 sizeOf42 (fun w => ⟨_, zeroValue42 w, Z⟩) Z Z Z Z Z Z Z ?_))); intro b16 w16 hb16 H
     refine o_append1 1 H (sz := 3) (bytes := 40) underlying23 typeInfo42 ⟨_, Z, Z⟩ Z Z Z Z Z Z Z Z Z Z oM Z ?_; intro v17 w17 H
     have hchk17 := hchk11_0.snoc (show heldE _ ⟨(Sp.freeId list : Int), bytes, 1⟩ _ from ⟨_, _, _, rfl, ⟨by first | omega | (dsimp only; omega), by first | omega | (dsimp only; omega)⟩, hsr8, ⟨by first | omega | (dsimp only; omega), by first | omega | (dsimp only; omega)⟩⟩) rfl
     obtain ⟨av17, cv17, rfl⟩ := H.accShape (k := 1) rfl
     refine aG Z (q3 (W_region (aG Z (q3 (W_region (mV Z (mV Z (mV Z (o_index_P k hsr9 underlying23 sizeOf42 Z Z Z Z aN ?_))))))))); intro b18 o18 z18 q18 hz18 hE18 hrow18
     obtain ⟨a18, m18, c18, rfl, hi18, hr18, hj18⟩ := hE18; have hn_hr18 := hr18.len; have hx_hr18 : _ ≤ 1099511627776 := hr18.lim
     have hzz18 : z14 = z18 := Option.some.inj (hz14.symm.trans hz18)
     subst hzz18
     refine o_loadagg_P H isAgg42 sizeOf42 Z Z hrow18 Z (o_buildSlice H underlying23 sizeOf42 (fun w => ⟨_, zeroValue42 w, Z⟩) Z Z Z Z Z Z Z ?_); intro b19 w19 hb19 H
     refine o_append1 1 H (sz := 3) (bytes := 40) underlying23 typeInfo42 ⟨_, Z, Z⟩ Z Z Z Z Z Z Z Z Z Z oM Z ?_; intro v20 w20 H
     have hchk20 := hchk17.snoc (show heldE _ z14 _ from ⟨_, _, _, rfl, ⟨by first | omega | (dsimp only; omega), by first | omega | (dsimp only; omega)⟩, hr18, ⟨by first | omega | (dsimp only; omega), by first | omega | (dsimp only; omega)⟩⟩) rfl
     obtain ⟨av20, cv20, rfl⟩ := H.accShape (k := 1) rfl
     refine aG Z (R_nil (N_B (N_K (W_region (mV Z (o_add Z Z Z oO (aG Z (R_nil ?_))))))))
     refine N_lp (hJ := ⟨_, _, _, ((xs ++ [⟨(Sp.freeId list : Int), bytes, 1⟩]) ++ [z14]), true, k + 1, _, Z, hle11, H, ?inv, Z⟩) (hm := ?hm)
     case hm => omega
     case inv => exact ⟨hchk20, aN, (by exact ⟨by omega, by have := congrArg List.length (hd0 (by assumption)).1; simp at this ⊢; omega, by simp, fun _ => Sp.ins_new (F := Sp.idF list) (hd0 (by assumption)) hz14 (by simp [Sp.idF]; omega)⟩)⟩
    intro hc15'
    try simp only [nrm] at hc15'
    refine W_skip (N_K (W_region (mV Z (mV Z (mV Z (o_index_P k hsr9 underlying23 sizeOf42 Z Z Z Z aN ?_)))))); intro b22 o22 z22 q22 hz22 hE22 hrow22
    obtain ⟨a22, m22, c22, rfl, hi22, hr22, hj22⟩ := hE22; have hn_hr22 := hr22.len; have hx_hr22 : _ ≤ 1099511627776 := hr22.lim
    have hzz22 : z14 = z22 := Option.some.inj (hz14.symm.trans hz22)
    subst hzz22
    refine o_loadagg_P H isAgg42 sizeOf42 Z Z hrow22 Z (o_buildSlice H underlying23 sizeOf42 (fun w => ⟨_, zeroValue42 w, Z⟩) Z Z Z Z Z Z Z ?_); intro b23 w23 hb23 H
    refine o_append1 1 H (sz := 3) (bytes := 40) underlying23 typeInfo42 ⟨_, Z, Z⟩ Z Z Z Z Z Z Z Z Z Z oM Z ?_; intro v24 w24 H
    have hchk24 := hchk11_0.snoc (show heldE _ z14 _ from ⟨_, _, _, rfl, ⟨by first | omega | (dsimp only; omega), by first | omega | (dsimp only; omega)⟩, hr22, ⟨by first | omega | (dsimp only; omega), by first | omega | (dsimp only; omega)⟩⟩) rfl
    obtain ⟨av24, cv24, rfl⟩ := H.accShape (k := 1) rfl
    refine aG Z (R_nil (N_B (N_K (W_region (mV Z (o_add Z Z Z oO (aG Z (R_nil ?_))))))))
    refine N_lp (hJ := ⟨_, _, _, (xs ++ [z14]), d, k + 1, _, Z, hle11, H, ?inv, Z⟩) (hm := ?hm)
    case hm => omega
    case inv => exact ⟨hchk24, aN, (by first | exact ⟨by omega, by simp; omega, fun h => ⟨by rw [(hd0 h).1, Sp.take_succ' hz14], Sp.all_take (hd0 h).2 hz14 (by simp [Sp.idF]; omega)⟩, fun h => Sp.ins_old (hd1 h) hz14⟩ | exact ⟨by omega, by simp; omega, fun h => absurd h (by simp [*]), fun h => Sp.ins_old (hd1 h) hz14⟩)⟩
   intro hc13'
   try simp only [nrm] at hc13'
   refine rP Z (rP Z (rP Z (rP Z (rP Z (rP Z (rP Z (o_pick_f Z Z Z (q3 (W_false Z (W_skip (N_K (W_region (mV Z (mV Z (mV Z ?_)))))))))))))))
   refine o_index_P k hsr9 underlying23 sizeOf42 Z Z Z Z aN ?_; intro b26 o26 z26 q26 hz26 hE26 hrow26
   obtain ⟨a26, m26, c26, rfl, hi26, hr26, hj26⟩ := hE26; have hn_hr26 := hr26.len; have hx_hr26 : _ ≤ 1099511627776 := hr26.lim
   refine o_loadagg_P H isAgg42 sizeOf42 Z Z hrow26 Z (o_buildSlice H underlying23 sizeOf42 (fun w => ⟨_, zeroValue42 w, Z⟩) Z Z Z Z Z Z Z ?_); intro b27 w27 hb27 H
   refine o_append1 1 H (sz := 3) (bytes := 40) underlying23 typeInfo42 ⟨_, Z, Z⟩ Z Z Z Z Z Z Z Z Z Z oM Z ?_; intro v28 w28 H
   have hchk28 := hchk11_0.snoc (show heldE _ z26 _ from ⟨_, _, _, rfl, ⟨by first | omega | (dsimp only; omega), by first | omega | (dsimp only; omega)⟩, hr26, ⟨by first | omega | (dsimp only; omega), by first | omega | (dsimp only; omega)⟩⟩) rfl
   obtain ⟨av28, cv28, rfl⟩ := H.accShape (k := 1) rfl
   refine aG Z (R_nil (N_B (N_K (W_region (mV Z (o_add Z Z Z oO (aG Z (R_nil ?_))))))))
   refine N_lp (hJ := ⟨_, _, _, (xs ++ [z26]), d, k + 1, _, Z, hle11, H, ?inv, Z⟩) (hm := ?hm)
   case hm => omega
   case inv => exact ⟨hchk28, aN, (by first | exact ⟨by omega, by simp; omega, fun h => ⟨by rw [(hd0 h).1, Sp.take_succ' hz26], Sp.all_take (hd0 h).2 hz26 (by simp [Sp.idF]; omega)⟩, fun h => Sp.ins_old (hd1 h) hz26⟩ | exact ⟨by omega, by simp; omega, fun h => absurd h (by simp [*]), fun h => Sp.ins_old (hd1 h) hz26⟩)⟩
  intro hc12'
  try simp only [nrm] at hc12'
  refine W_exit (N_K_exit (N_LP_exit (N_B_same (N_K (W_seq (q2 (mV Z (o_not Z Z (q3 ?_)))))))))
  refine W_cond Z ?_ ?_
  ·intro hc30
   try simp only [nrm] at hc30
   refine W_region (mV Z (o_loadagg_B 0 H isAgg42 sizeOf42 Z Z Z Z Z (o_buildSlice H underlying23 sizeOf42 (fun w => ⟨_, zeroValue42 w, Z⟩) Z Z Z Z Z Z Z ?_))); intro b31 w31 hb31 H
   refine o_append1 1 H (sz := 3) (bytes := 40) underlying23 typeInfo42 ⟨_, Z, Z⟩ Z Z Z Z Z Z Z Z Z Z oM Z ?_; intro v32 w32 H
   have hchk32 := hchk11_0.snoc (show heldE _ ⟨(Sp.freeId list : Int), bytes, 1⟩ _ from ⟨_, _, _, rfl, ⟨by first | omega | (dsimp only; omega), by first | omega | (dsimp only; omega)⟩, hsr8, ⟨by first | omega | (dsimp only; omega), by first | omega | (dsimp only; omega)⟩⟩) rfl
   obtain ⟨av32, cv32, rfl⟩ := H.accShape (k := 1) rfl
   refine aG Z (q1 (mV Z (aG Z (q3 (W_ret (rt1 results205 Z ?_))))))
   have hx := hd0 (by assumption)
   rw [List.take_of_length_le oM] at hx
   obtain ⟨rfl, hx2⟩ := hx
   exact H.retO (k := 1) rfl (by rw [Sp.l3With_eq, ← Sp.ins_end _ hx2]; exact AccOf.mk aN hchk32) (acc_nd _ _ _ _ _)
  intro hc30'
  try simp only [nrm] at hc30'
  refine W_skip (N_K (q2 (mV Z (aG Z (q3 (W_ret (rt1 results205 Z ?_)))))))
  have hx := hd1 (by assumption)
  rw [List.drop_of_length_le oM, List.append_nil] at hx
  subst hx
  exact H.retO (k := 1) rfl (by skip; exact AccOf.mk aN hchk11_0) (acc_nd _ _ _ _ _)
end Go.Proofs.Tst

namespace Go.Proofs.Tst
open Go Fw Tryz
theorem StorePut_c (w0 : World) (G0 : PH) (hG : PSub G0 w0) (vlist : Value) (list : List (BHeld)) (hlist : RdH G0 vlist list) (vbytes : Value) (bytes : List (Int)) (hbytes : RdI G0 vbytes bytes) (hS : list.length ≤ 1000000) :
  Calls Tryz.prog 193 #[vlist, vbytes] w0 (RetO w0 G0 (fun G v r => ∃ u, v = .tuple #[u, .int .i64 (((Sp.StorePut list bytes).map (·.2)).getD 0), .bool (Sp.StorePut list bytes).isSome] ∧ AccOf heldE 3 42 (((Sp.StorePut list bytes).map (·.1)).getD []) G u r ∧ inI (((Sp.StorePut list bytes).map (·.2)).getD 0))) := by
 obtain ⟨alist, klist, rfl⟩ := hlist.shape
 have hlimlist : list.length ≤ 1099511627776 := hlist.lim
 obtain ⟨abytes, kbytes, rfl⟩ := hbytes.shape
 have hlimbytes : bytes.length ≤ 1099511627776 := hbytes.lim
 have H := Hp.init hG
 refine calls_of_W (l := [.slice alist list.length klist, .slice abytes bytes.length kbytes]) func193 Z ntmps193 Z (q2 (aG Z (aG Z (aG Z (q3 (W_seq (q2 (mV Z (o_call call53 Z Z (StoreValid_c _ _ H.sub _ _ hlist ) ?_)))))))))
 rintro _ w1 ⟨rfl, ew1⟩; have H := H.step ew1; refine ⟨_, rfl, ?_⟩
 refine o_not Z Z (mV Z ?_)
 refine R_case (t := 13) Z ?_ ?_
 ·intro hc2
  try simp only [nrm] at hc2
  refine rP Z (rP Z (rP Z (o_pick_t Z Z Z (q3 (W_true Z (q2 (o_buildSlice H underlying23 sizeOf42 (fun w => ⟨_, zeroValue42 w, Z⟩) Z Z Z Z Z Z Z ?_))))))); intro b3 w3 hb3 H
  have H := H.blkAcc 3 (k := 0) (n := 0) rfl rfl (by decide)
  refine aG Z (aG Z (aG Z (q3 (W_ret (N_K_ret (ret_gen (rs := [.tmp 4, .tmp 5, .tmp 6]) (vs := [_, _, _]) results193 ⟨Z, Z, Z, trivial⟩ ?_))))))
  have hN : Sp.StorePut list bytes = none := by simp [Sp.StorePut, hc2]
  exact H.retO (k := 0) rfl (by rw [hN]; exact ⟨_, rfl, AccOf.mk aN (Chk.nil (E := heldE) (sz := 3) (G := G0)), (by simp [inI])⟩) (acc_nd _ _ _ _ _)
 intro hc2'
 try simp only [nrm] at hc2'
 refine gR Z (mV Z (gR Z (o_call call87 Z Z (BlockValid_c _ _ H.sub _ _ hbytes ) ?_)))
 rintro _ w4 ⟨rfl, ew4⟩; have H := H.step ew4; refine ⟨_, rfl, ?_⟩
 refine gR Z (o_not Z Z (o_pick_f Z Z Z (q3 ?_)))
 refine W_cond Z ?_ ?_
 ·intro hc5
  try simp only [nrm] at hc5
  refine q2 (o_buildSlice H underlying23 sizeOf42 (fun w => ⟨_, zeroValue42 w, Z⟩) Z Z Z Z Z Z Z ?_); intro b6 w6 hb6 H
  have H := H.blkAcc 3 (k := 0) (n := 0) rfl rfl (by decide)
  refine aG Z (aG Z (aG Z (q3 (W_ret (N_K_ret (ret_gen (rs := [.tmp 4, .tmp 5, .tmp 6]) (vs := [_, _, _]) results193 ⟨Z, Z, Z, trivial⟩ ?_))))))
  have hN : Sp.StorePut list bytes = none := by simp [Sp.StorePut, hc5]
  exact H.retO (k := 0) rfl (by rw [hN]; exact ⟨_, rfl, AccOf.mk aN (Chk.nil (E := heldE) (sz := 3) (G := G0)), (by simp [inI])⟩) (acc_nd _ _ _ _ _)
 intro hc5'
 try simp only [nrm] at hc5'
 refine W_skip (N_K (q2 (mV Z (o_call call79 Z Z (l3Copy_c _ _ H.sub _ _ hlist ) ?_))))
 rintro _ w7 ⟨G7, v7, _, g7, rfl, ⟨cs7, rfl, hchk7⟩, hp7, hq7, hs7⟩
 have H := H.growO g7 hp7 hq7 hs7; obtain ⟨av7, cv7, rfl⟩ := H.accShape (k := 0) rfl
 have hlist := hlist.up g7.le
 have hbytes := hbytes.up g7.le
 refine ⟨_, Z, ?_⟩
 refine aG Z (q1 (mV Z (mV Z (o_call call203 Z Z (l3Like_c _ _ H.sub _ _ hlist _ _ hbytes ) ?_))))
 rintro _ w8 ⟨rfl, ew8⟩; have H := H.step ew8; refine ⟨_, rfl, ?_⟩
 refine aG Z (q1 (mV Z (o_call call204 Z Z (l3Free_c _ _ H.sub _ _ hlist ) ?_)))
 rintro _ w9 ⟨rfl, ew9⟩; have H := H.step ew9; refine ⟨_, rfl, ?_⟩
 refine aG Z (q3 (W_seq (q2 (mV Z (o_geq Z Z Z (q3 ?_))))))
 refine W_cond Z ?_ ?_
 ·intro hc10
  try simp only [nrm] at hc10
  obtain ⟨i, x, hi1, hi2, hi3, hi4, hi5⟩ := Sp.at_nat hc10
  refine q2 (mV Z (mV Z (mV Z (mV Z (o_index_A 0 H i Z hchk7 underlying23 sizeOf42 Z Z Z hi2 aN aN ?_))))); intro ba11 z11 q11 hba11 hz11 hE11 hg11; cases hba11
  obtain ⟨a11, m11, c11, rfl, hi11, hr11, hj11⟩ := hE11; have hn_hr11 := hr11.len; have hx_hr11 : _ ≤ 1099511627776 := hr11.lim
  have hsv := Sp.valid_at hc2' hz11
  refine o_fieldAddr 2 runUnderlying42 Z sizeOf3 Z Z Z (o_load_A 0 H isAgg3 Z Z Z (hg11 2 _ Z) (o_add Z Z Z oO (o_index_A 0 H i Z hchk7 underlying23 sizeOf42 Z Z Z hi2 aN aN ?_))); intro ba13 z13 q13 hba13 hz13 hE13 hg13; cases hba13
  obtain ⟨a13, m13, c13, rfl, hi13, hr13, hj13⟩ := hE13; have hn_hr13 := hr13.len; have hx_hr13 : _ ≤ 1099511627776 := hr13.lim
  have hzz13 : z11 = z13 := Option.some.inj (hz11.symm.trans hz13)
  subst hzz13
  refine o_fieldAddr 2 runUnderlying42 Z sizeOf3 Z Z Z ?_
  have hcl14 := hchk7.length
  refine o_store_A 0 H sizeOf3 Z Z Z Z Z (by simp only [vc, List.length_cons, List.length_nil]; omega) ?_; intro w14 H
  have hchk14 := hchk7.put (x' := ⟨z11.id, z11.bytes, z11.uses + 1⟩) (off := 2) (vs := [_]) hz13 (fun cs hl hE => by obtain ⟨_, _, _, rfl, h1, h2, h3⟩ := hE; exact ⟨_, _, _, rfl, h1, h2, ⟨by first | omega | (dsimp only; omega), by first | omega | (dsimp only; omega)⟩⟩) (by simp only [vc, List.length_cons, List.length_nil]; omega)
  refine q3 (W_region (mV Z (mV Z (o_index_A 0 H i Z hchk14 underlying23 sizeOf42 Z Z Z hi2 aN aN ?_)))); intro ba15 z15 q15 hba15 hz15 hE15 hg15; cases hba15
  obtain ⟨a15, m15, c15, rfl, hi15, hr15, hj15⟩ := hE15; have hn_hr15 := hr15.len; have hx_hr15 : _ ≤ 1099511627776 := hr15.lim
  rw [List.getElem?_set_self oM] at hz15
  simp only [Option.some.injEq] at hz15
  subst hz15
  refine o_fieldAddr 0 runUnderlying42 Z sizeOf3 Z Z Z (o_load_A 0 H isAgg3 Z Z Z (hg15 0 _ Z) (aG Z (q3 (W_seq (q2 (mV Z (o_call call53 Z Z (StoreValid_c _ _ (H.lendSubL [0]) _ _ (H.lendRdL (k := 0) (ks := [0]) Z Z hchk14 aN aN) ) ?_)))))))
  rintro _ w16 ⟨rfl, ew16⟩; have H := H.step ew16; refine ⟨_, rfl, ?_⟩
  refine o_not Z Z (q3 ?_)
  refine W_cond Z ?_ ?_
  ·intro hc17
   try simp only [nrm] at hc17
   refine q2 (o_buildSlice H underlying23 sizeOf42 (fun w => ⟨_, zeroValue42 w, Z⟩) Z Z Z Z Z Z Z ?_); intro b18 w18 hb18 H
   have H := H.blkAcc 3 (k := 0) (n := 0) rfl rfl (by decide)
   refine aG Z (aG Z (aG Z (q3 (W_ret (N_K_ret (ret_gen (rs := [.tmp 4, .tmp 5, .tmp 6]) (vs := [_, _, _]) results193 ⟨Z, Z, Z, trivial⟩ ?_))))))
   have hN : Sp.StorePut list bytes = none := by (have hl : Sp.like list bytes = some i := hi1); simp [Sp.StorePut, hl, Sp.bump_at hz11, hc17]
   exact H.retO (k := 0) rfl (by rw [hN]; exact ⟨_, rfl, AccOf.mk aN (Chk.nil (E := heldE) (sz := 3) (G := G7)), (by simp [inI])⟩) (acc_nd _ _ _ _ _)
  intro hc17'
  try simp only [nrm] at hc17'
  refine W_skip (N_K (q2 (mV Z (mV Z (aG Z (aG Z (aG Z (q3 (W_ret (ret_gen (rs := [.tmp 4, .tmp 5, .tmp 6]) (vs := [_, _, _]) results193 ⟨Z, Z, Z, trivial⟩ ?_))))))))))
  have hY : Sp.StorePut list bytes = some (list.set i ⟨z11.id, z11.bytes, z11.uses + 1⟩, z11.id) := by (have hl : Sp.like list bytes = some i := hi1); simp [Sp.StorePut, hc2', hc5', hl, Sp.bump_at hz11, hc17', hz11]
  exact H.retO (k := 0) rfl (by rw [hY]; exact ⟨_, rfl, AccOf.mk aN hchk14, ⟨by dsimp only [Option.map, Option.getD]; omega, by dsimp only [Option.map, Option.getD]; omega⟩⟩) (acc_nd _ _ _ _ _)
 intro hc10'
 try simp only [nrm] at hc10'
 refine W_region (mV Z (mV Z (o_call call205 Z Z (l3With_c _ _ H.sub _ _ hlist _ _ hbytes oM) ?_)))
 rintro _ w19 ⟨G19, v19, _, g19, rfl, ⟨cs19, rfl, hchk19⟩, hp19, hq19, hs19⟩
 have H := H.growO g19 hp19 hq19 hs19; obtain ⟨av19, cv19, rfl⟩ := H.accShape (k := 0) rfl
 refine ⟨_, Z, ?_⟩
 have hwl := Sp.l3With_len list bytes
 have hfr := Sp.free_lt list
 refine aG Z (q3 (W_seq (q2 (mV Z (o_call call53 Z Z (StoreValid_c _ _ (H.lendSubL [0]) _ _ (H.lendRdL (k := 0) (ks := [0]) Z Z hchk19 aN aN) ) ?_)))))
 rintro _ w20 ⟨rfl, ew20⟩; have H := H.step ew20; refine ⟨_, rfl, ?_⟩
 refine o_not Z Z (q3 ?_)
 refine W_cond Z ?_ ?_
 ·intro hc21
  try simp only [nrm] at hc21
  refine q2 (o_buildSlice H underlying23 sizeOf42 (fun w => ⟨_, zeroValue42 w, Z⟩) Z Z Z Z Z Z Z ?_); intro b22 w22 hb22 H
  have H := H.blkAcc 3 (k := 0) (n := 0) rfl rfl (by decide)
  refine aG Z (aG Z (aG Z (q3 (W_ret (N_K_ret (ret_gen (rs := [.tmp 4, .tmp 5, .tmp 6]) (vs := [_, _, _]) results193 ⟨Z, Z, Z, trivial⟩ ?_))))))
  have hN : Sp.StorePut list bytes = none := by (have hl : Sp.like list bytes = none := Sp.at_none hc10'); simp [Sp.StorePut, hl, hc21]
  exact H.retO (k := 0) rfl (by rw [hN]; exact ⟨_, rfl, AccOf.mk aN (Chk.nil (E := heldE) (sz := 3) (G := G19)), (by simp [inI])⟩) (acc_nd _ _ _ _ _)
 intro hc21'
 try simp only [nrm] at hc21'
 refine W_skip (N_K (q2 (mV Z (mV Z (aG Z (aG Z (aG Z (q3 (W_ret (ret_gen (rs := [.tmp 4, .tmp 5, .tmp 6]) (vs := [_, _, _]) results193 ⟨Z, Z, Z, trivial⟩ ?_))))))))))
 have hY : Sp.StorePut list bytes = some (Sp.l3With list bytes, (Sp.freeId list : Int)) := by (have hl : Sp.like list bytes = none := Sp.at_none hc10'); simp [Sp.StorePut, hc2', hc5', hl, hc21']
 exact H.retO (k := 0) rfl (by rw [hY]; exact ⟨_, rfl, AccOf.mk aN hchk19, ⟨by dsimp only [Option.map, Option.getD]; omega, by dsimp only [Option.map, Option.getD]; omega⟩⟩) (acc_nd _ _ _ _ _)
end Go.Proofs.Tst

namespace Go.Proofs.Tst
open Go Fw Tryz
theorem l4Cut_c (w0 : World) (G0 : PH) (hG : PSub G0 w0) (vbytes : Value) (bytes : List (Int)) (hbytes : RdI G0 vbytes bytes) (hS : bytes.length ≤ 1000000) :
  Calls Tryz.prog 192 #[vbytes] w0 (RetP w0 G0 (fun G v => RdS LIM intsE 1 G v (Sp.l4Cut bytes))) := by
 obtain ⟨abytes, kbytes, rfl⟩ := hbytes.shape
 have hlimbytes : bytes.length ≤ 1099511627776 := hbytes.lim
 have H := Hp.init hG
 refine calls_of_W (l := [.slice abytes bytes.length kbytes]) func192 Z ntmps192 Z (q2 (aG Z (q1 (o_buildSlice H underlying242 sizeOf38 (fun w => ⟨_, zeroValue38 w, Z⟩) Z Z Z Z Z Z Z ?_)))); intro b1 w1 hb1 H
 have H := H.blkAcc 1 (k := 0) (n := 0) rfl rfl (by decide)
 refine aG Z (q3 (W_seq (q2 (aG Z (q3 (W_block ?_))))))
 refine W_lp (hf := (Sub.cons (t := 0) Z (Sub.cons (t := 2) Z Sub.nil))) (J := fun M w m => ∃ (v : Value) (n : Nat) (cs : List Value) (xs : List (List Int)) (k : Nat) (G : PH), M = [(4, .int .i64 (8 * (k : Int))), (3, v)] ∧ PLe G0 G ∧ Hp w0 G0 [] w G [acc 38 1 v n cs] ∧ (Chk intsE 1 G cs xs ∧ n = xs.length ∧ k ≤ (bytes.length + 7) / 8 ∧ xs.length = k ∧ xs = (List.range k).map (Sp.chunk bytes)) ∧ m = (bytes.length + 8 - 8 * k)) (h0 := ⟨_, _, _, [], 0, _, Z, PLe.refl _, H, ?inv, Z⟩) (round := ?round)
 case inv => exact ⟨(Chk.nil (E := intsE) (sz := 1) (G := G0)),  by first | rfl | simp | (simp; omega) | omega, (by simp)⟩
 case round =>
  rintro _ w2 _ ⟨v, n, cs, xs, k, G2, rfl, hle2, H, hinv2, rfl⟩
  have hbytes := hbytes.up hle2
  obtain ⟨hchk2_0, hn2_0, hinv2⟩ := hinv2
  obtain ⟨av2_0, cv2_0, rfl⟩ := H.accShape (k := 0) rfl
  obtain ⟨hk, hxl, hxs⟩ := hinv2
  refine W_seq (q2 (mV Z (mV Z (o_len_slice underlying38 Z Z (o_lss Z Z Z (q3 ?_))))))
  refine W_cond Z ?_ ?_
  ·intro hc3
   try simp only [nrm] at hc3
   refine W_skip (N_K (W_seq (W_block (W_region (mV Z (o_buildSlice H underlying38 sizeOf3 (fun w => ⟨_, zeroValue3 w, Z⟩) Z Z Z Z Z Z Z ?_)))))); intro b4 w4 hb4 H
   have H := H.blkAcc 1 (k := 0) (n := 0) rfl rfl (by decide)
   refine mV Z (mV Z (mV Z (o_add Z Z Z oO (mV Z (o_len_slice underlying38 Z Z (o_min Z Z Z ?_))))))
   have hcap6 := hbytes.cap; try simp only [List.length_set, List.length_append, List.length_take, List.length_drop, List.length_replicate] at hcap6
   refine o_slice (i := (8 * k)) (j := (min (8 * k + 8) bytes.length)) underlying38 sizeOf3 Z Z Z Z oM oM aN aN ?_
   have hsl6 := hbytes.part (i := (8 * k)) (j := (min (8 * k + 8) bytes.length)) oM oM
   have hsn1 := hsl6.len
   refine o_append_P 0 H hsl6 (by intro z cs hz u hu; obtain ⟨rfl, _⟩ := hz; simp at hu; subst hu; rfl) (sz := 1) (bytes := 8) underlying38 typeInfo3 ⟨_, rfl, rfl⟩ rfl rfl rfl rfl rfl rfl rfl oM rfl ?_; intro v7 w7 css7 hcl7 hcs7 H
   have hchk7 : Chk intE 1 G2 ([] ++ css7.flatten) _ := ⟨css7, rfl, hcl7, hcs7⟩
   obtain ⟨av7, cv7, rfl⟩ := H.accShape (k := 0) rfl
   refine o_buildSlice H underlying242 sizeOf38 (fun w => ⟨_, zeroValue38 w, Z⟩) Z Z Z Z Z Z Z ?_; intro b8 w8 hb8 H
   refine o_append1 1 H (sz := 1) (bytes := 24) underlying242 typeInfo38 ⟨_, Z, Z⟩ Z Z Z Z Z Z Z Z Z Z oM Z ?_; intro v9 w9 H
   obtain ⟨G10, H, hsg10, hsr10⟩ := H.shut' (k := 0) rfl hchk7 aN aN
   have hchk2_0 := hchk2_0.up hsg10
   have hle2 := hle2.trans hsg10
   have hchk9 := hchk2_0.snoc (show intsE _ (Sp.chunk bytes k) _ from ⟨_, _, _, rfl, hsr10⟩) rfl
   obtain ⟨av9, cv9, rfl⟩ := H.accShape (k := 0) rfl
   refine aG Z (R_nil (N_B (N_K (W_region (mV Z (o_add Z Z Z oO (aG Z (R_nil ?_))))))))
   refine N_lp (hJ := ⟨_, _, _, (xs ++ [(Sp.chunk bytes k)]), k + 1, _, Z, hle2, H, ?inv, Z⟩) (hm := ?hm)
   case hm => omega
   case inv => exact ⟨hchk9, aN, (by exact ⟨by omega, by simp [hxl], by rw [hxs, List.range_succ, List.map_append]; rfl⟩)⟩
  intro hc3'
  try simp only [nrm] at hc3'
  refine W_exit (N_K_exit (N_LP_exit (N_B_same (N_K (q2 (mV Z (aG Z (q3 (W_ret (rt1 results192 Z ?_))))))))))
  obtain ⟨G512, H, hsg512, hsr512⟩ := H.shut' (k := 0) rfl hchk2_0 aN aN
  obtain rfl : k = (bytes.length + 7) / 8 := by omega
  exact H.retP (by rw [Sp.l4Cut, ← hxs]; exact hsr512)
end Go.Proofs.Tst

namespace Go.Proofs.Tst
open Go Fw Tryz
theorem FileStore_c (w0 : World) (G0 : PH) (hG : PSub G0 w0) (vlist : Value) (list : List (BHeld)) (hlist : RdH G0 vlist list) (vbytes : Value) (bytes : List (Int)) (hbytes : RdI G0 vbytes bytes) (hS : bytes.length ≤ 1000000) :
  Calls Tryz.prog 160 #[vlist, vbytes] w0 (RetO w0 G0 (fun G v r => ∃ u u1, v = .tuple #[u, u1, .bool (Sp.FileStore list bytes).isSome] ∧ AccOf heldE 3 42 (((Sp.FileStore list bytes).map (·.1)).getD []) G u r ∧ RdI G u1 (((Sp.FileStore list bytes).map (·.2)).getD []))) := by
 obtain ⟨alist, klist, rfl⟩ := hlist.shape
 have hlimlist : list.length ≤ 1099511627776 := hlist.lim
 obtain ⟨abytes, kbytes, rfl⟩ := hbytes.shape
 have hlimbytes : bytes.length ≤ 1099511627776 := hbytes.lim
 have H := Hp.init hG
 refine calls_of_W (l := [.slice alist list.length klist, .slice abytes bytes.length kbytes]) func160 Z ntmps160 Z (q2 (aG Z (aG Z (aG Z (q3 (W_seq (q2 (mV Z (o_call call53 Z Z (StoreValid_c _ _ H.sub _ _ hlist ) ?_)))))))))
 rintro _ w1 ⟨rfl, ew1⟩; have H := H.step ew1; refine ⟨_, rfl, ?_⟩
 refine o_not Z Z (mV Z ?_)
 refine R_case (t := 17) Z ?_ ?_
 ·intro hc2
  try simp only [nrm] at hc2
  refine rP Z (rP Z (rP Z (o_pick_t Z Z Z (q3 (W_true Z (q2 (o_buildSlice H underlying23 sizeOf42 (fun w => ⟨_, zeroValue42 w, Z⟩) Z Z Z Z Z Z Z ?_))))))); intro b3 w3 hb3 H
  have H := H.blkAcc 3 (k := 0) (n := 0) rfl rfl (by decide)
  refine o_buildSlice H underlying38 sizeOf3 (fun w => ⟨_, zeroValue3 w, Z⟩) Z Z Z Z Z Z Z ?_; intro b4 w4 hb4 H
  have H := H.blkAcc 1 (k := 0) (n := 0) rfl rfl (by decide)
  refine aG Z (aG Z (aG Z (q3 (W_ret (N_K_ret (ret_gen (rs := [.tmp 4, .tmp 5, .tmp 6]) (vs := [_, _, _]) results160 ⟨Z, Z, Z, trivial⟩ ?_))))))
  obtain ⟨G505, H, hsg505, hsr505⟩ := H.shut' (k := 0) rfl (Chk.nil (E := intE) (sz := 1) (G := G0)) aN aN
  have hY : Sp.FileStore list bytes = none := by simp [Sp.FileStore, hc2]
  exact H.retO (k := 0) rfl (by rw [hY]; exact ⟨_, _, rfl, AccOf.mk aN (Chk.nil (E := heldE) (sz := 3) (G := G505)), hsr505⟩) (acc_nd _ _ _ _ _)
 intro hc2'
 try simp only [nrm] at hc2'
 refine gR Z (mV Z (gR Z (o_call call130 Z Z (FileValid_c _ _ H.sub _ _ hbytes ) ?_)))
 rintro _ w5 ⟨rfl, ew5⟩; have H := H.step ew5; refine ⟨_, rfl, ?_⟩
 refine gR Z (o_not Z Z (o_pick_f Z Z Z (q3 ?_)))
 refine W_cond Z ?_ ?_
 ·intro hc6
  try simp only [nrm] at hc6
  refine q2 (o_buildSlice H underlying23 sizeOf42 (fun w => ⟨_, zeroValue42 w, Z⟩) Z Z Z Z Z Z Z ?_); intro b7 w7 hb7 H
  have H := H.blkAcc 3 (k := 0) (n := 0) rfl rfl (by decide)
  refine o_buildSlice H underlying38 sizeOf3 (fun w => ⟨_, zeroValue3 w, Z⟩) Z Z Z Z Z Z Z ?_; intro b8 w8 hb8 H
  have H := H.blkAcc 1 (k := 0) (n := 0) rfl rfl (by decide)
  refine aG Z (aG Z (aG Z (q3 (W_ret (N_K_ret (ret_gen (rs := [.tmp 4, .tmp 5, .tmp 6]) (vs := [_, _, _]) results160 ⟨Z, Z, Z, trivial⟩ ?_))))))
  obtain ⟨G509, H, hsg509, hsr509⟩ := H.shut' (k := 0) rfl (Chk.nil (E := intE) (sz := 1) (G := G0)) aN aN
  have hY : Sp.FileStore list bytes = none := by simp [Sp.FileStore, hc6]
  exact H.retO (k := 0) rfl (by rw [hY]; exact ⟨_, _, rfl, AccOf.mk aN (Chk.nil (E := heldE) (sz := 3) (G := G509)), hsr509⟩) (acc_nd _ _ _ _ _)
 intro hc6'
 try simp only [nrm] at hc6'
 refine W_skip (N_K (q2 (mV Z (o_call call79 Z Z (l3Copy_c _ _ H.sub _ _ hlist ) ?_))))
 rintro _ w9 ⟨G9, v9, _, g9, rfl, ⟨cs9, rfl, hchk9⟩, hp9, hq9, hs9⟩
 have H := H.growO g9 hp9 hq9 hs9; obtain ⟨av9, cv9, rfl⟩ := H.accShape (k := 0) rfl
 have hbytes := hbytes.up g9.le
 refine ⟨_, Z, ?_⟩
 refine aG Z (q1 (o_buildSlice H underlying38 sizeOf3 (fun w => ⟨_, zeroValue3 w, Z⟩) Z Z Z Z Z Z Z ?_)); intro b10 w10 hb10 H
 have H := H.blkAcc 1 (k := 0) (n := 0) rfl rfl (by decide)
 refine aG Z (q1 (mV Z (o_call call192 Z Z (l4Cut_c _ _ H.sub _ _ hbytes oM) ?_)))
 rintro _ w11 ⟨G11, u11_0, g11, rfl, hr11_0⟩
 have H := H.grow g11
 have hchk9 := hchk9.up g11.le
 obtain ⟨a11_0, k11_0, rfl⟩ := hr11_0.shape; have hx_hr11_0 : _ ≤ 1099511627776 := hr11_0.lim
 refine ⟨_, Z, ?_⟩
 refine aG Z (q3 (W_seq (q2 (aG Z (q3 (W_block ?_))))))
 refine W_lp (hf := (Sub.cons (t := 9) Z Sub.nil)) (J := fun M w m => ∃ (v : Value) (n : Nat) (cs : List Value) (xs : List (BHeld)) (v1 : Value) (n1 : Nat) (cs1 : List Value) (xs1 : List (Int)) (k : Nat) (G : PH), M = [(10, .int .i64 (k : Int)), (7, v), (8, v1)] ∧ PLe G11 G ∧ Hp w0 G0 [] w G [acc 3 1 v1 n1 cs1, acc 42 3 v n cs] ∧ (Chk heldE 3 G cs xs ∧ n = xs.length ∧ Chk intE 1 G cs1 xs1 ∧ n1 = xs1.length ∧ k ≤ (Sp.l4Cut bytes).length ∧ xs.length ≤ 1000 ∧ xs1.length ≤ k ∧ Sp.foldB Sp.put1 ((Sp.l4Cut bytes).take k) (some (list, [])) = some (xs, xs1)) ∧ m = ((Sp.l4Cut bytes).length - k)) (h0 := ⟨_, _, _, list, _, _, _, [], 0, _, Z, PLe.refl _, H, ?inv, Z⟩) (round := ?round)
 case inv => exact ⟨hchk9, (by first | rfl | simp | (simp; omega) | omega), (Chk.nil (E := intE) (sz := 1) (G := G11)),  by first | rfl | simp | (simp; omega) | omega, (by exact ⟨by omega, by have := Sp.valid_len hc2'; omega, by simp, by simp [Sp.foldB]⟩)⟩
 case round =>
  rintro _ w12 _ ⟨v, n, cs, xs, v1, n1, cs1, xs1, k, G12, rfl, hle12, H, hinv12, rfl⟩
  have hr11_0 := hr11_0.up hle12
  obtain ⟨hchk12_0, hn12_0, hinv12⟩ := hinv12
  obtain ⟨av12_0, cv12_0, rfl⟩ := H.accShape (k := 1) rfl
  obtain ⟨hchk12_1, hn12_1, hinv12⟩ := hinv12
  obtain ⟨av12_1, cv12_1, rfl⟩ := H.accShape (k := 0) rfl
  obtain ⟨hk, hxl, hil, hf⟩ := hinv12
  refine W_seq (q2 (mV Z (mV Z (o_len_slice underlying242 Z Z (o_lss Z Z Z (q3 ?_))))))
  refine W_cond Z ?_ ?_
  ·intro hc13
   try simp only [nrm] at hc13
   refine W_skip (N_K (W_seq (W_block (q2 (mV Z (mV Z (mV Z (o_index_P k hr11_0 underlying242 sizeOf38 Z Z Z Z aN ?_)))))))); intro b14 o14 z14 q14 hz14 hE14 hrow14
   obtain ⟨a14, m14, c14, rfl, hr14⟩ := hE14; have hn_hr14 := hr14.len; have hx_hr14 : _ ≤ 1099511627776 := hr14.lim
   refine o_load_P H isAgg38 Z Z (hrow14 0 _ Z) ?_
   obtain ⟨G16, H, hsg16, hsr16⟩ := H.shut' (k := 1) rfl hchk12_0 aN aN
   have hchk12_1 := hchk12_1.up hsg16
   have hr14 := hr14.up hsg16
   have hle12 := hle12.trans hsg16
   refine o_call call193 Z Z (StorePut_c _ _ H.sub _ _ hsr16 _ _ hr14 oM) ?_
   rintro _ w15 ⟨G15, _, _, g15, rfl, ⟨u15_0, rfl, ⟨cs15, rfl, hchk15⟩, ⟨hfa15, hfb15⟩⟩, hp15, hq15, hs15⟩
   have H := H.growO g15 hp15 hq15 hs15; obtain ⟨av15, cv15, rfl⟩ := H.accShape (k := 0) rfl
   have hchk12_1 := hchk12_1.up g15.le
   have hle12 := hle12.trans g15.le
   refine ⟨_, Z, ?_⟩
   refine mV Z (o_extract Z Z Z (o_extract Z Z Z (o_extract Z Z Z (aG Z (aG Z (aG Z (q3 (W_seq (q2 (mV Z (o_not Z Z (q3 ?_))))))))))))
   refine W_cond Z ?_ ?_
   ·intro hc17
    try simp only [nrm] at hc17
    refine q2 (o_buildSlice H underlying23 sizeOf42 (fun w => ⟨_, zeroValue42 w, Z⟩) Z Z Z Z Z Z Z ?_); intro b18 w18 hb18 H
    have H := H.blkAcc 3 (k := 0) (n := 0) rfl rfl (by decide)
    refine o_buildSlice H underlying38 sizeOf3 (fun w => ⟨_, zeroValue3 w, Z⟩) Z Z Z Z Z Z Z ?_; intro b19 w19 hb19 H
    have H := H.blkAcc 1 (k := 0) (n := 0) rfl rfl (by decide)
    refine aG Z (aG Z (aG Z (q3 (W_ret (N_K_ret (N_B_ret (N_K_ret (N_LP_ret (N_B_ret (N_K_ret (ret_gen (rs := [.tmp 4, .tmp 5, .tmp 6]) (vs := [_, _, _]) results160 ⟨Z, Z, Z, trivial⟩ ?_)))))))))))
    obtain ⟨G520, H, hsg520, hsr520⟩ := H.shut' (k := 0) rfl (Chk.nil (E := intE) (sz := 1) (G := G15)) aN aN
    have hY : Sp.FileStore list bytes = none := by (have hno : Sp.StorePut xs z14 = none := by simpa using hc17); simp only [Sp.FileStore, hc2', hc6', Bool.and_self, if_true]; exact Sp.foldB_stop hf hz14 (by simp [Sp.put1, hno])
    exact H.retO (k := 0) rfl (by rw [hY]; exact ⟨_, _, rfl, AccOf.mk aN (Chk.nil (E := heldE) (sz := 3) (G := G520)), hsr520⟩) (acc_nd _ _ _ _ _)
   intro hc17'
   try simp only [nrm] at hc17'
   obtain ⟨p, hsp⟩ := Option.isSome_iff_exists.1 hc17'
   rw [hsp] at H hchk15 hfa15 hfb15 ⊢
   dsimp only [Option.map, Option.getD] at H hchk15 hfa15 hfb15
   refine W_skip (N_K (q2 (mV Z (aG Z (q3 (W_region (mV Z (mV Z (o_buildSlice H underlying38 sizeOf3 (fun w => ⟨_, zeroValue3 w, Z⟩) Z Z Z Z Z Z Z ?_))))))))); intro b20 w20 hb20 H
   refine o_append1 1 H (sz := 1) (bytes := 8) underlying38 typeInfo3 ⟨_, Z, Z⟩ Z Z Z Z Z Z Z Z Z Z oM Z ?_; intro v21 w21 H
   have hchk21 := hchk12_1.snoc (show intE _ p.2 _ from ⟨rfl, oO⟩) rfl
   obtain ⟨av21, cv21, rfl⟩ := H.accShape (k := 1) rfl
   refine aG Z (R_nil (N_B (N_K (W_region (mV Z (o_add Z Z Z oO (aG Z (R_nil ?_))))))))
   have H := H.toFront (k := 1) rfl
   refine N_lp (hJ := ⟨_, _, _, p.1, _, _, _, (xs1 ++ [p.2]), k + 1, _, Z, hle12, H, ?inv, Z⟩) (hm := ?hm)
   case hm => omega
   case inv => exact ⟨hchk15, aN, hchk21, aN, (by exact ⟨by omega, by have := Sp.put_len hsp; omega, by simp; omega, Sp.foldB_succ hf hz14 (by simp [Sp.put1, hsp])⟩)⟩
  intro hc13'
  try simp only [nrm] at hc13'
  refine W_exit (N_K_exit (N_LP_exit (N_B_same (N_K (q2 (mV Z (mV Z (aG Z (aG Z (aG Z (q3 (W_ret (ret_gen (rs := [.tmp 4, .tmp 5, .tmp 6]) (vs := [_, _, _]) results160 ⟨Z, Z, Z, trivial⟩ ?_)))))))))))))
  obtain ⟨G523, H, hsg523, hsr523⟩ := H.shut' (k := 0) rfl hchk12_1 aN aN
  have hchk12_0 := hchk12_0.up hsg523
  have hY : Sp.FileStore list bytes = some (xs, xs1) := by simp only [Sp.FileStore, hc2', hc6', Bool.and_self, if_true]; exact Sp.foldB_all hf oM
  exact H.retO (k := 0) rfl (by rw [hY]; exact ⟨_, _, rfl, AccOf.mk aN hchk12_0, hsr523⟩) (acc_nd _ _ _ _ _)
end Go.Proofs.Tst

namespace Go.Proofs.Tst
open Go Fw Tryz
theorem FileFree_c (w0 : World) (G0 : PH) (hG : PSub G0 w0) (vlist : Value) (list : List (BHeld)) (hlist : RdH G0 vlist list) (vids : Value) (ids : List (Int)) (hids : RdI G0 vids ids)  :
  Calls Tryz.prog 159 #[vlist, vids] w0 (RetO w0 G0 (fun G v r => ∃ u, v = .tuple #[u, .bool (Sp.FileFree list ids).isSome] ∧ AccOf heldE 3 42 ((Sp.FileFree list ids).getD []) G u r)) := by
 obtain ⟨alist, klist, rfl⟩ := hlist.shape
 have hlimlist : list.length ≤ 1099511627776 := hlist.lim
 obtain ⟨aids, kids, rfl⟩ := hids.shape
 have hlimids : ids.length ≤ 1099511627776 := hids.lim
 have H := Hp.init hG
 refine calls_of_W (l := [.slice alist list.length klist, .slice aids ids.length kids]) func159 Z ntmps159 Z (q2 (aG Z (aG Z (q3 (W_seq (q2 (mV Z (o_call call53 Z Z (StoreValid_c _ _ H.sub _ _ hlist ) ?_))))))))
 rintro _ w1 ⟨rfl, ew1⟩; have H := H.step ew1; refine ⟨_, rfl, ?_⟩
 refine o_not Z Z (mV Z ?_)
 refine R_case (t := 13) Z ?_ ?_
 ·intro hc2
  try simp only [nrm] at hc2
  refine rP Z (rP Z (rP Z (rP Z (o_pick_t Z Z Z (q3 (W_true Z (q2 (o_buildSlice H underlying23 sizeOf42 (fun w => ⟨_, zeroValue42 w, Z⟩) Z Z Z Z Z Z Z ?_)))))))); intro b3 w3 hb3 H
  have H := H.blkAcc 3 (k := 0) (n := 0) rfl rfl (by decide)
  refine aG Z (aG Z (q3 (W_ret (N_K_ret (rt2 results159 Z Z ?_)))))
  have hN : Sp.FileFree list ids = none := by simp [Sp.FileFree, hc2]
  exact H.retO (k := 0) rfl (by rw [hN]; exact ⟨_, rfl, AccOf.mk aN (Chk.nil (E := heldE) (sz := 3) (G := G0))⟩) (acc_nd _ _ _ _ _)
 intro hc2'
 try simp only [nrm] at hc2'
 refine gR Z (mV Z (gR Z (mV Z (gR Z (o_call call91 Z Z (l4Ids_c _ _ H.sub _ _ hlist _ _ hids ) ?_)))))
 rintro _ w4 ⟨rfl, ew4⟩; have H := H.step ew4; refine ⟨_, rfl, ?_⟩
 refine gR Z (o_not Z Z (o_pick_f Z Z Z (q3 ?_)))
 refine W_cond Z ?_ ?_
 ·intro hc5
  try simp only [nrm] at hc5
  refine q2 (o_buildSlice H underlying23 sizeOf42 (fun w => ⟨_, zeroValue42 w, Z⟩) Z Z Z Z Z Z Z ?_); intro b6 w6 hb6 H
  have H := H.blkAcc 3 (k := 0) (n := 0) rfl rfl (by decide)
  refine aG Z (aG Z (q3 (W_ret (N_K_ret (rt2 results159 Z Z ?_)))))
  have hN : Sp.FileFree list ids = none := by simp [Sp.FileFree, hc5]
  exact H.retO (k := 0) rfl (by rw [hN]; exact ⟨_, rfl, AccOf.mk aN (Chk.nil (E := heldE) (sz := 3) (G := G0))⟩) (acc_nd _ _ _ _ _)
 intro hc5'
 try simp only [nrm] at hc5'
 refine W_skip (N_K (q2 (mV Z (o_call call79 Z Z (l3Copy_c _ _ H.sub _ _ hlist ) ?_))))
 rintro _ w7 ⟨G7, v7, _, g7, rfl, ⟨cs7, rfl, hchk7⟩, hp7, hq7, hs7⟩
 have H := H.growO g7 hp7 hq7 hs7; obtain ⟨av7, cv7, rfl⟩ := H.accShape (k := 0) rfl
 have hids := hids.up g7.le
 refine ⟨_, Z, ?_⟩
 refine aG Z (q3 (W_seq (q2 (aG Z (q3 (W_block ?_))))))
 refine W_lp (hf := (Sub.cons (t := 1) Z Sub.nil)) (J := fun M w m => ∃ (v : Value) (n : Nat) (cs : List Value) (xs : List (BHeld)) (k : Nat) (G : PH), M = [(7, .int .i64 (k : Int)), (6, v)] ∧ PLe G7 G ∧ Hp w0 G0 [] w G [acc 42 3 v n cs] ∧ (Chk heldE 3 G cs xs ∧ n = xs.length ∧ k ≤ ids.length ∧ xs.length ≤ 1000 ∧ Sp.foldB Sp.StoreDrop (ids.take k) (some list) = some xs) ∧ m = (ids.length - k)) (h0 := ⟨_, _, _, list, 0, _, Z, PLe.refl _, H, ?inv, Z⟩) (round := ?round)
 case inv => exact ⟨hchk7,  by first | rfl | simp | (simp; omega) | omega, (by exact ⟨by omega, by have := Sp.valid_len hc2'; omega, by simp [Sp.foldB]⟩)⟩
 case round =>
  rintro _ w8 _ ⟨v, n, cs, xs, k, G8, rfl, hle8, H, hinv8, rfl⟩
  have hids := hids.up hle8
  obtain ⟨hchk8_0, hn8_0, hinv8⟩ := hinv8
  obtain ⟨av8_0, cv8_0, rfl⟩ := H.accShape (k := 0) rfl
  obtain ⟨hk, hxl, hf⟩ := hinv8
  refine W_seq (q2 (mV Z (mV Z (o_len_slice underlying38 Z Z (o_lss Z Z Z (q3 ?_))))))
  refine W_cond Z ?_ ?_
  ·intro hc9
   try simp only [nrm] at hc9
   refine W_skip (N_K (W_seq (W_block (q2 (mV Z (mV Z (mV Z (o_index_P k hids underlying38 sizeOf3 Z Z Z Z aN ?_)))))))); intro b10 o10 z10 q10 hz10 hE10 hrow10
   obtain ⟨rfl, hi10⟩ := hE10
   refine o_load_P H isAgg3 Z Z (hrow10 0 _ Z) ?_
   obtain ⟨G12, H, hsg12, hsr12⟩ := H.shut' (k := 0) rfl hchk8_0 aN aN
   have hle8 := hle8.trans hsg12
   refine o_call call191 Z Z (StoreDrop_c _ _ H.sub _ _ hsr12 _ ) ?_
   rintro _ w11 ⟨G11, _, _, g11, rfl, ⟨u11_0, rfl, ⟨cs11, rfl, hchk11⟩⟩, hp11, hq11, hs11⟩
   have H := H.growO g11 hp11 hq11 hs11; obtain ⟨av11, cv11, rfl⟩ := H.accShape (k := 0) rfl
   have hle8 := hle8.trans g11.le
   refine ⟨_, Z, ?_⟩
   refine mV Z (o_extract Z Z Z (o_extract Z Z Z (aG Z (aG Z (q3 (W_seq (q2 (mV Z (o_not Z Z (q3 ?_))))))))))
   refine W_cond Z ?_ ?_
   ·intro hc13
    try simp only [nrm] at hc13
    refine q2 (o_buildSlice H underlying23 sizeOf42 (fun w => ⟨_, zeroValue42 w, Z⟩) Z Z Z Z Z Z Z ?_); intro b14 w14 hb14 H
    have H := H.blkAcc 3 (k := 0) (n := 0) rfl rfl (by decide)
    refine aG Z (aG Z (q3 (W_ret (N_K_ret (N_B_ret (N_K_ret (N_LP_ret (N_B_ret (N_K_ret (rt2 results159 Z Z ?_))))))))))
    have hN : Sp.FileFree list ids = none := by (have hno : Sp.StoreDrop xs z10 = none := by simpa using hc13); simp only [Sp.FileFree, hc2', hc5', Bool.and_self, if_true]; exact Sp.foldB_stop hf hz10 hno
    exact H.retO (k := 0) rfl (by rw [hN]; exact ⟨_, rfl, AccOf.mk aN (Chk.nil (E := heldE) (sz := 3) (G := G11))⟩) (acc_nd _ _ _ _ _)
   intro hc13'
   try simp only [nrm] at hc13'
   obtain ⟨p, hsp⟩ := Option.isSome_iff_exists.1 hc13'
   rw [hsp] at H hchk11 ⊢
   dsimp only [Option.map, Option.getD] at H hchk11
   refine W_skip (N_K (W_region (mV Z (aG Z (R_nil (N_B (N_K (W_region (mV Z (o_add Z Z Z oO (aG Z (R_nil ?_))))))))))))
   refine N_lp (hJ := ⟨_, _, _, p, k + 1, _, Z, hle8, H, ?inv, Z⟩) (hm := ?hm)
   case hm => omega
   case inv => exact ⟨hchk11, aN, (by exact ⟨by omega, by have := Sp.drop_len hsp; omega, Sp.foldB_succ hf hz10 hsp⟩)⟩
  intro hc9'
  try simp only [nrm] at hc9'
  refine W_exit (N_K_exit (N_LP_exit (N_B_same (N_K (q2 (mV Z (aG Z (aG Z (q3 (W_ret (rt2 results159 Z Z ?_)))))))))))
  have hY : Sp.FileFree list ids = some xs := by simp only [Sp.FileFree, hc2', hc5', Bool.and_self, if_true]; exact Sp.foldB_all hf oM
  exact H.retO (k := 0) rfl (by rw [hY]; exact ⟨_, rfl, AccOf.mk aN hchk8_0⟩) (acc_nd _ _ _ _ _)
end Go.Proofs.Tst

namespace Go.Proofs.Tst
open Go Fw Tryz
theorem l5Put_c (w0 : World) (G0 : PH) (hG : PSub G0 w0) (vlist : Value) (list : List (BItem)) (hlist : RdItems G0 vlist list) (cx : List Value) (x : BItem) (hx : itemE G0 x cx) (hS : list.length ≤ 1000000) :
  Calls Tryz.prog 190 #[vlist, .agg cx.toArray] w0 (RetO w0 G0 (AccOf itemE 3 40 (Sp.l5Put list x))) := by
 obtain ⟨alist, klist, rfl⟩ := hlist.shape
 have hlimlist : list.length ≤ 1099511627776 := hlist.lim
 obtain ⟨a1, m1, c1, rfl, hi1, hr1⟩ := hx; have hy_hi1 : _ ≤ 16777216 := hi1; have hn_hr1 := hr1.len; have hx_hr1 : _ ≤ 1099511627776 := hr1.lim
 have H := Hp.init hG
 refine calls_of_W (l := [.slice alist list.length klist, _]) func190 Z ntmps190 Z (q2 (o_box H Z Z Z ?_)); intro b2 w2 hb2 H
 refine aG Z (q1 (o_buildSlice H underlying24 sizeOf40 (fun w => ⟨_, zeroValue40 w, Z⟩) Z Z Z Z Z Z Z ?_)); intro b3 w3 hb3 H
 have H := H.blkAcc 3 (k := 0) (n := 0) rfl rfl (by decide)
 refine aG Z (q1 (aG Z (q3 (W_seq (q2 (aG Z (q3 (W_block ?_))))))))
 obtain ⟨ln4, hln4, H⟩ := H.name (k := 1) rfl
 refine W_lp (hf := (Sub.cons (t := 0) Z (Sub.cons (t := 3) Z (Sub.cons (t := 4) Z Sub.nil)))) (J := fun M w m => ∃ (v : Value) (n : Nat) (cs : List Value) (xs : List (BItem)) (d : Bool) (k : Nat) (G : PH), M = [(6, .bool d), (7, .int .i64 (k : Int)), (5, v)] ∧ PLe G0 G ∧ Hp w0 G0 [] w G [acc 40 3 v n cs, blk b2 (cl ln4 40)] ∧ (Chk itemE 3 G cs xs ∧ n = xs.length ∧ k ≤ list.length ∧ xs.length ≤ k + 1 ∧ (d = false → xs.length ≤ k) ∧ xs ++ Sp.putGo x d (list.drop k) = Sp.l5Put list x) ∧ m = (list.length - k)) (h0 := ⟨_, _, _, [], false, 0, _, Z, PLe.refl _, H, ?inv, Z⟩) (round := ?round)
 case inv => exact ⟨(Chk.nil (E := itemE) (sz := 3) (G := G0)),  by first | rfl | simp | (simp; omega) | omega, (by simp [Sp.l5Put])⟩
 case round =>
  rintro _ w5 _ ⟨v, n, cs, xs, d, k, G5, rfl, hle5, H, hinv5, rfl⟩
  subst hln4
  have hlist := hlist.up hle5
  have hr1 := hr1.up hle5
  obtain ⟨hchk5_0, hn5_0, hinv5⟩ := hinv5
  obtain ⟨av5_0, cv5_0, rfl⟩ := H.accShape (k := 0) rfl
  obtain ⟨hk, hxl, hxd, hp⟩ := hinv5
  refine W_seq (q2 (mV Z (mV Z (o_len_slice underlying24 Z Z (o_lss Z Z Z (q3 ?_))))))
  refine W_cond Z ?_ ?_
  ·intro hc6
   try simp only [nrm] at hc6
   refine W_skip (N_K (W_seq (W_block (W_seq (W_seq (W_drawK [1] 12 H kR Z ?_)))))); intro w7 H; have hd7 := PLe.refl G5
   refine vM 0 Z Z (RD_t 1 Z kR Z (fun _ hK => v_not Z) (vM 2 Z Z ?_))
   refine RD_case (t := 17) Z ?_ ?_
   ·intro hc8
    try simp only [nrm] at hc8
    refine RD_tg 3 Z kR Z (yl Z Z) (fun _ hK => v_move Z) (RD_tg 4 Z kR Z (yl Z Z) (fun _ hK => v_move Z) ?_)
    have hl9 := hlist.len
    obtain ⟨b9, o9, z9, q9, ha9, hz9, hq9, hE9, hrow9, _⟩ := hlist.at (i := k) oM
    clear hq9
    obtain ⟨a9, m9, c9, rfl, hi9, hr9⟩ := hE9; have hy_hi9 : _ ≤ 16777216 := hi9; have hn_hr9 := hr9.len; have hx_hr9 : _ ≤ 1099511627776 := hr9.lim
    refine RD_tg 5 Z kR Z (yl Z Z) (fun _ hK => v_index_P (i := k) ha9 underlying24 sizeOf40 Z Z Z oM) (RD_tg 6 Z kR Z (yl Z Z) (fun _ hK => v_fieldAddr 0 runUnderlying40 Z sizeOf9 Z Z) (RD_tg 7 Z kR Z (yl Z Z) (fun _ hK => v_load_P hK isAgg9 Z (hrow9 0 _ Z)) (RD_tg 8 Z kR Z (yl Z Z) (fun _ hK => v_fieldAddr 0 runUnderlying40 Z sizeOf9 Z Z) (RD_tg 9 Z kR Z (yl Z Z) (fun _ hK => v_load_B 0 hK isAgg9 Z Z Z) (RD_tg 10 Z kR Z (yl Z Z) (fun _ hK => v_sgeq Z Z) (RD_t 11 Z kR Z (fun _ hK => v_pick_t Z Z) (RD_done kR (N_K ?_))))))))
    refine W_cond Z ?_ ?_
    ·intro hc10
     try simp only [nrm] at hc10
     refine q2 (mV Z (o_loadagg_B 1 H isAgg40 sizeOf40 Z Z Z Z Z (o_call call81 Z Z (l5Copy_c _ _ H.sub _ x ⟨_, _, _, Z, hi1, hr1⟩ ) ?_)))
     rintro _ w11 ⟨G11, _, g11, rfl, u11_0, rfl, hr11_0⟩
     have H := H.grow g11
     have hlist := hlist.up g11.le
     have hchk5_0 := hchk5_0.up g11.le
     have hle5 := hle5.trans g11.le
     obtain ⟨a12, m12, c12, rfl, hi12, hr12⟩ := hr11_0; have hy_hi12 : _ ≤ 16777216 := hi12; have hn_hr12 := hr12.len; have hx_hr12 : _ ≤ 1099511627776 := hr12.lim
     refine ⟨_, Z, ?_⟩
     refine o_buildSlice H underlying24 sizeOf40 (fun w => ⟨_, zeroValue40 w, Z⟩) Z Z Z Z Z Z Z ?_; intro b13 w13 hb13 H
     refine o_append1 0 H (sz := 3) (bytes := 48) underlying24 typeInfo40 ⟨_, Z, Z⟩ Z Z Z Z Z Z Z Z Z Z oM Z ?_; intro v14 w14 H
     have hchk14 := hchk5_0.snoc (show itemE _ x _ from ⟨_, _, _, rfl, hi12, hr12⟩) rfl
     obtain ⟨av14, cv14, rfl⟩ := H.accShape (k := 0) rfl
     refine aG Z (q3 (W_region (aG Z (q3 (W_seq (W_drawK [1] 8 H kR Z ?_)))))); intro w15 H; have hd15 := PLe.refl G11
     refine vM 0 Z Z (vM 1 Z Z ?_)
     have hl16 := hlist.len
     obtain ⟨b16, o16, z16, q16, ha16, hz16, hq16, hE16, hrow16, _⟩ := hlist.at (i := k) oM
     clear hq16
     obtain ⟨a16, m16, c16, rfl, hi16, hr16⟩ := hE16; have hy_hi16 : _ ≤ 16777216 := hi16; have hn_hr16 := hr16.len; have hx_hr16 : _ ≤ 1099511627776 := hr16.lim
     have hzz16 : z9 = z16 := Option.some.inj (hz9.symm.trans hz16)
     subst hzz16
     refine RD_t 2 Z kR Z (fun _ hK => v_index_P (i := k) ha16 underlying24 sizeOf40 Z Z Z oM) (RD_t 3 Z kR Z (fun _ hK => v_fieldAddr 0 runUnderlying40 Z sizeOf9 Z Z) (RD_t 4 Z kR Z (fun _ hK => v_load_P hK isAgg9 Z (hrow16 0 _ Z)) (RD_t 5 Z kR Z (fun _ hK => v_fieldAddr 0 runUnderlying40 Z sizeOf9 Z Z) (RD_t 6 Z kR Z (fun _ hK => v_load_B 0 hK isAgg9 Z Z Z) (RD_t 7 Z kR Z (fun _ hK => v_sneq Z Z) (RD_done kR (N_K ?_)))))))
     refine W_cond Z ?_ ?_
     ·intro hc17
      try simp only [nrm] at hc17
      refine W_region (mV Z (mV Z (mV Z (o_index_P k hlist underlying24 sizeOf40 Z Z Z Z aN ?_)))); intro b18 o18 z18 q18 hz18 hE18 hrow18
      obtain ⟨a18, m18, c18, rfl, hi18, hr18⟩ := hE18; have hy_hi18 : _ ≤ 16777216 := hi18; have hn_hr18 := hr18.len; have hx_hr18 : _ ≤ 1099511627776 := hr18.lim
      have hzz18 : z9 = z18 := Option.some.inj (hz9.symm.trans hz18)
      subst hzz18
      refine o_loadagg_P H isAgg40 sizeOf40 Z Z hrow18 Z (o_call call81 Z Z (l5Copy_c _ _ H.sub _ _ ⟨_, _, _, Z, hi18, hr18⟩ ) ?_)
      rintro _ w19 ⟨G19, _, g19, rfl, u19_0, rfl, hr19_0⟩
      have H := H.grow g19
      have hchk14 := hchk14.up g19.le
      have hle5 := hle5.trans g19.le
      obtain ⟨a20, m20, c20, rfl, hi20, hr20⟩ := hr19_0; have hy_hi20 : _ ≤ 16777216 := hi20; have hn_hr20 := hr20.len; have hx_hr20 : _ ≤ 1099511627776 := hr20.lim
      refine ⟨_, Z, ?_⟩
      refine o_buildSlice H underlying24 sizeOf40 (fun w => ⟨_, zeroValue40 w, Z⟩) Z Z Z Z Z Z Z ?_; intro b21 w21 hb21 H
      refine o_append1 0 H (sz := 3) (bytes := 48) underlying24 typeInfo40 ⟨_, Z, Z⟩ Z Z Z Z Z Z Z Z Z Z oM Z ?_; intro v22 w22 H
      have hchk22 := hchk14.snoc (show itemE _ z9 _ from ⟨_, _, _, rfl, hi20, hr20⟩) rfl
      obtain ⟨av22, cv22, rfl⟩ := H.accShape (k := 0) rfl
      refine aG Z (R_nil (N_B (N_K (W_region (mV Z (o_add Z Z Z oO (aG Z (R_nil ?_))))))))
      refine N_lp (hJ := ⟨_, _, _, ((xs ++ [x]) ++ [z9]), true, k + 1, _, Z, hle5, H, ?inv, Z⟩) (hm := ?hm)
      case hm => omega
      case inv => exact ⟨hchk22, aN, (by exact ⟨by omega, by have := hxd (by assumption); simp; omega, by simp, by rw [Sp.drop_at hz9] at hp; rw [← hp]; (first | rw [Sp.putA (by assumption) (by assumption) (by assumption)] | rw [Sp.putB (by assumption) (by assumption) (by assumption)] | rw [Sp.putC (by assumption) (by assumption)] | rw [Sp.putC' (by assumption) (by assumption)] | rw [Sp.putD (by assumption) (by assumption)] | rw [Sp.putD' (by assumption) (by assumption)]) <;> simp⟩)⟩
     intro hc17'
     try simp only [nrm] at hc17'
     refine W_skip (N_B (N_K (W_region (mV Z (o_add Z Z Z oO (aG Z (R_nil ?_)))))))
     refine N_lp (hJ := ⟨_, _, _, (xs ++ [x]), true, k + 1, _, Z, hle5, H, ?inv, Z⟩) (hm := ?hm)
     case hm => omega
     case inv => exact ⟨hchk14, aN, (by exact ⟨by omega, by have := hxd (by assumption); simp; omega, by simp, by rw [Sp.drop_at hz9] at hp; rw [← hp]; (first | rw [Sp.putA (by assumption) (by assumption) (by assumption)] | rw [Sp.putB (by assumption) (by assumption) (by assumption)] | rw [Sp.putC (by assumption) (by assumption)] | rw [Sp.putC' (by assumption) (by assumption)] | rw [Sp.putD (by assumption) (by assumption)] | rw [Sp.putD' (by assumption) (by assumption)]) <;> simp⟩)⟩
    intro hc10'
    try simp only [nrm] at hc10'
    refine W_skip (N_K (W_seq (W_drawK [1] 8 H kR Z ?_))); intro w25 H; have hd25 := PLe.refl G5
    refine vM 0 Z Z (vM 1 Z Z ?_)
    have hl26 := hlist.len
    obtain ⟨b26, o26, z26, q26, ha26, hz26, hq26, hE26, hrow26, _⟩ := hlist.at (i := k) oM
    clear hq26
    obtain ⟨a26, m26, c26, rfl, hi26, hr26⟩ := hE26; have hy_hi26 : _ ≤ 16777216 := hi26; have hn_hr26 := hr26.len; have hx_hr26 : _ ≤ 1099511627776 := hr26.lim
    have hzz26 : z9 = z26 := Option.some.inj (hz9.symm.trans hz26)
    subst hzz26
    refine RD_t 2 Z kR Z (fun _ hK => v_index_P (i := k) ha26 underlying24 sizeOf40 Z Z Z oM) (RD_t 3 Z kR Z (fun _ hK => v_fieldAddr 0 runUnderlying40 Z sizeOf9 Z Z) (RD_t 4 Z kR Z (fun _ hK => v_load_P hK isAgg9 Z (hrow26 0 _ Z)) (RD_t 5 Z kR Z (fun _ hK => v_fieldAddr 0 runUnderlying40 Z sizeOf9 Z Z) (RD_t 6 Z kR Z (fun _ hK => v_load_B 0 hK isAgg9 Z Z Z) (RD_t 7 Z kR Z (fun _ hK => v_sneq Z Z) (RD_done kR (N_K ?_)))))))
    refine W_cond Z ?_ ?_
    ·intro hc27
     try simp only [nrm] at hc27
     refine W_region (mV Z (mV Z (mV Z (o_index_P k hlist underlying24 sizeOf40 Z Z Z Z aN ?_)))); intro b28 o28 z28 q28 hz28 hE28 hrow28
     obtain ⟨a28, m28, c28, rfl, hi28, hr28⟩ := hE28; have hy_hi28 : _ ≤ 16777216 := hi28; have hn_hr28 := hr28.len; have hx_hr28 : _ ≤ 1099511627776 := hr28.lim
     have hzz28 : z9 = z28 := Option.some.inj (hz9.symm.trans hz28)
     subst hzz28
     refine o_loadagg_P H isAgg40 sizeOf40 Z Z hrow28 Z (o_call call81 Z Z (l5Copy_c _ _ H.sub _ _ ⟨_, _, _, Z, hi28, hr28⟩ ) ?_)
     rintro _ w29 ⟨G29, _, g29, rfl, u29_0, rfl, hr29_0⟩
     have H := H.grow g29
     have hchk5_0 := hchk5_0.up g29.le
     have hle5 := hle5.trans g29.le
     obtain ⟨a30, m30, c30, rfl, hi30, hr30⟩ := hr29_0; have hy_hi30 : _ ≤ 16777216 := hi30; have hn_hr30 := hr30.len; have hx_hr30 : _ ≤ 1099511627776 := hr30.lim
     refine ⟨_, Z, ?_⟩
     refine o_buildSlice H underlying24 sizeOf40 (fun w => ⟨_, zeroValue40 w, Z⟩) Z Z Z Z Z Z Z ?_; intro b31 w31 hb31 H
     refine o_append1 0 H (sz := 3) (bytes := 48) underlying24 typeInfo40 ⟨_, Z, Z⟩ Z Z Z Z Z Z Z Z Z Z oM Z ?_; intro v32 w32 H
     have hchk32 := hchk5_0.snoc (show itemE _ z9 _ from ⟨_, _, _, rfl, hi30, hr30⟩) rfl
     obtain ⟨av32, cv32, rfl⟩ := H.accShape (k := 0) rfl
     refine aG Z (R_nil (N_B (N_K (W_region (mV Z (o_add Z Z Z oO (aG Z (R_nil ?_))))))))
     refine N_lp (hJ := ⟨_, _, _, (xs ++ [z9]), d, k + 1, _, Z, hle5, H, ?inv, Z⟩) (hm := ?hm)
     case hm => omega
     case inv => exact ⟨hchk32, aN, (by exact ⟨by omega, by first | omega | (simp; omega), fun h => by have := hxd h; first | omega | (simp; omega), by rw [Sp.drop_at hz9] at hp; rw [← hp]; (first | rw [Sp.putA (by assumption) (by assumption) (by assumption)] | rw [Sp.putB (by assumption) (by assumption) (by assumption)] | rw [Sp.putC (by assumption) (by assumption)] | rw [Sp.putC' (by assumption) (by assumption)] | rw [Sp.putD (by assumption) (by assumption)] | rw [Sp.putD' (by assumption) (by assumption)]) <;> simp⟩)⟩
    intro hc27'
    try simp only [nrm] at hc27'
    refine W_skip (N_B (N_K (W_region (mV Z (o_add Z Z Z oO (aG Z (R_nil ?_)))))))
    refine N_lp (hJ := ⟨_, _, _, xs, d, k + 1, _, Z, hle5, H, ?inv, Z⟩) (hm := ?hm)
    case hm => omega
    case inv => exact ⟨hchk5_0, aN, (by exact ⟨by omega, by first | omega | (simp; omega), fun h => by have := hxd h; first | omega | (simp; omega), by rw [Sp.drop_at hz9] at hp; rw [← hp]; (first | rw [Sp.putA (by assumption) (by assumption) (by assumption)] | rw [Sp.putB (by assumption) (by assumption) (by assumption)] | rw [Sp.putC (by assumption) (by assumption)] | rw [Sp.putC' (by assumption) (by assumption)] | rw [Sp.putD (by assumption) (by assumption)] | rw [Sp.putD' (by assumption) (by assumption)]) <;> simp⟩)⟩
   intro hc8'
   try simp only [nrm] at hc8'
   refine RD_pass 3 Z kR kR kR Z (yl_ne Z Z Z) (RD_pass 4 Z kR kR kR Z (yl_ne Z Z Z) (RD_pass 5 Z kR kR kR Z (yl_ne Z Z Z) (RD_pass 6 Z kR kR kR Z (yl_ne Z Z Z) (RD_pass 7 Z kR kR kR Z (yl_ne Z Z Z) (RD_pass 8 Z kR kR kR Z (yl_ne Z Z Z) (RD_pass 9 Z kR kR kR Z (yl_ne Z Z Z) (RD_pass 10 Z kR kR kR Z (yl_ne Z Z Z) (RD_t 11 Z kR Z (fun _ hK => v_pick_f Z Z) (RD_done kR (N_K (W_false Z (W_skip (N_K (W_seq (W_drawK [1] 8 H kR Z ?_))))))))))))))); intro w35 H; have hd35 := PLe.refl G5
   refine vM 0 Z Z (vM 1 Z Z ?_)
   have hl36 := hlist.len
   obtain ⟨b36, o36, z36, q36, ha36, hz36, hq36, hE36, hrow36, _⟩ := hlist.at (i := k) oM
   clear hq36
   obtain ⟨a36, m36, c36, rfl, hi36, hr36⟩ := hE36; have hy_hi36 : _ ≤ 16777216 := hi36; have hn_hr36 := hr36.len; have hx_hr36 : _ ≤ 1099511627776 := hr36.lim
   refine RD_t 2 Z kR Z (fun _ hK => v_index_P (i := k) ha36 underlying24 sizeOf40 Z Z Z oM) (RD_t 3 Z kR Z (fun _ hK => v_fieldAddr 0 runUnderlying40 Z sizeOf9 Z Z) (RD_t 4 Z kR Z (fun _ hK => v_load_P hK isAgg9 Z (hrow36 0 _ Z)) (RD_t 5 Z kR Z (fun _ hK => v_fieldAddr 0 runUnderlying40 Z sizeOf9 Z Z) (RD_t 6 Z kR Z (fun _ hK => v_load_B 0 hK isAgg9 Z Z Z) (RD_t 7 Z kR Z (fun _ hK => v_sneq Z Z) (RD_done kR (N_K ?_)))))))
   refine W_cond Z ?_ ?_
   ·intro hc37
    try simp only [nrm] at hc37
    refine W_region (mV Z (mV Z (mV Z (o_index_P k hlist underlying24 sizeOf40 Z Z Z Z aN ?_)))); intro b38 o38 z38 q38 hz38 hE38 hrow38
    obtain ⟨a38, m38, c38, rfl, hi38, hr38⟩ := hE38; have hy_hi38 : _ ≤ 16777216 := hi38; have hn_hr38 := hr38.len; have hx_hr38 : _ ≤ 1099511627776 := hr38.lim
    have hzz38 : z36 = z38 := Option.some.inj (hz36.symm.trans hz38)
    subst hzz38
    refine o_loadagg_P H isAgg40 sizeOf40 Z Z hrow38 Z (o_call call81 Z Z (l5Copy_c _ _ H.sub _ _ ⟨_, _, _, Z, hi38, hr38⟩ ) ?_)
    rintro _ w39 ⟨G39, _, g39, rfl, u39_0, rfl, hr39_0⟩
    have H := H.grow g39
    have hchk5_0 := hchk5_0.up g39.le
    have hle5 := hle5.trans g39.le
    obtain ⟨a40, m40, c40, rfl, hi40, hr40⟩ := hr39_0; have hy_hi40 : _ ≤ 16777216 := hi40; have hn_hr40 := hr40.len; have hx_hr40 : _ ≤ 1099511627776 := hr40.lim
    refine ⟨_, Z, ?_⟩
    refine o_buildSlice H underlying24 sizeOf40 (fun w => ⟨_, zeroValue40 w, Z⟩) Z Z Z Z Z Z Z ?_; intro b41 w41 hb41 H
    refine o_append1 0 H (sz := 3) (bytes := 48) underlying24 typeInfo40 ⟨_, Z, Z⟩ Z Z Z Z Z Z Z Z Z Z oM Z ?_; intro v42 w42 H
    have hchk42 := hchk5_0.snoc (show itemE _ z36 _ from ⟨_, _, _, rfl, hi40, hr40⟩) rfl
    obtain ⟨av42, cv42, rfl⟩ := H.accShape (k := 0) rfl
    refine aG Z (R_nil (N_B (N_K (W_region (mV Z (o_add Z Z Z oO (aG Z (R_nil ?_))))))))
    refine N_lp (hJ := ⟨_, _, _, (xs ++ [z36]), d, k + 1, _, Z, hle5, H, ?inv, Z⟩) (hm := ?hm)
    case hm => omega
    case inv => exact ⟨hchk42, aN, (by exact ⟨by omega, by first | omega | (simp; omega), fun h => by have := hxd h; first | omega | (simp; omega), by rw [Sp.drop_at hz36] at hp; rw [← hp]; (first | rw [Sp.putA (by assumption) (by assumption) (by assumption)] | rw [Sp.putB (by assumption) (by assumption) (by assumption)] | rw [Sp.putC (by assumption) (by assumption)] | rw [Sp.putC' (by assumption) (by assumption)] | rw [Sp.putD (by assumption) (by assumption)] | rw [Sp.putD' (by assumption) (by assumption)]) <;> simp⟩)⟩
   intro hc37'
   try simp only [nrm] at hc37'
   refine W_skip (N_B (N_K (W_region (mV Z (o_add Z Z Z oO (aG Z (R_nil ?_)))))))
   refine N_lp (hJ := ⟨_, _, _, xs, d, k + 1, _, Z, hle5, H, ?inv, Z⟩) (hm := ?hm)
   case hm => omega
   case inv => exact ⟨hchk5_0, aN, (by exact ⟨by omega, by first | omega | (simp; omega), fun h => by have := hxd h; first | omega | (simp; omega), by rw [Sp.drop_at hz36] at hp; rw [← hp]; (first | rw [Sp.putA (by assumption) (by assumption) (by assumption)] | rw [Sp.putB (by assumption) (by assumption) (by assumption)] | rw [Sp.putC (by assumption) (by assumption)] | rw [Sp.putC' (by assumption) (by assumption)] | rw [Sp.putD (by assumption) (by assumption)] | rw [Sp.putD' (by assumption) (by assumption)]) <;> simp⟩)⟩
  intro hc6'
  try simp only [nrm] at hc6'
  refine W_exit (N_K_exit (N_LP_exit (N_B_same (N_K (W_seq (q2 (mV Z (o_not Z Z (q3 ?_)))))))))
  refine W_cond Z ?_ ?_
  ·intro hc45
   try simp only [nrm] at hc45
   refine W_region (mV Z (o_loadagg_B 1 H isAgg40 sizeOf40 Z Z Z Z Z (o_call call81 Z Z (l5Copy_c _ _ H.sub _ x ⟨_, _, _, Z, hi1, hr1⟩ ) ?_)))
   rintro _ w46 ⟨G46, _, g46, rfl, u46_0, rfl, hr46_0⟩
   have H := H.grow g46
   have hchk5_0 := hchk5_0.up g46.le
   obtain ⟨a47, m47, c47, rfl, hi47, hr47⟩ := hr46_0; have hy_hi47 : _ ≤ 16777216 := hi47; have hn_hr47 := hr47.len; have hx_hr47 : _ ≤ 1099511627776 := hr47.lim
   refine ⟨_, Z, ?_⟩
   refine o_buildSlice H underlying24 sizeOf40 (fun w => ⟨_, zeroValue40 w, Z⟩) Z Z Z Z Z Z Z ?_; intro b48 w48 hb48 H
   refine o_append1 0 H (sz := 3) (bytes := 48) underlying24 typeInfo40 ⟨_, Z, Z⟩ Z Z Z Z Z Z Z Z Z Z oM Z ?_; intro v49 w49 H
   have hchk49 := hchk5_0.snoc (show itemE _ x _ from ⟨_, _, _, rfl, hi47, hr47⟩) rfl
   obtain ⟨av49, cv49, rfl⟩ := H.accShape (k := 0) rfl
   refine aG Z (q1 (mV Z (aG Z (q3 (W_ret (rt1 results190 Z ?_))))))
   rw [List.drop_of_length_le oM] at hp
   exact H.retO (k := 0) rfl (by rw [← hp, Sp.putGo, if_neg (by simp [*])]; exact AccOf.mk aN hchk49) (acc_nd _ _ _ _ _)
  intro hc45'
  try simp only [nrm] at hc45'
  refine W_skip (N_K (q2 (mV Z (aG Z (q3 (W_ret (rt1 results190 Z ?_)))))))
  rw [List.drop_of_length_le oM] at hp
  exact H.retO (k := 0) rfl (by rw [← hp, Sp.putGo, if_pos (by assumption), List.append_nil]; exact AccOf.mk aN hchk5_0) (acc_nd _ _ _ _ _)
end Go.Proofs.Tst

namespace Go.Proofs.Tst
open Go Fw Tryz
theorem TreePut_c (w0 : World) (G0 : PH) (hG : PSub G0 w0) (vlist : Value) (list : List (BItem)) (hlist : RdItems G0 vlist list) (cx : List Value) (x : BItem) (hx : itemE G0 x cx)  :
  Calls Tryz.prog 156 #[vlist, .agg cx.toArray] w0 (RetP w0 G0 (fun G v => ∃ u, v = .tuple #[u, .bool (Sp.TreePut list x).isSome] ∧ RdItems G u ((Sp.TreePut list x).getD []))) := by
 obtain ⟨alist, klist, rfl⟩ := hlist.shape
 have hlimlist : list.length ≤ 1099511627776 := hlist.lim
 obtain ⟨a1, m1, c1, rfl, hi1, hr1⟩ := hx; have hy_hi1 : _ ≤ 16777216 := hi1; have hn_hr1 := hr1.len; have hx_hr1 : _ ≤ 1099511627776 := hr1.lim
 have H := Hp.init hG
 refine calls_of_W (l := [.slice alist list.length klist, _]) func156 Z ntmps156 Z (q2 (o_box H Z Z Z ?_)); intro b2 w2 hb2 H
 refine aG Z (aG Z (q3 (W_seq (q2 (mV Z (o_call call54 Z Z (TreeValid_c _ _ H.sub _ _ hlist ) ?_))))))
 rintro _ w3 ⟨rfl, ew3⟩; have H := H.step ew3; refine ⟨_, rfl, ?_⟩
 refine o_not Z Z (mV Z ?_)
 refine R_case (t := 11) Z ?_ ?_
 ·intro hc4
  try simp only [nrm] at hc4
  refine rP Z (rP Z (rP Z (o_pick_t Z Z Z (q3 (W_true Z (q2 (o_buildSlice H underlying24 sizeOf40 (fun w => ⟨_, zeroValue40 w, Z⟩) Z Z Z Z Z Z Z ?_))))))); intro b5 w5 hb5 H
  have H := H.blkAcc 3 (k := 0) (n := 0) rfl rfl (by decide)
  refine aG Z (aG Z (q3 (W_ret (N_K_ret (rt2 results156 Z Z ?_)))))
  obtain ⟨G507, H, hsg507, hsr507⟩ := H.shut' (k := 0) rfl (Chk.nil (E := itemE) (sz := 3) (G := G0)) aN aN
  have hY : Sp.TreePut list x = none := by simp [Sp.TreePut, hc4]
  exact H.retP (by rw [hY]; exact ⟨_, rfl, hsr507⟩)
 intro hc4'
 try simp only [nrm] at hc4'
 have htl := Sp.tree_len hc4'
 refine gR Z (o_loadagg_B 0 H isAgg40 sizeOf40 Z Z Z Z Z (gR Z (o_call call89 Z Z (l5Item_c _ _ H.sub _ x ⟨_, _, _, Z, hi1, hr1⟩ ) ?_)))
 rintro _ w6 ⟨rfl, ew6⟩; have H := H.step ew6; refine ⟨_, rfl, ?_⟩
 refine gR Z (o_not Z Z (o_pick_f Z Z Z (q3 ?_)))
 refine W_cond Z ?_ ?_
 ·intro hc7
  try simp only [nrm] at hc7
  refine q2 (o_buildSlice H underlying24 sizeOf40 (fun w => ⟨_, zeroValue40 w, Z⟩) Z Z Z Z Z Z Z ?_); intro b8 w8 hb8 H
  have H := H.blkAcc 3 (k := 0) (n := 0) rfl rfl (by decide)
  refine aG Z (aG Z (q3 (W_ret (N_K_ret (rt2 results156 Z Z ?_)))))
  obtain ⟨G511, H, hsg511, hsr511⟩ := H.shut' (k := 0) rfl (Chk.nil (E := itemE) (sz := 3) (G := G0)) aN aN
  have hY : Sp.TreePut list x = none := by simp [Sp.TreePut, hc7]
  exact H.retP (by rw [hY]; exact ⟨_, rfl, hsr511⟩)
 intro hc7'
 try simp only [nrm] at hc7'
 refine W_skip (N_K (q2 (mV Z (o_fieldAddr 0 runUnderlying40 Z sizeOf9 Z Z Z (o_load_B 0 H isAgg9 Z Z Z Z (o_call call118 Z Z (l5At_c _ _ H.sub _ _ hlist _ hi1 ) ?_))))))
 rintro _ w9 ⟨rfl, ew9⟩; have H := H.step ew9; refine ⟨_, rfl, ?_⟩
 refine aG Z (q3 (W_seq (q2 (mV Z (o_geq Z Z Z (mV Z ?_))))))
 refine R_case (t := 23) Z ?_ ?_
 ·intro hc10
  try simp only [nrm] at hc10
  obtain ⟨i, y, ia, ib, ic, ie, ig⟩ := Sp.at_nat hc10
  refine gR Z (mV Z (gR Z (mV Z (gR Z (o_index_P i hlist underlying24 sizeOf40 Z Z Z ib aN ?_))))); intro b11 o11 z11 q11 hz11 hE11 hrow11
  obtain ⟨a11, m11, c11, rfl, hi11, hr11⟩ := hE11; have hy_hi11 : _ ≤ 16777216 := hi11; have hn_hr11 := hr11.len; have hx_hr11 : _ ≤ 1099511627776 := hr11.lim
  refine gR Z (o_fieldAddr 1 runUnderlying40 Z sizeOf4 Z Z Z (gR Z (o_load_P H isAgg4 Z Z (hrow11 1 _ Z) (gR Z (mV Z ?_)))))
  refine R_case (t := 29) Z ?_ ?_
  ·intro hc12
   try simp only [nrm] at hc12
   refine rP Z (rP Z (gR Z (o_pick_t Z Z Z (o_pick_t Z Z Z (q3 (W_true Z (q2 (o_buildSlice H underlying24 sizeOf40 (fun w => ⟨_, zeroValue40 w, Z⟩) Z Z Z Z Z Z Z ?_)))))))); intro b13 w13 hb13 H
   have H := H.blkAcc 3 (k := 0) (n := 0) rfl rfl (by decide)
   refine aG Z (aG Z (q3 (W_ret (N_K_ret (rt2 results156 Z Z ?_)))))
   obtain ⟨G517, H, hsg517, hsr517⟩ := H.shut' (k := 0) rfl (Chk.nil (E := itemE) (sz := 3) (G := G0)) aN aN
   have hY : Sp.TreePut list x = none := by (have hl : Sp.atI list x.path = some i := ia); simp [Sp.TreePut, hl, hz11, hc12]
   exact H.retP (by rw [hY]; exact ⟨_, rfl, hsr517⟩)
  intro hc12'
  try simp only [nrm] at hc12'
  refine gR Z (o_fieldAddr 1 runUnderlying40 Z sizeOf4 Z Z Z (gR Z (o_load_B 0 H isAgg4 Z Z Z Z (gR Z (o_pick_f Z Z Z (o_pick_t Z Z Z (q3 ?_)))))))
  refine W_cond Z ?_ ?_
  ·intro hc14
   try simp only [nrm] at hc14
   refine q2 (o_buildSlice H underlying24 sizeOf40 (fun w => ⟨_, zeroValue40 w, Z⟩) Z Z Z Z Z Z Z ?_); intro b15 w15 hb15 H
   have H := H.blkAcc 3 (k := 0) (n := 0) rfl rfl (by decide)
   refine aG Z (aG Z (q3 (W_ret (N_K_ret (rt2 results156 Z Z ?_)))))
   obtain ⟨G520, H, hsg520, hsr520⟩ := H.shut' (k := 0) rfl (Chk.nil (E := itemE) (sz := 3) (G := G0)) aN aN
   have hY : Sp.TreePut list x = none := by (have hl : Sp.atI list x.path = some i := ia); simp [Sp.TreePut, hl, hz11, hc14]
   exact H.retP (by rw [hY]; exact ⟨_, rfl, hsr520⟩)
  intro hc14'
  try simp only [nrm] at hc14'
  refine W_skip (N_K (q2 (mV Z (o_loadagg_B 0 H isAgg40 sizeOf40 Z Z Z Z Z (o_call call190 Z Z (l5Put_c _ _ H.sub _ _ hlist _ x ⟨_, _, _, Z, hi1, hr1⟩ oM) ?_)))))
  rintro _ w16 ⟨G16, v16, _, g16, rfl, ⟨cs16, rfl, hchk16⟩, hp16, hq16, hs16⟩
  have H := H.growO g16 hp16 hq16 hs16; obtain ⟨av16, cv16, rfl⟩ := H.accShape (k := 0) rfl
  refine ⟨_, Z, ?_⟩
  have hpl := Sp.l5Put_len list x
  refine aG Z (q3 (W_seq (q2 (mV Z (o_call call54 Z Z (TreeValid_c _ _ (H.lendSubL [0]) _ _ (H.lendRdL (k := 0) (ks := [0]) Z Z hchk16 aN aN) ) ?_)))))
  rintro _ w17 ⟨rfl, ew17⟩; have H := H.step ew17; refine ⟨_, rfl, ?_⟩
  refine o_not Z Z (q3 ?_)
  refine W_cond Z ?_ ?_
  ·intro hc18
   try simp only [nrm] at hc18
   refine q2 (o_buildSlice H underlying24 sizeOf40 (fun w => ⟨_, zeroValue40 w, Z⟩) Z Z Z Z Z Z Z ?_); intro b19 w19 hb19 H
   have H := H.blkAcc 3 (k := 0) (n := 0) rfl rfl (by decide)
   refine aG Z (aG Z (q3 (W_ret (N_K_ret (rt2 results156 Z Z ?_)))))
   obtain ⟨G525, H, hsg525, hsr525⟩ := H.shut' (k := 0) rfl (Chk.nil (E := itemE) (sz := 3) (G := G16)) aN aN
   have hY : Sp.TreePut list x = none := by (have hl : Sp.atI list x.path = some i := ia); simp [Sp.TreePut, hc18]
   exact H.retP (by rw [hY]; exact ⟨_, rfl, hsr525⟩)
  intro hc18'
  try simp only [nrm] at hc18'
  refine W_skip (N_K (q2 (mV Z (aG Z (aG Z (q3 (W_ret (rt2 results156 Z Z ?_))))))))
  obtain ⟨G526, H, hsg526, hsr526⟩ := H.shut' (k := 0) rfl hchk16 aN aN
  have hY : Sp.TreePut list x = some (Sp.l5Put list x) := by (have hl : Sp.atI list x.path = some i := ia); simp [Sp.TreePut, hl, hz11, hc4', hc7', hc12', hc14', hc18']
  exact H.retP (by rw [hY]; exact ⟨_, rfl, hsr526⟩)
 intro hc10'
 try simp only [nrm] at hc10'
 refine rP Z (rP Z (rP Z (rP Z (rP Z (rP Z (R_pass Z (yl_un Z Z) (R_pass Z (yl_un Z Z) (rP Z (o_pick_f Z Z Z (q3 (W_false Z (W_skip (N_K (q2 (mV Z ?_)))))))))))))))
 refine o_loadagg_B 0 H isAgg40 sizeOf40 Z Z Z Z Z (o_call call190 Z Z (l5Put_c _ _ H.sub _ _ hlist _ x ⟨_, _, _, Z, hi1, hr1⟩ oM) ?_)
 rintro _ w20 ⟨G20, v20, _, g20, rfl, ⟨cs20, rfl, hchk20⟩, hp20, hq20, hs20⟩
 have H := H.growO g20 hp20 hq20 hs20; obtain ⟨av20, cv20, rfl⟩ := H.accShape (k := 0) rfl
 refine ⟨_, Z, ?_⟩
 have hpl := Sp.l5Put_len list x
 refine aG Z (q3 (W_seq (q2 (mV Z (o_call call54 Z Z (TreeValid_c _ _ (H.lendSubL [0]) _ _ (H.lendRdL (k := 0) (ks := [0]) Z Z hchk20 aN aN) ) ?_)))))
 rintro _ w21 ⟨rfl, ew21⟩; have H := H.step ew21; refine ⟨_, rfl, ?_⟩
 refine o_not Z Z (q3 ?_)
 refine W_cond Z ?_ ?_
 ·intro hc22
  try simp only [nrm] at hc22
  refine q2 (o_buildSlice H underlying24 sizeOf40 (fun w => ⟨_, zeroValue40 w, Z⟩) Z Z Z Z Z Z Z ?_); intro b23 w23 hb23 H
  have H := H.blkAcc 3 (k := 0) (n := 0) rfl rfl (by decide)
  refine aG Z (aG Z (q3 (W_ret (N_K_ret (rt2 results156 Z Z ?_)))))
  obtain ⟨G531, H, hsg531, hsr531⟩ := H.shut' (k := 0) rfl (Chk.nil (E := itemE) (sz := 3) (G := G20)) aN aN
  have hY : Sp.TreePut list x = none := by simp [Sp.TreePut, hc22]
  exact H.retP (by rw [hY]; exact ⟨_, rfl, hsr531⟩)
 intro hc22'
 try simp only [nrm] at hc22'
 refine W_skip (N_K (q2 (mV Z (aG Z (aG Z (q3 (W_ret (rt2 results156 Z Z ?_))))))))
 obtain ⟨G532, H, hsg532, hsr532⟩ := H.shut' (k := 0) rfl hchk20 aN aN
 have hY : Sp.TreePut list x = some (Sp.l5Put list x) := by (have hl : Sp.atI list x.path = none := Sp.at_none hc10'); simp [Sp.TreePut, hl, hc4', hc7', hc22']
 exact H.retP (by rw [hY]; exact ⟨_, rfl, hsr532⟩)
end Go.Proofs.Tst

namespace Go.Proofs.Tst
open Go Fw Tryz
theorem TreeDrop_c (w0 : World) (G0 : PH) (hG : PSub G0 w0) (vlist : Value) (list : List (BItem)) (hlist : RdItems G0 vlist list) (path : Bs) (hpath : path.length ≤ 16777216)  :
  Calls Tryz.prog 158 #[vlist, str path] w0 (RetP w0 G0 (fun G v => ∃ u, v = .tuple #[u, .bool (Sp.TreeDrop list path).isSome] ∧ RdItems G u ((Sp.TreeDrop list path).getD []))) := by
 obtain ⟨alist, klist, rfl⟩ := hlist.shape
 have hlimlist : list.length ≤ 1099511627776 := hlist.lim
 have H := Hp.init hG
 refine calls_of_W (l := [.slice alist list.length klist, str path]) func158 Z ntmps158 Z (q2 (aG Z (aG Z (q1 (mV Z (mV Z (o_call call118 Z Z (l5At_c _ _ H.sub _ _ hlist _ hpath ) ?_)))))))
 rintro _ w1 ⟨rfl, ew1⟩; have H := H.step ew1; refine ⟨_, rfl, ?_⟩
 refine aG Z (q3 (W_seq (q2 (mV Z (o_call call54 Z Z (TreeValid_c _ _ H.sub _ _ hlist ) ?_)))))
 rintro _ w2 ⟨rfl, ew2⟩; have H := H.step ew2; refine ⟨_, rfl, ?_⟩
 refine o_not Z Z (mV Z ?_)
 refine R_case (t := 14) Z ?_ ?_
 ·intro hc3
  try simp only [nrm] at hc3
  refine rP Z (rP Z (o_pick_t Z Z Z (q3 (W_true Z (q2 (o_buildSlice H underlying24 sizeOf40 (fun w => ⟨_, zeroValue40 w, Z⟩) Z Z Z Z Z Z Z ?_)))))); intro b4 w4 hb4 H
  have H := H.blkAcc 3 (k := 0) (n := 0) rfl rfl (by decide)
  refine aG Z (aG Z (q3 (W_ret (N_K_ret (rt2 results158 Z Z ?_)))))
  obtain ⟨G506, H, hsg506, hsr506⟩ := H.shut' (k := 0) rfl (Chk.nil (E := itemE) (sz := 3) (G := G0)) aN aN
  have hY : Sp.TreeDrop list path = none := by simp [Sp.TreeDrop, hc3]
  exact H.retP (by rw [hY]; exact ⟨_, rfl, hsr506⟩)
 intro hc3'
 try simp only [nrm] at hc3'
 refine gR Z (mV Z (gR Z (o_lss Z Z Z (o_pick_f Z Z Z (q3 ?_)))))
 refine W_cond Z ?_ ?_
 ·intro hc5
  try simp only [nrm] at hc5
  refine q2 (o_buildSlice H underlying24 sizeOf40 (fun w => ⟨_, zeroValue40 w, Z⟩) Z Z Z Z Z Z Z ?_); intro b6 w6 hb6 H
  have H := H.blkAcc 3 (k := 0) (n := 0) rfl rfl (by decide)
  refine aG Z (aG Z (q3 (W_ret (N_K_ret (rt2 results158 Z Z ?_)))))
  obtain ⟨G509, H, hsg509, hsr509⟩ := H.shut' (k := 0) rfl (Chk.nil (E := itemE) (sz := 3) (G := G0)) aN aN
  have hY : Sp.TreeDrop list path = none := by simp [Sp.TreeDrop, Sp.atI, Sp.at_none hc5]
  exact H.retP (by rw [hY]; exact ⟨_, rfl, hsr509⟩)
 intro hc5'
 try simp only [nrm] at hc5'
 obtain ⟨i, x, hi1, hi2, hi3, hi4, hi5⟩ := Sp.at_nat hc5'
 have hi2 : Sp.l5At list path = (i : Int) := hi2
 have hl : Sp.atI list path = some i := hi1
 have htl := Sp.tree_len hc3'
 refine W_skip (N_K (q2 (mV Z (o_call call43 Z Z (l5All_c _ _ H.sub _ _ hlist ) ?_))))
 rintro _ w7 ⟨G7, v7, _, g7, rfl, ⟨cs7, rfl, hchk7⟩, hp7, hq7, hs7⟩
 have H := H.growO g7 hp7 hq7 hs7; obtain ⟨av7, cv7, rfl⟩ := H.accShape (k := 0) rfl
 refine ⟨_, Z, ?_⟩
 refine aG Z (q3 (W_seq (W_drawK [] 9 H kR Z ?_))); intro w8 H; have hd8 := PLe.refl G7
 refine vM 0 Z Z (vM 1 Z Z ?_)
 have hac9 := H.accCap (k := 0) rfl
 refine RD_t 2 Z kR Z (fun _ hK => v_slice_to (j := i) underlying24 sizeOf40 Z Z hi2 oM) (vM 3 Z Z (vM 4 Z Z (RD_t 5 Z kR Z (fun _ hK => v_add Z Z oO) ?_)))
 have hac11 := H.accCap (k := 0) rfl
 refine RD_t 6 Z kR Z (fun _ hK => v_slice_from (i := (i + 1)) underlying24 sizeOf40 Z Z oM oM) ?_
 refine RD_run [7] kR Z (RDs.cons Z ?_ RDs.nil)
 refine o_append_del 0 H i Z hchk7 (by intro z cs hz u hu; obtain ⟨_, _, _, rfl, _⟩ := hz; simp at hu; rcases hu with rfl | rfl | rfl <;> rfl) underlying24 typeInfo40 rfl rfl rfl rfl oM aN ?_; intro b12 w12 hb12 H hchk12; cases hb12
 refine R_nil (N_DK (Kn.of' H hd8 SubL.nil) (RD_t 8 Z kR Z (fun _ hK => v_assign Z) (RD_done kR (N_K (W_seq (q2 (mV Z (o_call call54 Z Z (TreeValid_c _ _ (H.lendSubL [0]) _ _ (H.lendRdL (k := 0) (ks := [0]) Z Z hchk12 aN aN) ) ?_))))))))
 rintro _ w13 ⟨rfl, ew13⟩; have H := H.step ew13; refine ⟨_, rfl, ?_⟩
 refine o_not Z Z (q3 ?_)
 refine W_cond Z ?_ ?_
 ·intro hc14
  try simp only [nrm] at hc14
  refine q2 (o_buildSlice H underlying24 sizeOf40 (fun w => ⟨_, zeroValue40 w, Z⟩) Z Z Z Z Z Z Z ?_); intro b15 w15 hb15 H
  have H := H.blkAcc 3 (k := 0) (n := 0) rfl rfl (by decide)
  refine aG Z (aG Z (q3 (W_ret (N_K_ret (rt2 results158 Z Z ?_)))))
  obtain ⟨G519, H, hsg519, hsr519⟩ := H.shut' (k := 0) rfl (Chk.nil (E := itemE) (sz := 3) (G := G7)) aN aN
  have hY : Sp.TreeDrop list path = none := by simp [Sp.TreeDrop, hl, hc14]
  exact H.retP (by rw [hY]; exact ⟨_, rfl, hsr519⟩)
 intro hc14'
 try simp only [nrm] at hc14'
 refine W_skip (N_K (q2 (mV Z (aG Z (aG Z (q3 (W_ret (rt2 results158 Z Z ?_))))))))
 obtain ⟨G520, H, hsg520, hsr520⟩ := H.shut' (k := 0) rfl hchk12 aN aN
 have hY : Sp.TreeDrop list path = some (list.take i ++ list.drop (i + 1)) := by simp [Sp.TreeDrop, hl, hc3', hc14']
 exact H.retP (by rw [hY]; exact ⟨_, rfl, hsr520⟩)
end Go.Proofs.Tst

namespace Go.Proofs.Tst
open Go Fw Tryz
theorem VolumeValid_c (w0 : World) (G0 : PH) (hG : PSub G0 w0) (cv : List Value) (v : BVol) (hv : volE G0 v cv)  :
  Calls Tryz.prog 157 #[.agg cv.toArray] w0 (Rets w0 (.bool (Sp.VolumeValid v))) := by
 obtain ⟨a1, m1, c1, a1', m1', c1', rfl, hr1, hr1'⟩ := hv; have hn_hr1 := hr1.len; have hx_hr1 : _ ≤ 1099511627776 := hr1.lim; have hn_hr1q := hr1'.len; have hx_hr1q : _ ≤ 1099511627776 := hr1'.lim
 have H := Hp.init hG
 refine calls_of_W (l := [_]) func157 Z ntmps157 Z (q2 (o_box H Z Z Z ?_)); intro b2 w2 hb2 H
 refine aG Z (q3 (W_seq (q2 (o_fieldAddr 0 runUnderlying103 Z sizeOf23 Z Z Z (o_load_B 0 H isAgg23 Z Z Z Z (o_call call53 Z Z (StoreValid_c _ _ H.sub _ _ hr1 ) ?_))))))
 rintro _ w3 ⟨rfl, ew3⟩; have H := H.step ew3; refine ⟨_, rfl, ?_⟩
 refine o_not Z Z (mV Z ?_)
 refine R_case (t := 8) Z ?_ ?_
 ·intro hc4
  try simp only [nrm] at hc4
  refine rP Z (rP Z (rP Z (rP Z (o_pick_t Z Z Z (mV Z (rP Z (rP Z (rP Z (rP Z (rP Z (rP Z (o_pick_t Z Z Z (q3 (W_true Z (q2 ?_)))))))))))))))
  refine aG Z (q3 (W_ret (N_K_ret (rt1 results157 Z ?_))))
  exact H.rets (congrArg Value.bool (by simp [Sp.VolumeValid, hc4]))
 intro hc4'
 try simp only [nrm] at hc4'
 refine gR Z (o_fieldAddr 1 runUnderlying103 Z sizeOf24 Z Z Z (gR Z (o_load_B 0 H isAgg24 Z Z Z Z (gR Z (o_call call54 Z Z (TreeValid_c _ _ H.sub _ _ hr1' ) ?_)))))
 rintro _ w5 ⟨rfl, ew5⟩; have H := H.step ew5; refine ⟨_, rfl, ?_⟩
 refine gR Z (o_not Z Z (o_pick_f Z Z Z (mV Z ?_)))
 refine R_case (t := 14) Z ?_ ?_
 ·intro hc6
  try simp only [nrm] at hc6
  refine rP Z (rP Z (rP Z (rP Z (rP Z (rP Z (o_pick_t Z Z Z (q3 (W_true Z (q2 (aG Z (q3 (W_ret (N_K_ret (rt1 results157 Z ?_))))))))))))))
  exact H.rets (congrArg Value.bool (by simp [Sp.VolumeValid, hc6]))
 intro hc6'
 try simp only [nrm] at hc6'
 refine gR Z (o_fieldAddr 0 runUnderlying103 Z sizeOf23 Z Z Z (gR Z (o_load_B 0 H isAgg23 Z Z Z Z (gR Z (o_fieldAddr 1 runUnderlying103 Z sizeOf24 Z Z Z (gR Z (o_load_B 0 H isAgg24 Z Z Z Z (gR Z (o_call call55 Z Z (l11Files_c _ _ H.sub _ _ hr1 _ _ hr1' ) ?_)))))))))
 rintro _ w7 ⟨rfl, ew7⟩; have H := H.step ew7; refine ⟨_, rfl, ?_⟩
 refine gR Z (o_not Z Z (o_pick_f Z Z Z (q3 ?_)))
 refine W_cond Z ?_ ?_
 ·intro hc8
  try simp only [nrm] at hc8
  refine q2 (aG Z (q3 (W_ret (N_K_ret (rt1 results157 Z ?_)))))
  exact H.rets (congrArg Value.bool (by simp [Sp.VolumeValid, hc8]))
 intro hc8'
 try simp only [nrm] at hc8'
 refine W_skip (N_K (W_seq (q2 (aG Z (q3 (W_block ?_))))))
 obtain ⟨ln9, hln9, H⟩ := H.name (k := 0) rfl
 refine W_lp (hf := (Sub.cons (t := 1) Z Sub.nil)) (J := fun M w m => ∃ (k : Nat) (G : PH), M = [(3, .int .i64 (k : Int))] ∧ PLe G0 G ∧ Hp w0 G0 [] w G [blk b2 (cl ln9 103)] ∧ (k ≤ v.store.length ∧ (v.store.take k).all (Sp.usesOk v.tree) = true) ∧ m = (v.store.length - k)) (h0 := ⟨0, _, Z, PLe.refl _, H, ?inv, Z⟩) (round := ?round)
 case inv => exact ⟨by omega, by simp⟩
 case round =>
  rintro _ w10 _ ⟨k, G10, rfl, hle10, H, hinv10, rfl⟩
  subst hln9
  have hr1 := hr1.up hle10
  have hr1' := hr1'.up hle10
  obtain ⟨hk, hall⟩ := hinv10
  refine W_seq (q2 (mV Z (o_fieldAddr 0 runUnderlying103 Z sizeOf23 Z Z Z (o_load_B 0 H isAgg23 Z Z Z Z (o_len_slice underlying23 Z Z (o_lss Z Z Z (q3 ?_)))))))
  refine W_cond Z ?_ ?_
  ·intro hc11
   try simp only [nrm] at hc11
   refine W_skip (N_K (W_seq (W_block (W_seq (W_drawK [0] 16 H kR Z ?_))))); intro w12 H; have hd12 := PLe.refl G10
   refine RD_t 0 Z kR Z (fun _ hK => v_fieldAddr 1 runUnderlying103 Z sizeOf24 Z Z) (RD_t 1 Z kR Z (fun _ hK => v_load_B 0 hK isAgg24 Z Z Z) (RD_t 2 Z kR Z (fun _ hK => v_fieldAddr 0 runUnderlying103 Z sizeOf23 Z Z) (RD_t 3 Z kR Z (fun _ hK => v_load_B 0 hK isAgg23 Z Z Z) (vM 4 Z Z ?_))))
   have hl13 := hr1.len
   obtain ⟨b13, o13, z13, q13, ha13, hz13, hq13, hE13, hrow13, _⟩ := hr1.at (i := k) oM
   clear hq13
   obtain ⟨a13, m13, c13, rfl, hi13, hr13, hj13⟩ := hE13; have hn_hr13 := hr13.len; have hx_hr13 : _ ≤ 1099511627776 := hr13.lim
   refine RD_t 5 Z kR Z (fun _ hK => v_index_P (i := k) ha13 underlying23 sizeOf42 Z Z Z oM) (RD_t 6 Z kR Z (fun _ hK => v_fieldAddr 0 runUnderlying42 Z sizeOf3 Z Z) (RD_t 7 Z kR Z (fun _ hK => v_load_P hK isAgg3 Z (hrow13 0 _ Z)) (RD_t 9 Z kR Z (fun _ hK => v_fieldAddr 0 runUnderlying103 Z sizeOf23 Z Z) (RD_t 10 Z kR Z (fun _ hK => v_load_B 0 hK isAgg23 Z Z Z) (vM 11 Z Z ?_)))))
   have hl14 := hr1.len
   obtain ⟨b14, o14, z14, q14, ha14, hz14, hq14, hE14, hrow14, _⟩ := hr1.at (i := k) oM
   clear hq14
   obtain ⟨a14, m14, c14, rfl, hi14, hr14, hj14⟩ := hE14; have hn_hr14 := hr14.len; have hx_hr14 : _ ≤ 1099511627776 := hr14.lim
   have hzz14 : z13 = z14 := Option.some.inj (hz13.symm.trans hz14)
   subst hzz14
   refine RD_t 12 Z kR Z (fun _ hK => v_index_P (i := k) ha14 underlying23 sizeOf42 Z Z Z oM) (RD_t 13 Z kR Z (fun _ hK => v_fieldAddr 2 runUnderlying42 Z sizeOf3 Z Z) (RD_t 14 Z kR Z (fun _ hK => v_load_P hK isAgg3 Z (hrow14 2 _ Z)) ?_))
   refine RD_run [8] kR Z (RDs.cons Z ?_ RDs.nil)
   refine o_call call50 Z Z (l11Count_c _ _ H.sub _ _ hr1' _ hc6') ?_
   rintro _ w15 ⟨rfl, ew15⟩; have H := H.step ew15; refine ⟨_, rfl, ?_⟩
   refine R_nil (N_DK (Kn.of' H hd12 (SubL.cons 0 Z SubL.nil)) (RD_t 15 Z kR Z (fun _ hK => v_neq Z Z) (RD_done kR (N_K ?_))))
   refine W_cond Z ?_ ?_
   ·intro hc16
    try simp only [nrm] at hc16
    refine q2 (aG Z (q3 (W_ret (N_B_ret (N_K_ret (N_LP_ret (N_B_ret (N_K_ret (rt1 results157 Z ?_)))))))))
    exact H.rets (congrArg Value.bool (by rw [Sp.VolumeValid, Sp.all_false hz13 (by simp [Sp.usesOk, *])]; rfl))
   intro hc16'
   try simp only [nrm] at hc16'
   refine W_skip (N_B (N_K (W_region (mV Z (o_add Z Z Z oO (aG Z (R_nil ?_)))))))
   refine N_lp (hJ := ⟨k + 1, _, Z, hle10, H, ?inv, Z⟩) (hm := ?hm)
   case hm => omega
   case inv => exact ⟨by omega, Sp.all_take hall hz13 (by simp [Sp.usesOk, *])⟩
  intro hc11'
  try simp only [nrm] at hc11'
  refine W_exit (N_K_exit (N_LP_exit (N_B_same (N_K (q2 (aG Z (q3 (W_ret (rt1 results157 Z ?_)))))))))
  obtain rfl : k = v.store.length := by omega
  rw [List.take_length] at hall
  exact H.rets (congrArg Value.bool (by simp [Sp.VolumeValid, hall, hc4', hc6', hc8']))
theorem VolumeDir_c (w0 : World) (G0 : PH) (hG : PSub G0 w0) (cv : List Value) (v : BVol) (hv : volE G0 v cv) (path : Bs) (hpath : path.length ≤ 16777216)  :
  Calls Tryz.prog 125 #[.agg cv.toArray, str path] w0 (RetO w0 G0 (fun G val r => ∃ u u1, val = .tuple #[.agg #[u, u1], .bool (Sp.VolumeDir v path).isSome] ∧ AccOf heldE 3 42 (((Sp.VolumeDir v path).map (·.store)).getD []) G u r ∧ RdItems G u1 (((Sp.VolumeDir v path).map (·.tree)).getD []))) := by
 obtain ⟨a1, m1, c1, a1', m1', c1', rfl, hr1, hr1'⟩ := hv; have hn_hr1 := hr1.len; have hx_hr1 : _ ≤ 1099511627776 := hr1.lim; have hn_hr1q := hr1'.len; have hx_hr1q : _ ≤ 1099511627776 := hr1'.lim
 have H := Hp.init hG
 refine calls_of_W (l := [_, str path]) func125 Z ntmps125 Z (q2 (o_box H Z Z Z ?_)); intro b2 w2 hb2 H
 refine o_alloc H zeroValue103 Z Z ?_; intro b3 w3 hb3 H
 refine aG Z (q1 (o_fieldAddr 1 runUnderlying103 Z sizeOf24 Z Z Z (o_load_B 1 H isAgg24 Z Z Z Z (mV Z (o_build bf40 Z Z Z (o_call call156 Z Z (TreePut_c _ _ H.sub _ _ hr1' _ ⟨path, true, []⟩ ⟨_, _, _, Z, hpath, (RdS.nil _ _ _)⟩ ) ?_))))))
 rintro _ w4 ⟨G4, _, g4, rfl, u4_0, rfl, hr4_0⟩
 have H := H.grow g4
 have hr1 := hr1.up g4.le
 have hr1' := hr1'.up g4.le
 obtain ⟨a4_0, k4_0, rfl⟩ := hr4_0.shape; have hx_hr4_0 : _ ≤ 1099511627776 := hr4_0.lim
 refine ⟨_, Z, ?_⟩
 refine mV Z (o_extract Z Z Z (o_extract Z Z Z (aG Z (aG Z (q3 (W_seq (q2 (o_loadagg_B 1 H isAgg103 sizeOf103 Z Z Z Z Z (o_call call157 Z Z (VolumeValid_c _ _ H.sub _ v ⟨_, _, _, _, _, _, Z, hr1, hr1'⟩ ) ?_)))))))))
 rintro _ w5 ⟨rfl, ew5⟩; have H := H.step ew5; refine ⟨_, rfl, ?_⟩
 refine o_not Z Z (mV Z ?_)
 refine R_case (t := 19) Z ?_ ?_
 ·intro hc6
  try simp only [nrm] at hc6
  refine rP Z (rP Z (o_pick_t Z Z Z (q3 (W_true Z (q2 (o_build bf103 Z Z Z (o_store_B 0 H sizeOf103 Z Z Z Z Z Z Z Z ?_))))))); intro w7 H
  refine aG Z (q3 (W_ret (N_K_ret (ret_gen (rs := [.cell 4 103, .tmp 5]) (vs := [_, _]) results125 ⟨⟨_, Z, load_blk 0 H isAgg103 sizeOf103 Z Z Z⟩, Z, trivial⟩ ?_))))
  have hN : Sp.VolumeDir v path = none := by simp [Sp.VolumeDir, hc6]
  have H := H.addNil 42 3
  exact H.retO (k := 0) rfl (by rw [hN]; exact ⟨_, _, rfl, AccOf.mk rfl Chk.nil, RdS.nil _ _ _⟩) (acc_nd _ _ _ _ _)
 intro hc6'
 try simp only [nrm] at hc6'
 refine gR Z (mV Z (gR Z (o_not Z Z (o_pick_f Z Z Z (q3 ?_)))))
 refine W_cond Z ?_ ?_
 ·intro hc8
  try simp only [nrm] at hc8
  refine q2 (o_build bf103 Z Z Z (o_store_B 0 H sizeOf103 Z Z Z Z Z Z Z Z ?_)); intro w9 H
  refine aG Z (q3 (W_ret (N_K_ret (ret_gen (rs := [.cell 4 103, .tmp 5]) (vs := [_, _]) results125 ⟨⟨_, Z, load_blk 0 H isAgg103 sizeOf103 Z Z Z⟩, Z, trivial⟩ ?_))))
  have hN : Sp.VolumeDir v path = none := by (have hno : Sp.TreePut v.tree ⟨path, true, []⟩ = none := by simpa using hc8); simp [Sp.VolumeDir, hno]
  have H := H.addNil 42 3
  exact H.retO (k := 0) rfl (by rw [hN]; exact ⟨_, _, rfl, AccOf.mk rfl Chk.nil, RdS.nil _ _ _⟩) (acc_nd _ _ _ _ _)
 intro hc8'
 try simp only [nrm] at hc8'
 refine W_skip (N_K (q2 (o_fieldAddr 0 runUnderlying103 Z sizeOf23 Z Z Z (o_load_B 1 H isAgg23 Z Z Z Z (o_call call79 Z Z (l3Copy_c _ _ H.sub _ _ hr1 ) ?_)))))
 rintro _ w10 ⟨G10, v10, _, g10, rfl, ⟨cs10, rfl, hchk10⟩, hp10, hq10, hs10⟩
 have H := H.growO g10 hp10 hq10 hs10; obtain ⟨av10, cv10, rfl⟩ := H.accShape (k := 0) rfl
 have hr4_0 := hr4_0.up g10.le
 refine ⟨_, Z, ?_⟩
 refine mV Z (o_build bf103 Z Z Z (o_store_B 1 H sizeOf103 Z Z Z Z Z Z Z Z ?_)); intro w11 H
 refine aG Z (q3 (W_ret (ret_gen (rs := [.cell 4 103, .tmp 5]) (vs := [_, _]) results125 ⟨⟨_, Z, load_blk 1 H isAgg103 sizeOf103 Z Z Z⟩, Z, trivial⟩ ?_)))
 have hY : Sp.VolumeDir v path = some ⟨v.store, (Sp.TreePut v.tree ⟨path, true, []⟩).getD []⟩ := by (obtain ⟨p, hp⟩ := Option.isSome_iff_exists.1 hc8'); simp [Sp.VolumeDir, hp, hc6']
 exact H.retO (k := 0) rfl (by rw [hY]; exact ⟨_, _, rfl, AccOf.mk aN hchk10, hr4_0⟩) (acc_nd _ _ _ _ _)
theorem l11Write_c (w0 : World) (G0 : PH) (hG : PSub G0 w0) (cv : List Value) (v : BVol) (hv : volE G0 v cv) (path : Bs) (hpath : path.length ≤ 16777216) (vbytes : Value) (bytes : List (Int)) (hbytes : RdI G0 vbytes bytes) (hS : bytes.length ≤ 1000000) :
  Calls Tryz.prog 131 #[.agg cv.toArray, str path, vbytes] w0 (RetO w0 G0 (fun G val r => ∃ u u1, val = .tuple #[.agg #[u, u1], .bool (Sp.l11Write v path bytes).isSome] ∧ AccOf heldE 3 42 (((Sp.l11Write v path bytes).map (·.store)).getD []) G u r ∧ RdItems G u1 (((Sp.l11Write v path bytes).map (·.tree)).getD []))) := by
 obtain ⟨a1, m1, c1, a1', m1', c1', rfl, hr1, hr1'⟩ := hv; have hn_hr1 := hr1.len; have hx_hr1 : _ ≤ 1099511627776 := hr1.lim; have hn_hr1q := hr1'.len; have hx_hr1q : _ ≤ 1099511627776 := hr1'.lim
 obtain ⟨abytes, kbytes, rfl⟩ := hbytes.shape
 have hlimbytes : bytes.length ≤ 1099511627776 := hbytes.lim
 have H := Hp.init hG
 refine calls_of_W (l := [_, str path, .slice abytes bytes.length kbytes]) func131 Z ntmps131 Z (q2 (o_box H Z Z Z ?_)); intro b2 w2 hb2 H
 refine o_alloc H zeroValue103 Z Z ?_; intro b3 w3 hb3 H
 refine aG Z (q1 (o_fieldAddr 0 runUnderlying103 Z sizeOf23 Z Z Z (o_load_B 1 H isAgg23 Z Z Z Z (mV Z (o_call call160 Z Z (FileStore_c _ _ H.sub _ _ hr1 _ _ hbytes oM) ?_)))))
 rintro _ w4 ⟨G4, _, _, g4, rfl, ⟨u4_0, u4_1, rfl, ⟨cs4, rfl, hchk4⟩, hr4_1⟩, hp4, hq4, hs4⟩
 have H := H.growO g4 hp4 hq4 hs4; obtain ⟨av4, cv4, rfl⟩ := H.accShape (k := 0) rfl
 have hr1' := hr1'.up g4.le
 obtain ⟨a4_1, k4_1, rfl⟩ := hr4_1.shape; have hx_hr4_1 : _ ≤ 1099511627776 := hr4_1.lim
 refine ⟨_, Z, ?_⟩
 have hfl := Sp.fileStore_len v.store bytes
 refine mV Z (o_extract Z Z Z (o_extract Z Z Z (o_extract Z Z Z (aG Z (aG Z (aG Z (q1 (o_fieldAddr 1 runUnderlying103 Z sizeOf24 Z Z Z (o_load_B 2 H isAgg24 Z Z Z Z (mV Z (mV Z (o_build bf40 Z Z Z (o_call call156 Z Z (TreePut_c _ _ H.sub _ _ hr1' _ ⟨path, false, ((Sp.FileStore v.store bytes).map (·.2)).getD []⟩ ⟨_, _, _, Z, hpath, hr4_1⟩ ) ?_)))))))))))))
 rintro _ w5 ⟨G5, _, g5, rfl, u5_0, rfl, hr5_0⟩
 have H := H.grow g5
 have hr1' := hr1'.up g5.le
 have hchk4 := hchk4.up g5.le
 obtain ⟨a5_0, k5_0, rfl⟩ := hr5_0.shape; have hx_hr5_0 : _ ≤ 1099511627776 := hr5_0.lim
 refine ⟨_, Z, ?_⟩
 refine mV Z (o_extract Z Z Z (o_extract Z Z Z (aG Z (aG Z (q3 (W_seq (q2 (mV Z (o_not Z Z (mV Z ?_))))))))))
 refine R_case (t := 35) Z ?_ ?_
 ·intro hc6
  try simp only [nrm] at hc6
  refine rP Z (rP Z (o_pick_t Z Z Z (q3 (W_true Z (q2 (o_build bf103 Z Z Z (o_store_B 1 H sizeOf103 Z Z Z Z Z Z Z Z ?_))))))); intro w7 H
  refine aG Z (q3 (W_ret (N_K_ret (ret_gen (rs := [.cell 6 103, .tmp 7]) (vs := [_, _]) results131 ⟨⟨_, Z, load_blk 1 H isAgg103 sizeOf103 Z Z Z⟩, Z, trivial⟩ ?_))))
  have hN : Sp.l11Write v path bytes = none := by exact Sp.l11Write_1 hc6
  have H := H.addNil 42 3
  exact H.retO (k := 0) rfl (by rw [hN]; exact ⟨_, _, rfl, AccOf.mk rfl Chk.nil, RdS.nil _ _ _⟩) (acc_nd _ _ _ _ _)
 intro hc6'
 try simp only [nrm] at hc6'
 refine gR Z (mV Z (gR Z (o_not Z Z (o_pick_f Z Z Z (q3 ?_)))))
 refine W_cond Z ?_ ?_
 ·intro hc8
  try simp only [nrm] at hc8
  refine q2 (o_build bf103 Z Z Z (o_store_B 1 H sizeOf103 Z Z Z Z Z Z Z Z ?_)); intro w9 H
  refine aG Z (q3 (W_ret (N_K_ret (ret_gen (rs := [.cell 6 103, .tmp 7]) (vs := [_, _]) results131 ⟨⟨_, Z, load_blk 1 H isAgg103 sizeOf103 Z Z Z⟩, Z, trivial⟩ ?_))))
  have hN : Sp.l11Write v path bytes = none := by exact Sp.l11Write_2 hc8
  have H := H.addNil 42 3
  exact H.retO (k := 0) rfl (by rw [hN]; exact ⟨_, _, rfl, AccOf.mk rfl Chk.nil, RdS.nil _ _ _⟩) (acc_nd _ _ _ _ _)
 intro hc8'
 try simp only [nrm] at hc8'
 refine W_skip (N_K (q2 (o_fieldAddr 1 runUnderlying103 Z sizeOf24 Z Z Z (o_load_B 2 H isAgg24 Z Z Z Z (mV Z (o_call call161 Z Z (l11Ids_c _ _ H.sub _ _ hr1' _ hpath ) ?_))))))
 rintro _ w10 ⟨G10, u10_0, g10, rfl, hr10_0⟩
 have H := H.grow g10
 have hchk4 := hchk4.up g10.le
 have hr5_0 := hr5_0.up g10.le
 obtain ⟨a10_0, k10_0, rfl⟩ := hr10_0.shape; have hx_hr10_0 : _ ≤ 1099511627776 := hr10_0.lim
 refine ⟨_, Z, ?_⟩
 refine aG Z (q3 (W_seq (q2 (mV Z (o_len_slice underlying24 Z Z (o_gtr Z Z Z (q3 ?_)))))))
 refine W_cond Z ?_ ?_
 ·intro hc11
  try simp only [nrm] at hc11
  refine q2 (mV Z (mV Z (o_index_P 0 hr10_0 underlying24 sizeOf40 Z Z Z Z aN ?_))); intro b12 o12 z12 q12 hz12 hE12 hrow12
  obtain ⟨a12, m12, c12, rfl, hi12, hr12⟩ := hE12; have hy_hi12 : _ ≤ 16777216 := hi12; have hn_hr12 := hr12.len; have hx_hr12 : _ ≤ 1099511627776 := hr12.lim
  refine o_fieldAddr 2 runUnderlying40 Z sizeOf38 Z Z Z (o_load_P H isAgg38 Z Z (hrow12 2 _ Z) ?_)
  obtain ⟨G14, H, hsg14, hsr14⟩ := H.shut' (k := 0) rfl hchk4 aN aN
  have hr5_0 := hr5_0.up hsg14
  have hr12 := hr12.up hsg14
  refine o_call call159 Z Z (FileFree_c _ _ H.sub _ _ hsr14 _ _ hr12 ) ?_
  rintro _ w13 ⟨G13, _, _, g13, rfl, ⟨u13_0, rfl, ⟨cs13, rfl, hchk13⟩⟩, hp13, hq13, hs13⟩
  have H := H.growO g13 hp13 hq13 hs13; obtain ⟨av13, cv13, rfl⟩ := H.accShape (k := 0) rfl
  have hr5_0 := hr5_0.up g13.le
  refine ⟨_, Z, ?_⟩
  refine mV Z (o_extract Z Z Z (o_extract Z Z Z (aG Z (aG Z (q3 (W_region (mV Z (aG Z (q1 (mV Z (mV Z (o_build bf103 Z Z Z (o_store_B 1 H sizeOf103 Z Z Z Z Z Z Z Z ?_))))))))))))); intro w15 H
  refine aG Z (q3 (W_ret (ret_gen (rs := [.cell 6 103, .tmp 7]) (vs := [_, _]) results131 ⟨⟨_, Z, load_blk 1 H isAgg103 sizeOf103 Z Z Z⟩, Z, trivial⟩ ?_)))
  have hY : Sp.l11Write v path bytes = some ⟨(Sp.FileFree (((Sp.FileStore v.store bytes).map (·.1)).getD []) z12.ids).getD [], (Sp.TreePut v.tree ⟨path, false, ((Sp.FileStore v.store bytes).map (·.2)).getD []⟩).getD []⟩ := by rw [Sp.l11Write_3 hc6' hc8', Sp.freeOld_at hz12]
  exact H.retO (k := 0) rfl (by rw [hY]; exact ⟨_, _, rfl, AccOf.mk aN hchk13, hr5_0⟩) (acc_nd _ _ _ _ _)
 intro hc11'
 try simp only [nrm] at hc11'
 refine W_skip (N_K (q2 (mV Z (mV Z (o_build bf103 Z Z Z (o_store_B 1 H sizeOf103 Z Z Z Z Z Z Z Z ?_)))))); intro w16 H
 refine aG Z (q3 (W_ret (ret_gen (rs := [.cell 6 103, .tmp 7]) (vs := [_, _]) results131 ⟨⟨_, Z, load_blk 1 H isAgg103 sizeOf103 Z Z Z⟩, Z, trivial⟩ ?_)))
 have hY : Sp.l11Write v path bytes = some ⟨((Sp.FileStore v.store bytes).map (·.1)).getD [], (Sp.TreePut v.tree ⟨path, false, ((Sp.FileStore v.store bytes).map (·.2)).getD []⟩).getD []⟩ := by rw [Sp.l11Write_3 hc6' hc8', Sp.freeOld_nil oM]
 exact H.retO (k := 0) rfl (by rw [hY]; exact ⟨_, _, rfl, AccOf.mk aN hchk4, hr5_0⟩) (acc_nd _ _ _ _ _)
theorem VolumeWrite_c (w0 : World) (G0 : PH) (hG : PSub G0 w0) (cv : List Value) (v : BVol) (hv : volE G0 v cv) (path : Bs) (hpath : path.length ≤ 16777216) (vbytes : Value) (bytes : List (Int)) (hbytes : RdI G0 vbytes bytes)  :
  Calls Tryz.prog 128 #[.agg cv.toArray, str path, vbytes] w0 (RetO w0 G0 (fun G val r => ∃ u u1, val = .tuple #[.agg #[u, u1], .bool (Sp.VolumeWrite v path bytes).isSome] ∧ AccOf heldE 3 42 (((Sp.VolumeWrite v path bytes).map (·.store)).getD []) G u r ∧ RdItems G u1 (((Sp.VolumeWrite v path bytes).map (·.tree)).getD []))) := by
 obtain ⟨a1, m1, c1, a1', m1', c1', rfl, hr1, hr1'⟩ := hv; have hn_hr1 := hr1.len; have hx_hr1 : _ ≤ 1099511627776 := hr1.lim; have hn_hr1q := hr1'.len; have hx_hr1q : _ ≤ 1099511627776 := hr1'.lim
 obtain ⟨abytes, kbytes, rfl⟩ := hbytes.shape
 have hlimbytes : bytes.length ≤ 1099511627776 := hbytes.lim
 have H := Hp.init hG
 refine calls_of_W (l := [_, str path, .slice abytes bytes.length kbytes]) func128 Z ntmps128 Z (q2 (o_box H Z Z Z ?_)); intro b2 w2 hb2 H
 refine o_alloc H zeroValue103 Z Z ?_; intro b3 w3 hb3 H
 refine aG Z (q3 (W_seq (q2 (o_loadagg_B 1 H isAgg103 sizeOf103 Z Z Z Z Z (o_call call157 Z Z (VolumeValid_c _ _ H.sub _ v ⟨_, _, _, _, _, _, Z, hr1, hr1'⟩ ) ?_)))))
 rintro _ w4 ⟨rfl, ew4⟩; have H := H.step ew4; refine ⟨_, rfl, ?_⟩
 refine o_not Z Z (mV Z ?_)
 refine R_case (t := 11) Z ?_ ?_
 ·intro hc5
  try simp only [nrm] at hc5
  refine rP Z (rP Z (rP Z (o_pick_t Z Z Z (q3 (W_true Z (q2 (o_build bf103 Z Z Z (o_store_B 0 H sizeOf103 Z Z Z Z Z Z Z Z ?_)))))))); intro w6 H
  refine aG Z (q3 (W_ret (N_K_ret (ret_gen (rs := [.cell 6 103, .tmp 7]) (vs := [_, _]) results128 ⟨⟨_, Z, load_blk 0 H isAgg103 sizeOf103 Z Z Z⟩, Z, trivial⟩ ?_))))
  have hN : Sp.VolumeWrite v path bytes = none := by simp [Sp.VolumeWrite, hc5]
  have H := H.addNil 42 3
  exact H.retO (k := 0) rfl (by rw [hN]; exact ⟨_, _, rfl, AccOf.mk rfl Chk.nil, RdS.nil _ _ _⟩) (acc_nd _ _ _ _ _)
 intro hc5'
 try simp only [nrm] at hc5'
 refine gR Z (mV Z (gR Z (o_call call130 Z Z (FileValid_c _ _ H.sub _ _ hbytes ) ?_)))
 rintro _ w7 ⟨rfl, ew7⟩; have H := H.step ew7; refine ⟨_, rfl, ?_⟩
 refine gR Z (o_not Z Z (o_pick_f Z Z Z (q3 ?_)))
 refine W_cond Z ?_ ?_
 ·intro hc8
  try simp only [nrm] at hc8
  refine q2 (o_build bf103 Z Z Z (o_store_B 0 H sizeOf103 Z Z Z Z Z Z Z Z ?_)); intro w9 H
  refine aG Z (q3 (W_ret (N_K_ret (ret_gen (rs := [.cell 6 103, .tmp 7]) (vs := [_, _]) results128 ⟨⟨_, Z, load_blk 0 H isAgg103 sizeOf103 Z Z Z⟩, Z, trivial⟩ ?_))))
  have hN : Sp.VolumeWrite v path bytes = none := by simp [Sp.VolumeWrite, hc8]
  have H := H.addNil 42 3
  exact H.retO (k := 0) rfl (by rw [hN]; exact ⟨_, _, rfl, AccOf.mk rfl Chk.nil, RdS.nil _ _ _⟩) (acc_nd _ _ _ _ _)
 intro hc8'
 try simp only [nrm] at hc8'
 have hfl := Sp.file_len hc8'
 refine W_skip (N_K (q2 (o_loadagg_B 1 H isAgg103 sizeOf103 Z Z Z Z Z (mV Z (mV Z (o_call call131 Z Z (l11Write_c _ _ H.sub _ v ⟨_, _, _, _, _, _, Z, hr1, hr1'⟩ _ hpath _ _ hbytes oM) ?_))))))
 rintro _ w10 ⟨G10, _, _, g10, rfl, ⟨u10_0, u10_1, rfl, ⟨cs10, rfl, hchk10⟩, hr10_1⟩, hp10, hq10, hs10⟩
 have H := H.growO g10 hp10 hq10 hs10; obtain ⟨av10, cv10, rfl⟩ := H.accShape (k := 0) rfl
 obtain ⟨a10_1, k10_1, rfl⟩ := hr10_1.shape; have hx_hr10_1 : _ ≤ 1099511627776 := hr10_1.lim
 refine ⟨_, Z, ?_⟩
 refine o_extract Z Z Z (o_extract Z Z Z (o_store_B 1 H sizeOf103 Z Z Z Z Z Z Z Z ?_)); intro w11 H
 refine aG Z (q3 (W_ret (ret_gen (rs := [.cell 6 103, .tmp 7]) (vs := [_, _]) results128 ⟨⟨_, Z, load_blk 1 H isAgg103 sizeOf103 Z Z Z⟩, Z, trivial⟩ ?_)))
 have hY : Sp.VolumeWrite v path bytes = Sp.l11Write v path bytes := by simp [Sp.VolumeWrite, hc5', hc8']
 exact H.retO (k := 0) rfl (by rw [hY]; exact ⟨_, _, rfl, AccOf.mk aN hchk10, hr10_1⟩) (acc_nd _ _ _ _ _)
theorem VolumeDrop_c (w0 : World) (G0 : PH) (hG : PSub G0 w0) (cv : List Value) (v : BVol) (hv : volE G0 v cv) (path : Bs) (hpath : path.length ≤ 16777216)  :
  Calls Tryz.prog 126 #[.agg cv.toArray, str path] w0 (RetO w0 G0 (fun G val r => ∃ u u1, val = .tuple #[.agg #[u, u1], .bool (Sp.VolumeDrop v path).isSome] ∧ AccOf heldE 3 42 (((Sp.VolumeDrop v path).map (·.store)).getD []) G u r ∧ RdItems G u1 (((Sp.VolumeDrop v path).map (·.tree)).getD []))) := by
 obtain ⟨a1, m1, c1, a1', m1', c1', rfl, hr1, hr1'⟩ := hv; have hn_hr1 := hr1.len; have hx_hr1 : _ ≤ 1099511627776 := hr1.lim; have hn_hr1q := hr1'.len; have hx_hr1q : _ ≤ 1099511627776 := hr1'.lim
 have H := Hp.init hG
 refine calls_of_W (l := [_, str path]) func126 Z ntmps126 Z (q2 (o_box H Z Z Z ?_)); intro b2 w2 hb2 H
 refine o_alloc H zeroValue103 Z Z ?_; intro b3 w3 hb3 H
 refine aG Z (q1 (o_fieldAddr 1 runUnderlying103 Z sizeOf24 Z Z Z (o_load_B 1 H isAgg24 Z Z Z Z (mV Z (o_call call158 Z Z (TreeDrop_c _ _ H.sub _ _ hr1' _ hpath ) ?_)))))
 rintro _ w4 ⟨G4, _, g4, rfl, u4_0, rfl, hr4_0⟩
 have H := H.grow g4
 have hr1 := hr1.up g4.le
 have hr1' := hr1'.up g4.le
 obtain ⟨a4_0, k4_0, rfl⟩ := hr4_0.shape; have hx_hr4_0 : _ ≤ 1099511627776 := hr4_0.lim
 refine ⟨_, Z, ?_⟩
 refine mV Z (o_extract Z Z Z (o_extract Z Z Z (aG Z (aG Z (q3 (W_seq (q2 (o_loadagg_B 1 H isAgg103 sizeOf103 Z Z Z Z Z (o_call call157 Z Z (VolumeValid_c _ _ H.sub _ v ⟨_, _, _, _, _, _, Z, hr1, hr1'⟩ ) ?_)))))))))
 rintro _ w5 ⟨rfl, ew5⟩; have H := H.step ew5; refine ⟨_, rfl, ?_⟩
 refine o_not Z Z (mV Z ?_)
 refine R_case (t := 20) Z ?_ ?_
 ·intro hc6
  try simp only [nrm] at hc6
  refine rP Z (rP Z (o_pick_t Z Z Z (q3 (W_true Z (q2 (o_build bf103 Z Z Z (o_store_B 0 H sizeOf103 Z Z Z Z Z Z Z Z ?_))))))); intro w7 H
  refine aG Z (q3 (W_ret (N_K_ret (ret_gen (rs := [.cell 4 103, .tmp 5]) (vs := [_, _]) results126 ⟨⟨_, Z, load_blk 0 H isAgg103 sizeOf103 Z Z Z⟩, Z, trivial⟩ ?_))))
  have hN : Sp.VolumeDrop v path = none := by simp [Sp.VolumeDrop, hc6]
  have H := H.addNil 42 3
  exact H.retO (k := 0) rfl (by rw [hN]; exact ⟨_, _, rfl, AccOf.mk rfl Chk.nil, RdS.nil _ _ _⟩) (acc_nd _ _ _ _ _)
 intro hc6'
 try simp only [nrm] at hc6'
 refine gR Z (mV Z (gR Z (o_not Z Z (o_pick_f Z Z Z (q3 ?_)))))
 refine W_cond Z ?_ ?_
 ·intro hc8
  try simp only [nrm] at hc8
  refine q2 (o_build bf103 Z Z Z (o_store_B 0 H sizeOf103 Z Z Z Z Z Z Z Z ?_)); intro w9 H
  refine aG Z (q3 (W_ret (N_K_ret (ret_gen (rs := [.cell 4 103, .tmp 5]) (vs := [_, _]) results126 ⟨⟨_, Z, load_blk 0 H isAgg103 sizeOf103 Z Z Z⟩, Z, trivial⟩ ?_))))
  have hN : Sp.VolumeDrop v path = none := by (have hno : Sp.TreeDrop v.tree path = none := by simpa using hc8); simp [Sp.VolumeDrop, hno]
  have H := H.addNil 42 3
  exact H.retO (k := 0) rfl (by rw [hN]; exact ⟨_, _, rfl, AccOf.mk rfl Chk.nil, RdS.nil _ _ _⟩) (acc_nd _ _ _ _ _)
 intro hc8'
 try simp only [nrm] at hc8'
 obtain ⟨i, x, ia, ib, ic, ie⟩ := Sp.treeDrop_at hc8'
 refine W_skip (N_K (W_seq (W_drawK [0, 1] 17 H kR Z ?_))); intro w10 H; have hd10 := PLe.refl G4
 refine RD_t 0 Z kR Z (fun _ hK => v_fieldAddr 0 runUnderlying103 Z sizeOf23 Z Z) (RD_t 1 Z kR Z (fun _ hK => v_load_B 1 hK isAgg23 Z Z Z) (RD_t 2 Z kR Z (fun _ hK => v_fieldAddr 1 runUnderlying103 Z sizeOf24 Z Z) (RD_t 3 Z kR Z (fun _ hK => v_load_B 1 hK isAgg24 Z Z Z) (RD_t 4 Z kR Z (fun _ hK => v_fieldAddr 1 runUnderlying103 Z sizeOf24 Z Z) (RD_t 5 Z kR Z (fun _ hK => v_load_B 1 hK isAgg24 Z Z Z) (vM 6 Z Z ?_))))))
 refine RD_run [7] kR Z (RDs.cons Z ?_ RDs.nil)
 refine o_call call118 Z Z (l5At_c _ _ H.sub _ _ hr1' _ hpath ) ?_
 rintro _ w11 ⟨rfl, ew11⟩; have H := H.step ew11; refine ⟨_, rfl, ?_⟩
 refine R_nil (N_DK (Kn.of' H hd10 (SubL.cons 0 Z (SubL.cons 1 Z SubL.nil))) ?_)
 have hl12 := hr1'.len
 obtain ⟨b12, o12, z12, q12, ha12, hz12, hq12, hE12, hrow12, _⟩ := hr1'.at (i := i) oM
 clear hq12
 obtain ⟨a12, m12, c12, rfl, hi12, hr12⟩ := hE12; have hy_hi12 : _ ≤ 16777216 := hi12; have hn_hr12 := hr12.len; have hx_hr12 : _ ≤ 1099511627776 := hr12.lim
 refine RD_t 8 Z kR Z (fun _ hK => v_index_P (i := i) ha12 underlying24 sizeOf40 Z Z ib oM) (RD_t 9 Z kR Z (fun _ hK => v_fieldAddr 2 runUnderlying40 Z sizeOf38 Z Z) (RD_t 10 Z kR Z (fun _ hK => v_load_P hK isAgg38 Z (hrow12 2 _ Z)) ?_))
 refine RD_run [11] kR Z (RDs.cons Z ?_ RDs.nil)
 refine o_call call159 Z Z (FileFree_c _ _ H.sub _ _ hr1 _ _ hr12 ) ?_
 rintro _ w13 ⟨G13, _, _, g13, rfl, ⟨u13_0, rfl, ⟨cs13, rfl, hchk13⟩⟩, hp13, hq13, hs13⟩
 have H := H.growO g13 hp13 hq13 hs13; obtain ⟨av13, cv13, rfl⟩ := H.accShape (k := 0) rfl
 have hr4_0 := hr4_0.up g13.le
 have hd10 := hd10.trans g13.le
 refine ⟨_, Z, ?_⟩
 refine R_nil (N_DK (Kn.of' H hd10 (SubL.cons 1 Z (SubL.cons 2 Z SubL.nil))) (vM 12 Z Z (RD_t 13 Z kR Z (fun _ hK => v_extract Z Z) (RD_t 14 Z kR Z (fun _ hK => v_extract Z Z) (RD_t 15 Z kR Z (fun _ hK => v_assign Z) (RD_t 16 Z kR Z (fun _ hK => v_assign Z) (RD_done kR (N_K (q2 (mV Z (mV Z (o_build bf103 Z Z Z (o_store_B 1 H sizeOf103 Z Z Z Z Z Z Z Z ?_))))))))))))); intro w14 H
 refine aG Z (q3 (W_ret (ret_gen (rs := [.cell 4 103, .tmp 5]) (vs := [_, _]) results126 ⟨⟨_, Z, load_blk 1 H isAgg103 sizeOf103 Z Z Z⟩, Z, trivial⟩ ?_)))
 have hY : Sp.VolumeDrop v path = some ⟨(Sp.FileFree v.store z12.ids).getD [], (Sp.TreeDrop v.tree path).getD []⟩ := by (obtain ⟨p, hp⟩ := Option.isSome_iff_exists.1 hc8'); simp [Sp.VolumeDrop, hc6', hp, ia, hz12]
 exact H.retO (k := 0) rfl (by rw [hY]; exact ⟨_, _, rfl, AccOf.mk aN hchk13, hr4_0⟩) (acc_nd _ _ _ _ _)
end Go.Proofs.Tst

namespace Go.Proofs.Tst
open Go Fw Tryz
theorem l91Path_c (w0 : World) (G0 : PH) (hG : PSub G0 w0) (rb : Nat) (ab : Option Addr) (mb kb : Nat) (bs : List UInt8) (p : Nat) (hbs : RdU G0 (.slice ab mb kb) bs) (hrb : w0.heap[rb]? = some (cl [.slice ab mb kb, .int .i64 (p : Int)] 107)) (hrn : G0 rb = none) (hp : p ≤ 10000000000)  :
  Calls Tryz.prog 127 #[.pointer (some ⟨rb, 0, none⟩)] w0 (RetM w0 G0 [rb] (fun G val Bs => ∃ (p' : Nat) (x : Fw.Bs), p' ≤ p + 2 ∧ val = str x ∧ x.length ≤ 16777216 ∧ Bs = [blk rb (cl [.slice ab mb kb, .int .i64 (p' : Int)] 107)])) := by
 have hlimbs : bs.length ≤ 1099511627776 := hbs.lim; obtain rfl : mb = bs.length := hbs.len
 have H := Hp.initM hG hrb hrn
 refine calls_of_W (l := [.pointer (some ⟨rb, 0, none⟩)]) func127 Z ntmps127 Z (q2 (aG Z (q3 (W_seq (q2 (mV Z (o_call call33 Z Z (pick_c _ _ H.sub _ _ _ _ _ _ hbs (H.blkIs (k := 0) Z).1 (H.blkIs (k := 0) Z).2 oM _ oO ) ?_)))))))
 rintro _ w1 ⟨G1, _, _, rfl, H1', ⟨p1, x1, hp1, rfl, hxb1, rfl⟩⟩
 have hbs := hbs.up H1'.le
 have H := H.borrow (k := 0) rfl H1'
 refine ⟨_, Z, ?_⟩
 refine o_eql Z Z Z (q3 ?_)
 refine W_cond Z ?_ ?_
 ·intro hc2
  try simp only [nrm] at hc2
  refine q2 (mV Z (o_buildSlice H underlying77 sizeOf9 (fun w => ⟨_, zeroValue9 w, Z⟩) Z Z Z Z Z Z Z ?_)); intro b3 w3 hb3 H
  have H := H.blkAcc 1 (k := 0) (n := 8) rfl rfl (by decide)
  have hchk5 := (((((((((Chk.nil (E := strE) (sz := 1) (G := G1)).snoc (show strE _ ([] : Fw.Bs) [str []] from ⟨rfl, by decide⟩) rfl).snoc (show strE _ ([97, 47, 47, 98] : Fw.Bs) [str [97, 47, 47, 98]] from ⟨rfl, by decide⟩) rfl).snoc (show strE _ ([47, 97] : Fw.Bs) [str [47, 97]] from ⟨rfl, by decide⟩) rfl).snoc (show strE _ ([97, 47] : Fw.Bs) [str [97, 47]] from ⟨rfl, by decide⟩) rfl).snoc (show strE _ ([65] : Fw.Bs) [str [65]] from ⟨rfl, by decide⟩) rfl).snoc (show strE _ ([97, 98, 99, 100, 101, 102] : Fw.Bs) [str [97, 98, 99, 100, 101, 102]] from ⟨rfl, by decide⟩) rfl).snoc (show strE _ ([97, 47, 98, 47, 99, 47, 100, 47, 101] : Fw.Bs) [str [97, 47, 98, 47, 99, 47, 100, 47, 101]] from ⟨rfl, by decide⟩) rfl).snoc (show strE _ ([97, 47, 98, 47, 99, 47, 100] : Fw.Bs) [str [97, 47, 98, 47, 99, 47, 100]] from ⟨rfl, by decide⟩) rfl)
  obtain ⟨G6, H, hsg6, hsr6⟩ := H.shutM (k := 0) (j := 0) rfl rfl hchk5 aN aN
  have hbs := hbs.up hsg6
  refine o_call call34 Z Z (of_c _ _ H.sub _ _ _ _ _ _ hbs (H.blkIs (k := 0) Z).1 (H.blkIs (k := 0) Z).2 oM _ _ hsr6 (by first | decide | (simp; done) | (simp; omega))) ?_
  rintro _ w4 ⟨G4, _, _, rfl, H4', ⟨p4, x4, hp4, rfl, hxs4, rfl⟩⟩
  have H := H.borrow (k := 0) rfl H4'
  refine ⟨_, Z, ?_⟩
  refine aG Z (q3 (W_ret (N_K_ret (rt1 results127 Z ?_))))
  exact H.retM ⟨_, _, by omega, rfl, (by assumption), rfl⟩
 intro hc2'
 try simp only [nrm] at hc2'
 refine W_skip (N_K (q2 (mV Z (o_buildSlice H underlying77 sizeOf9 (fun w => ⟨_, zeroValue9 w, Z⟩) Z Z Z Z Z Z Z ?_)))); intro b7 w7 hb7 H
 have H := H.blkAcc 1 (k := 0) (n := 8) rfl rfl (by decide)
 have hchk9 := (((((((((Chk.nil (E := strE) (sz := 1) (G := G1)).snoc (show strE _ ([97] : Fw.Bs) [str [97]] from ⟨rfl, by decide⟩) rfl).snoc (show strE _ ([98] : Fw.Bs) [str [98]] from ⟨rfl, by decide⟩) rfl).snoc (show strE _ ([97, 47, 120] : Fw.Bs) [str [97, 47, 120]] from ⟨rfl, by decide⟩) rfl).snoc (show strE _ ([97, 47, 121] : Fw.Bs) [str [97, 47, 121]] from ⟨rfl, by decide⟩) rfl).snoc (show strE _ ([98, 47, 120] : Fw.Bs) [str [98, 47, 120]] from ⟨rfl, by decide⟩) rfl).snoc (show strE _ ([97, 47, 120, 47, 112] : Fw.Bs) [str [97, 47, 120, 47, 112]] from ⟨rfl, by decide⟩) rfl).snoc (show strE _ ([99] : Fw.Bs) [str [99]] from ⟨rfl, by decide⟩) rfl).snoc (show strE _ ([97, 47, 120, 47, 113] : Fw.Bs) [str [97, 47, 120, 47, 113]] from ⟨rfl, by decide⟩) rfl)
 obtain ⟨G10, H, hsg10, hsr10⟩ := H.shutM (k := 0) (j := 0) rfl rfl hchk9 aN aN
 have hbs := hbs.up hsg10
 refine o_call call34 Z Z (of_c _ _ H.sub _ _ _ _ _ _ hbs (H.blkIs (k := 0) Z).1 (H.blkIs (k := 0) Z).2 oM _ _ hsr10 (by first | decide | (simp; done) | (simp; omega))) ?_
 rintro _ w8 ⟨G8, _, _, rfl, H8', ⟨p8, x8, hp8, rfl, hxs8, rfl⟩⟩
 have H := H.borrow (k := 0) rfl H8'
 refine ⟨_, Z, ?_⟩
 refine aG Z (q3 (W_ret (rt1 results127 Z ?_)))
 exact H.retM ⟨_, _, by omega, rfl, (by assumption), rfl⟩
end Go.Proofs.Tst

namespace Go.Proofs.Tst
open Go Fw Tryz
theorem l91File_c (w0 : World) (G0 : PH) (hG : PSub G0 w0) (rb : Nat) (ab : Option Addr) (mb kb : Nat) (bs : List UInt8) (p : Nat) (hbs : RdU G0 (.slice ab mb kb) bs) (hrb : w0.heap[rb]? = some (cl [.slice ab mb kb, .int .i64 (p : Int)] 107)) (hrn : G0 rb = none) (hp : p ≤ 1000000000)  :
  Calls Tryz.prog 101 #[.pointer (some ⟨rb, 0, none⟩)] w0 (RetM w0 G0 [rb] (fun G val Bs => ∃ (p' : Nat) (x : List Int) (v : Value) (c : List Value), p' ≤ p + 100 ∧ val = v ∧ Chk intE 1 G c x ∧ x.length ≤ 33 ∧ Bs = [acc 3 1 v x.length c, blk rb (cl [.slice ab mb kb, .int .i64 (p' : Int)] 107)])) := by
 have hlimbs : bs.length ≤ 1099511627776 := hbs.lim; obtain rfl : mb = bs.length := hbs.len
 have H := Hp.initM hG hrb hrn
 refine calls_of_W (l := [.pointer (some ⟨rb, 0, none⟩)]) func101 Z ntmps101 Z (q2 (aG Z (q1 (o_buildSlice H underlying38 sizeOf3 (fun w => ⟨_, zeroValue3 w, Z⟩) Z Z Z Z Z Z Z ?_)))); intro b1 w1 hb1 H
 have H := H.blkAcc 1 (k := 0) (n := 0) rfl rfl (by decide)
 refine aG Z (q1 (o_buildSlice H underlying38 sizeOf3 (fun w => ⟨_, zeroValue3 w, Z⟩) Z Z Z Z Z Z Z ?_)); intro b2 w2 hb2 H
 refine mV Z (o_call call33 Z Z (pick_c _ _ H.sub _ _ _ _ _ _ hbs (H.blkIs (k := 2) Z).1 (H.blkIs (k := 2) Z).2 oM _ oO ) ?_)
 rintro _ w3 ⟨G3, _, _, rfl, H3', ⟨p3, x3, hp3, rfl, hxb3, rfl⟩⟩
 have hbs := hbs.up H3'.le
 have H := H.borrow (k := 2) rfl H3'
 refine ⟨_, Z, ?_⟩
 have H := H.blkAcc 1 (k := 1) (n := 8) rfl rfl (by decide)
 have hchk5 := (((((((((Chk.nil (E := intE) (sz := 1) (G := G3)).snoc (show intE _ (0 : Int) [.int .i64 0] from ⟨rfl, by decide⟩) rfl).snoc (show intE _ (1 : Int) [.int .i64 1] from ⟨rfl, by decide⟩) rfl).snoc (show intE _ (7 : Int) [.int .i64 7] from ⟨rfl, by decide⟩) rfl).snoc (show intE _ (8 : Int) [.int .i64 8] from ⟨rfl, by decide⟩) rfl).snoc (show intE _ (9 : Int) [.int .i64 9] from ⟨rfl, by decide⟩) rfl).snoc (show intE _ (16 : Int) [.int .i64 16] from ⟨rfl, by decide⟩) rfl).snoc (show intE _ (17 : Int) [.int .i64 17] from ⟨rfl, by decide⟩) rfl).snoc (show intE _ (32 : Int) [.int .i64 32] from ⟨rfl, by decide⟩) rfl)
 obtain ⟨G6, H, hsg6, hsr6⟩ := H.shutM (k := 1) (j := 0) rfl rfl hchk5 aN aN
 have hbs := hbs.up hsg6
 have hl_hsr6 := hsr6.len
 refine o_index_P x3 hsr6 underlying38 sizeOf3 Z Z Z Z aN ?_; intro b4 o4 z4 q4 hz4 hE4 hrow4
 obtain ⟨rfl, hi4⟩ := hE4
 have hzb : 0 ≤ z4 ∧ z4 ≤ 32 := by have := List.mem_of_getElem? hz4; simp at this; omega
 refine o_load_P H isAgg3 Z Z (hrow4 0 _ Z) (aG Z (q3 (W_seq (q2 (mV Z (o_call call33 Z Z (pick_c _ _ H.sub _ _ _ _ _ _ hbs (H.blkIs (k := 0) Z).1 (H.blkIs (k := 0) Z).2 oM _ oO ) ?_))))))
 rintro _ w7 ⟨G7, _, _, rfl, H7', ⟨p7, x7, hp7, rfl, hxb7, rfl⟩⟩
 have hbs := hbs.up H7'.le
 have H := H.borrow (k := 0) rfl H7'
 refine ⟨_, Z, ?_⟩
 refine o_eql Z Z Z (q3 ?_)
 refine W_cond Z ?_ ?_
 ·intro hc8
  try simp only [nrm] at hc8
  refine W_region (mV Z (o_call call33 Z Z (pick_c _ _ H.sub _ _ _ _ _ _ hbs (H.blkIs (k := 0) Z).1 (H.blkIs (k := 0) Z).2 oM _ oO ) ?_))
  rintro _ w9 ⟨G9, _, _, rfl, H9', ⟨p9, x9, hp9, rfl, hxb9, rfl⟩⟩
  have hbs := hbs.up H9'.le
  have H := H.borrow (k := 0) rfl H9'
  refine ⟨_, Z, ?_⟩
  refine aG Z (q1 (mV Z (o_call call33 Z Z (pick_c _ _ H.sub _ _ _ _ _ _ hbs (H.blkIs (k := 0) Z).1 (H.blkIs (k := 0) Z).2 oM _ oO ) ?_)))
  rintro _ w10 ⟨G10, _, _, rfl, H10', ⟨p10, x10, hp10, rfl, hxb10, rfl⟩⟩
  have hbs := hbs.up H10'.le
  have H := H.borrow (k := 0) rfl H10'
  refine ⟨_, Z, ?_⟩
  refine aG Z (q3 (W_seq (q2 (aG Z (q3 (W_block ?_))))))
  refine W_lp (hf := (Sub.cons (t := 0) Z (Sub.cons (t := 2) Z (Sub.cons (t := 4) Z (Sub.cons (t := 5) Z Sub.nil))))) (J := fun M w m => ∃ (v : Value) (n : Nat) (cs : List Value) (xs : List (Int)) (k : Nat) (pp : Nat) (G : PH), M = [(6, .int .i64 (k : Int)), (3, v)] ∧ PLe G10 G ∧ Hp w0 G0 [rb] w G [blk rb (cl [.slice ab bs.length kb, .int .i64 (pp : Int)] 107), acc 3 1 v n cs] ∧ (Chk intE 1 G cs xs ∧ n = xs.length ∧ k ≤ 32 ∧ xs.length = k ∧ pp ≤ p + 10 + 2 * k) ∧ m = (33 - k)) (h0 := ⟨_, _, _, [], 0, p10, _, Z, PLe.refl _, H, ?inv, Z⟩) (round := ?round)
  case inv => exact ⟨(Chk.nil (E := intE) (sz := 1) (G := G10)),  by first | rfl | simp | (simp; omega) | omega, (by exact ⟨by omega, rfl, by omega⟩)⟩
  case round =>
   rintro _ w11 _ ⟨v, n, cs, xs, k, pp, G11, rfl, hle11, H, hinv11, rfl⟩
   have hbs := hbs.up hle11
   obtain ⟨hchk11_0, hn11_0, hinv11⟩ := hinv11
   obtain ⟨av11_0, cv11_0, rfl⟩ := H.accShape (k := 1) rfl
   obtain ⟨hk, hxl, hpp⟩ := hinv11
   refine W_seq (q2 (mV Z (mV Z (o_lss Z Z Z (q3 ?_)))))
   refine W_cond Z ?_ ?_
   ·intro hc12
    try simp only [nrm] at hc12
    refine W_skip (N_K (W_seq (W_block (W_region (mV Z (mV Z (mV Z (o_quo Z Z Z oM oM oM (mV Z (o_call call33 Z Z (pick_c _ _ H.sub _ _ _ _ _ _ hbs (H.blkIs (k := 0) Z).1 (H.blkIs (k := 0) Z).2 oM _ oO ) ?_))))))))))
    rintro _ w13 ⟨G13, _, _, rfl, H13', ⟨p13, x13, hp13, rfl, hxb13, rfl⟩⟩
    have hbs := hbs.up H13'.le
    have hchk11_0 := hchk11_0.up H13'.le
    have hle11 := hle11.trans H13'.le
    have H := H.borrow (k := 0) rfl H13'
    refine ⟨_, Z, ?_⟩
    have hma13 : 0 ≤ ((k : Int) / 8) * (x13 : Int) := Int.mul_nonneg oM oM
    have hmb13 : ((k : Int) / 8) * (x13 : Int) ≤ 4 * (x13 : Int) := Int.mul_le_mul_of_nonneg_right oM oM
    refine o_mul Z Z Z oO (o_add Z Z Z oO (mV Z (o_call call33 Z Z (pick_c _ _ H.sub _ _ _ _ _ _ hbs (H.blkIs (k := 0) Z).1 (H.blkIs (k := 0) Z).2 oM _ oO ) ?_)))
    rintro _ w16 ⟨G16, _, _, rfl, H16', ⟨p16, x16, hp16, rfl, hxb16, rfl⟩⟩
    have hchk11_0 := hchk11_0.up H16'.le
    have hle11 := hle11.trans H16'.le
    have H := H.borrow (k := 0) rfl H16'
    refine ⟨_, Z, ?_⟩
    have hma16 : 0 ≤ ((k : Int) / 8) * (x16 : Int) := Int.mul_nonneg oM oM
    have hmb16 : ((k : Int) / 8) * (x16 : Int) ≤ 4 * (x16 : Int) := Int.mul_le_mul_of_nonneg_right oM oM
    refine o_quo Z Z Z oM oM oM (o_add Z Z Z oO (o_buildSlice H underlying38 sizeOf3 (fun w => ⟨_, zeroValue3 w, Z⟩) Z Z Z Z Z Z Z ?_)); intro b18 w18 hb18 H
    refine o_append1 1 H (sz := 1) (bytes := 8) underlying38 typeInfo3 ⟨_, Z, Z⟩ Z Z Z Z Z Z Z Z Z Z oM Z ?_; intro v19 w19 H
    have hchk19 := hchk11_0.snoc (show intE _ ((x10 : Int) + ((k : Int) / 8) * (x13 : Int) + (x16 : Int) / 5) _ from ⟨rfl, oO⟩) rfl
    obtain ⟨av19, cv19, rfl⟩ := H.accShape (k := 1) rfl
    refine aG Z (R_nil (N_B (N_K (W_region (mV Z (o_add Z Z Z oO (aG Z (R_nil ?_))))))))
    refine N_lp (hJ := ⟨_, _, _, (xs ++ [((x10 : Int) + ((k : Int) / 8) * (x13 : Int) + (x16 : Int) / 5)]), k + 1, p16, _, Z, hle11, H, ?inv, Z⟩) (hm := ?hm)
    case hm => omega
    case inv => exact ⟨hchk19, aN, (by exact ⟨by omega, by simp [hxl], by omega⟩)⟩
   intro hc12'
   try simp only [nrm] at hc12'
   refine W_exit (N_K_exit (N_LP_exit (N_B_same (N_K (W_seq (q2 (mV Z (o_call call33 Z Z (pick_c _ _ H.sub _ _ _ _ _ _ hbs (H.blkIs (k := 0) Z).1 (H.blkIs (k := 0) Z).2 oM _ oO ) ?_))))))))
   rintro _ w21 ⟨G21, _, _, rfl, H21', ⟨p21, x21, hp21, rfl, hxb21, rfl⟩⟩
   have hbs := hbs.up H21'.le
   have hchk11_0 := hchk11_0.up H21'.le
   have H := H.borrow (k := 0) rfl H21'
   refine ⟨_, Z, ?_⟩
   have hma21 : 0 ≤ ((k : Int) / 8) * (x21 : Int) := Int.mul_nonneg oM oM
   have hmb21 : ((k : Int) / 8) * (x21 : Int) ≤ 4 * (x21 : Int) := Int.mul_le_mul_of_nonneg_right oM oM
   refine q3 (W_block (q2 (o_eql Z Z Z (aG Z (q3 ?_)))))
   refine W_cond Z ?_ ?_
   ·intro hc22
    try simp only [nrm] at hc22
    refine q2 (mV Z (o_gtr Z Z Z (q3 ?_)))
    refine W_cond Z ?_ ?_
    ·intro hc23
     try simp only [nrm] at hc23
     refine W_region (mV Z (mV Z (mV Z (o_call call33 Z Z (pick_c _ _ H.sub _ _ _ _ _ _ hbs (H.blkIs (k := 0) Z).1 (H.blkIs (k := 0) Z).2 oM _ oO ) ?_))))
     rintro _ w24 ⟨G24, _, _, rfl, H24', ⟨p24, x24, hp24, rfl, hxb24, rfl⟩⟩
     have hchk11_0 := hchk11_0.up H24'.le
     have H := H.borrow (k := 0) rfl H24'
     refine ⟨_, Z, ?_⟩
     have hma24 : 0 ≤ ((k : Int) / 8) * (x24 : Int) := Int.mul_nonneg oM oM
     have hmb24 : ((k : Int) / 8) * (x24 : Int) ≤ 4 * (x24 : Int) := Int.mul_le_mul_of_nonneg_right oM oM
     refine o_index_A 1 H x24 Z hchk11_0 underlying38 sizeOf3 Z Z Z Z aN aN ?_; intro ba25 z25 q25 hba25 hz25 hE25 hg25; cases hba25
     obtain ⟨rfl, hi25⟩ := hE25
     have hcl26 := hchk11_0.length
     refine o_store_A 1 H sizeOf3 Z Z Z Z Z (by simp only [vc, List.length_cons, List.length_nil]; omega) ?_; intro w26 H
     have hchk26 := hchk11_0.put (x' := 256) (off := 0) (vs := [_]) hz25 (fun cs hl hE => by obtain ⟨rfl, _⟩ := hE; exact ⟨rfl, oO⟩) (by simp only [vc, List.length_cons, List.length_nil]; omega)
     refine R_nil (N_B (N_K (q2 (mV Z (aG Z (q3 (W_ret (rt1 results101 Z ?_))))))))
     have H := H.toFront (k := 1) rfl
     have hcx := hchk26
     exact H.retM ⟨_, (xs.set x24 256), _, _, oM, rfl, hcx, (by first | (simp; done) | (simp; omega) | (simp at *; omega) | omega), acc_1 aN⟩
    intro hc23'
    try simp only [nrm] at hc23'
    refine W_skip (N_B (N_K (q2 (mV Z (aG Z (q3 (W_ret (rt1 results101 Z ?_))))))))
    have H := H.toFront (k := 1) rfl
    have hcx := hchk11_0
    exact H.retM ⟨_, xs, _, _, oM, rfl, hcx, (by first | (simp; done) | (simp; omega) | (simp at *; omega) | omega), acc_1 aN⟩
   intro hc22'
   try simp only [nrm] at hc22'
   refine q2 (o_eql Z Z Z (aG Z (q3 ?_)))
   refine W_cond Z ?_ ?_
   ·intro hc27
    try simp only [nrm] at hc27
    refine q2 (o_makeN (c := 33) (sz := 1) (bytes := 8) H underlying38 typeInfo3 ⟨_, Z, Z⟩ Z Z Z Z Z Z Z Z Z oM Z ?_); intro b28 w28 H
    have hchk28 := Chk.rep (E := intE) (sz := 1) (G := G21) (x0 := 0) (⟨rfl, by decide⟩) rfl (33)
    refine aG Z (q3 (W_ret (N_B_ret (N_K_ret (rt1 results101 Z ?_)))))
    have H := H.del (k := 2) rfl
    have H := H.toFront (k := 1) rfl
    have H := H.toFront (k := 1) rfl
    have hcx := hchk28
    exact H.retM ⟨_, (List.replicate (33) 0), _, _, oM, rfl, hcx, (by first | (simp; done) | (simp; omega) | (simp at *; omega) | omega), acc_1 aN⟩
   intro hc27'
   try simp only [nrm] at hc27'
   refine W_skip (N_B (N_K (q2 (mV Z (aG Z (q3 (W_ret (rt1 results101 Z ?_))))))))
   have H := H.toFront (k := 1) rfl
   have hcx := hchk11_0
   exact H.retM ⟨_, xs, _, _, oM, rfl, hcx, (by first | (simp; done) | (simp; omega) | (simp at *; omega) | omega), acc_1 aN⟩
 intro hc8'
 try simp only [nrm] at hc8'
 refine W_skip (N_K (q2 (mV Z (o_call call33 Z Z (pick_c _ _ H.sub _ _ _ _ _ _ hbs (H.blkIs (k := 0) Z).1 (H.blkIs (k := 0) Z).2 oM _ oO ) ?_))))
 rintro _ w29 ⟨G29, _, _, rfl, H29', ⟨p29, x29, hp29, rfl, hxb29, rfl⟩⟩
 have hbs := hbs.up H29'.le
 have H := H.borrow (k := 0) rfl H29'
 refine ⟨_, Z, ?_⟩
 refine aG Z (q3 (W_seq (q2 (aG Z (q3 (W_block ?_))))))
 refine W_lp (hf := (Sub.cons (t := 0) Z (Sub.cons (t := 2) Z (Sub.cons (t := 4) Z (Sub.cons (t := 5) Z Sub.nil))))) (J := fun M w m => ∃ (v : Value) (n : Nat) (cs : List Value) (xs : List (Int)) (k : Nat) (pp : Nat) (G : PH), M = [(6, .int .i64 (k : Int)), (3, v)] ∧ PLe G29 G ∧ Hp w0 G0 [rb] w G [blk rb (cl [.slice ab bs.length kb, .int .i64 (pp : Int)] 107), acc 3 1 v n cs] ∧ (Chk intE 1 G cs xs ∧ n = xs.length ∧ k ≤ 32 ∧ xs.length = k ∧ pp ≤ p + 10 + 2 * k) ∧ m = (33 - k)) (h0 := ⟨_, _, _, [], 0, p29, _, Z, PLe.refl _, H, ?inv, Z⟩) (round := ?round)
 case inv => exact ⟨(Chk.nil (E := intE) (sz := 1) (G := G29)),  by first | rfl | simp | (simp; omega) | omega, (by exact ⟨by omega, rfl, by omega⟩)⟩
 case round =>
  rintro _ w30 _ ⟨v, n, cs, xs, k, pp, G30, rfl, hle30, H, hinv30, rfl⟩
  have hbs := hbs.up hle30
  obtain ⟨hchk30_0, hn30_0, hinv30⟩ := hinv30
  obtain ⟨av30_0, cv30_0, rfl⟩ := H.accShape (k := 1) rfl
  obtain ⟨hk, hxl, hpp⟩ := hinv30
  refine W_seq (q2 (mV Z (mV Z (o_lss Z Z Z (q3 ?_)))))
  refine W_cond Z ?_ ?_
  ·intro hc31
   try simp only [nrm] at hc31
   refine W_skip (N_K (W_seq (W_block (W_region (mV Z (mV Z (mV Z (o_quo Z Z Z oM oM oM (mV Z (o_call call33 Z Z (pick_c _ _ H.sub _ _ _ _ _ _ hbs (H.blkIs (k := 0) Z).1 (H.blkIs (k := 0) Z).2 oM _ oO ) ?_))))))))))
   rintro _ w32 ⟨G32, _, _, rfl, H32', ⟨p32, x32, hp32, rfl, hxb32, rfl⟩⟩
   have hbs := hbs.up H32'.le
   have hchk30_0 := hchk30_0.up H32'.le
   have hle30 := hle30.trans H32'.le
   have H := H.borrow (k := 0) rfl H32'
   refine ⟨_, Z, ?_⟩
   have hma32 : 0 ≤ ((k : Int) / 8) * (x32 : Int) := Int.mul_nonneg oM oM
   have hmb32 : ((k : Int) / 8) * (x32 : Int) ≤ 4 * (x32 : Int) := Int.mul_le_mul_of_nonneg_right oM oM
   refine o_mul Z Z Z oO (o_add Z Z Z oO (mV Z (o_call call33 Z Z (pick_c _ _ H.sub _ _ _ _ _ _ hbs (H.blkIs (k := 0) Z).1 (H.blkIs (k := 0) Z).2 oM _ oO ) ?_)))
   rintro _ w35 ⟨G35, _, _, rfl, H35', ⟨p35, x35, hp35, rfl, hxb35, rfl⟩⟩
   have hchk30_0 := hchk30_0.up H35'.le
   have hle30 := hle30.trans H35'.le
   have H := H.borrow (k := 0) rfl H35'
   refine ⟨_, Z, ?_⟩
   have hma35 : 0 ≤ ((k : Int) / 8) * (x35 : Int) := Int.mul_nonneg oM oM
   have hmb35 : ((k : Int) / 8) * (x35 : Int) ≤ 4 * (x35 : Int) := Int.mul_le_mul_of_nonneg_right oM oM
   refine o_quo Z Z Z oM oM oM (o_add Z Z Z oO (o_buildSlice H underlying38 sizeOf3 (fun w => ⟨_, zeroValue3 w, Z⟩) Z Z Z Z Z Z Z ?_)); intro b37 w37 hb37 H
   refine o_append1 1 H (sz := 1) (bytes := 8) underlying38 typeInfo3 ⟨_, Z, Z⟩ Z Z Z Z Z Z Z Z Z Z oM Z ?_; intro v38 w38 H
   have hchk38 := hchk30_0.snoc (show intE _ ((x29 : Int) + ((k : Int) / 8) * (x32 : Int) + (x35 : Int) / 5) _ from ⟨rfl, oO⟩) rfl
   obtain ⟨av38, cv38, rfl⟩ := H.accShape (k := 1) rfl
   refine aG Z (R_nil (N_B (N_K (W_region (mV Z (o_add Z Z Z oO (aG Z (R_nil ?_))))))))
   refine N_lp (hJ := ⟨_, _, _, (xs ++ [((x29 : Int) + ((k : Int) / 8) * (x32 : Int) + (x35 : Int) / 5)]), k + 1, p35, _, Z, hle30, H, ?inv, Z⟩) (hm := ?hm)
   case hm => omega
   case inv => exact ⟨hchk38, aN, (by exact ⟨by omega, by simp [hxl], by omega⟩)⟩
  intro hc31'
  try simp only [nrm] at hc31'
  refine W_exit (N_K_exit (N_LP_exit (N_B_same (N_K (W_seq (q2 (mV Z (o_call call33 Z Z (pick_c _ _ H.sub _ _ _ _ _ _ hbs (H.blkIs (k := 0) Z).1 (H.blkIs (k := 0) Z).2 oM _ oO ) ?_))))))))
  rintro _ w40 ⟨G40, _, _, rfl, H40', ⟨p40, x40, hp40, rfl, hxb40, rfl⟩⟩
  have hbs := hbs.up H40'.le
  have hchk30_0 := hchk30_0.up H40'.le
  have H := H.borrow (k := 0) rfl H40'
  refine ⟨_, Z, ?_⟩
  have hma40 : 0 ≤ ((k : Int) / 8) * (x40 : Int) := Int.mul_nonneg oM oM
  have hmb40 : ((k : Int) / 8) * (x40 : Int) ≤ 4 * (x40 : Int) := Int.mul_le_mul_of_nonneg_right oM oM
  refine q3 (W_block (q2 (o_eql Z Z Z (aG Z (q3 ?_)))))
  refine W_cond Z ?_ ?_
  ·intro hc41
   try simp only [nrm] at hc41
   refine q2 (mV Z (o_gtr Z Z Z (q3 ?_)))
   refine W_cond Z ?_ ?_
   ·intro hc42
    try simp only [nrm] at hc42
    refine W_region (mV Z (mV Z (mV Z (o_call call33 Z Z (pick_c _ _ H.sub _ _ _ _ _ _ hbs (H.blkIs (k := 0) Z).1 (H.blkIs (k := 0) Z).2 oM _ oO ) ?_))))
    rintro _ w43 ⟨G43, _, _, rfl, H43', ⟨p43, x43, hp43, rfl, hxb43, rfl⟩⟩
    have hchk30_0 := hchk30_0.up H43'.le
    have H := H.borrow (k := 0) rfl H43'
    refine ⟨_, Z, ?_⟩
    have hma43 : 0 ≤ ((k : Int) / 8) * (x43 : Int) := Int.mul_nonneg oM oM
    have hmb43 : ((k : Int) / 8) * (x43 : Int) ≤ 4 * (x43 : Int) := Int.mul_le_mul_of_nonneg_right oM oM
    refine o_index_A 1 H x43 Z hchk30_0 underlying38 sizeOf3 Z Z Z Z aN aN ?_; intro ba44 z44 q44 hba44 hz44 hE44 hg44; cases hba44
    obtain ⟨rfl, hi44⟩ := hE44
    have hcl45 := hchk30_0.length
    refine o_store_A 1 H sizeOf3 Z Z Z Z Z (by simp only [vc, List.length_cons, List.length_nil]; omega) ?_; intro w45 H
    have hchk45 := hchk30_0.put (x' := 256) (off := 0) (vs := [_]) hz44 (fun cs hl hE => by obtain ⟨rfl, _⟩ := hE; exact ⟨rfl, oO⟩) (by simp only [vc, List.length_cons, List.length_nil]; omega)
    refine R_nil (N_B (N_K (q2 (mV Z (aG Z (q3 (W_ret (rt1 results101 Z ?_))))))))
    have H := H.toFront (k := 1) rfl
    have hcx := hchk45
    exact H.retM ⟨_, (xs.set x43 256), _, _, oM, rfl, hcx, (by first | (simp; done) | (simp; omega) | (simp at *; omega) | omega), acc_1 aN⟩
   intro hc42'
   try simp only [nrm] at hc42'
   refine W_skip (N_B (N_K (q2 (mV Z (aG Z (q3 (W_ret (rt1 results101 Z ?_))))))))
   have H := H.toFront (k := 1) rfl
   have hcx := hchk30_0
   exact H.retM ⟨_, xs, _, _, oM, rfl, hcx, (by first | (simp; done) | (simp; omega) | (simp at *; omega) | omega), acc_1 aN⟩
  intro hc41'
  try simp only [nrm] at hc41'
  refine q2 (o_eql Z Z Z (aG Z (q3 ?_)))
  refine W_cond Z ?_ ?_
  ·intro hc46
   try simp only [nrm] at hc46
   refine q2 (o_makeN (c := 33) (sz := 1) (bytes := 8) H underlying38 typeInfo3 ⟨_, Z, Z⟩ Z Z Z Z Z Z Z Z Z oM Z ?_); intro b47 w47 H
   have hchk47 := Chk.rep (E := intE) (sz := 1) (G := G40) (x0 := 0) (⟨rfl, by decide⟩) rfl (33)
   refine aG Z (q3 (W_ret (N_B_ret (N_K_ret (rt1 results101 Z ?_)))))
   have H := H.del (k := 2) rfl
   have H := H.toFront (k := 1) rfl
   have H := H.toFront (k := 1) rfl
   have hcx := hchk47
   exact H.retM ⟨_, (List.replicate (33) 0), _, _, oM, rfl, hcx, (by first | (simp; done) | (simp; omega) | (simp at *; omega) | omega), acc_1 aN⟩
  intro hc46'
  try simp only [nrm] at hc46'
  refine W_skip (N_B (N_K (q2 (mV Z (aG Z (q3 (W_ret (rt1 results101 Z ?_))))))))
  have H := H.toFront (k := 1) rfl
  have hcx := hchk30_0
  exact H.retM ⟨_, xs, _, _, oM, rfl, hcx, (by first | (simp; done) | (simp; omega) | (simp at *; omega) | omega), acc_1 aN⟩
end Go.Proofs.Tst

